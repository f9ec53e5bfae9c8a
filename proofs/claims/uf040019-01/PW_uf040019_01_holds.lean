import PyProof.Rows.All
import Wide.All
import OpenK.AllK
import Wide.FinOn
import OpenK.KMore
import PyProof.SliceMore
import KE.LcSums
import OpenK.KNot
import PyProof.ExcAttrAll.ValueError
import KE.KIsAll
import KE.KTryMore
import KE.KItem
import PySem.Challenge.RW_uf040019_01
set_option Elab.async false
set_option autoImplicit false
namespace Mine
open PySem

/-! A small language: the part of Python that the laws use; tuples by value, lists and instances at addresses. -/

inductive V where
  | none
  | bool (b : Bool)
  | int (i : Int)
  | str (s : Str)
  | tup (l : List V)
  | ref (a : Addr)
  | rng (lo hi step : Int)
  | exc (cls : String)
  | frz (ns : List Int)

inductive O where
  | list (l : List V)
  | inst (cls : String) (d : Addr)
  | attrs (fs : List (String × V))
  | dict (kvs : List (V × V))

noncomputable abbrev Mem := Addr → Option O
noncomputable abbrev Loc := String → Option V

noncomputable def updM (μ : Mem) (a : Addr) (o : O) : Mem := fun x => if x = a then some o else μ x
noncomputable def updL (ρ : Loc) (a : String) (v : V) : Loc := fun x => if x = a then some v else ρ x
noncomputable def delL (ρ : Loc) (a : String) : Loc := fun x => if x = a then none else ρ x

theorem updM_self (μ : Mem) (a : Addr) (o : O) : updM μ a o a = some o := by simp [updM]
theorem updM_ne {μ : Mem} {a b : Addr} {o : O} (h : b ≠ a) : updM μ a o b = μ b := by simp [updM, h]
theorem updM_at (μ : Mem) (a b : Addr) (o : O) : updM μ a o b = if b = a then some o else μ b := rfl
theorem updL_at (ρ : Loc) (a b : String) (v : V) : updL ρ a v b = if b = a then some v else ρ b := rfl
theorem delL_at (ρ : Loc) (a b : String) : delL ρ a b = if b = a then none else ρ b := rfl

/-- classes that isinstance is asked about -/
inductive Cl where
  | ty (n : String)
  | own (n : String)
  | owns (ns : List (String × Pos))

inductive E where
  | none (p : Pos)
  | bool (b : Bool) (p : Pos)
  | int (i : Int) (p : Pos)
  | str (s : String) (p : Pos)
  | loc (x : String) (p : Pos)
  | glob (x : String) (p : Pos)
  | bin (op : Operator) (l r : E) (p : Pos)
  | neg (e : E) (p : Pos)
  | not (e : E) (p : Pos)
  | and (es : List E) (p : Pos)
  | or (es : List E) (p : Pos)
  | cmp (op : CmpOp) (l r : E) (p : Pos)
  | cmp2 (op₁ op₂ : CmpOp) (a b c : E) (p : Pos)
  | attr (o : E) (a : String) (p : Pos)
  | sub (o i : E) (p : Pos)
  | sliceL (o l : E) (ps p : Pos)
  | sliceU (o u : E) (ps p : Pos)
  | sliceLU (o l u : E) (ps p : Pos)
  | tup (es : List E) (k : Nat) (p : Pos)
  | list (es : List E) (p : Pos)
  | call (f : String) (args : List E) (pf p : Pos)
  | new (c : String) (args : List E) (pf p : Pos)
  | bltn (f : String) (args : List E) (pf p : Pos)
  | isi (e : E) (c : Cl) (pf pc p : Pos)
  | meth (o : E) (m : String) (args : List E) (pa p : Pos)
  | comp (elt : E) (x : String) (it : E) (ifs : List E) (sc : Scope) (px p : Pos)

inductive S where
  | expr (e : E) (p : Pos)
  | assign (x : String) (e : E) (px p : Pos)
  | setattr (o : E) (a : String) (e : E) (pa p : Pos)
  | setitem (o i e : E) (ps p : Pos)
  | unpack (xs : List (String × Pos)) (e : E) (k : Nat) (pt p : Pos)
  | ite (c : E) (t f : List S) (p : Pos)
  | for_ (x : String) (it : E) (body : List S) (px p : Pos)
  | while_ (c : E) (body : List S) (p : Pos)
  | ret (e : E) (p : Pos)
  | raise (cls msg : String) (pf pm pc p : Pos)
  | try_ (body : List S) (cls : String) (as : Option String) (h : List S) (more : List (String × Pos × E × Pos × Pos)) (pc ph p : Pos)
  | pass (p : Pos)

end Mine

set_option autoImplicit false
namespace Mine
open PySem

noncomputable abbrev Sc := String → List V → Mem → (V → Mem → Prop) → (String → Mem → Prop) → Prop

noncomputable def lim : Nat := 1048576

noncomputable def truth : V → Option Bool
  | .bool b => some b
  | _ => none
noncomputable def tr (v : V) (k : Bool → Prop) : Prop := match truth v with
  | some b => k b
  | none => False
noncomputable def br (b : Bool) (A B : Prop) : Prop := (b = true → A) ∧ (b = false → B)

/-- reads a value as data -/
noncomputable def rdAll (f : V → Option PyData) : List V → Option (List PyData)
  | [] => some []
  | v :: r => match f v, rdAll f r with
    | some d, some ds => some (d :: ds)
    | _, _ => none
noncomputable def rd (μ : Mem) : Nat → V → Option PyData
  | 0, _ => none
  | n + 1, v => match v with
    | .none => some .none
    | .bool b => some (.bool b)
    | .int i => some (.int i)
    | .str s => if PyData.strOk s then some (.str s) else none
    | .tup l => (rdAll (rd μ n) l).map .tuple
    | .ref a => match μ a with
      | some (.list l) => (rdAll (rd μ n) l).map .list
      | _ => none
    | _ => none
noncomputable def deq (μ : Mem) (a b : V) : Option Bool := match a, b with
  | .int i, .int j => some (decide (i = j))
  | _, _ => match rd μ 8 a, rd μ 8 b with
    | some x, some y => some (PyData.eqv x y)
    | _, _ => none

noncomputable def isO (v : V) : V → Option Bool
  | .none => some (match v with | .none => true | _ => false)
  | .bool c => some (match v with | .bool b => b == c | _ => false)
  | _ => none

noncomputable def strsIn (s : Str) : List V → Option Bool
  | [] => some false
  | .str t :: r => (strsIn s r).map fun b => (s == t) || b
  | _ => none
noncomputable def inO (μ : Mem) (v w : V) : Option Bool := match v, w with
  | .str s, .ref x => match μ x with
    | some (.list l) => strsIn s l
    | _ => none
  | _, _ => none

noncomputable def cmpO (op : CmpOp) (μ : Mem) (a b : V) : Option Bool := match op with
  | .Eq => deq μ a b
  | .NotEq => (deq μ a b).map (!·)
  | .Lt => match a, b with | .int i, .int j => some (decide (i < j)) | _, _ => none
  | .LtE => match a, b with | .int i, .int j => some (decide (i ≤ j)) | _, _ => none
  | .Gt => match a, b with | .int i, .int j => some (decide (j < i)) | _, _ => none
  | .GtE => match a, b with | .int i, .int j => some (decide (j ≤ i)) | _, _ => none
  | .Is => isO a b
  | .IsNot => (isO a b).map (!·)
  | .In => none
  | .NotIn => none
noncomputable def cmpW (op : CmpOp) (μ : Mem) (a b : V) (Q : V → Mem → Prop) : Prop := match cmpO op μ a b with
  | some c => Q (.bool c) μ
  | none => False

noncomputable def newL (μ : Mem) (l : List V) (Q : V → Mem → Prop) : Prop := l.length ≤ lim ∧ ∀ n, μ n = none → Q (.ref n) (updM μ n (.list l))

noncomputable def asInt (v : V) (k : Int → Prop) : Prop := match v with | .int i => k i | _ => False
noncomputable def asL (μ : Mem) (v : V) (k : Addr → List V → Prop) : Prop := match v with
  | .ref x => (match μ x with | some (.list l) => k x l | _ => False)
  | _ => False
noncomputable def asT (v : V) (k : List V → Prop) : Prop := match v with | .tup l => k l | _ => False
noncomputable def one (vs : List V) (k : V → Prop) : Prop := match vs with | [v] => k v | _ => False
noncomputable def two (vs : List V) (k : V → V → Prop) : Prop := match vs with | [v, w] => k v w | _ => False
noncomputable def ints2 (a b : V) (k : Int → Int → Prop) : Prop := asInt a fun i => asInt b fun j => k i j

noncomputable def binW (op : Operator) (a b : V) (μ : Mem) (Q : V → Mem → Prop) : Prop := match op with
  | .Add => (match a with
    | .int i => asInt b fun j => Q (.int (i + j)) μ
    | a => asL μ a fun _ l => asL μ b fun _ k => newL μ (l ++ k) Q)
  | .Sub => ints2 a b fun i j => Q (.int (i - j)) μ
  | .Mult => (match a with
    | .int i => asInt b fun j => (i.natAbs < 2 ^ 63 ∨ j.natAbs < 2 ^ 63) ∧ Q (.int (i * j)) μ
    | a => asL μ a fun _ l => asInt b fun n => 0 ≤ n ∧ n ≤ 1000000 ∧ n.toNat * l.length ≤ lim ∧ newL μ (List.replicate n.toNat l).flatten Q)
  | .FloorDiv => ints2 a b fun i j => 0 < j ∧ j < 1000000000 ∧ Q (.int (i / j)) μ
  | .Mod => ints2 a b fun i j => 0 < j ∧ Q (.int (i % j)) μ
  | .Pow => ints2 a b fun i j => 0 ≤ j ∧ j ≤ 1000 ∧ i.natAbs < 2 ^ 63 ∧ Q (.int (i ^ j.toNat)) μ
  | _ => False

noncomputable def getA (μ : Mem) (v : V) (a : String) : Option V := match v with
  | .ref x => match μ x with
    | some (.inst _ d) => match μ d with
      | some (.attrs fs) => fs.lookup a
      | _ => none
    | _ => none
  | _ => none

noncomputable def putA (a : String) (v : V) : List (String × V) → List (String × V)
  | [] => [(a, v)]
  | (b, w) :: r => if b = a then (b, v) :: r else (b, w) :: putA a v r

noncomputable def idx (l : List V) (i : Int) : Option V := if 0 ≤ i then l[i.toNat]? else if 0 ≤ i + l.length then l[(i + l.length).toNat]? else none
noncomputable def subO (μ : Mem) (o i : V) : Option V := match o, i with
  | .ref x, .int i => match μ x with
    | some (.list l) => idx l i
    | _ => none
  | .tup l, .int i => idx l i
  | .frz ns, .int i => if 0 ≤ i then (ns[i.toNat]?).map .int else none
  | _, _ => none
noncomputable def optW (r : Option V) (μ : Mem) (Q : V → Mem → Prop) : Prop := match r with
  | some v => Q v μ
  | none => False

noncomputable def cut (lo : Option Int) (hi : Option Int) (l : List V) : List V :=
  let k := match hi with | some u => l.take u.toNat | none => l
  match lo with | some i => k.drop i.toNat | none => k
noncomputable def nn (i : Option Int) : Prop := match i with | some i => 0 ≤ i | none => True
noncomputable def sliceW (μ : Mem) (o : V) (lo hi : Option Int) (Q : V → Mem → Prop) : Prop := match o with
  | .ref x => match μ x with
    | some (.list l) => nn lo ∧ nn hi ∧ newL μ (cut lo hi l) Q
    | _ => False
  | _ => False

noncomputable def rngItems (lo hi step : Int) : List V :=
  if step = 1 then (List.range (hi - lo).toNat).map fun (i : Nat) => V.int (lo + i)
  else if step = -1 then (List.range (lo - hi).toNat).map fun (i : Nat) => V.int (lo - i)
  else []
noncomputable def itemsOf (μ : Mem) (v : V) : Option (List V) := match v with
  | .rng lo hi step => some (rngItems lo hi step)
  | .tup l => some l
  | .ref x => match μ x with
    | some (.list l) => some l
    | _ => none
  | _ => none

noncomputable def tyO (μ : Mem) (v : V) : Option String := match v with
  | .none => some "NoneType"
  | .bool _ => some "bool"
  | .int _ => some "int"
  | .str _ => some "str"
  | .tup _ => some "tuple"
  | .ref x => match μ x with
    | some (.list _) => some "list"
    | _ => none
  | _ => none
noncomputable def isSub (x c : String) : Bool := x == c || c == "DebtError"
noncomputable def isiO (μ : Mem) (v : V) (c : Cl) : Option Bool := match c with
  | .ty n => match v with
    | .exc _ => if n = "ValueError" then some true else none
    | v => if n = "int" ∨ n = "bool" ∨ n = "str" ∨ n = "tuple" ∨ n = "list" then (tyO μ v).map fun t => t == n || (t == "bool" && n == "int") else none
  | .own n => match v with
    | .exc x => some (isSub x n)
    | _ => none
  | .owns ns => match v with
    | .exc x => some (ns.any fun n => isSub x n.1)
    | _ => none

noncomputable def sumO : List V → Option Int
  | [] => some 0
  | .int i :: r => (sumO r).map (i + ·)
  | _ => none
noncomputable def allO : List V → Option Bool
  | [] => some true
  | .bool b :: r => (allO r).map (b && ·)
  | _ => none

noncomputable def lenW (v : V) (μ : Mem) (Q : V → Mem → Prop) : Prop := match v with
  | .tup l => Q (.int l.length) μ
  | .frz ns => Q (.int ns.length) μ
  | v => asL μ v fun _ l => Q (.int l.length) μ
noncomputable def mid (b : Int) : Prop := -2 ^ 62 < b ∧ b < 2 ^ 62
noncomputable def rngW (vs : List V) (μ : Mem) (Q : V → Mem → Prop) : Prop := match vs with
  | [a] => asInt a fun b => b ≤ lim ∧ -2 ^ 62 < b ∧ Q (.rng 0 b 1) μ
  | [a, b] => ints2 a b fun a b => b - a ≤ lim ∧ mid b ∧ mid a ∧ Q (.rng a b 1) μ
  | [a, b, c] => ints2 a b fun a b => asInt c fun c => c = -1 ∧ a - b ≤ lim ∧ mid b ∧ mid a ∧ Q (.rng a b (-1)) μ
  | _ => False
noncomputable def listW (hd : Bool) (v : V) (μ : Mem) (Q : V → Mem → Prop) : Prop := match v with
  | .rng lo hi st => hd = false ∧ st = 1 ∧ hi - lo ≤ lim ∧ mid lo ∧ mid hi ∧ newL μ (rngItems lo hi st) Q
  | v => asL μ v fun _ l => newL μ l Q
noncomputable def allW (l : List V) (k : Bool → Prop) : Prop := match allO l with | some b => k b | none => False
noncomputable def bltnW (hd : Bool) (f : String) (vs : List V) (μ : Mem) (Q : V → Mem → Prop) : Prop :=
  if f = "len" then one vs fun v => lenW v μ Q
  else if f = "int" then one vs fun v => tr v fun b => Q (.int (if b then 1 else 0)) μ
  else if f = "min" then hd = false ∧ two vs fun a b => ints2 a b fun a b => Q (.int (min a b)) μ
  else if f = "max" then hd = false ∧ two vs fun a b => ints2 a b fun a b => Q (.int (max a b)) μ
  else if f = "range" then rngW vs μ Q
  else if f = "list" then one vs fun v => listW hd v μ Q
  else if f = "all" then hd = false ∧ one vs fun v => asL μ v fun _ l => allW l fun b => Q (.bool b) μ
  else False

structure Sig where
  fns : List String
  clss : List String
  attrs : List String
  meths : List (String × String)
  excs : List String
  consts : List (String × V)

inductive Cal where
  | own (f : String) (self : Addr)
  | lst (m : String) (a : Addr)
noncomputable def calO (sg : Sig) (μ : Mem) (v : V) (m : String) : Option Cal := match v with
  | .ref x => match μ x with
    | some (.inst c d) => match μ d with
      | some (.attrs fs) => if (fs.lookup m).isNone && sg.meths.contains (c, m) then some (.own (c ++ "." ++ m) x) else none
      | _ => none
    | some (.list _) => if m = "append" ∨ m = "extend" ∨ m = "pop" ∨ m = "reverse" ∨ m = "clear" then some (.lst m x) else none
    | _ => none
  | _ => none
noncomputable def lstW (m : String) (a : Addr) (vs : List V) (μ : Mem) (Q : V → Mem → Prop) : Prop := asL μ (.ref a) fun _ l =>
  if m = "append" then one vs fun v => l.length < lim ∧ Q .none (updM μ a (.list (l ++ [v])))
  else if m = "extend" then one vs fun v => asL μ v fun b k => b ≠ a ∧ l.length + k.length ≤ lim ∧ Q .none (updM μ a (.list (l ++ k)))
  else if m = "pop" then one vs fun v => asInt v fun i => 0 ≤ i ∧ (match l[i.toNat]? with | some v => Q v (updM μ a (.list (l.eraseIdx i.toNat))) | none => False)
  else if m = "reverse" then vs = [] ∧ Q .none (updM μ a (.list l.reverse))
  else if m = "clear" then vs = [] ∧ Q .none (updM μ a (.list []))
  else False

inductive Fl where
  | next
  | ret (v : V)
/-- what follows a block -/
noncomputable def sq (R : Loc → Mem → Prop) (Q : Fl → Loc → Mem → Prop) : Fl → Loc → Mem → Prop := fun fl ρ μ => match fl with | .next => R ρ μ | .ret v => Q (.ret v) ρ μ
/-- loops, by what stands ahead of the turn k -/
noncomputable def compI (n : Addr) (still : Mem → Prop) (B : V → Mem → (V → Mem → Prop) → Prop) (items : List V) (μ : Mem) (Q : Mem → Prop) : Prop :=
  ∃ I : Nat → Mem → Prop, I 0 μ ∧ (∀ k μ, I k μ → still μ) ∧ (∀ k v μ, items[k]? = some v → I k μ → B v μ fun r μ' => ∃ acc, μ' n = some (.list acc) ∧ acc.length < lim ∧ I (k + 1) (updM μ' n (.list (acc ++ [r])))) ∧ ∀ μ, I items.length μ → Q μ
noncomputable def forI (still : Mem → Prop) (x : String) (B : Loc → Mem → (Fl → Loc → Mem → Prop) → Prop) (items : List V) (ρ : Loc) (μ : Mem) (Q : Fl → Loc → Mem → Prop) : Prop :=
  ∃ I : Nat → Loc → Mem → Prop, I 0 ρ μ ∧ (∀ k ρ μ, I k ρ μ → still μ) ∧ (∀ k v ρ μ, items[k]? = some v → I k ρ μ → B (updL ρ x v) μ (sq (I (k + 1)) Q)) ∧ ∀ ρ μ, I items.length ρ μ → Q .next ρ μ
noncomputable def whileI (T : Loc → Mem → (Bool → Mem → Prop) → Prop) (B : Loc → Mem → (Fl → Loc → Mem → Prop) → Prop) (ρ : Loc) (μ : Mem) (Q : Fl → Loc → Mem → Prop) : Prop :=
  ∃ I : Nat → Loc → Mem → Prop, (∃ n, I n ρ μ) ∧ ∀ n ρ μ, I n ρ μ → T ρ μ fun b μ₁ => br b (B ρ μ₁ (sq (fun ρ' μ' => ∃ m, m < n ∧ I m ρ' μ') Q)) (Q .next ρ μ₁)

section
variable (sg : Sig) (sc : Bool → Sc)

mutual
noncomputable def wpE (hd : Bool) : E → Loc → Mem → (V → Mem → Prop) → (String → Mem → Prop) → Prop
  | .none _, _, μ, Q, _ => Q .none μ
  | .bool b _, _, μ, Q, _ => Q (.bool b) μ
  | .int i _, _, μ, Q, _ => Q (.int i) μ
  | .str s _, _, μ, Q, _ => Q (.str (Str.ofString s)) μ
  | .loc x _, ρ, μ, Q, _ => optW (ρ x) μ Q
  | .glob x _, _, μ, Q, _ => optW (sg.consts.lookup x) μ Q
  | .bin op l r _, ρ, μ, Q, X => wpE hd l ρ μ (fun a μ₁ => wpE hd r ρ μ₁ (fun b μ₂ => binW op a b μ₂ Q) X) X
  | .neg e _, ρ, μ, Q, X => wpE hd e ρ μ (fun v μ₁ => asInt v fun i => Q (.int (-i)) μ₁) X
  | .not e _, ρ, μ, Q, X => wpE hd e ρ μ (fun v μ₁ => tr v fun b => Q (.bool (!b)) μ₁) X
  | .and es _, ρ, μ, Q, X => wpAnd hd es ρ μ Q X
  | .or es _, ρ, μ, Q, X => wpOr hd es ρ μ Q X
  | .cmp op l r _, ρ, μ, Q, X => wpE hd l ρ μ (fun a μ₁ => wpE hd r ρ μ₁ (fun b μ₂ => cmpW op μ₂ a b Q) X) X
  | .cmp2 op₁ op₂ a b c _, ρ, μ, Q, X => wpE hd a ρ μ (fun va μ₁ => wpE hd b ρ μ₁ (fun vb μ₂ => cmpW op₁ μ₂ va vb fun t μ₃ => tr t fun y =>
      br y (wpE hd c ρ μ₃ (fun vc μ₄ => cmpW op₂ μ₄ vb vc Q) X) (Q t μ₃)) X) X
  | .attr o a _, ρ, μ, Q, X => wpE hd o ρ μ (fun v μ₁ => optW (getA μ₁ v a) μ₁ Q) X
  | .sub o i _, ρ, μ, Q, X => wpE hd o ρ μ (fun v μ₁ => wpE hd i ρ μ₁ (fun j μ₂ => optW (subO μ₂ v j) μ₂ Q) X) X
  | .sliceL o l _ _, ρ, μ, Q, X => wpE hd o ρ μ (fun v μ₁ => wpE hd l ρ μ₁ (fun i μ₂ => asInt i fun i => sliceW μ₂ v (some i) none Q) X) X
  | .sliceU o u _ _, ρ, μ, Q, X => wpE hd o ρ μ (fun v μ₁ => wpE hd u ρ μ₁ (fun i μ₂ => asInt i fun i => sliceW μ₂ v none (some i) Q) X) X
  | .sliceLU o l u _ _, ρ, μ, Q, X => wpE hd o ρ μ (fun v μ₁ => wpE hd l ρ μ₁ (fun i μ₂ => wpE hd u ρ μ₂ (fun j μ₃ => asInt i fun i => asInt j fun j => sliceW μ₃ v (some i) (some j) Q) X) X) X
  | .tup es _ _, ρ, μ, Q, X => wpEs hd es ρ μ (fun vs μ₁ => Q (.tup vs) μ₁) X
  | .list es _, ρ, μ, Q, X => wpEs hd es ρ μ (fun vs μ₁ => newL μ₁ vs Q) X
  | .call f es _ _, ρ, μ, Q, X => wpEs hd es ρ μ (fun vs μ₁ => sc hd f vs μ₁ Q X) X
  | .new c es _ _, ρ, μ, Q, X => wpEs hd es ρ μ (fun vs μ₁ => ∀ a d, μ₁ a = none → μ₁ d = none → d ≠ a →
      sc hd (c ++ ".__init__") (.ref a :: vs) (updM (updM μ₁ d (.attrs [])) a (.inst c d)) (fun v μ₂ => (match v with | .none => True | _ => False) ∧ Q (.ref a) μ₂) X) X
  | .bltn f es _ _, ρ, μ, Q, X => wpEs hd es ρ μ (fun vs μ₁ => bltnW hd f vs μ₁ Q) X
  | .isi e c _ _ _, ρ, μ, Q, X => wpE hd e ρ μ (fun v μ₁ => match isiO μ₁ v c with | some b => Q (.bool b) μ₁ | none => False) X
  | .meth o m es _ _, ρ, μ, Q, X => wpE hd o ρ μ (fun v μ₁ => match calO sg μ₁ v m with
      | some (.own f a) => wpEs hd es ρ μ₁ (fun vs μ₂ => sc hd f (.ref a :: vs) μ₂ Q X) X
      | some (.lst m a) => wpEs hd es ρ μ₁ (fun vs μ₂ => lstW m a vs μ₂ Q) X
      | none => False) X
  | .comp elt x it _ _ _ _, ρ, μ, Q, X => hd = false ∧ wpE hd it ρ μ (fun v μ₁ => asL μ₁ v fun a items => ∀ n, μ₁ n = none →
      compI n (fun μ' => μ' a = some (.list items)) (fun w μ₂ k => wpE hd elt (updL (fun _ => none) x w) μ₂ k fun _ _ => False) items (updM μ₁ n (.list [])) (Q (.ref n))) X
noncomputable def wpEs (hd : Bool) : List E → Loc → Mem → (List V → Mem → Prop) → (String → Mem → Prop) → Prop
  | [], _, μ, Q, _ => Q [] μ
  | e :: es, ρ, μ, Q, X => wpE hd e ρ μ (fun v μ₁ => wpEs hd es ρ μ₁ (fun vs μ₂ => Q (v :: vs) μ₂) X) X
noncomputable def wpAnd (hd : Bool) : List E → Loc → Mem → (V → Mem → Prop) → (String → Mem → Prop) → Prop
  | [], _, _, _, _ => False
  | e :: es, ρ, μ, Q, X => match es with
    | [] => wpE hd e ρ μ Q X
    | _ :: _ => wpE hd e ρ μ (fun v μ₁ => tr v fun b => br b (wpAnd hd es ρ μ₁ Q X) (Q v μ₁)) X
noncomputable def wpOr (hd : Bool) : List E → Loc → Mem → (V → Mem → Prop) → (String → Mem → Prop) → Prop
  | [], _, _, _, _ => False
  | e :: es, ρ, μ, Q, X => match es with
    | [] => wpE hd e ρ μ Q X
    | _ :: _ => wpE hd e ρ μ (fun v μ₁ => tr v fun b => br b (Q v μ₁) (wpOr hd es ρ μ₁ Q X)) X
end

noncomputable def moreW (x : String) (ρ : Loc) (μ : Mem) (Q : Fl → Loc → Mem → Prop) : List (String × Pos × E × Pos × Pos) → Prop
  | [] => False
  | (c, _, e, _, _) :: r => if isSub x c then wpE sg sc true e ρ μ (fun v μ₁ => Q (.ret v) ρ μ₁) (fun _ _ => False) else moreW x ρ μ Q r

noncomputable def bindAll : List String → List V → Loc → Option Loc
  | [], [], ρ => some ρ
  | x :: xs, v :: vs, ρ => bindAll xs vs (updL ρ x v)
  | _, _, _ => none

mutual
noncomputable def wpS (hd : Bool) : S → Loc → Mem → (Fl → Loc → Mem → Prop) → (String → Loc → Mem → Prop) → Prop
  | .expr e _, ρ, μ, Q, X => wpE sg sc hd e ρ μ (fun _ μ₁ => Q .next ρ μ₁) (fun x μ₁ => X x ρ μ₁)
  | .assign x e _ _, ρ, μ, Q, X => wpE sg sc hd e ρ μ (fun v μ₁ => Q .next (updL ρ x v) μ₁) (fun x μ₁ => X x ρ μ₁)
  | .setattr o a e _ _, ρ, μ, Q, X => wpE sg sc hd e ρ μ (fun v μ₁ => wpE sg sc hd o ρ μ₁ (fun w μ₂ => match w with
      | .ref x => (match μ₂ x with
        | some (.inst _ d) => (match μ₂ d with
          | some (.attrs fs) => fs.length < 900 ∧ Q .next ρ (updM μ₂ d (.attrs (putA a v fs)))
          | _ => False)
        | _ => False)
      | _ => False) (fun x μ₁ => X x ρ μ₁)) (fun x μ₁ => X x ρ μ₁)
  | .setitem o i e _ _, ρ, μ, Q, X => wpE sg sc hd e ρ μ (fun v μ₁ => wpE sg sc hd o ρ μ₁ (fun w μ₂ => wpE sg sc hd i ρ μ₂ (fun j μ₃ => match w, j with
      | .ref x, .int k => (match μ₃ x with
        | some (.list l) => 0 ≤ k ∧ k < l.length ∧ Q .next ρ (updM μ₃ x (.list (l.set k.toNat v)))
        | _ => False)
      | _, _ => False) (fun x μ₁ => X x ρ μ₁)) (fun x μ₁ => X x ρ μ₁)) (fun x μ₁ => X x ρ μ₁)
  | .unpack xs e _ _ _, ρ, μ, Q, X => hd = false ∧ wpE sg sc hd e ρ μ (fun v μ₁ => asT v fun l => match bindAll (xs.map (·.1)) l ρ with
        | some ρ' => Q .next ρ' μ₁
        | none => False) (fun x μ₁ => X x ρ μ₁)
  | .ite c t f _, ρ, μ, Q, X => wpE sg sc hd c ρ μ (fun v μ₁ => tr v fun b => br b (wpSs hd t ρ μ₁ Q X) (wpSs hd f ρ μ₁ Q X)) (fun x μ₁ => X x ρ μ₁)
  | .for_ x it body _ _, ρ, μ, Q, X => hd = false ∧ wpE sg sc hd it ρ μ (fun v μ₁ => match itemsOf μ₁ v with
      | some items => forI (fun μ' => itemsOf μ' v = some items) x (fun ρ' μ' k => wpSs hd body ρ' μ' k fun _ _ _ => False) items ρ μ₁ Q
      | none => False) (fun x μ₁ => X x ρ μ₁)
  | .while_ c body _, ρ, μ, Q, _ => whileI (fun ρ' μ' k => wpE sg sc hd c ρ' μ' (fun v μ₁ => tr v fun b => k b μ₁) fun _ _ => False) (fun ρ' μ' k => wpSs hd body ρ' μ' k fun _ _ _ => False) ρ μ Q
  | .ret e _, ρ, μ, Q, X => wpE sg sc hd e ρ μ (fun v μ₁ => Q (.ret v) ρ μ₁) (fun x μ₁ => X x ρ μ₁)
  | .raise c _ _ _ _ _, ρ, μ, _, X => hd = false ∧ X c ρ μ
  | .try_ body c as h more _ _ _, ρ, μ, Q, _ => hd = false ∧ wpSs false body ρ μ Q fun x ρ₁ μ₁ =>
      if isSub x c then wpSs true h (match as with | some n => updL ρ₁ n (.exc x) | none => ρ₁) μ₁ (fun fl ρ₂ μ₂ => Q fl (match as with | some _ => fun _ => none | none => ρ₂) μ₂) (fun _ _ _ => False)
      else moreW sg sc x ρ₁ μ₁ Q more
  | .pass _, ρ, μ, Q, _ => Q .next ρ μ
noncomputable def wpSs (hd : Bool) : List S → Loc → Mem → (Fl → Loc → Mem → Prop) → (String → Loc → Mem → Prop) → Prop
  | [], ρ, μ, Q, _ => Q .next ρ μ
  | s :: r, ρ, μ, Q, X => wpS hd s ρ μ (fun fl ρ₁ μ₁ => match fl with
      | .next => wpSs hd r ρ₁ μ₁ Q X
      | .ret v => Q (.ret v) ρ₁ μ₁) X
end
end
end Mine

set_option autoImplicit false
namespace Mine
open PySem

mutual
noncomputable def toE : E → Expr
  | .none p => .Constant .none 0 p
  | .bool b p => .Constant (.bool b) 0 p
  | .int i p => .Constant (.int i) 0 p
  | .str s p => .Constant (.str (Str.ofString s)) 0 p
  | .loc x p => .Name (Str.ofString x) p
  | .glob x p => .Name (Str.ofString x) p
  | .bin op l r p => .BinOp (toE l) op (toE r) p
  | .neg e p => .UnaryOp .USub (toE e) p
  | .not e p => .UnaryOp .Not (toE e) p
  | .and es p => .BoolOp .And (toEs es) p
  | .or es p => .BoolOp .Or (toEs es) p
  | .cmp op l r p => .Compare (toE l) [op] [toE r] p
  | .cmp2 op₁ op₂ a b c p => .Compare (toE a) [op₁, op₂] [toE b, toE c] p
  | .attr o a p => .Attribute (toE o) (Str.ofString a) p
  | .sub o i p => .Subscript (toE o) (toE i) p
  | .sliceL o l ps p => .Subscript (toE o) (.Slice (some (toE l)) none none ps) p
  | .sliceU o u ps p => .Subscript (toE o) (.Slice none (some (toE u)) none ps) p
  | .sliceLU o l u ps p => .Subscript (toE o) (.Slice (some (toE l)) (some (toE u)) none ps) p
  | .tup es k p => .Tuple (toEs es) k p
  | .list es p => .List (toEs es) p
  | .call f es pf p => .Call (.Name (Str.ofString f) pf) (toEs es) [] p
  | .new c es pf p => .Call (.Name (Str.ofString c) pf) (toEs es) [] p
  | .bltn f es pf p => .Call (.Name (Str.ofString f) pf) (toEs es) [] p
  | .isi e c pf pc p => .Call (.Name (Str.ofString "isinstance") pf) [toE e, match c with
      | .ty n => .Name (Str.ofString n) pc
      | .own n => .Name (Str.ofString n) pc
      | .owns ns => .Tuple (ns.map fun n => .Name (Str.ofString n.1) n.2) 0 pc] [] p
  | .meth o m es pa p => .Call (.Attribute (toE o) (Str.ofString m) pa) (toEs es) [] p
  | .comp elt x it ifs sc px p => .ListComp (toE elt) [⟨.Name (Str.ofString x) px, toE it, toEs ifs, 0⟩] sc p
noncomputable def toEs : List E → List Expr
  | [] => []
  | e :: es => toE e :: toEs es
end

noncomputable def toMore : List (String × Pos × E × Pos × Pos) → List ExceptHandler
  | [] => []
  | (c, pc, e, pr, ph) :: r => .ExceptHandler (some (.Name (Str.ofString c) pc)) none [.Return (some (toE e)) pr] ph :: toMore r

mutual
noncomputable def toS : S → Stmt
  | .expr e p => .Expr (toE e) p
  | .assign x e px p => .Assign [.Name (Str.ofString x) px] (toE e) p
  | .setattr o a e pa p => .Assign [.Attribute (toE o) (Str.ofString a) pa] (toE e) p
  | .setitem o i e ps p => .Assign [.Subscript (toE o) (toE i) ps] (toE e) p
  | .unpack xs e k pt p => .Assign [.Tuple (xs.map fun x => .Name (Str.ofString x.1) x.2) k pt] (toE e) p
  | .ite c t f p => .If (toE c) (toSs t) (toSs f) p
  | .for_ x it body px p => .For (.Name (Str.ofString x) px) (toE it) (toSs body) [] p
  | .while_ c body p => .While (toE c) (toSs body) [] p
  | .ret e p => .Return (some (toE e)) p
  | .raise c m pf pm pc p => .Raise (some (.Call (.Name (Str.ofString c) pf) [.Constant (.str (Str.ofString m)) 0 pm] [] pc)) none p
  | .try_ body c as h more pc ph p => .Try (toSs body) (.ExceptHandler (some (.Name (Str.ofString c) pc)) (as.map Str.ofString) (toSs h) ph :: toMore more) [] [] p
  | .pass p => .Pass p
noncomputable def toSs : List S → List Stmt
  | [] => []
  | s :: r => toS s :: toSs r
end
end Mine

set_option autoImplicit false
namespace Mine
set_option linter.unusedVariables false
open PySem PySem.W PySem.Calls PyProof.Rows

/-! The tie between the abstract memory and the model's heap. -/

structure Ctx where
  prog : Program
  w : World
  K : Frag
  base : Heap
  cls : String → Option Addr
  exc : String → Option Addr
  fn : String → Option Addr

noncomputable def RngOk (lo hi st : Int) : Prop := (-2 ^ 62 < lo ∧ lo < 2 ^ 62) ∧ (-2 ^ 62 < hi ∧ hi < 2 ^ 62) ∧ (st = 1 ∨ st = -1)

mutual
inductive RV (c : Ctx) (h : Heap) : Value → V → Prop
  | none : RV c h .none .none
  | bool (b : Bool) : RV c h (.bool b) (.bool b)
  | int (i : Int) (t : Tok) : RV c h (.int i t) (.int i)
  | str (x : Str) (t : Tok) : RV c h (.str x t) (.str x)
  | tup {a : Addr} {o : Obj} {vs : Array Value} {n : Nat} {l : List V} : h.get? a = some o → o.cls = .type "tuple" → o.data = .seq vs n → RVs c h vs.toList l → l.length ≤ lim → RV c h (.ref a) (.tup l)
  | ref (a : Addr) : RV c h (.ref a) (.ref a)
  | rng {a : Addr} {lo hi st : Int} {t₁ t₂ t₃ : Tok} : h.get? a = some { cls := .type "range", dict := none, data := .fields #[.int lo t₁, .int hi t₂, .int st t₃], slots := #[] } → RngOk lo hi st → RV c h (.ref a) (.rng lo hi st)
  | exc {a : Addr} {o : Obj} {C : Addr} {x : String} {vs : Array Value} : h.get? a = some o → o.cls = .ref C → o.data = .fields vs → c.exc x = some C → RV c h (.ref a) (.exc x)
  | frz {a : Addr} {o : Obj} {vs : Array Value} {n : Nat} {ns : List Int} : c.base.get? a = some o → o.cls = .type "list" → o.data = .seq vs n → IntsAre vs.toList ns → ns.length ≤ lim → RV c h (.ref a) (.frz ns)
inductive RVs (c : Ctx) (h : Heap) : List Value → List V → Prop
  | nil : RVs c h [] []
  | cons {v : Value} {vs : List Value} {x : V} {xs : List V} : RV c h v x → RVs c h vs xs → RVs c h (v :: vs) (x :: xs)
end

inductive RFs (c : Ctx) (h : Heap) : List DictEntry → List (String × V) → Prop
  | nil : RFs c h [] []
  | cons {hs : Int} {t : Tok} {rv : Value} {x : String} {v : V} {es : List DictEntry} {fs : List (String × V)} : hs = PyData.keyHash c.w.params (Str.ofString x) → RV c h rv v → RFs c h es fs →
      RFs c h (⟨hs, .str (Str.ofString x) t, rv⟩ :: es) ((x, v) :: fs)

inductive RO (c : Ctx) (h : Heap) : Obj → O → Prop
  | list {vs : Array Value} {n : Nat} {l : List V} : RVs c h vs.toList l → l.length ≤ lim → RO c h { cls := .type "list", data := .seq vs n } (.list l)
  | inst {C d : Addr} {x : String} : c.cls x = some C → RO c h (instObj C d) (.inst x d)
  | attrs {es : List DictEntry} {n : Nat} {fs : List (String × V)} : RFs c h es fs → RO c h (dictOf es n) (.attrs fs)

structure Rel (c : Ctx) (μ : Mem) (h : Heap) : Prop where
  base : c.base.StaysIn h
  mem : ∀ a o, μ a = some o → c.base.get? a = none ∧ ∃ ob, h.get? a = some ob ∧ RO c h ob o

/-- h' keeps what h has off the memory: exactly, but the frames fr, which may turn their slots -/
noncomputable def Kept (fr : List Addr) (μ μ' : Mem) (h h' : Heap) : Prop :=
  ∀ b o, h.get? b = some o → μ b = none → μ' b = none ∧ ∃ sl, h'.get? b = some { o with slots := sl } ∧ (b ∉ fr ∨ (∃ vs, o.data = .fields vs) → sl = o.slots)

theorem Kept.refl (fr : List Addr) (μ : Mem) (h : Heap) : Kept fr μ μ h h := fun _ o e hm => ⟨hm, o.slots, e, fun _ => rfl⟩
theorem Kept.trans {fr : List Addr} {μ₁ μ₂ μ₃ : Mem} {h₁ h₂ h₃ : Heap} (x : Kept fr μ₁ μ₂ h₁ h₂) (y : Kept fr μ₂ μ₃ h₂ h₃) : Kept fr μ₁ μ₃ h₁ h₃ := fun b o e hm => by
  obtain ⟨m₂, sl, e₂, n₂⟩ := x b o e hm
  obtain ⟨m₃, sl', e₃, n₃⟩ := y b _ e₂ m₂
  exact ⟨m₃, sl', e₃, fun hb => (n₃ hb).trans (n₂ hb)⟩
theorem Kept.of_keeps {fr : List Addr} {μ μ' : Mem} {h h' : Heap} (k : ∀ b o, h.get? b = some o → μ b = none → h'.get? b = some o) (m : ∀ b o, h.get? b = some o → μ b = none → μ' b = none) : Kept fr μ μ' h h' :=
  fun b o e hm => ⟨m b o e hm, o.slots, k b o e hm, fun _ => rfl⟩
theorem Kept.exact {fr : List Addr} {μ μ' : Mem} {h h' : Heap} (x : Kept fr μ μ' h h') {b : Addr} {o : Obj} (e : h.get? b = some o) (hm : μ b = none) (hb : b ∉ fr) : h'.get? b = some o := by
  obtain ⟨_, sl, e', n⟩ := x b o e hm
  rw [n (.inl hb)] at e'; exact e'

theorem RO.cls_ne {c : Ctx} {h : Heap} {ob : Obj} {o : O} (x : RO c h ob o) {T : String} (e : ob.cls = .type T) : T = "list" ∨ T = "dict" := by
  cases x with
  | list _ _ => exact .inl (by injection e with e; exact e.symm)
  | inst _ => cases e
  | attrs _ => exact .inr (by injection e with e; exact e.symm)
theorem RO.fields_ne {c : Ctx} {h : Heap} {ob : Obj} {o : O} (x : RO c h ob o) (vs : Array Value) : ob.data ≠ .fields vs := by
  cases x <;> intro e <;> cases e

theorem Rel.none_of_cls {c : Ctx} {μ : Mem} {h : Heap} (r : Rel c μ h) {a : Addr} {ob : Obj} {T : String} (e : h.get? a = some ob) (hc : ob.cls = .type T) (h1 : T ≠ "list") (h2 : T ≠ "dict") : μ a = none := by
  cases q : μ a with
  | none => rfl
  | some o =>
    obtain ⟨_, ob', e', ro⟩ := r.mem a o q
    rw [e] at e'; cases e'
    rcases ro.cls_ne hc with q | q
    · exact absurd q h1
    · exact absurd q h2
theorem Rel.none_of_fields {c : Ctx} {μ : Mem} {h : Heap} (r : Rel c μ h) {a : Addr} {ob : Obj} {vs : Array Value} (e : h.get? a = some ob) (hd : ob.data = .fields vs) : μ a = none := by
  cases q : μ a with
  | none => rfl
  | some o =>
    obtain ⟨_, ob', e', ro⟩ := r.mem a o q
    rw [e] at e'; cases e'
    exact absurd hd (ro.fields_ne vs)
theorem Rel.none_of_base {c : Ctx} {μ : Mem} {h : Heap} (r : Rel c μ h) {a : Addr} {ob : Obj} (e : c.base.get? a = some ob) : μ a = none := by
  cases q : μ a with
  | none => rfl
  | some o => have := (r.mem a o q).1; rw [e] at this; cases this

/-- what a value reads is kept where objects keep their class and data -/
noncomputable def Sees (μ : Mem) (h h' : Heap) : Prop := ∀ b o, h.get? b = some o → μ b = none → ∃ sl, h'.get? b = some { o with slots := sl } ∧ ((∃ vs, o.data = .fields vs) → sl = o.slots)
theorem Kept.sees {fr : List Addr} {μ μ' : Mem} {h h' : Heap} (x : Kept fr μ μ' h h') : Sees μ h h' := fun b o e hm => let ⟨_, sl, e', n⟩ := x b o e hm; ⟨sl, e', fun q => n (.inr q)⟩
theorem Sees.of_keeps {μ : Mem} {h h' : Heap} (k : ∀ b o, h.get? b = some o → μ b = none → h'.get? b = some o) : Sees μ h h' := fun b o e hm => ⟨o.slots, k b o e hm, fun _ => rfl⟩

mutual
theorem RV.mono {c : Ctx} {μ : Mem} {h h' : Heap} (r : Rel c μ h) (k : Sees μ h h') : ∀ {v : Value} {x : V}, RV c h v x → RV c h' v x
  | _, _, .none => .none
  | _, _, .bool b => .bool b
  | _, _, .int i t => .int i t
  | _, _, .str x t => .str x t
  | _, _, .tup e hc hd hl hz => by
    obtain ⟨sl, e', _⟩ := k _ _ e (r.none_of_cls e hc (by decide) (by decide))
    exact .tup e' hc hd (RVs.mono r k hl) hz
  | _, _, .ref a => .ref a
  | _, _, .rng e ok => by
    obtain ⟨sl, e', n⟩ := k _ _ e (r.none_of_fields e rfl)
    rw [n ⟨_, rfl⟩] at e'
    exact .rng e' ok
  | _, _, .exc e hc hd hx => by
    obtain ⟨sl, e', _⟩ := k _ _ e (r.none_of_fields e hd)
    exact .exc e' hc hd hx
  | _, _, .frz e hc hd hi hz => .frz e hc hd hi hz
theorem RVs.mono {c : Ctx} {μ : Mem} {h h' : Heap} (r : Rel c μ h) (k : Sees μ h h') : ∀ {vs : List Value} {xs : List V}, RVs c h vs xs → RVs c h' vs xs
  | _, _, .nil => .nil
  | _, _, .cons hv hr => .cons (RV.mono r k hv) (RVs.mono r k hr)
end
theorem RFs.mono {c : Ctx} {μ : Mem} {h h' : Heap} (r : Rel c μ h) (k : Sees μ h h') {es : List DictEntry} {fs : List (String × V)} (x : RFs c h es fs) : RFs c h' es fs := by
  induction x with
  | nil => exact .nil
  | cons e hv _ ih => exact .cons e (hv.mono r k) ih
theorem RO.mono {c : Ctx} {μ : Mem} {h h' : Heap} (r : Rel c μ h) (k : Sees μ h h') {ob : Obj} {o : O} (x : RO c h ob o) : RO c h' ob o := by
  cases x with
  | list hl hz => exact .list (hl.mono r k) hz
  | inst e => exact .inst e
  | attrs hf => exact .attrs (hf.mono r k)

theorem RVs.length {c : Ctx} {h : Heap} : ∀ {vs : List Value} {xs : List V}, RVs c h vs xs → vs.length = xs.length
  | _, _, .nil => rfl
  | _, _, .cons _ r => by simp [r.length]
theorem RVs.get {c : Ctx} {h : Heap} : ∀ {vs : List Value} {xs : List V}, RVs c h vs xs → ∀ {i : Nat} {x : V}, xs[i]? = some x → ∃ v, vs[i]? = some v ∧ RV c h v x
  | _, _, .nil, _, _, e => by simp at e
  | _, _, .cons hv hr, 0, _, e => by simp at e; subst e; exact ⟨_, rfl, hv⟩
  | _, _, .cons hv hr, i + 1, _, e => by
    simp at e
    obtain ⟨v, h1, h2⟩ := hr.get e
    exact ⟨v, by simpa using h1, h2⟩
theorem RVs.append {c : Ctx} {h : Heap} : ∀ {vs us : List Value} {xs ys : List V}, RVs c h vs xs → RVs c h us ys → RVs c h (vs ++ us) (xs ++ ys)
  | _, _, _, _, .nil, k => k
  | _, _, _, _, .cons hv hr, k => .cons hv (hr.append k)
theorem RVs.take {c : Ctx} {h : Heap} (n : Nat) : ∀ {vs : List Value} {xs : List V}, RVs c h vs xs → RVs c h (vs.take n) (xs.take n) := by
  induction n with
  | zero => intro vs xs _; simp; exact .nil
  | succ n ih => intro vs xs hr; cases hr with
    | nil => simp; exact .nil
    | cons hv hr => simp; exact .cons hv (ih hr)
theorem RVs.drop {c : Ctx} {h : Heap} (n : Nat) : ∀ {vs : List Value} {xs : List V}, RVs c h vs xs → RVs c h (vs.drop n) (xs.drop n) := by
  induction n with
  | zero => intro vs xs hr; simpa using hr
  | succ n ih => intro vs xs hr; cases hr with
    | nil => simp; exact .nil
    | cons hv hr => simpa using ih hr
theorem RVs.set {c : Ctx} {h : Heap} {v : Value} {x : V} (hx : RV c h v x) : ∀ {vs : List Value} {xs : List V} (n : Nat), RVs c h vs xs → RVs c h (vs.set n v) (xs.set n x)
  | _, _, _, .nil => .nil
  | _, _, 0, .cons hv hr => .cons hx hr
  | _, _, n + 1, .cons hv hr => .cons hv (hr.set hx n)
theorem RVs.eraseIdx {c : Ctx} {h : Heap} : ∀ {vs : List Value} {xs : List V} (n : Nat), RVs c h vs xs → RVs c h (vs.eraseIdx n) (xs.eraseIdx n)
  | _, _, _, .nil => .nil
  | _, _, 0, .cons hv hr => hr
  | _, _, n + 1, .cons hv hr => .cons hv (hr.eraseIdx n)
theorem RVs.reverse {c : Ctx} {h : Heap} {vs : List Value} {xs : List V} (hr : RVs c h vs xs) : RVs c h vs.reverse xs.reverse := by
  induction hr using RVs.rec (motive_1 := fun _ _ _ => True) with
  | nil => exact .nil
  | cons hv _ _ ih => simp only [List.reverse_cons]; exact ih.append (.cons hv .nil)
  | _ => trivial

/-- the memory goes with a heap that keeps all -/
theorem Rel.keeps {c : Ctx} {μ : Mem} {h h' : Heap} (r : Rel c μ h) (k : ∀ b o, h.get? b = some o → h'.get? b = some o) : Rel c μ h' :=
  ⟨fun b o e => k b o (r.base b o e), fun a o e => let ⟨n, ob, e', ro⟩ := r.mem a o e; ⟨n, ob, k _ _ e', ro.mono r (.of_keeps fun b o e _ => k b o e)⟩⟩

/-- a new object under a new address -/
theorem Rel.alloc {c : Ctx} {μ : Mem} {h h' : Heap} (r : Rel c μ h) (k : ∀ b o, h.get? b = some o → h'.get? b = some o) {a : Addr} {ob : Obj} {o : O} (hn : h.get? a = none) (ha : h'.get? a = some ob) (ro : RO c h' ob o) : Rel c (updM μ a o) h' := by
  have r' := r.keeps k
  refine ⟨r'.base, fun b q e => ?_⟩
  unfold updM at e
  split at e
  · rename_i hb; subst hb; cases e
    refine ⟨?_, ob, ha, ro⟩
    cases q : c.base.get? b with
    | none => rfl
    | some x => have := r.base b x q; rw [hn] at this; cases this
  · exact r'.mem b q e
theorem Rel.free {c : Ctx} {μ : Mem} {h : Heap} (r : Rel c μ h) {a : Addr} (hn : h.get? a = none) : μ a = none := by
  cases q : μ a with
  | none => rfl
  | some o => obtain ⟨_, ob, e, _⟩ := r.mem a o q; rw [hn] at e; cases e

/-- an object of the memory is changed -/
theorem Rel.store {c : Ctx} {μ : Mem} {h h' : Heap} {a : Addr} {o₀ : O} (r : Rel c μ h) (h0 : μ a = some o₀) (k : ∀ b, b ≠ a → h'.get? b = h.get? b) {ob : Obj} {o : O} (ha : h'.get? a = some ob) (ro : RO c h ob o) : Rel c (updM μ a o) h' := by
  obtain ⟨nb, ob₀, e₀, ro₀⟩ := r.mem a o₀ h0
  have sees : Sees μ h h' := .of_keeps fun b o e hm => (k b fun q => by rw [q, h0] at hm; cases hm).trans e
  refine ⟨fun b x e => (k b fun q => by rw [q, nb] at e; cases e).trans (r.base b x e), fun b q e => ?_⟩
  unfold updM at e
  split at e
  · rename_i hb; subst hb; cases e
    exact ⟨nb, ob, ha, ro.mono r sees⟩
  · rename_i hb
    obtain ⟨n, ob', e', ro'⟩ := r.mem b q e
    exact ⟨n, ob', (k b hb).trans e', ro'.mono r sees⟩

end Mine

set_option autoImplicit false
namespace Mine
set_option linter.unusedVariables false
open PySem PySem.W PySem.Calls PyProof.Rows

noncomputable def frs (fs : List Env) : List Addr := fs.filterMap (·.frame)

structure Step (c : Ctx) (fs : List Env) (μ μ' : Mem) (s s' : Shared) : Prop where
  gens : s'.gens = s.gens
  drawn : s'.drawn = s.drawn
  os : s'.os = s.os
  rel : Rel c μ' s'.heap
  kept : Kept (frs fs) μ μ' s.heap s'.heap

theorem Step.refl {c : Ctx} {fs : List Env} {μ : Mem} {s : Shared} (r : Rel c μ s.heap) : Step c fs μ μ s s := ⟨rfl, rfl, rfl, r, .refl _ _ _⟩
theorem Step.trans {c : Ctx} {fs : List Env} {μ₁ μ₂ μ₃ : Mem} {s₁ s₂ s₃ : Shared} (x : Step c fs μ₁ μ₂ s₁ s₂) (y : Step c fs μ₂ μ₃ s₂ s₃) : Step c fs μ₁ μ₃ s₁ s₃ :=
  ⟨y.gens.trans x.gens, y.drawn.trans x.drawn, y.os.trans x.os, y.rel, x.kept.trans y.kept⟩
/-- ticks alone -/
theorem Step.toks {c : Ctx} {fs : List Env} {μ : Mem} {s : Shared} {n : Nat} (r : Rel c μ s.heap) : Step c fs μ μ s { s with toks := n } := ⟨rfl, rfl, rfl, r, .refl _ _ _⟩
/-- a heap that keeps all -/
theorem Step.grows {c : Ctx} {fs : List Env} {μ : Mem} {s : Shared} {h' : Heap} {n : Nat} (r : Rel c μ s.heap) (k : ∀ b o, s.heap.get? b = some o → h'.get? b = some o) : Step c fs μ μ s { s with heap := h', toks := n } :=
  ⟨rfl, rfl, rfl, r.keeps k, .of_keeps (fun b o e _ => k b o e) fun _ _ _ hm => hm⟩
/-- a new object of the memory -/
theorem Step.alloc {c : Ctx} {fs : List Env} {μ : Mem} {s : Shared} {h' : Heap} {n : Nat} {a : Addr} {ob : Obj} {o : O} (r : Rel c μ s.heap) (k : ∀ b o, s.heap.get? b = some o → h'.get? b = some o) (hn : s.heap.get? a = none)
    (ha : h'.get? a = some ob) (ro : RO c h' ob o) : Step c fs μ (updM μ a o) s { s with heap := h', toks := n } :=
  ⟨rfl, rfl, rfl, r.alloc k hn ha ro, .of_keeps (fun b o e _ => k b o e) fun b o e hm => by rw [updM_ne (fun q => by rw [q, hn] at e; cases e)]; exact hm⟩
/-- an object of the memory changed -/
theorem Step.store {c : Ctx} {fs : List Env} {μ : Mem} {s : Shared} {h' : Heap} {n : Nat} {a : Addr} {o₀ : O} (r : Rel c μ s.heap) (h0 : μ a = some o₀) (k : ∀ b, b ≠ a → h'.get? b = s.heap.get? b) {ob : Obj} {o : O}
    (ha : h'.get? a = some ob) (ro : RO c s.heap ob o) : Step c fs μ (updM μ a o) s { s with heap := h', toks := n } :=
  ⟨rfl, rfl, rfl, r.store h0 k ha ro, .of_keeps (fun b o e hm => (k b fun q => by rw [q, h0] at hm; cases hm).trans e) fun b o e hm => by rw [updM_ne (fun q => by rw [q, h0] at hm; cases hm)]; exact hm⟩

theorem RV.step {c : Ctx} {fs : List Env} {μ μ' : Mem} {s s' : Shared} {v : Value} {x : V} (r : Rel c μ s.heap) (y : Step c fs μ μ' s s') (h : RV c s.heap v x) : RV c s'.heap v x := h.mono r y.kept.sees
theorem RVs.step {c : Ctx} {fs : List Env} {μ μ' : Mem} {s s' : Shared} {v : List Value} {x : List V} (r : Rel c μ s.heap) (y : Step c fs μ μ' s s') (h : RVs c s.heap v x) : RVs c s'.heap v x := h.mono r y.kept.sees

/-- an exception of the text's own in flight -/
structure Fly (c : Ctx) (fs : List Env) (μ μ' : Mem) (s s' : Shared) (e : Addr) (x : String) : Prop where
  gens : s'.gens = s.gens
  drawn : s'.drawn = s.drawn
  os : s'.os = s.os
  there : ∃ B C a0, c.exc x = some C ∧ Heap.FlyingW B fs e (.ref C) a0 s'.heap ∧ Rel c μ' B ∧ ∀ b o, s.heap.get? b = some o → μ b = none → b ∉ frs fs → B.get? b = some o
  kept : Kept (frs fs) μ μ' s.heap s'.heap

noncomputable def Post (c : Ctx) (fs : List Env) (μ : Mem) (s : Shared) (Q : V → Mem → Prop) (rv : Value) (s' : Shared) : Prop := ∃ v μ', Step c fs μ μ' s s' ∧ RV c s'.heap rv v ∧ Q v μ'
noncomputable def Posts (c : Ctx) (fs : List Env) (μ : Mem) (s : Shared) (Q : List V → Mem → Prop) (rv : List Value) (s' : Shared) : Prop := ∃ v μ', Step c fs μ μ' s s' ∧ RVs c s'.heap rv v ∧ Q v μ'
noncomputable def PostB (c : Ctx) (fs : List Env) (μ : Mem) (s : Shared) (Q : Bool → Mem → Prop) (b : Bool) (s' : Shared) : Prop := ∃ μ', Step c fs μ μ' s s' ∧ Q b μ'
noncomputable def XPost (c : Ctx) (fs : List Env) (μ : Mem) (s : Shared) (X : String → Mem → Prop) (re : Value) (s' : Shared) : Prop := ∃ e x μ', re = .ref e ∧ Fly c fs μ μ' s s' e x ∧ X x μ'

theorem Fly.after {c : Ctx} {fs : List Env} {μ₁ μ₂ μ₃ : Mem} {s₁ s₂ s₃ : Shared} {e : Addr} {x : String} (a : Step c fs μ₁ μ₂ s₁ s₂) (y : Fly c fs μ₂ μ₃ s₂ s₃ e x) : Fly c fs μ₁ μ₃ s₁ s₃ e x := by
  obtain ⟨B, C, a0, h1, h2, h3, h4⟩ := y.there
  refine ⟨y.gens.trans a.gens, y.drawn.trans a.drawn, y.os.trans a.os, ⟨B, C, a0, h1, h2, h3, fun b o e hm hb => ?_⟩, a.kept.trans y.kept⟩
  exact h4 b o (a.kept.exact e hm hb) (a.kept b o e hm).1 hb
theorem Post.after {c : Ctx} {fs : List Env} {μ₁ μ₂ : Mem} {s₁ s₂ s₃ : Shared} {Q : V → Mem → Prop} {rv : Value} (a : Step c fs μ₁ μ₂ s₁ s₂) (y : Post c fs μ₂ s₂ Q rv s₃) : Post c fs μ₁ s₁ Q rv s₃ :=
  let ⟨v, μ', st, r, q⟩ := y; ⟨v, μ', a.trans st, r, q⟩
theorem PostB.after {c : Ctx} {fs : List Env} {μ₁ μ₂ : Mem} {s₁ s₂ s₃ : Shared} {Q : Bool → Mem → Prop} {b : Bool} (a : Step c fs μ₁ μ₂ s₁ s₂) (y : PostB c fs μ₂ s₂ Q b s₃) : PostB c fs μ₁ s₁ Q b s₃ :=
  let ⟨μ', st, q⟩ := y; ⟨μ', a.trans st, q⟩
theorem Posts.after {c : Ctx} {fs : List Env} {μ₁ μ₂ : Mem} {s₁ s₂ s₃ : Shared} {Q : List V → Mem → Prop} {rv : List Value} (a : Step c fs μ₁ μ₂ s₁ s₂) (y : Posts c fs μ₂ s₂ Q rv s₃) : Posts c fs μ₁ s₁ Q rv s₃ :=
  let ⟨v, μ', st, r, q⟩ := y; ⟨v, μ', a.trans st, r, q⟩
theorem XPost.after {c : Ctx} {fs : List Env} {μ₁ μ₂ : Mem} {s₁ s₂ s₃ : Shared} {X : String → Mem → Prop} {re : Value} (a : Step c fs μ₁ μ₂ s₁ s₂) (y : XPost c fs μ₂ s₂ X re s₃) : XPost c fs μ₁ s₁ X re s₃ :=
  let ⟨e, x, μ', he, f, q⟩ := y; ⟨e, x, μ', he, f.after a, q⟩

/-- the frames, the room, what is handled -/
structure AOK (c : Ctx) (d : Nat) (hd : Bool) (A : Around) (fs : List Env) (μ : Mem) (h : Heap) : Prop where
  frames : A.frames = some fs
  room : A.depth + 3 * d < 900
  units : A.units + 100 * d + 200 < cLine
  handled : hd = false → A.handled = none
  fun_ : h.FunFrames c.base fs
  priv : ∀ L ∈ frs fs, μ L = none
  dicts : ∀ L ∈ frs fs, ∃ o es n, h.get? L = some o ∧ o.data = .dict es n

theorem AOK.step {c : Ctx} {d : Nat} {hd : Bool} {A : Around} {fs : List Env} {μ μ' : Mem} {s s' : Shared} (x : AOK c d hd A fs μ s.heap) (y : Step c fs μ μ' s s') : AOK c d hd A fs μ' s'.heap := by
  refine ⟨x.frames, x.room, x.units, x.handled, ?_, fun L hL => ?_, fun L hL => ?_⟩
  · have hp := x.priv
    have hf := x.fun_
    clear x
    induction fs with
    | nil => trivial
    | cons env rest ih =>
      obtain ⟨hk, ⟨L, o, hfr, hn, ho, hd⟩, hr⟩ := hf
      have kept := y.kept
      obtain ⟨_, sl, e', _⟩ := kept L o ho (hp L (by simp [frs, hfr]))
      refine ⟨hk, ⟨L, _, hfr, hn, e', hd⟩, ?_⟩
      have key : ∀ (l : List Env), s.heap.FunFrames c.base l → (∀ L ∈ frs l, μ L = none) → s'.heap.FunFrames c.base l := by
        intro l
        induction l with
        | nil => intros; trivial
        | cons env l ih =>
          rintro ⟨hk, ⟨L, o, hfr, hn, ho, hd⟩, hr⟩ hp
          obtain ⟨_, sl, e', _⟩ := kept L o ho (hp L (by simp [frs, hfr]))
          exact ⟨hk, ⟨L, _, hfr, hn, e', hd⟩, ih hr fun M hM => hp M (by simp only [frs, List.filterMap_cons, hfr]; exact List.mem_cons_of_mem _ hM)⟩
      exact key rest hr fun M hM => hp M (by simp only [frs, List.filterMap_cons, hfr]; exact List.mem_cons_of_mem _ hM)
  · obtain ⟨_, o, ho, _⟩ := x.fun_.mem hL
    exact (y.kept L o ho (x.priv L hL)).1
  · obtain ⟨o, es, n, ho, hd⟩ := x.dicts L hL
    obtain ⟨_, sl, e', _⟩ := y.kept L o ho (x.priv L hL)
    exact ⟨_, es, n, e', hd⟩

/-- the names of a block -/
noncomputable def NameIs (c : Ctx) (env : Env) (m : Str → Option Value) (μ : Mem) (h : Heap) (x : String) (v : V) : Prop :=
  (env.kindOf (Str.ofString x) = some .local ∧ ∃ rv, m (Str.ofString x) = some rv ∧ RV c h rv v) ∨
  ((env.kindOf (Str.ofString x) = some .cell ∨ env.kindOf (Str.ofString x) = some .free) ∧ ∃ ca rv, env.cells.lookup (Str.ofString x) = some ca ∧ h.IsCell ca (some rv) ∧ RV c h rv v)
structure ER (c : Ctx) (env : Env) (ρ : Loc) (μ : Mem) (h : Heap) : Prop where
  kind : env.scope.kind = .function
  glob : env.globals = mainGlobals
  blt : env.builtins = builtinsNs
  priv : μ env.locals = none
  new : c.base.get? env.locals = none
  cells : ∀ x ca, env.cells.lookup x = some ca → (∃ v, h.IsCell ca v) ∧ μ ca = none ∧ c.base.get? ca = none
  inj : ∀ x y ca, env.cells.lookup x = some ca → env.cells.lookup y = some ca → x = y
  has : ∀ x, env.kindOf x = some .cell → (env.cells.lookup x).isSome = true
  names : ∃ m, h.Ns env.locals m ∧ ∀ x v, ρ x = some v → NameIs c env m μ h x v

theorem IsCell.sees {μ : Mem} {h h' : Heap} (k : Sees μ h h') {ca : Addr} {v : Option Value} (x : h.IsCell ca v) (hm : μ ca = none) : h'.IsCell ca v := by
  obtain ⟨o, ho, hd⟩ := x
  obtain ⟨sl, e, _⟩ := k ca o ho hm
  exact ⟨_, e, hd⟩
theorem Ns.sees {μ : Mem} {h h' : Heap} (k : Sees μ h h') {a : Addr} {m : Str → Option Value} (x : h.Ns a m) (hm : μ a = none) : h'.Ns a m := by
  obtain ⟨o, es, ep, ho, hd, r⟩ := x
  obtain ⟨sl, e, _⟩ := k a o ho hm
  exact ⟨_, es, ep, e, hd, r⟩

theorem ER.step {c : Ctx} {env : Env} {ρ : Loc} {fs : List Env} {μ μ' : Mem} {s s' : Shared} (x : ER c env ρ μ s.heap) (r : Rel c μ s.heap) (y : Step c fs μ μ' s s') : ER c env ρ μ' s'.heap := by
  obtain ⟨m, hns, hm⟩ := x.names
  have k := y.kept.sees
  obtain ⟨oL, esL, epL, hoL, _⟩ := id hns
  refine ⟨x.kind, x.glob, x.blt, (y.kept _ _ hoL x.priv).1, x.new, fun z ca e => ?_, x.inj, x.has, m, Ns.sees k hns x.priv, fun z v e => ?_⟩
  · obtain ⟨⟨v, hv⟩, h1, h2⟩ := x.cells z ca e
    obtain ⟨o, ho, hd⟩ := id hv
    exact ⟨⟨v, IsCell.sees k hv h1⟩, (y.kept _ _ ho h1).1, h2⟩
  · rcases hm z v e with ⟨h1, rv, h2, h3⟩ | ⟨h1, ca, rv, h2, h3, h4⟩
    · exact .inl ⟨h1, rv, h2, h3.step r y⟩
    · exact .inr ⟨h1, ca, rv, h2, IsCell.sees k h3 (x.cells _ ca h2).2.1, h4.step r y⟩

end Mine

set_option autoImplicit false
namespace Mine
set_option linter.unusedVariables false
open PySem PySem.W PySem.Calls PyProof.Rows

theorem lim_le : lim ≤ sizeLine := by decide

section
variable {c : Ctx} {A : Around} {fs : List Env} {μ : Mem} {s : Shared} {E : Value → Shared → Prop}

theorem Rel.lst {l : Addr} {xs : List V} (r : Rel c μ s.heap) (h : μ l = some (.list xs)) : ∃ vs n, IsL s.heap l vs n ∧ RVs c s.heap vs.toList xs ∧ xs.length ≤ lim := by
  obtain ⟨_, ob, e, ro⟩ := r.mem l _ h
  cases ro with
  | list hl hz => exact ⟨_, _, e, hl, hz⟩
theorem Rel.insts {x d : Addr} {cl : String} (r : Rel c μ s.heap) (h : μ x = some (.inst cl d)) : ∃ C, c.cls cl = some C ∧ s.heap.get? x = some (instObj C d) := by
  obtain ⟨_, ob, e, ro⟩ := r.mem x _ h
  cases ro with
  | inst hc => exact ⟨_, hc, e⟩
theorem Rel.attr {d : Addr} {fl : List (String × V)} (r : Rel c μ s.heap) (h : μ d = some (.attrs fl)) : ∃ es n, s.heap.get? d = some (dictOf es n) ∧ RFs c s.heap es fl := by
  obtain ⟨_, ob, e, ro⟩ := r.mem d _ h
  cases ro with
  | attrs hf => exact ⟨_, _, e, hf⟩

theorem newL_size {xs : List V} {vs : Array Value} {h : Heap} (hr : RVs c h vs.toList xs) (hl : xs.length ≤ lim) : vs.size ≤ sizeLine := by
  have := hr.length
  rw [Array.length_toList] at this
  exact this ▸ Nat.le_trans hl lim_le

/-- a new list -/
theorem post_newL {Q : V → Mem → Prop} {xs : List V} {vs : Array Value} (r : Rel c μ s.heap) (hr : RVs c s.heap vs.toList xs) (q : newL μ xs Q) (n : Nat) :
    Post c fs μ s Q (.ref s.heap.objs.size) { s with heap := s.heap.push { cls := .type "list", data := .seq vs }, toks := n } := by
  have hn : s.heap.get? s.heap.objs.size = none := Heap.get?_none_of_le (Nat.le_refl _)
  have k : ∀ b o, s.heap.get? b = some o → (s.heap.push { cls := .type "list", data := .seq vs }).get? b = some o := fun b o e => Heap.get?_push_of_some _ e
  refine ⟨.ref s.heap.objs.size, _, Step.alloc r k hn (Heap.get?_push_size _ rfl) (.list (hr.mono r (.of_keeps fun b o e _ => k b o e)) q.1), .ref _, q.2 _ (r.free hn)⟩

theorem mul_raw {prog : Program} {w : World} {l : Addr} {items : Array Value} {k : Nat} {x : Int} {u : Tok} {Q : Value → Shared → Prop} (hl : IsL s.heap l items k) (hlo : -(2 ^ 63 : Int) ≤ x) (hhi : x < 2 ^ 63) (hsz : items.size * x.toNat ≤ 2 ^ 24)
    (h : Q (.ref s.heap.objs.size) { s with heap := s.heap.push { cls := .type "list", data := .seq (List.replicate x.toNat items.toList).flatten.toArray } }) :
    wpAny (model prog w) A (binaryOp .Mult (.ref l) (.int x u)) Q E s := by
  rw [← listMul_foldl_if] at h
  exact wpAny_binaryOp_repeat_ref (T := "list") (U := "int") (by decide) ⟨_, hl, rfl⟩ (fun s' => typeIs_int s' x u) noFill_list_mul F.fills_int_mul F.slot_int_rmul repeat_list F.slot_int_index.lookup
    (call_meets F.slot_int_rmul (typeIs_int s x u) F.entry_int_rmul (F.args_int_rmul_2 _ _) (int___rmul___int_list x u l items k)
      ⟨hl, rfl, ⟨_, hl, rfl⟩, call_meets F.slot_list_mul ⟨_, hl, rfl⟩ F.entry_list_mul (F.args_list_mul_2 _ _)
        (AutoListH.list___mul___list_int_3 l items k x u (by simp [Builtin.List.listFitsIndex]; omega) (by omega) (by simp [Builtin.List.listTooLong, sizeLine]; omega))
        ⟨hl, h⟩⟩)

omit A fs s E in
theorem asInt_of {v : V} {k : Int → Prop} (h : asInt v k) : ∃ i, v = .int i ∧ k i := by
  unfold asInt at h
  split at h
  · exact ⟨_, rfl, h⟩
  · exact h.elim
theorem asL_of {v : V} {k : Addr → List V → Prop} (h : asL μ v k) : ∃ x l, v = .ref x ∧ μ x = some (.list l) ∧ k x l := by
  unfold asL at h
  split at h
  · split at h
    · rename_i e; exact ⟨_, _, rfl, e, h⟩
    · exact h.elim
  · exact h.elim
theorem ints2_of {a b : V} {k : Int → Int → Prop} (h : ints2 a b k) : ∃ i j, a = .int i ∧ b = .int j ∧ k i j := by
  obtain ⟨i, e1, h1⟩ := asInt_of h
  obtain ⟨j, e2, h2⟩ := asInt_of h1
  exact ⟨i, j, e1, e2, h2⟩
theorem one_of {vs : List V} {k : V → Prop} (h : one vs k) : ∃ v, vs = [v] ∧ k v := by
  unfold one at h
  split at h
  · exact ⟨_, rfl, h⟩
  · exact h.elim
theorem two_of {vs : List V} {k : V → V → Prop} (h : two vs k) : ∃ v w, vs = [v, w] ∧ k v w := by
  unfold two at h
  split at h
  · exact ⟨_, _, rfl, h⟩
  · exact h.elim
theorem RV.int_of {h : Heap} {rv : Value} {i : Int} (x : RV c h rv (.int i)) : ∃ t, rv = .int i t := by cases x; exact ⟨_, rfl⟩
theorem RV.ref_of {h : Heap} {rv : Value} {a : Addr} (x : RV c h rv (.ref a)) : rv = .ref a := by cases x; rfl
theorem RV.bool_of {h : Heap} {rv : Value} {b : Bool} (x : RV c h rv (.bool b)) : rv = .bool b := by cases x; rfl
theorem RVs.one {h : Heap} {rvs : List Value} {v : V} (x : RVs c h rvs [v]) : ∃ rv, rvs = [rv] ∧ RV c h rv v := by
  cases x with | cons hv hr => cases hr; exact ⟨_, rfl, hv⟩
theorem RVs.two {h : Heap} {rvs : List Value} {v w : V} (x : RVs c h rvs [v, w]) : ∃ rv rw_, rvs = [rv, rw_] ∧ RV c h rv v ∧ RV c h rw_ w := by
  cases x with | cons hv hr => obtain ⟨_, rfl, hw⟩ := hr.one; exact ⟨_, _, rfl, hv, hw⟩

theorem bin_cat {ra rb : Value} {a b : V} {Q : V → Mem → Prop} (r : Rel c μ s.heap) (ha : RV c s.heap ra a) (hb : RV c s.heap rb b) (q : asL μ a fun _ l => asL μ b fun _ k => newL μ (l ++ k) Q) : wpAny (model c.prog c.w) A (binaryOp .Add ra rb) (Post c fs μ s Q) E s := by
  obtain ⟨x, l, rfl, hx, q⟩ := asL_of q
  obtain ⟨y, k, rfl, hy, q⟩ := asL_of q
  cases ha.ref_of; cases hb.ref_of
  obtain ⟨vs, n, hl, hr, _⟩ := r.lst hx
  obtain ⟨us, n', hl', hr', _⟩ := r.lst hy
  have hr2 : RVs c s.heap (vs ++ us).toList (l ++ k) := by rw [Array.toList_append]; exact hr.append hr'
  refine PySem.P.add_list hl hl' (post_newL r hr2 q s.toks) ?_
  have := newL_size hr2 q.1
  rw [Array.size_append] at this
  exact this
theorem bin_rep {ra rb : Value} {a b : V} {Q : V → Mem → Prop} (r : Rel c μ s.heap) (ha : RV c s.heap ra a) (hb : RV c s.heap rb b) (q : asL μ a fun _ l => asInt b fun n => 0 ≤ n ∧ n ≤ 1000000 ∧ n.toNat * l.length ≤ lim ∧ newL μ (List.replicate n.toNat l).flatten Q) : wpAny (model c.prog c.w) A (binaryOp .Mult ra rb) (Post c fs μ s Q) E s := by
  obtain ⟨x, l, rfl, hx, q⟩ := asL_of q
  obtain ⟨n, rfl, q⟩ := asInt_of q
  cases ha.ref_of
  obtain ⟨t, rfl⟩ := hb.int_of
  obtain ⟨vs, k, hl, hr, _⟩ := r.lst hx
  have h2 := q.2.2.1
  have hrl := hr.length
  rw [Array.length_toList] at hrl
  have hr2 : RVs c s.heap (List.replicate n.toNat vs.toList).flatten.toArray.toList (List.replicate n.toNat l).flatten := by
    show RVs c s.heap (List.replicate n.toNat vs.toList).flatten _
    generalize n.toNat = m
    induction m with
    | zero => exact .nil
    | succ m ih => rw [List.replicate_succ, List.replicate_succ, List.flatten_cons, List.flatten_cons]; exact hr.append ih
  refine mul_raw hl (by have := q.1; omega) ?_ ?_ (post_newL r hr2 q.2.2.2 s.toks)
  · have := q.2.1; omega
  · rw [hrl, Nat.mul_comm]; unfold lim at h2; omega

theorem bin_sound {d : Nat} {hd : Bool} {op : Operator} {ra rb : Value} {a b : V} {Q : V → Mem → Prop} (r : Rel c μ s.heap) (ha : RV c s.heap ra a) (hb : RV c s.heap rb b) (q : binW op a b μ Q)
    (aok : AOK c d hd A fs μ s.heap) : wpAny (model c.prog c.w) A (binaryOp op ra rb) (Post c fs μ s Q) E s := by
  unfold binW at q
  split at q
  · split at q
    · obtain ⟨j, rfl, q⟩ := asInt_of q
      obtain ⟨t, rfl⟩ := ha.int_of
      obtain ⟨u, rfl⟩ := hb.int_of
      exact PyProof.Rows.add_int ⟨_, _, Step.toks r, .int _ _, q⟩
    · exact bin_cat r ha hb q
  · obtain ⟨i, j, rfl, rfl, q⟩ := ints2_of q
    obtain ⟨t, rfl⟩ := ha.int_of
    obtain ⟨u, rfl⟩ := hb.int_of
    exact PyProof.Rows.sub_int ⟨_, _, Step.toks r, .int _ _, q⟩
  · split at q
    · obtain ⟨j, rfl, q⟩ := asInt_of q
      obtain ⟨t, rfl⟩ := ha.int_of
      obtain ⟨u, rfl⟩ := hb.int_of
      refine PyProof.Rows.mul_int ⟨_, _, Step.toks r, .int _ _, q.2⟩ ?_
      rcases q.1 with h | h
      · exact IntMulOk.of_left (intBits_le_64 (by omega) (by omega))
      · exact IntMulOk.of_right (intBits_le_64 (by omega) (by omega))
    · exact bin_rep r ha hb q
  · obtain ⟨i, j, rfl, rfl, q1, q2, q3⟩ := ints2_of q
    obtain ⟨t, rfl⟩ := ha.int_of
    obtain ⟨u, rfl⟩ := hb.int_of
    refine PyProof.Rows.floordiv_int (Int.ne_of_gt q1) ⟨_, _, Step.toks r, .int _ _, ?_⟩ (.inl (PyProof.noPylong_small (by omega)))
    rw [Int.fdiv_eq_ediv_of_nonneg _ (Int.le_of_lt q1)]; exact q3
  · obtain ⟨i, j, rfl, rfl, q1, q2⟩ := ints2_of q
    obtain ⟨t, rfl⟩ := ha.int_of
    obtain ⟨u, rfl⟩ := hb.int_of
    refine PyProof.Rows.mod_int' (Int.ne_of_gt q1) ⟨_, _, Step.toks r, .int _ _, ?_⟩
    rw [Int.fmod_eq_emod_of_nonneg _ (Int.le_of_lt q1)]; exact q2
  · obtain ⟨i, j, rfl, rfl, q1, q2, q3, q4⟩ := ints2_of q
    obtain ⟨t, rfl⟩ := ha.int_of
    obtain ⟨u, rfl⟩ := hb.int_of
    exact PyProof.Rows.pow_int_small q1 (by omega) (by omega) ⟨_, _, Step.toks r, .int _ _, q4⟩
  · exact q.elim
end
end Mine

set_option autoImplicit false
namespace Mine
set_option linter.unusedVariables false
open PySem PySem.W PySem.Calls PyProof.Rows

section
variable {c : Ctx} {A : Around} {fs : List Env} {μ : Mem} {s : Shared} {E : Value → Shared → Prop}

/-- the values read as data -/
theorem rd_reads {h : Heap} (r : Rel c μ h) : ∀ (n : Nat) {rv : Value} {v : V} {d : PyData}, RV c h rv v → rd μ n v = some d → (∃ as, Reads h rv d as) ∧ d.canLay0 = true ∧ d.depth ≤ n := by
  intro n
  induction n with
  | zero => intro rv v d _ e; cases e
  | succ n ih =>
    have all : ∀ {xs : List V} {vs : List Value} {ds : List PyData}, RVs c h vs xs → rdAll (rd μ n) xs = some ds → (∃ as, ReadsAll h vs ds as) ∧ PyData.canLayAll0 ds = true ∧ PyData.depthAll ds ≤ n := by
      intro xs
      induction xs with
      | nil => intro vs ds hr e; cases hr; cases e; exact ⟨⟨_, .nil⟩, by simp [PyData.canLayAll0], by simp [PyData.depthAll]⟩
      | cons x xs ihx =>
        intro vs ds hr e
        cases hr with
        | cons hv hr =>
          unfold rdAll at e
          split at e
          · rename_i d ds' e1 e2
            cases e
            obtain ⟨⟨as, h1⟩, h2, h3⟩ := ih hv e1
            obtain ⟨⟨bs, g1⟩, g2, g3⟩ := ihx hr e2
            exact ⟨⟨_, .cons h1 g1⟩, by simp [PyData.canLayAll0, h2, g2], by simp only [PyData.depthAll]; omega⟩
          · cases e
    intro rv v d hv e
    cases hv with
    | none => cases e; exact ⟨⟨_, .none⟩, rfl, by simp [PyData.depth]⟩
    | bool b => cases e; exact ⟨⟨_, .bool b⟩, rfl, by simp [PyData.depth]⟩
    | int i t => cases e; exact ⟨⟨_, .int i t⟩, rfl, by simp [PyData.depth]⟩
    | str x t =>
      simp only [rd] at e
      split at e
      · rename_i hs; cases e; exact ⟨⟨_, .str x t⟩, by simpa [PyData.canLay0] using hs, by simp [PyData.depth]⟩
      · cases e
    | tup ho hc hd hl _ =>
      simp only [rd, Option.map_eq_some_iff] at e
      obtain ⟨ds, e, rfl⟩ := e
      obtain ⟨⟨as, g1⟩, g2, g3⟩ := all hl e
      exact ⟨⟨_, .tuple ho hc hd g1⟩, by simpa [PyData.canLay0] using g2, by simp only [PyData.depth]; omega⟩
    | ref a =>
      simp only [rd] at e
      split at e
      · rename_i l hl
        simp only [Option.map_eq_some_iff] at e
        obtain ⟨ds, e, rfl⟩ := e
        obtain ⟨_, ob, eo, ro⟩ := r.mem a _ hl
        cases ro with
        | list hr _ =>
          obtain ⟨⟨as, g1⟩, g2, g3⟩ := all hr e
          exact ⟨⟨_, .list eo rfl rfl g1⟩, by simpa [PyData.canLay0] using g2, by simp only [PyData.depth]; omega⟩
      · cases e
    | rng => cases e
    | exc => cases e
    | frz => cases e

theorem rd_shaped {h : Heap} (r : Rel c μ h) {rv : Value} {v : V} {d : PyData} (hv : RV c h rv v) (e : rd μ 8 v = some d) : (∃ as, Reads h rv d as) ∧ SeqAt.shaped d = true := by
  obtain ⟨h1, h2, h3⟩ := rd_reads r 8 hv e
  exact ⟨h1, by unfold SeqAt.shaped; rw [h2, Bool.true_and]; exact decide_eq_true (by omega)⟩

theorem deq_sound {d : Nat} {hd : Bool} {ra rb : Value} {a b : V} {e : Bool} {P : Value → Shared → Prop} (r : Rel c μ s.heap) (ha : RV c s.heap ra a) (hb : RV c s.heap rb b) (aok : AOK c d hd A fs μ s.heap) (q : deq μ a b = some e) :
    (P (.bool e) s → wpAny (model c.prog c.w) A (compareOp .Eq ra rb) P E s) ∧ (P (.bool (!e)) s → wpAny (model c.prog c.w) A (compareOp .NotEq ra rb) P E s) := by
  unfold deq at q
  split at q
  · cases ha; cases hb; cases q
    refine ⟨fun h => PyProof.Rows.eq_int ?_, fun h => PyProof.Rows.ne_int ?_⟩
    · exact h
    · exact h
  · split at q
    · rename_i x y e1 e2
      cases q
      obtain ⟨⟨as, g1⟩, g2⟩ := rd_shaped r ha e1
      obtain ⟨⟨bs, k1⟩, k2⟩ := rd_shaped r hb e2
      have hu : A.units + 64 < cLine := by have := aok.units; omega
      exact ⟨fun h => eq_dataH g1 k1 g2 k2 hu h, fun h => ne_dataH g1 k1 g2 k2 hu h⟩
    · cases q

theorem is_sound {ra rb : Value} {a b : V} {e : Bool} {h : Heap} (ha : RV c h ra a) (hb : RV c h rb b) (q : isO a b = some e) : plainIs ra rb = true ∧ (ra == rb) = e := by
  cases hb <;> simp only [isO] at q <;> (try cases q) <;> cases ha <;> first | exact ⟨rfl, rfl⟩ | (refine ⟨rfl, ?_⟩; rename_i a b; cases a <;> cases b <;> rfl) | (refine ⟨rfl, ?_⟩; simp)

theorem cmp_sound {d : Nat} {hd : Bool} {op : CmpOp} {ra rb : Value} {a b : V} {Q : V → Mem → Prop} (r : Rel c μ s.heap) (ha : RV c s.heap ra a) (hb : RV c s.heap rb b) (q : cmpW op μ a b Q)
    (aok : AOK c d hd A fs μ s.heap) : wpAny (model c.prog c.w) A (compareOp op ra rb) (Post c fs μ s Q) E s := by
  unfold cmpW at q
  split at q
  · rename_i e he
    have fin : ∀ b', e = b' → Post c fs μ s Q (.bool b') s := fun b' h => ⟨.bool b', μ, Step.refl r, .bool _, h ▸ q⟩
    cases op <;> simp only [cmpO] at he
    · exact (deq_sound r ha hb aok he).1 (fin _ rfl)
    · obtain ⟨e', h1, rfl⟩ := Option.map_eq_some_iff.mp he
      exact (deq_sound r ha hb aok h1).2 (fin _ rfl)
    · split at he
      · cases ha; cases hb; cases he; exact PyProof.Rows.lt_int (fin _ rfl)
      · cases he
    · split at he
      · cases ha; cases hb; cases he; exact PyProof.Rows.le_int (fin _ rfl)
      · cases he
    · split at he
      · cases ha; cases hb; cases he; exact PyProof.Rows.gt_int (fin _ rfl)
      · cases he
    · split at he
      · cases ha; cases hb; cases he; exact PyProof.Rows.ge_int (fin _ rfl)
      · cases he
    · obtain ⟨h1, h2⟩ := is_sound ha hb he
      exact wpAny_is_plain h1 (fin _ h2.symm)
    · obtain ⟨e', h0, rfl⟩ := Option.map_eq_some_iff.mp he
      obtain ⟨h1, h2⟩ := is_sound ha hb h0
      exact wpAny_isNot_plain h1 (fin _ (by rw [h2]))
    · cases he
    · cases he
  · exact q.elim

end
end Mine

set_option autoImplicit false
namespace Mine
set_option linter.unusedVariables false
open PySem PySem.W PySem.Calls PyProof.Rows Builtin Builtin.ObjectAttr

theorem ofString_inj {a b : String} (h : Str.ofString a = Str.ofString b) : a = b := by
  rw [Str.ofString_eq_toList, Str.ofString_eq_toList] at h
  injection h with h
  have h' : a.toList.map Char.toNat = b.toList.map Char.toNat := by simpa using congrArg Array.toList h
  have inj : ∀ x y : Char, x.toNat = y.toNat → x = y := fun x y e => Char.ext (by exact UInt32.toNat_inj.mp e)
  have h2 : a.toList = b.toList := by
    generalize a.toList = l at h'
    generalize b.toList = k at h'
    induction l generalizing k with
    | nil => cases k with | nil => rfl | cons _ _ => simp at h'
    | cons x l ih => cases k with
      | nil => simp at h'
      | cons y k => simp only [List.map_cons, List.cons.injEq] at h'; rw [inj x y h'.1, ih k h'.2]
  exact String.ext h2
theorem ofString_beq (a b : String) : (Str.ofString a == Str.ofString b) = (a == b) := by
  by_cases h : a = b
  · subst h; simp
  · have : Str.ofString a ≠ Str.ofString b := fun e => h (ofString_inj e)
    rw [beq_eq_false_iff_ne.mpr this, beq_eq_false_iff_ne.mpr h]

/-- facts of a plain class -/
structure ClsOk (K : Frag) (C : Addr) : Prop where
  ga : findIn K (.ref C) "__getattribute__" = some (some (.builtin "object.__getattribute__"))
  gat : findIn K (.ref C) "__getattr__" = some none
  sa : findIn K (.ref C) "__setattr__" = some (some (.builtin "object.__setattr__"))
  dict : hasDictIn K C = true
  over : plainOver K C = true

section
variable {c : Ctx} {A : Around} {fs : List Env} {μ : Mem} {s : Shared} {E : Value → Shared → Prop}

theorem RFs.get {h : Heap} {a : String} {v : V} : ∀ {es : List DictEntry} {fl : List (String × V)}, RFs c h es fl → fl.lookup a = some v → ∃ rv, getL (Str.ofString a) es = some (some rv) ∧ RV c h rv v
  | _, _, .nil, e => by cases e
  | _, _, .cons (x := x) (t := t) (rv := rv) (es := es) hh hv hr, e => by
    simp only [List.lookup_cons] at e
    unfold getL
    rw [List.find?_cons]
    simp only [Value.isStr, ofString_beq]
    have sym : (a == x) = (x == a) := BEq.comm
    cases q : x == a with
    | true =>
      rw [sym, q] at e
      cases e
      exact ⟨rv, rfl, hv⟩
    | false =>
      rw [sym, q] at e
      obtain ⟨rv', h1, h2⟩ := hr.get e
      refine ⟨rv', ?_, h2⟩
      unfold getL at h1
      simp only [Value.isStr] at h1
      split at h1
      · rename_i en he
        cases h1
        simp only [Value.isStr, he]
      · split at h1 <;> cases h1
theorem RFs.noRef {h : Heap} : ∀ {es : List DictEntry} {fl : List (String × V)}, RFs c h es fl → es.any (·.refKey) = false
  | _, _, .nil => rfl
  | _, _, .cons _ _ hr => by rw [List.any_cons, hr.noRef]; rfl
theorem RFs.miss {h : Heap} {a : String} : ∀ {es : List DictEntry} {fl : List (String × V)}, RFs c h es fl → fl.lookup a = none → es.find? (·.key.isStr (Str.ofString a)) = none
  | _, _, .nil, e => rfl
  | _, _, .cons (x := x) hh hv hr, e => by
    simp only [List.lookup_cons] at e
    rw [List.find?_cons]
    simp only [Value.isStr, ofString_beq]
    have sym : (a == x) = (x == a) := BEq.comm
    cases q : x == a with
    | true => rw [sym, q] at e; cases e
    | false => rw [sym, q] at e; exact hr.miss e
theorem RFs.missL {h : Heap} {a : String} {es : List DictEntry} {fl : List (String × V)} (x : RFs c h es fl) (e : fl.lookup a = none) : getL (Str.ofString a) es = some none := by
  unfold getL; rw [x.miss e, x.noRef]; rfl
theorem RFs.put {h : Heap} {a : String} {v : V} {rv : Value} {t : Tok} (hv : RV c h rv v) : ∀ {es : List DictEntry} {fl : List (String × V)}, RFs c h es fl → RFs c h (putL (Str.ofString a) (PyData.keyHash c.w.params (Str.ofString a)) (.str (Str.ofString a) t) rv es) (putA a v fl)
  | _, _, .nil => .cons rfl hv .nil
  | _, _, .cons (x := x) (t := t') hh hw hr => by
    unfold putL putA
    simp only [Value.isStr, ofString_beq]
    by_cases q : x = a
    · subst q; simp only [beq_self_eq_true, if_true]; exact .cons hh hv hr
    · simp only [beq_eq_false_iff_ne.mpr q, Bool.false_eq_true, if_false, if_neg q]; exact .cons hh hw (hr.put hv)
theorem putL_len (name : Str) (hs : Int) (k v : Value) : ∀ es : List DictEntry, (putL name hs k v es).length ≤ es.length + 1
  | [] => by simp [putL]
  | e :: r => by unfold putL; split <;> simp [putL_len name hs k v r]
theorem RFs.length {h : Heap} : ∀ {es : List DictEntry} {fl : List (String × V)}, RFs c h es fl → es.length = fl.length
  | _, _, .nil => rfl
  | _, _, .cons _ _ hr => by simp [hr.length]

theorem handed_of {h : Heap} {rv : Value} {v : V} (x : RV c h rv v) : handedIn rv = true := by cases x <;> rfl

theorem attr_sound {ra : Value} {v w : V} {a : String} {Q : V → Mem → Prop} {expr : Bool} (X : c.K.In s.heap) (r : Rel c μ s.heap) (hv : RV c s.heap ra v) (g : getA μ v a = some w)
    (hc : ∀ x C, c.cls x = some C → ClsOk c.K C) (ha : ∀ x C, c.cls x = some C → findIn c.K (.ref C) (Str.ofString a) = some none) (q : Q w μ) :
    wpAny (model c.prog c.w) A (getAttr ra (Str.ofString a) expr) (Post c fs μ s Q) E s := by
  unfold getA at g
  split at g
  · cases hv
    rename_i x
    split at g
    · rename_i cl d hx
      split at g
      · rename_i fl hd
        obtain ⟨C, h1, h2⟩ := r.insts hx
        obtain ⟨es, n, h3, h4⟩ := r.attr hd
        obtain ⟨rv, h5, h6⟩ := h4.get g
        have I : InstAt s.heap x (instObj C d) C (some (dictOf es n)) := ⟨h2, rfl, rfl, h3⟩
        exact get_value X I (hc _ _ h1).ga (findObj_own (hc _ _ h1).dict (ha _ _ h1) rfl h5) (handed_of h6) ⟨w, μ, Step.toks r, h6, q⟩
      · cases g
    · cases g
  · cases g

/-- a store into a dict of one's own, the raw heap -/
theorem store_raw {prog : Program} {w : World} {K : Frag} {x C dx : Addr} {es : List DictEntry} {n : Nat} {name : Str} {v : Value} {Q : Unit → Shared → Prop} (X : K.In s.heap) (hx : s.heap.get? x = some (instObj C dx)) (hd : s.heap.get? dx = some (dictOf es n)) (ok : ClsOk K C)
    (ht : findIn K (.ref C) name = some none) (hl : es.any (·.refKey) = false) (hz : es.length < 900)
    (h : Q () { s with heap := s.heap.update dx (Obj.putName name (PyData.keyHash w.params name) (.str name (s.toks + 1)) v), toks := s.toks + 1 + 1 }) :
    wpAny (model prog w) A (setAttr (.ref x) name v) Q E s := by
  have I : InstAt s.heap x (instObj C dx) C (some (dictOf es n)) := ⟨hx, rfl, rfl, hd⟩
  refine set_plain X I ok.sa ?_
  refine osa_open (s := { s with toks := s.toks + 1 }) X I ok.over (r := none) (by unfold takerIn; rw [ht]; rfl) fun b => ?_
  obtain ⟨cd, hc, hd'⟩ := any_some ok.dict
  have D' : (s.heap.update dx (Obj.putName name (PyData.keyHash w.params name) (.str name (s.toks + 1)) v)).get? dx = some (dictOf (putL name (PyData.keyHash w.params name) (.str name (s.toks + 1)) v es) (putN name es n)) := by
    rw [← putName_dict]
    exact Heap.get?_update_self _ hd (by rw [putName_dict]; rfl)
  refine wpAny_bind (wpAny_pure (wpAny_bind (wpAny_bind (wpAny_loadPart hx (wpAny_bind ((looks_clsIn (M := model prog w) X hc).here (s := { s with toks := s.toks + 1 }) ?_))))))
  rw [hd']
  refine wpAny_pure (a := some dx) (wpAny_bind (wpAny_pure (wpAny_bind ?_)))
  unfold nsSet
  refine wpAny_bind (wpAny_bind (wpAny_askSetting (wpAny_pure (wpAny_bind (wpAny_mkText (wpAny_bind (wpAny_loadPart hd ?_)))))))
  dsimp only
  have cc : (!es.toArray.any (·.key.isStr name) && es.toArray.any (·.refKey)) = false := by
    rw [← Array.any_toList, ← Array.any_toList, hl, Bool.and_false]
  rw [aRefKeyMayBeTheName_at, cc]
  refine wpAny_updatePart hd ?_
  refine wpAny_bind (wpAny_lookBehind D' (pastItsLine_dict (by have := putL_len name (PyData.keyHash w.params name) (.str name (s.toks + 1)) v es; rw [List.size_toArray, sizeLine_eq]; omega)) ?_)
  exact wpAny_pure h

theorem setattr_sound {rv : Value} {v : V} {x d : Addr} {cl a : String} {fl : List (String × V)} {P : Unit → Shared → Prop} (X : c.K.In s.heap) (r : Rel c μ s.heap) (hv : RV c s.heap rv v) (hx : μ x = some (.inst cl d)) (hd : μ d = some (.attrs fl))
    (hc : ∀ x C, c.cls x = some C → ClsOk c.K C) (ha : ∀ x C, c.cls x = some C → findIn c.K (.ref C) (Str.ofString a) = some none) (hz : fl.length < 900)
    (h : ∀ s', Step c fs μ (updM μ d (.attrs (putA a v fl))) s s' → P () s') : wpAny (model c.prog c.w) A (setAttr (.ref x) (Str.ofString a) rv) P E s := by
  obtain ⟨C, h1, h2⟩ := r.insts hx
  obtain ⟨es, n, h3, h4⟩ := r.attr hd
  refine store_raw X h2 h3 (hc _ _ h1) (ha _ _ h1) h4.noRef (by rw [h4.length]; exact hz) (h _ ?_)
  refine Step.store r hd (fun b hb => Heap.get?_update_other _ _ (Ne.symm hb)) (ob := dictOf (putL (Str.ofString a) (PyData.keyHash c.w.params (Str.ofString a)) (.str (Str.ofString a) (s.toks + 1)) rv es) (putN (Str.ofString a) es n)) ?_ (.attrs (h4.put hv))
  rw [← putName_dict]
  exact Heap.get?_update_self _ h3 (by rw [putName_dict]; rfl)

end
end Mine

set_option autoImplicit false
namespace Mine
set_option linter.unusedVariables false
open PySem PySem.W PySem.Calls PyProof.Rows

theorem subscripted_toE (e : E) (o i : Value) : subscripted (toE e) false o i = operate [o, i] (getItem o i) := by
  cases e <;> rfl

section
variable {c : Ctx} {A : Around} {fs : List Env} {μ : Mem} {s : Shared} {E : Value → Shared → Prop}

theorem seqIndex_of {l : List V} {i : Int} {w : V} (h : idx l i = some w) : ∃ j, seqIndex? i l.length = some j ∧ l[j]? = some w := by
  unfold idx at h
  split at h
  · rename_i h0
    have := (List.getElem?_eq_some_iff.mp h).1
    refine ⟨i.toNat, ?_, h⟩
    unfold seqIndex?
    simp only [show ¬ i < 0 from by omega, if_false]
    rw [if_pos (by simp only [Bool.and_eq_true, decide_eq_true_eq]; omega)]
  · split at h
    · rename_i h0 h1
      have := (List.getElem?_eq_some_iff.mp h).1
      refine ⟨(i + l.length).toNat, ?_, h⟩
      unfold seqIndex?
      simp only [show i < 0 from by omega, if_true]
      rw [if_pos (by simp only [Bool.and_eq_true, decide_eq_true_eq]; omega)]
    · cases h

theorem idx_bound {l : List V} {i : Int} {w : V} (h : idx l i = some w) : -(l.length : Int) ≤ i ∧ i < l.length := by
  unfold idx at h
  split at h
  · have := (List.getElem?_eq_some_iff.mp h).1; omega
  · split at h
    · have := (List.getElem?_eq_some_iff.mp h).1; omega
    · cases h

end
end Mine

set_option autoImplicit false
namespace Mine
set_option linter.unusedVariables false
set_option linter.unusedSimpArgs false
open PySem PySem.W PySem.Calls PyProof.Rows

theorem lim_val : lim = 1048576 := rfl

section
variable {c : Ctx} {A : Around} {fs : List Env} {μ : Mem} {s : Shared} {E : Value → Shared → Prop}

theorem ints_get {vs : List Value} {ns : List Int} (hi : IntsAre vs ns) {i : Nat} {n : Int} (h : ns[i]? = some n) : ∃ t, vs[i]? = some (.int n t) := hi.get i n h

theorem sub_sound {value : Expr} {e : Mine.E} {ra ri : Value} {v j w : V} {Q : V → Mem → Prop} (r : Rel c μ s.heap) (ha : RV c s.heap ra v) (hi : RV c s.heap ri j) (g : subO μ v j = some w) (q : Q w μ) :
    wpAny (model c.prog c.w) A (subscriptTail value (toE e) ra ri) (Post c fs μ s Q) E s := by
  unfold subO at g
  split at g
  · cases ha; cases hi
    rename_i x i t
    split at g
    · rename_i l hl
      obtain ⟨vs, n, h1, h2, h3⟩ := r.lst hl
      have hb := idx_bound g
      have hsz : vs.size = l.length := by rw [← Array.length_toList, h2.length]
      rw [lim_val] at h3
      have key : ∀ {jj : Nat} {y : V}, l[jj]? = some y → ∃ rv, vs[jj]? = some rv ∧ RV c s.heap rv y := fun h => by
        obtain ⟨rv, k1, k2⟩ := h2.get h
        exact ⟨rv, by rw [← Array.getElem?_toList]; exact k1, k2⟩
      refine tail_any h1.isList.typeIs slot_list_getitem.lookup ?_ (subscripted_toE e _ _)
      unfold idx at g
      split at g
      · obtain ⟨rv, k1, k2⟩ := key g
        exact wpAny_getItem_list h1.isList (by omega) (by omega) k1 ⟨w, μ, Step.refl r, k2, q⟩
      · split at g
        · obtain ⟨rv, k1, k2⟩ := key g
          exact wpAny_getItem_list_neg h1.isList (by omega) (by omega) (by omega) (by rw [hsz]; exact k1) ⟨w, μ, Step.refl r, k2, q⟩
        · cases g
    · cases g
  · cases ha with
    | @tup a o vs n _ ho hc hd hl hz =>
    cases hi
    obtain ⟨jj, k1, k2⟩ := seqIndex_of g
    have hb := idx_bound g
    rw [lim_val] at hz
    obtain ⟨rv, k3, k4⟩ := hl.get k2
    have ht : IsTup s.heap a vs.toList.toArray := ⟨_, ho, hc, n, by simpa using hd⟩
    exact item_tupleT ht (by omega) (by omega) (by rw [hl.length]; exact k1) k3 ⟨w, μ, Step.refl r, k4, q⟩ (subscripted_toE e _ _)
  · cases ha with
    | @frz a o vs n _ e1 e2 e3 e4 e5 =>
    cases hi
    split at g
    · obtain ⟨n', k1, rfl⟩ := Option.map_eq_some_iff.mp g
      have hb := (List.getElem?_eq_some_iff.mp k1).1
      obtain ⟨t, k2⟩ := ints_get e4 k1
      rw [lim_val] at e5
      have hL : s.heap.IsList a vs := ⟨_, r.base _ _ e1, e2, n, e3⟩
      exact tail_any hL.typeIs slot_list_getitem.lookup (wpAny_getItem_list hL (by omega) (by omega) (by rw [← Array.getElem?_toList]; exact k2) ⟨_, μ, Step.refl r, .int _ _, q⟩) (subscripted_toE e _ _)
    · cases g
  · cases g

theorem cut_sound {h : Heap} {vs : Array Value} {l : List V} {lo hi : Option Int} (hr : RVs c h vs.toList l) (h1 : nn lo) (h2 : nn hi) : RVs c h (slicePick vs lo hi none).toList (cut lo hi l) := by
  rw [slicePick_plain]
  simp only [List.toList_toArray, cut]
  have hl := hr.length
  rw [Array.length_toList] at hl
  have cl : ∀ i : Int, 0 ≤ i → clipAt vs.size i = min i.toNat vs.size := fun i hi => by
    have : clipAt vs.size ((i.toNat : Nat) : Int) = min i.toNat vs.size := clipAt_nat ..
    rw [← this]; congr 1; omega
  cases lo with
  | none =>
    simp only [Option.elim, List.drop_zero, Nat.sub_zero]
    cases hi with
    | none => simp only [Option.elim]; rw [List.take_of_length_le (by simp)]; exact hr
    | some u =>
      simp only [Option.elim, cl u h2]
      have := hr.take u.toNat
      by_cases hu : u.toNat ≤ vs.size
      · rw [Nat.min_eq_left hu]; exact this
      · rw [Nat.min_eq_right (by omega), List.take_of_length_le (by simp)]
        rw [List.take_of_length_le (by omega)]; exact hr
  | some i =>
    simp only [Option.elim, cl i h1]
    cases hi with
    | none =>
      simp only [Option.elim]
      by_cases hi : i.toNat ≤ vs.size
      · rw [Nat.min_eq_left hi, List.take_of_length_le (by simp)]; exact hr.drop _
      · rw [Nat.min_eq_right (by omega), Nat.sub_self, List.take_zero, List.drop_of_length_le (by omega)]; exact .nil
    | some u =>
      simp only [Option.elim, cl u h2]
      have hd := (hr.take u.toNat).drop i.toNat
      have e : (vs.toList.take u.toNat).drop i.toNat = (vs.toList.drop (min i.toNat vs.size)).take (min u.toNat vs.size - min i.toNat vs.size) := by
        rw [List.drop_take]
        by_cases hi : i.toNat ≤ vs.size
        · rw [Nat.min_eq_left hi]
          by_cases hu : u.toNat ≤ vs.size
          · rw [Nat.min_eq_left hu]
          · rw [Nat.min_eq_right (by omega), List.take_of_length_le (by simp; omega), List.take_of_length_le (by simp)]
        · rw [Nat.min_eq_right (a := i.toNat) (by omega)]
          rw [List.drop_of_length_le (by simp; omega), List.drop_of_length_le (by simp)]; simp
      rw [← e]; exact hd

/-- the slice object is made, then the list is cut -/
theorem slice_sound {value slice : Expr} {ra rl ru : Value} {v : V} {lo hi : Option Int} {Q : V → Mem → Prop} {s : Shared} (r : Rel c μ s.heap) (ha : RV c s.heap ra v) (pl : IsPart rl lo) (pu : IsPart ru hi) (g : sliceW μ v lo hi Q)
    (hs : ∀ a i, subscripted slice false a i = operate [i, a] (getItem a i)) :
    wpAny (model c.prog c.w) A (subscriptTail value slice ra (.ref s.heap.objs.size)) (Post c fs μ s Q) E { s with heap := s.heap.push { cls := .type "slice", data := .fields #[rl, ru, .none] } } := by
  unfold sliceW at g
  split at g
  · cases ha
    split at g
    · rename_i x l hl
      obtain ⟨vs, n, h1, h2, h3⟩ := r.lst hl
      have hz : vs.size ≤ sizeLine := newL_size h2 h3
      refine tail_any (Heap.IsList.typeIs (s := { s with heap := s.heap.push { cls := .type "slice", data := .fields #[rl, ru, .none] } }) (h1.isList.push _)) list_getitem_lookup
        (wpAny_getItem_list_slice (h1.isList.push _) (Heap.IsSliceOf.new ..) pl pu .none (by simp) ?_ hz) (hs _ _)
      have st : Step c fs μ μ s { s with heap := s.heap.push { cls := .type "slice", data := .fields #[rl, ru, .none] } } := Step.grows (n := s.toks) r fun b o e => Heap.get?_push_of_some _ e
      exact (post_newL (s := { s with heap := s.heap.push { cls := .type "slice", data := .fields #[rl, ru, .none] } }) st.rel (cut_sound (h2.step r st) g.1 g.2.1) g.2.2 s.toks).after st
    · exact g.elim
  · exact g.elim

end
end Mine

set_option autoImplicit false
namespace Mine
set_option linter.unusedVariables false
set_option linter.unusedSimpArgs false
open PySem PySem.W PySem.Calls PyProof.Rows

section
variable {c : Ctx} {A : Around} {fs : List Env} {μ : Mem} {s : Shared} {E : Value → Shared → Prop}

/-- isinstance against a built-in type -/
theorem isi_ty_sound {ra : Value} {v : V} {n : String} {b : Bool} {P : Value → Shared → Prop} (r : Rel c μ s.heap) (ha : RV c s.heap ra v) (hne : ∀ x, v ≠ .exc x) (g : isiO μ v (.ty n) = some b)
    (h : ∀ tk, P (.bool b) { s with toks := tk }) : wpAny (model c.prog c.w) A (call (.builtin "isinstance") [ra, .type n]) P E s := by
  have h0 := h s.toks
  have h' := h (s.toks + 1)
  have fin : ∀ t, ((if n = "int" ∨ n = "bool" ∨ n = "str" ∨ n = "tuple" ∨ n = "list" then (some t).map fun t => t == n || (t == "bool" && n == "int") else none) = some b) → (n = "int" ∨ n = "bool" ∨ n = "str" ∨ n = "tuple" ∨ n = "list") ∧ (t == n || (t == "bool" && n == "int")) = b := fun t g => by
    split at g
    · rename_i hn; exact ⟨hn, Option.some.inj g⟩
    · cases g
  cases ha with
  | none => obtain ⟨hn, h2⟩ := fin _ g; rcases hn with rfl | rfl | rfl | rfl | rfl <;> simp at h2 <;> subst h2 <;> first | exact IsiPair.NoneType_int h' | exact IsiPair.NoneType_bool h' | exact IsiPair.NoneType_str h' | exact IsiPair.NoneType_tuple h' | exact IsiPair.NoneType_list h'
  | bool x => obtain ⟨hn, h2⟩ := fin _ g; rcases hn with rfl | rfl | rfl | rfl | rfl <;> simp at h2 <;> subst h2 <;> first | exact IsiPair.bool_int h0 | exact IsiPair.bool_bool h0 | exact IsiPair.bool_str h' | exact IsiPair.bool_tuple h' | exact IsiPair.bool_list h'
  | int x t => obtain ⟨hn, h2⟩ := fin _ g; rcases hn with rfl | rfl | rfl | rfl | rfl <;> simp at h2 <;> subst h2 <;> first | exact IsiPair.int_int h0 | exact IsiPair.int_bool h' | exact IsiPair.int_str h' | exact IsiPair.int_tuple h' | exact IsiPair.int_list h'
  | str x t => obtain ⟨hn, h2⟩ := fin _ g; rcases hn with rfl | rfl | rfl | rfl | rfl <;> simp at h2 <;> subst h2 <;> first | exact IsiPair.str_int h' | exact IsiPair.str_bool h' | exact IsiPair.str_str h0 | exact IsiPair.str_tuple h' | exact IsiPair.str_list h'
  | tup ho hc _ _ _ => obtain ⟨hn, h2⟩ := fin _ g; rcases hn with rfl | rfl | rfl | rfl | rfl <;> simp at h2 <;> subst h2 <;> first | exact IsiPair.tuple_int ho hc h' | exact IsiPair.tuple_bool ho hc h' | exact IsiPair.tuple_str ho hc h' | exact IsiPair.tuple_tuple ho hc h0 | exact IsiPair.tuple_list ho hc h'
  | ref a =>
    simp only [isiO, tyO] at g
    cases hm : μ a with
    | none => rw [hm] at g; split at g <;> cases g
    | some o =>
      rw [hm] at g
      cases o with
      | list l =>
        obtain ⟨vs, k, e, _⟩ := r.lst hm
        obtain ⟨hn, h2⟩ := fin _ g
        rcases hn with rfl | rfl | rfl | rfl | rfl <;> simp at h2 <;> subst h2 <;> first | exact IsiPair.list_int e rfl h' | exact IsiPair.list_bool e rfl h' | exact IsiPair.list_str e rfl h' | exact IsiPair.list_tuple e rfl h' | exact IsiPair.list_list e rfl h0
      | _ => split at g <;> cases g
  | rng _ _ => simp only [isiO, tyO] at g; split at g <;> cases g
  | exc _ _ _ _ => exact absurd rfl (hne _)
  | frz _ _ _ _ _ => simp only [isiO, tyO] at g; split at g <;> cases g

theorem rng_items_sound {h : Heap} {a b : Int} {acc : Array Value} {n : Nat} (hn : n = (b - a).toNat) (h1 : acc.size = n) (h2 : ∀ (j : Nat) v, acc[j]? = some v → ∃ t, v = Value.int (a + j * 1) t) : RVs c h acc.toList (rngItems a b 1) := by
  have key : ∀ (l : List Value) (k : Nat), (∀ j v, l[j]? = some v → ∃ t, v = Value.int (a + (k + j : Nat)) t) → RVs c h l ((List.range' k l.length).map fun (i : Nat) => V.int (a + i)) := by
    intro l
    induction l with
    | nil => intro k _; exact .nil
    | cons x l ih =>
      intro k hk
      obtain ⟨t, rfl⟩ := hk 0 x rfl
      rw [List.length_cons, List.range'_succ, List.map_cons]
      refine .cons (by simpa using RV.int _ t) (ih (k + 1) fun j v hj => ?_)
      obtain ⟨t', rfl⟩ := hk (j + 1) v (by simpa using hj)
      exact ⟨t', by congr 2; omega⟩
  unfold rngItems
  rw [if_pos rfl, List.range_eq_range', ← hn, ← h1, ← Array.length_toList]
  refine key acc.toList 0 fun j v hj => ?_
  obtain ⟨t, e⟩ := h2 j v (by rw [← Array.getElem?_toList]; exact hj)
  exact ⟨t, by rw [e]; simp⟩

theorem rng_small {lo hi : Int} (q1 : hi - lo ≤ 1048576) (q2 : -2 ^ 62 < lo ∧ lo < 2 ^ 62) (q3 : -2 ^ 62 < hi ∧ hi < 2 ^ 62) : Builtin.Range.small lo hi 1 = true := by
  have hs : Builtin.Range.rangeSize lo hi 1 = ((hi - lo).toNat : Int) := by
    unfold Builtin.Range.rangeSize
    rw [if_pos (by decide)]
    split <;> omega
  unfold Builtin.Range.small
  rw [hs]
  unfold Builtin.Range.rangeFitsLong
  simp only [Bool.and_eq_true, Bool.or_eq_true, decide_eq_true_eq, beq_iff_eq, if_pos (show (1 : Int) > 0 from by decide)]
  omega

/-- calls of built-in functions and types -/
noncomputable def bltnV (f : String) : Value := if f = "len" ∨ f = "min" ∨ f = "max" ∨ f = "sum" ∨ f = "all" then .builtin f else .type f

theorem all_bools {l : Addr} {us : Array Value} {bs : List Bool} {Q : Value → Shared → Prop} {prog : Program} {w : World} (hh : A.handled = none) (hl : s.heap.IsList l us) (hb : LSm.BoolsAre us.toList bs)
    (h : ∀ h' tk, (∀ b o, s.heap.get? b = some o → h'.get? b = some o) → Q (.bool (bs.all id)) { s with heap := h', toks := tk }) : wpAny (model prog w) A (call (.builtin "all") [.ref l]) Q E s := by
  have hlt : l < s.heap.objs.size := by obtain ⟨_, e, _⟩ := hl; exact Heap.lt_size e
  refine call_all_walk (wpAny_pyIter_list hl ?_)
  refine ⟨s.heap.objs.size, [s.heap.objs.size, l], [s.heap.objs.size], us.size, _, _, fun i => (bs[i]?).getD true, rfl, Walks.list (A := A.in1) hh _ l (Nat.ne_of_lt hlt) us,
    ⟨⟨_, Heap.get?_push_size _ rfl, rfl, rfl⟩, hl.push _⟩, fun i v s' Q' E' hP hQ => ?_, fun h' tk hk => ?_⟩
  · obtain ⟨b, e, rfl⟩ := hb.get i v (by simpa using hP)
    simp only [e, Option.getD_some] at hQ
    exact wpAny_truthy_bool hQ
  · have e : ((List.range us.size).all fun i => (bs[i]?).getD true) = bs.all id := by
      rw [← Array.length_toList, hb.length]; exact LSm.range_all bs
    rw [e]
    exact h h' tk (LSm.kept_iter hk)
theorem allO_sound {h : Heap} : ∀ {l : List V} {us : List Value} {b : Bool}, RVs c h us l → allO l = some b → ∃ bs, LSm.BoolsAre us bs ∧ bs.all id = b
  | [], _, b, hr, e => by
    cases hr; cases e; exact ⟨[], .nil, rfl⟩
  | .bool x :: l, _, b, hr, e => by
    cases hr with
    | cons hv hr =>
    cases hv.bool_of
    unfold allO at e
    obtain ⟨b', e', rfl⟩ := Option.map_eq_some_iff.mp e
    obtain ⟨bs, h1, h2⟩ := allO_sound hr e'
    exact ⟨x :: bs, .cons x h1, by rw [List.all_cons, h2]; rfl⟩
  | .none :: _, _, _, _, e | .int _ :: _, _, _, _, e | .str _ :: _, _, _, _, e | .tup _ :: _, _, _, _, e | .ref _ :: _, _, _, _, e | .rng _ _ _ :: _, _, _, _, e | .exc _ :: _, _, _, _, e | .frz _ :: _, _, _, _, e => by cases e

theorem len_sound {rv : Value} {v : V} {Q : V → Mem → Prop} (r : Rel c μ s.heap) (hv : RV c s.heap rv v) (q : lenW v μ Q) : wpAny (model c.prog c.w) A (call (.builtin "len") [rv]) (Post c fs μ s Q) E s := by
  unfold lenW at q
  split at q
  · cases hv with
    | @tup a o us n _ ho hc hdd hl hz =>
    rw [lim_val] at hz
    have hsz := hl.length
    rw [Array.length_toList] at hsz
    refine PyProof.Rows.len_tuple ⟨_, ho, hc, n, hdd⟩ (by omega) ⟨_, _, Step.toks r, .int _ _, ?_⟩
    rw [hsz]; exact q
  · cases hv with
    | @frz a o us n _ e1 e2 e3 e4 e5 =>
    rw [lim_val] at e5
    have hsz := e4.length
    rw [Array.length_toList] at hsz
    refine call_len_list (items := us) ⟨_, r.base _ _ e1, e2, n, e3⟩ (by omega) ⟨_, _, Step.toks r, .int _ _, ?_⟩
    rw [hsz]; exact q
  · obtain ⟨x, l, rfl, hl, q⟩ := asL_of q
    cases hv.ref_of
    obtain ⟨us, n, h1, h2, h3⟩ := r.lst hl
    have hsz : us.size = l.length := by rw [← Array.length_toList, h2.length]
    rw [lim_val] at h3
    refine call_len_list h1.isList (by omega) ⟨_, _, Step.toks r, .int _ _, ?_⟩
    rw [hsz]; exact q
theorem rngB_sound {rvs : List Value} {vs : List V} {Q : V → Mem → Prop} (r : Rel c μ s.heap) (hr : RVs c s.heap rvs vs) (q : rngW vs μ Q) : wpAny (model c.prog c.w) A (call (.type "range") rvs) (Post c fs μ s Q) E s := by
  unfold rngW at q
  split at q
  · obtain ⟨b, rfl, q⟩ := asInt_of q
    obtain ⟨_, rfl, hv⟩ := hr.one
    obtain ⟨_, rfl⟩ := hv.int_of
    exact call_range_1 ⟨_, _, Step.grows r fun b o e => Heap.get?_push_of_some _ e, .rng (Heap.get?_push_size _ rfl) ⟨by decide, ⟨q.2.1, Int.lt_of_le_of_lt q.1 (by decide)⟩, .inl rfl⟩, q.2.2⟩
  · obtain ⟨a, b, rfl, rfl, q⟩ := ints2_of q
    obtain ⟨_, _, rfl, hv, hw⟩ := hr.two
    obtain ⟨_, rfl⟩ := hv.int_of
    obtain ⟨_, rfl⟩ := hw.int_of
    exact call_range_2 ⟨_, _, Step.grows r fun b o e => Heap.get?_push_of_some _ e, .rng (Heap.get?_push_size _ rfl) ⟨q.2.2.1, q.2.1, .inl rfl⟩, q.2.2.2⟩
  · obtain ⟨a, b, rfl, rfl, q'⟩ := ints2_of q
    obtain ⟨z, rfl, rfl, u⟩ := asInt_of q'
    cases hr with
    | cons hv hr =>
    obtain ⟨_, _, rfl, hw, hx⟩ := hr.two
    obtain ⟨_, rfl⟩ := hv.int_of
    obtain ⟨_, rfl⟩ := hw.int_of
    obtain ⟨_, rfl⟩ := hx.int_of
    exact call_range_3 (by decide) ⟨_, _, Step.grows (n := s.toks) r fun b o e => Heap.get?_push_of_some _ e, .rng (Heap.get?_push_size _ rfl) ⟨u.2.2.1, u.2.1, .inr rfl⟩, u.2.2.2⟩ (.inl (PyProof.noPylong_small (by decide)))
  · exact q.elim
theorem listB_sound {d : Nat} {hd : Bool} {rv : Value} {v : V} {Q : V → Mem → Prop} (r : Rel c μ s.heap) (hv : RV c s.heap rv v) (q : listW hd v μ Q) (aok : AOK c d hd A fs μ s.heap) : wpAny (model c.prog c.w) A (call (.type "list") [rv]) (Post c fs μ s Q) E s := by
  have hn : s.heap.get? s.heap.objs.size = none := Heap.get?_none_of_le (Nat.le_refl _)
  unfold listW at q
  split at q
  · cases hv with
    | rng hrg hok =>
    obtain ⟨q0, rfl, q1, q2, q3, q4⟩ := q
    clear hok
    rename_i lo hi a t1 t2 t3
    rw [lim_val] at q1
    have hsize : Builtin.Range.rangeSize lo hi 1 = ((hi - lo).toNat : Int) := by
      unfold Builtin.Range.rangeSize
      rw [if_pos (by decide)]
      split <;> omega
    refine call_list_range (aok.handled q0) hrg (rng_small q1 q2 q3) hsize (by omega) fun h' tk acc' c' hk hD hI => ?_
    exact ⟨_, _, Step.alloc r hk hn hD (.list (rng_items_sound rfl hI.1 hI.2) q4.1), .ref _, q4.2 _ (r.free hn)⟩
  · obtain ⟨x, l, rfl, hl, q⟩ := asL_of q
    cases hv.ref_of
    obtain ⟨us, n, h1, h2, h3⟩ := r.lst hl
    refine call_list_seq _ (.inl rfl) h1 rfl rfl (fun h' c' hk hD => ?_) (newL_size h2 h3)
    exact ⟨_, _, Step.alloc (n := s.toks) r hk hn hD (.list (h2.mono r (.of_keeps fun b o e _ => hk b o e)) h3), .ref _, q.2 _ (r.free hn)⟩

theorem bltn_sound {d : Nat} {hd : Bool} {f : String} {rvs : List Value} {vs : List V} {Q : V → Mem → Prop} (r : Rel c μ s.heap) (hr : RVs c s.heap rvs vs) (q : bltnW hd f vs μ Q) (aok : AOK c d hd A fs μ s.heap) :
    wpAny (model c.prog c.w) A (call (bltnV f) rvs) (Post c fs μ s Q) E s := by
  unfold bltnW at q
  split at q
  · rename_i e; subst e
    obtain ⟨v, rfl, q⟩ := one_of q
    obtain ⟨_, rfl, hv⟩ := hr.one
    exact len_sound r hv q
  split at q
  · rename_i e; subst e
    obtain ⟨v, rfl, q⟩ := one_of q
    obtain ⟨_, rfl, hv⟩ := hr.one
    unfold tr truth at q
    cases v with
    | bool b => cases hv.bool_of; exact call_int_bool ⟨_, _, Step.toks r, .int _ _, q⟩
    | _ => exact q.elim
  split at q
  · rename_i e; subst e
    obtain ⟨q0, q⟩ := q
    obtain ⟨v, w, rfl, q⟩ := two_of q
    obtain ⟨a, b, rfl, rfl, q⟩ := ints2_of q
    obtain ⟨_, _, rfl, hv, hw⟩ := hr.two
    obtain ⟨_, rfl⟩ := hv.int_of
    obtain ⟨_, rfl⟩ := hw.int_of
    refine min_two_ints (aok.handled q0) fun h' tk hk => ⟨.int (min a b), μ, Step.grows r hk, ?_, q⟩
    by_cases hb : b < a
    · rw [if_pos hb, Int.min_eq_right (Int.le_of_lt hb)]; exact .int _ _
    · rw [if_neg hb, Int.min_eq_left (Int.not_lt.mp hb)]; exact .int _ _
  split at q
  · rename_i e; subst e
    obtain ⟨q0, q⟩ := q
    obtain ⟨v, w, rfl, q⟩ := two_of q
    obtain ⟨a, b, rfl, rfl, q⟩ := ints2_of q
    obtain ⟨_, _, rfl, hv, hw⟩ := hr.two
    obtain ⟨_, rfl⟩ := hv.int_of
    obtain ⟨_, rfl⟩ := hw.int_of
    refine max_two_ints (aok.handled q0) fun h' tk hk => ⟨.int (max a b), μ, Step.grows r hk, ?_, q⟩
    by_cases hb : b > a
    · rw [if_pos hb, Int.max_eq_right (Int.le_of_lt hb)]; exact .int _ _
    · rw [if_neg hb, Int.max_eq_left (Int.not_lt.mp hb)]; exact .int _ _
  split at q
  · rename_i e; subst e
    exact rngB_sound r hr q
  split at q
  · rename_i e; subst e
    obtain ⟨v, rfl, q⟩ := one_of q
    obtain ⟨_, rfl, hv⟩ := hr.one
    exact listB_sound r hv q aok
  split at q
  · rename_i e; subst e
    obtain ⟨q0, q⟩ := q
    obtain ⟨v, rfl, q⟩ := one_of q
    obtain ⟨_, rfl, hv⟩ := hr.one
    obtain ⟨x, l, rfl, hl, q⟩ := asL_of q
    cases hv.ref_of
    obtain ⟨us, n, h1, h2, h3⟩ := r.lst hl
    unfold allW at q
    split at q
    · rename_i b e
      obtain ⟨bs, g1, rfl⟩ := allO_sound h2 e
      exact all_bools (aok.handled q0) h1.isList g1 fun h' tk hk => ⟨_, _, Step.grows r hk, .bool _, q⟩
    · exact q.elim
  · exact q.elim
end
end Mine

set_option autoImplicit false
namespace Mine
set_option linter.unusedVariables false
set_option linter.unusedSimpArgs false
open PySem PySem.W PySem.Calls PyProof.Rows

section
variable {c : Ctx} {A : Around} {fs : List Env} {μ : Mem} {s : Shared} {E : Value → Shared → Prop}

theorem step_list {a : Addr} {l l' : List V} {vs vs' : Array Value} {n : Nat} {f : Array Value → Array Value} (r : Rel c μ s.heap) (hm : μ a = some (.list l)) (hl : IsL s.heap a vs n) (e : f vs = vs') (hr : RVs c s.heap vs'.toList l') (hz : l'.length ≤ lim) :
    Step c fs μ (updM μ a (.list l')) s { s with heap := s.heap.update a (Obj.mapSeq f) } := by
  subst e
  exact Step.store (n := s.toks) r hm (fun b hb => Heap.get?_update_other _ _ (Ne.symm hb)) (hl.update f) (.list hr hz)

/-- a method of a list -/
theorem lst_sound {d : Nat} {hd : Bool} {m : String} {a : Addr} {rvs : List Value} {vs : List V} {Q : V → Mem → Prop} (r : Rel c μ s.heap) (hr : RVs c s.heap rvs vs) (q : lstW m a vs μ Q) (aok : AOK c d hd A fs μ s.heap) :
    wpAny (model c.prog c.w) A (call (.builtin ("list." ++ m)) (.ref a :: rvs)) (Post c fs μ s Q) E s := by
  unfold lstW at q
  replace q := asL_of q
  obtain ⟨_, l, e, hm, q⟩ := q
  injection e with e
  subst e
  obtain ⟨us, n, h1, h2, h3⟩ := r.lst hm
  have hz : us.size ≤ sizeLine := newL_size h2 h3
  split at q
  · rename_i e; subst e
    replace q := one_of q
    obtain ⟨v, rfl, q⟩ := q
    obtain ⟨rv, rfl, hv⟩ := hr.one
    refine call_meets F.slot_list_append ⟨_, h1, rfl⟩ F.entry_list_append (F.args_list_append_2 _ _) (list_append a us n rv hz) ⟨h1, .none, _, step_list r hm h1 rfl (l' := l ++ [v]) ?_ (by rw [List.length_append]; exact q.1), .none, q.2⟩
    rw [Array.toList_push]; exact h2.append (.cons hv .nil)
  split at q
  · rename_i e; subst e
    replace q := one_of q
    obtain ⟨v, rfl, q⟩ := q
    obtain ⟨rv, rfl, hv⟩ := hr.one
    replace q := asL_of q
    obtain ⟨b, k, rfl, hb, q⟩ := q
    cases hv.ref_of
    obtain ⟨ws, n', g1, g2, g3⟩ := r.lst hb
    have hsz : us.size = l.length := by rw [← Array.length_toList, h2.length]
    have hsw : ws.size = k.length := by rw [← Array.length_toList, g2.length]
    have q2 := q.2.1
    rw [lim_val] at q2
    refine call_meets F.slot_list_extend ⟨_, h1, rfl⟩ F.entry_list_extend (F.args_list_extend_2 _ _) (AutoSeq1.list_extend_list_list_0 a us n _ ws n' ?_ hz (by rw [sizeLine_eq]; omega)) ⟨h1, g1, .none, _, step_list r hm h1 rfl (l' := l ++ k) ?_ (by rw [List.length_append]; exact q.2.1), .none, q.2.2⟩
    · simp [Builtin.List.listTooLong, sizeLine_eq]; omega
    · rw [Array.toList_append]; exact h2.append g2
  split at q
  · rename_i e; subst e
    replace q := one_of q
    obtain ⟨v, rfl, q⟩ := q
    obtain ⟨rv, rfl, hv⟩ := hr.one
    replace q := asInt_of q
    obtain ⟨i, rfl, h0, q⟩ := q
    obtain ⟨t, rfl⟩ := hv.int_of
    split at q
    · rename_i v hv
      obtain ⟨rv, k1, k2⟩ := h2.get hv
      have hb := (List.getElem?_eq_some_iff.mp hv).1
      have hsz : us.size = l.length := by rw [← Array.length_toList, h2.length]
      rw [lim_val] at h3
      have st : Step c fs μ (updM μ a (.list (l.eraseIdx i.toNat))) s _ := step_list (f := fun x => x.eraseIdxIfInBounds i.toNat) r hm h1 rfl (l' := l.eraseIdx i.toNat) (by rw [Array.toList_eraseIdxIfInBounds]; exact h2.eraseIdx _) (by have := List.length_eraseIdx_le l i.toNat; rw [lim_val]; omega)
      refine call_meets F.slot_list_pop ⟨_, h1, rfl⟩ F.entry_list_pop (F.args_list_pop_2 _ _) (MeetsSeq.list_pop_at a us n i t i.toNat rv (by simp [Builtin.List.listFitsIndex]; omega) ?_ (by rw [← Array.getElem?_toList]; exact k1) hz)
        ⟨h1, v, _, st, k2.step r st, q⟩
      unfold seqIndex?
      simp only [show ¬ i < 0 from by omega, if_false]
      rw [if_pos (by simp only [Bool.and_eq_true, decide_eq_true_eq]; omega)]
    · exact q.elim
  split at q
  · rename_i e; subst e
    obtain ⟨rfl, q⟩ := q
    cases hr
    refine call_meets F.slot_list_reverse ⟨_, h1, rfl⟩ F.entry_list_reverse (F.args_list_reverse_1 _) (AutoSeq1.list_reverse_list_0 a us n hz) ⟨h1, .none, _, step_list r hm h1 rfl (l' := l.reverse) ?_ (by rw [List.length_reverse]; exact h3), .none, q⟩
    rw [Array.toList_reverse]; exact h2.reverse
  split at q
  · rename_i e; subst e
    obtain ⟨rfl, q⟩ := q
    cases hr
    exact call_meets F.slot_list_clear ⟨_, h1, rfl⟩ F.entry_list_clear (F.args_list_clear_1 _) (AutoSeq1.list_clear_list_0 a us n hz) ⟨h1, .none, _, step_list r hm h1 rfl (l' := []) .nil (Nat.zero_le _), .none, q⟩
  · exact q.elim
end
end Mine

set_option autoImplicit false
set_option maxRecDepth 100000
namespace Mine
open PySem PySem.Spec PySem.W PySem.Calls PyProof.Rows PySem.Builtin PySem.Builtin.ObjectAttr PySem.Builtin.Getset_descriptor

theorem looks_data {K : Frag} {M : Model} {h : Heap} (X : K.In h) {x C : Addr} {name : Str} {a g : Value} (ha : findIn K (.ref C) name = some (some a)) (hg : specialIn K a "__get__" = some (some g)) (hd : takesIn K a = some true) : Looks M h (find (.ref x) (.ref C) name) (.bind g a) :=
  (looks_findIn X ha).andThen ((looks_specialIn X hg).andThen ((show Looks M h (dataDescriptor? (some a) (some g)) (some (g, a)) from (looks_takesIn X hd).andThen .now).andThen (Looks.tag .now)))

structure ExcK (K : Frag) (C : Addr) : Prop where
  is : (clsIn K C).isSome = true
  ga : findIn K (.ref C) "__getattribute__" = some (some (.builtin "BaseException.__getattribute__"))
  gt : findIn K (.ref C) "__getattr__" = some none
  cl : findIn K (.ref C) "__class__" = some (some (.builtin "object.__class__"))
  gn : specialIn K (.builtin "object.__class__") "__get__" = some (some (.builtin "getset_descriptor.__get__"))
  tk : takesIn K (.builtin "object.__class__") = some true
  mo : mroIn K C (.type "object") = some true
  mb : mroIn K C (.type "BaseException") = some true

theorem class_getX {prog : Program} {w : World} {A : Around} {s : Shared} {K : Frag} {x C : Addr} {tp : Value} {R : Result → Shared → Prop} (X : K.In s.heap) (L0 : Looks (model prog w) s.heap (typeOf (.ref x)) (.ref C)) (hm : mroIn K C (.type "object") = some true)
    (h : R (.ok (.ret (.ref C))) s) : codeAny (model prog w) A (.call (.builtin "getset_descriptor.__get__") ⟨[.builtin "object.__class__", .ref x, tp], []⟩) R s := by
  obtain ⟨hh, g, dr, t, os⟩ := s
  have L1 := looks_mroIn (M := model prog w) X hm
  refine codeAny_call_builtin KF.slot_gs.plain KF.entry_gs (KF.slot_gs.check _ _ _ _ _ _ _ _ KF.type_class (KF.args_gs _ _ _) ?_)
  unfold Builtin.«getset_descriptor.__get__» descrGet
  rw [dga_obj]
  refine wpAny_bind (wpAny_pure ?_)
  unfold descrGetter descrCheckInstance descrNameAndClass isInstance
  simp only [KF.owner_class]
  repeat lk
  refine ⟨Code.quiet_builtin _ (by decide +kernel), codeAny_builtin KF.entry_class ?_⟩
  unfold Builtin.«object.__class__» shownTypeOf
  repeat lk
  exact h

theorem exc_check {K : Frag} {M : Model} {A : Around} {E : Value → Shared → Prop} {s : Shared} {e C : Addr} {nameV : Value} {Q : Unit → Shared → Prop} (X : K.In s.heap) (Z : ExcK K C) (L0 : Looks M s.heap (typeOf (.ref e)) (.ref C)) (hq : Q () s) :
    wpAny M A (checkBuiltinCall "BaseException.__getattribute__" ⟨[.ref e, nameV], []⟩) Q E s := by
  have hk : builtinKind "BaseException.__getattribute__" = some .slot := by decide +kernel
  have hsplit : splitId "BaseException.__getattribute__" = some ("BaseException", "__getattribute__") := by decide +kernel
  have L1 : Looks M s.heap (isInstance (.ref e) (.type "BaseException")) true := L0.andThen (looks_mroIn X Z.mb)
  obtain ⟨hh, g, dr, t, os⟩ := s
  simp only [checkBuiltinCall, hk, hsplit]
  refine wpAny_bind (L1.at ?_)
  have ha := F.args_bexc_ga (.ref e) nameV
  simp only [Bool.not_true, Bool.false_eq_true, if_false]
  cases hsig : Manifest.signature? "BaseException.__getattribute__" with
  | none => exact wpAny_pure hq
  | some sig =>
    simp only [argsOk, hsig] at ha
    show wpAny _ _ (Bind.checkArgs _ _ _) _ _ _
    rw [ha]; exact wpAny_pure hq

theorem exc_class {K : Frag} {prog : Program} {w : World} {A : Around} {E : Value → Shared → Prop} {s : Shared} {e C : Addr} {o : Obj} {Q : Option Value → Shared → Prop} (X : K.In s.heap) (Z : ExcK K C) (he : s.heap.get? e = some o) (hc : o.cls = .ref C)
    (h : Q (some (.ref C)) { s with toks := s.toks + 1 }) : wpAny (model prog w) A (getAttr? (.ref e) "__class__") Q E s := by
  obtain ⟨hh, g, d, t, os⟩ := s
  have L0 : Looks (model prog w) hh (typeOf (.ref e)) (.ref C) := hc ▸ (Looks.ld he).andThen .now
  have L1 := looks_findIn (M := model prog w) X Z.ga
  have L2 := looks_findIn (M := model prog w) X Z.gt
  have L3 := looks_data (M := model prog w) (x := e) X Z.cl Z.gn Z.tk
  have hx2 : (Value.builtin "BaseException.__getattribute__" == Value.builtin "object.__getattribute__") = false := by decide +kernel
  have f3 := F.attrBase_ValueError.ga.bind (.ref e)
  unfold getAttr? getAttrBy? getAttrBy
  refine wpAny_bind (wpAny_mkText (wpAny_bind (wpAny_attempt (wpAny_holding (wpAny_bind (L0.at (wpAny_bind (L1.at ?_))))))))
  simp only [hx2, Bool.and_false, Bool.false_eq_true, if_false]
  unfold getAttrByItsOwn
  refine wpAny_bind (L2.at (wpAny_bind (wpAny_attempt (wpAny_holding ?_))))
  show wpAny _ _ (boundAndCalled _ _ _) _ _ _
  unfold boundAndCalled
  refine wpAny_bind (wpAny_of_eq f3 (wpAny_call (codeAny_call_builtin F.attrBase_ValueError.ga.plain F.entry_bexc_ga (exc_check X Z L0 ?_))))
  have hs : slotArgs "__getattribute__" 1 ⟨[.ref e, .str "__class__" t], []⟩ = pure (.ref e, [.str "__class__" t]) := by kernel_rfl
  show wpAny _ _ (Builtin.«object.__getattribute__» ⟨[.ref e, .str "__class__" t], []⟩) _ _ _
  unfold Builtin.«object.__getattribute__»
  refine wpAny_bind (wpAny_of_eq hs ?_)
  refine wpAny_bind (wpAny_pure (wpAny_bind (L0.at (wpAny_bind (L3.at ?_)))))
  show wpAny _ _ (holding [_] (call (.builtin "getset_descriptor.__get__") [.builtin "object.__class__", .ref e, .ref C]) >>= ret) _ _ _
  refine wpAny_bind (wpAny_holding (wpAny_call (class_getX X L0 Z.mo (wpAny_pure ?_))))
  exact handed_on rfl (wpAny_pure h)
end Mine

set_option autoImplicit false
set_option maxRecDepth 100000
namespace Mine
open PySem PySem.Spec PySem.W PySem.Calls PyProof.Rows

theorem cls_at {K : Frag} {C : Addr} (h : (clsIn K C).isSome = true) : ∃ c d cd sl, K.lookup C = some ⟨c, d, .cls cd, sl⟩ := by
  unfold clsIn at h
  split at h
  · rename_i ho; exact ⟨_, _, _, _, ho⟩
  · cases h
theorem kitx_exc {K : Frag} {e C : Addr} (Z : ExcK K C) : KitX K (.ref e) (.ref C) (fun h => ∃ o, h.get? e = some o ∧ o.cls = .ref C) where
  ty := fun _ _ _ ⟨_, ho, hc⟩ => hc ▸ (Looks.ld ho).andThen .now
  it := fun _ _ X _ => by
    obtain ⟨_, _, _, _, ho⟩ := cls_at Z.is
    intro A' Q' E' s' k q
    unfold isType loadHead
    exact wpAny_bind (wpAny_loadPart (k _ _ (X _ _ ho)) (wpAny_pure q))
  ne := fun h tp dd its n sl X htp => by
    obtain ⟨_, _, _, _, ho⟩ := cls_at Z.is
    refine Bool.eq_false_iff.mpr fun q => ?_
    have e : C = tp := Value.ref.inj (beq_iff_eq.mp q)
    subst e
    have z := (X _ _ ho).symm.trans htp
    cases z
  ca := fun X ⟨_, ho, hc⟩ k => exc_class X Z ho hc k
end Mine

set_option autoImplicit false
namespace Mine
set_option linter.unusedVariables false
set_option linter.unusedSimpArgs false
open PySem PySem.W PySem.Calls PyProof.Rows

/-- what a call of a function of the text does -/
noncomputable def SC (c : Ctx) (d : Nat) (hd : Bool) : Sc := fun f vs μ Q X =>
  ∃ fa, c.fn f = some fa ∧ ∀ A fs s rvs, AOK c d hd A fs μ s.heap → Rel c μ s.heap → RVs c s.heap rvs vs →
    codeAny (model c.prog c.w) A (.call (.ref fa) ⟨rvs, []⟩) (fun r s' => match r with
      | .ok (.ret rv) => Post c fs μ s Q rv s'
      | .ok _ => False
      | .error re => XPost c fs μ s X re s') s

noncomputable def bltNames : List String := ["len", "int", "min", "max", "range", "list", "sum", "all"]
noncomputable def tyNames : List String := ["int", "bool", "str", "tuple", "list", "ValueError"]

noncomputable def vErr : List Value := [.type "ValueError", .type "Exception", .type "BaseException", .type "object"]

structure Good (c : Ctx) (sg : Sig) : Prop where
  X : c.K.In c.base
  top : ∃ p loose mg mb, TopRead p loose mg mb c.base
  cls : ∀ x C, c.cls x = some C → ClsOk c.K C
  attr : ∀ x C a, c.cls x = some C → a ∈ sg.attrs → findIn c.K (.ref C) (Str.ofString a) = some none
  meth : ∀ x C m, c.cls x = some C → (x, m) ∈ sg.meths → ∃ f, c.fn (x ++ "." ++ m) = some f ∧ findIn c.K (.ref C) (Str.ofString m) = some (some (.ref f)) ∧ typeIn c.K (.ref f) = some (.type "function") ∧ keepIn c.K (.ref f) = true
  fn : ∀ f ∈ sg.fns, ∃ fa, c.fn f = some fa ∧ nsIn c.K mainGlobals (Str.ofString f) = some (some (.ref fa)) ∧ keepIn c.K (.ref fa) = true
  new : ∀ x ∈ sg.clss, ∃ C fI, c.cls x = some C ∧ nsIn c.K mainGlobals (Str.ofString x) = some (some (.ref C)) ∧ makesIn c.K C = true ∧ keepIn c.K (.ref C) = true ∧ c.fn (x ++ ".__init__") = some fI ∧
    findIn c.K (.ref C) "__init__" = some (some (.ref fI)) ∧ typeIn c.K (.ref fI) = some (.type "function")
  blt : ∀ f ∈ "isinstance" :: bltNames ++ tyNames, nsIn c.K mainGlobals (Str.ofString f) = some none
  exc : ∀ x C, c.exc x = some C → nsIn c.K mainGlobals (Str.ofString x) = some (some (.ref C)) ∧ excIn c.K C vErr "ValueError.__new__" = true
  excs : ∀ x ∈ sg.excs, ∃ C, c.exc x = some C
  sub : ∀ x y C D, c.exc x = some C → c.exc y = some D → exmOne c.K (.ref C) (.ref D) = some (isSub x y)
  exk : ∀ x C, c.exc x = some C → ExcK c.K C ∧ kitOne c.K (.ref C) (.type "ValueError") = some true
  kit : ∀ x y C D, c.exc x = some C → c.exc y = some D → kitOne c.K (.ref C) (.ref D) = some (isSub x y)
  const : ∀ x v, sg.consts.lookup x = some v → ∃ rv, nsIn c.K mainGlobals (Str.ofString x) = some (some rv) ∧ ∀ h, RV c h rv v

noncomputable def isLoc : Option NameKind → Bool
  | some .local | some .cell | some .free => true
  | _ => false

noncomputable def okX (sg : Sig) (ns : List (Str × NameKind)) (n : String) : Bool := sg.excs.contains n && ns.lookup (Str.ofString n) == some .globalImplicit && n != "__debug__"
mutual
noncomputable def okE (sg : Sig) (ns : List (Str × NameKind)) : E → Bool
  | .none _ | .bool _ _ | .int _ _ | .str _ _ => true
  | .loc x _ => isLoc (ns.lookup (Str.ofString x)) && x != "__debug__" && x != "__classdict__"
  | .glob x _ => ns.lookup (Str.ofString x) == some .globalImplicit && (sg.consts.lookup x).isSome && x != "__debug__"
  | .bin _ l r _ => okE sg ns l && okE sg ns r
  | .neg e _ | .not e _ => okE sg ns e
  | .and es _ | .or es _ => okEs sg ns es
  | .cmp _ l r _ => okE sg ns l && okE sg ns r
  | .cmp2 _ _ a b c _ => okE sg ns a && okE sg ns b && okE sg ns c
  | .attr o a _ => okE sg ns o && sg.attrs.contains a && (match o with | .loc _ _ => true | _ => false)
  | .sub o i _ => okE sg ns o && okE sg ns i
  | .sliceL o i _ _ | .sliceU o i _ _ => okE sg ns o && okE sg ns i
  | .sliceLU _ _ _ _ _ => false
  | .tup es _ _ | .list es _ => okEs sg ns es && decide (es.length < 1000)
  | .call f es _ _ => ns.lookup (Str.ofString f) == some .globalImplicit && sg.fns.contains f && okEs sg ns es && f != "__debug__"
  | .new f es _ _ => ns.lookup (Str.ofString f) == some .globalImplicit && sg.clss.contains f && okEs sg ns es && f != "__debug__"
  | .bltn f es _ _ => ns.lookup (Str.ofString f) == some .globalImplicit && bltNames.contains f && okEs sg ns es
  | .isi e cl _ _ _ => ns.lookup (Str.ofString "isinstance") == some .globalImplicit && okE sg ns e && (match cl with
      | .ty n => tyNames.contains n && ns.lookup (Str.ofString n) == some .globalImplicit
      | .own n => okX sg ns n
      | .owns l => (l.all fun n => okX sg ns n.1) && decide (l.length < 1000))
  | .meth o m es pa p => okE sg ns o && okEs sg ns es && pa.endLine == p.line && decide (es.length < 20) && (match o with
      | .call _ es _ _ | .new _ es _ _ | .bltn _ es _ _ => !es.isEmpty
      | _ => true)
  | .comp elt x it ifs sc _ _ => ifs.isEmpty && okE sg ns it && okE sg sc.names elt && sc.kind == .function && (sc.names.all fun y => y.2 == .local && sc.names.lookup y.1 == some .local) && sc.names.lookup (Str.ofString x) == some .local
noncomputable def okEs (sg : Sig) (ns : List (Str × NameKind)) : List E → Bool
  | [] => true
  | e :: es => okE sg ns e && okEs sg ns es
end

structure St (c : Ctx) (d : Nat) (hd : Bool) (A : Around) (fs : List Env) (env : Env) (ρ : Loc) (μ : Mem) (s : Shared) : Prop where
  rel : Rel c μ s.heap
  er : ER c env ρ μ s.heap
  aok : AOK c d hd A fs μ s.heap
  room : A.depth + 3 * d + 2 < 900
  units : A.units + 100 * d + 250 < cLine
theorem St.step {c : Ctx} {d : Nat} {hd : Bool} {A : Around} {fs : List Env} {env : Env} {ρ : Loc} {μ μ' : Mem} {s s' : Shared} (x : St c d hd A fs env ρ μ s) (y : Step c fs μ μ' s s') : St c d hd A fs env ρ μ' s' :=
  ⟨y.rel, x.er.step x.rel y, x.aok.step y, x.room, x.units⟩

section
variable {c : Ctx} {d : Nat} {hd : Bool} {A : Around} {fs : List Env} {env : Env} {ρ : Loc} {μ : Mem} {s : Shared} {sg : Sig}

theorem wp_after {t : Sem Value} {μ₁ : Mem} {s₁ : Shared} {Q : V → Mem → Prop} {X : String → Mem → Prop} (st : Step c fs μ μ₁ s s₁) (h : wpAny (model c.prog c.w) A t (Post c fs μ₁ s₁ Q) (XPost c fs μ₁ s₁ X) s₁) :
    wpAny (model c.prog c.w) A t (Post c fs μ s Q) (XPost c fs μ s X) s₁ := wpAny_mono h (fun _ _ p => p.after st) fun _ _ p => p.after st
theorem wp_then {t : Sem Value} {f : Value → Sem Value} {Q₁ Q : V → Mem → Prop} {X : String → Mem → Prop} (h : wpAny (model c.prog c.w) A t (Post c fs μ s Q₁) (XPost c fs μ s X) s)
    (k : ∀ rv v μ₁ s₁, Step c fs μ μ₁ s s₁ → RV c s₁.heap rv v → Q₁ v μ₁ → wpAny (model c.prog c.w) A (f rv) (Post c fs μ₁ s₁ Q) (XPost c fs μ₁ s₁ X) s₁) :
    wpAny (model c.prog c.w) A t (fun rv s₁ => wpAny (model c.prog c.w) A (f rv) (Post c fs μ s Q) (XPost c fs μ s X) s₁) (XPost c fs μ s X) s :=
  wpAny_mono h (fun rv s₁ ⟨v, μ₁, st, hv, q⟩ => wp_after st (k rv v μ₁ s₁ st hv q)) fun _ _ x => x

theorem Kin (G : Good c sg) (r : Rel c μ s.heap) : c.K.In s.heap := G.X.keeps r.base

/-- a global name of the text -/
theorem name_glob {x : String} {rv : Value} {P : Value → Shared → Prop} {E : Value → Shared → Prop} {p : Pos} (G : Good c sg) (x' : ER c env ρ μ s.heap) (r : Rel c μ s.heap) (hk : env.kindOf (Str.ofString x) = some .globalImplicit) (hd : x ≠ "__debug__")
    (e : nsIn c.K mainGlobals (Str.ofString x) = some (some rv)) (h : P rv s) : wpAny (model c.prog c.w) A (eval (.Name (Str.ofString x) p) env) P E s := by
  obtain ⟨pp, loose, mg, mb, T⟩ := G.top
  refine Name_function_global x'.kind hk (loadGlobal_global (env := env) (mg := mg) (by rw [x'.glob]; exact T.g.keeps r.base) (mg_of G.X T.g e) h) ?_
  rw [ofString_beq]; exact beq_eq_false_iff_ne.mpr hd
/-- a built-in name -/
theorem name_blt {x : String} {rv : Value} {P : Value → Shared → Prop} {E : Value → Shared → Prop} {p : Pos} (G : Good c sg) (x' : ER c env ρ μ s.heap) (r : Rel c μ s.heap) (hk : env.kindOf (Str.ofString x) = some .globalImplicit) (hd : x ≠ "__debug__") (hn : x ≠ "__name__")
    (e : nsIn c.K mainGlobals (Str.ofString x) = some none) (hv : bootBuiltins (Str.ofString x) = some rv) (h : P rv s) : wpAny (model c.prog c.w) A (eval (.Name (Str.ofString x) p) env) P E s := by
  obtain ⟨pp, loose, mg, mb, T⟩ := G.top
  refine Name_function_global x'.kind hk (loadGlobal_builtin (env := env) (mg := mg) (mb := mb) (by rw [x'.glob]; exact T.g.keeps r.base) (mg_none_of G.X T.g e) (by rw [x'.blt]; exact T.b.keeps r.base) ((T.builtins _ fun q => hn (ofString_inj q)).trans hv) h) ?_
  rw [ofString_beq]; exact beq_eq_false_iff_ne.mpr hd

theorem loc_sound {x : String} {v : V} {Q : V → Mem → Prop} {E : Value → Shared → Prop} {p : Pos} (S : St c d hd A fs env ρ μ s) (e : ρ x = some v) (hd' : x ≠ "__debug__") (hc : x ≠ "__classdict__") (q : Q v μ) :
    wpAny (model c.prog c.w) A (eval (.Name (Str.ofString x) p) env) (Post c fs μ s Q) E s := by
  obtain ⟨m, hns, hm⟩ := S.er.names
  refine wpAny_Name ?_ (by rw [ofString_beq]; exact beq_eq_false_iff_ne.mpr hd')
  rcases hm x v e with ⟨h1, rv, h2, h3⟩ | ⟨h1, ca, rv, h2, h3, h4⟩
  · exact wpAny_loadName_local S.er.kind h1 hns h2 ⟨v, μ, Step.refl S.rel, h3, q⟩
  · rcases h1 with h1 | h1
    · exact wpAny_loadName_cell S.er.kind h1 h2 h3 ⟨v, μ, Step.refl S.rel, h4, q⟩
    · exact wpAny_loadName_free S.er.kind h1 h2 h3 ⟨v, μ, Step.refl S.rel, h4, q⟩ (by rw [ofString_beq]; exact beq_eq_false_iff_ne.mpr hc)
end

theorem starEach_toEs (env : Env) : ∀ es : List E, starEach (toEs es) env = es.map fun e => (false, eval (toE e) env)
  | [] => rfl
  | e :: es => by
    have ih := starEach_toEs env es
    rw [List.map_cons, ← ih]
    cases e <;> rfl
theorem backTo_toEs (env : Env) (p : Pos) (es : List E) : backTo p (starEach (toEs es) env) = es.map fun e => (false, eval (toE e) env) := by
  rw [starEach_toEs, backTo, List.map_map]
  rfl
theorem toEs_length : ∀ es : List E, (toEs es).length = es.length
  | [] => rfl
  | e :: es => by simp [toEs, toEs_length es]

theorem evalArgs_es {M : Model} {A : Around} {E : Value → Shared → Prop} {s : Shared} {f : Value} {l : List (Sem Value)} {Q : Args → Shared → Prop}
    (h : wpAny M A (spliced (l.map fun t => (false, t))) (fun vs s₁ => Q ⟨vs, []⟩ s₁) E s) : wpAny M A (evalArgs f true (l.map fun t => (false, t)) []) Q E s := by
  cases l with
  | nil =>
    unfold evalArgs
    show wpAny M A (spliced [] >>= _) Q E s
    refine wpAny_bind (wpAny_mono h (fun vs s₁ h₁ => ?_) fun _ _ x => x)
    refine wpAny_bind (wpAny_pure ?_)
    refine wpAny_holding ?_
    exact wpAny_bind (wpAny_pure (wpAny_bind (wpAny_pure (wpAny_pure h₁))))
  | cons t l => exact evalArgs_plain h
end Mine

set_option autoImplicit false
namespace Mine
set_option linter.unusedVariables false
set_option linter.unusedSimpArgs false
open PySem PySem.W PySem.Calls PyProof.Rows

/-- the objects that values are read from -/
noncomputable def RK (o : Obj) : Prop := (o.cls = .type "tuple" ∧ ∃ vs n, o.data = .seq vs n) ∨ ((o.cls = .type "range" ∨ ∃ C, o.cls = .ref C) ∧ ∃ vs, o.data = .fields vs)
mutual
theorem RV.monoV {c : Ctx} {h h' : Heap} (k : ∀ b o, h.get? b = some o → RK o → ∃ sl, h'.get? b = some { o with slots := sl } ∧ ((∃ vs, o.data = .fields vs) → sl = o.slots)) : ∀ {v : Value} {x : V}, RV c h v x → RV c h' v x
  | _, _, .none => .none
  | _, _, .bool b => .bool b
  | _, _, .int i t => .int i t
  | _, _, .str x t => .str x t
  | _, _, .tup e hc hd hl hz => by
    obtain ⟨sl, e', _⟩ := k _ _ e (.inl ⟨hc, _, _, hd⟩)
    exact .tup e' hc hd (RVs.monoV k hl) hz
  | _, _, .ref a => .ref a
  | _, _, .rng e ok => by
    obtain ⟨sl, e', n⟩ := k _ _ e (.inr ⟨.inl rfl, _, rfl⟩)
    rw [n ⟨_, rfl⟩] at e'
    exact .rng e' ok
  | _, _, .exc e hc hd hx => by
    obtain ⟨sl, e', _⟩ := k _ _ e (.inr ⟨.inr ⟨_, hc⟩, _, hd⟩)
    exact .exc e' hc hd hx
  | _, _, .frz e hc hd hi hz => .frz e hc hd hi hz
theorem RVs.monoV {c : Ctx} {h h' : Heap} (k : ∀ b o, h.get? b = some o → RK o → ∃ sl, h'.get? b = some { o with slots := sl } ∧ ((∃ vs, o.data = .fields vs) → sl = o.slots)) : ∀ {vs : List Value} {xs : List V}, RVs c h vs xs → RVs c h' vs xs
  | _, _, .nil => .nil
  | _, _, .cons hv hr => .cons (RV.monoV k hv) (RVs.monoV k hr)
end
theorem RO.monoV {c : Ctx} {h h' : Heap} (k : ∀ b o, h.get? b = some o → RK o → ∃ sl, h'.get? b = some { o with slots := sl } ∧ ((∃ vs, o.data = .fields vs) → sl = o.slots)) {ob : Obj} {o : O} (x : RO c h ob o) : RO c h' ob o := by
  cases x with
  | list hl hz => exact .list (hl.monoV k) hz
  | inst e => exact .inst e
  | attrs hf =>
    refine .attrs ?_
    induction hf with
    | nil => exact .nil
    | cons e hv _ ih => exact .cons e (hv.monoV k) ih

noncomputable def pv (env : Env) (b : Addr) : Prop := b = env.locals ∨ ∃ x, env.cells.lookup x = some b

structure StepS (c : Ctx) (fs : List Env) (env : Env) (μ μ' : Mem) (s s' : Shared) : Prop where
  gens : s'.gens = s.gens
  drawn : s'.drawn = s.drawn
  os : s'.os = s.os
  kept : ∀ b o, s.heap.get? b = some o → μ b = none → ¬ pv env b → μ' b = none ∧ ∃ sl, s'.heap.get? b = some { o with slots := sl } ∧ (b ∉ frs fs ∨ (∃ vs, o.data = .fields vs) → sl = o.slots)
theorem StepS.refl {c : Ctx} {fs : List Env} {env : Env} {μ : Mem} {s : Shared} : StepS c fs env μ μ s s := ⟨rfl, rfl, rfl, fun _ o e hm _ => ⟨hm, o.slots, e, fun _ => rfl⟩⟩
theorem StepS.trans {c : Ctx} {fs : List Env} {env : Env} {μ₁ μ₂ μ₃ : Mem} {s₁ s₂ s₃ : Shared} (x : StepS c fs env μ₁ μ₂ s₁ s₂) (y : StepS c fs env μ₂ μ₃ s₂ s₃) : StepS c fs env μ₁ μ₃ s₁ s₃ :=
  ⟨y.gens.trans x.gens, y.drawn.trans x.drawn, y.os.trans x.os, fun b o e hm hp => by
    obtain ⟨m₂, sl, e₂, n₂⟩ := x.kept b o e hm hp
    obtain ⟨m₃, sl', e₃, n₃⟩ := y.kept b _ e₂ m₂ hp
    exact ⟨m₃, sl', e₃, fun hb => (n₃ hb).trans (n₂ hb)⟩⟩
theorem Step.toS {c : Ctx} {fs : List Env} {env : Env} {μ μ' : Mem} {s s' : Shared} (x : Step c fs μ μ' s s') : StepS c fs env μ μ' s s' := ⟨x.gens, x.drawn, x.os, fun b o e hm _ => x.kept b o e hm⟩

inductive RFl (c : Ctx) (h : Heap) : Flow → Fl → Prop
  | next : RFl c h .next .next
  | ret {rv : Value} {v : V} : RV c h rv v → RFl c h (.ret rv) (.ret v)

noncomputable def Born (c : Ctx) (s s' : Shared) (e : Addr) (x : String) : Prop := s'.gens = s.gens ∧ s'.drawn = s.drawn ∧ s'.os = s.os ∧ ∃ C args, c.exc x = some C ∧ Heap.MadeExcOf s.heap s'.heap e (.ref C) args

noncomputable def PostS (c : Ctx) (d : Nat) (hd : Bool) (A : Around) (fs : List Env) (env : Env) (μ : Mem) (s : Shared) (Q : Fl → Loc → Mem → Prop) (fl : Flow) (s' : Shared) : Prop :=
  ∃ fl' ρ' μ', StepS c fs env μ μ' s s' ∧ St c d hd A fs env ρ' μ' s' ∧ RFl c s'.heap fl fl' ∧ Q fl' ρ' μ'
noncomputable def XPostS (c : Ctx) (d : Nat) (hd : Bool) (A : Around) (fs : List Env) (env : Env) (nr : Bool) (μ : Mem) (s : Shared) (X : String → Loc → Mem → Prop) (re : Value) (s' : Shared) : Prop :=
  ∃ e x ρ₁ μ₁ μ' s₁, re = .ref e ∧ StepS c fs env μ μ₁ s s₁ ∧ St c d hd A fs env ρ₁ μ₁ s₁ ∧ (Fly c fs μ₁ μ' s₁ s' e x ∨ (nr = false ∧ μ' = μ₁ ∧ Born c s₁ s' e x)) ∧ X x ρ₁ μ'

theorem PostS.after {c : Ctx} {d : Nat} {hd : Bool} {A : Around} {fs : List Env} {env : Env} {μ μ₁ : Mem} {s s₁ s' : Shared} {Q : Fl → Loc → Mem → Prop} {fl : Flow} (st : StepS c fs env μ μ₁ s s₁) (x : PostS c d hd A fs env μ₁ s₁ Q fl s') : PostS c d hd A fs env μ s Q fl s' :=
  let ⟨fl', ρ', μ', a, b, q, r⟩ := x; ⟨fl', ρ', μ', st.trans a, b, q, r⟩
theorem XPostS.after {c : Ctx} {d : Nat} {hd : Bool} {A : Around} {fs : List Env} {env : Env} {nr : Bool} {μ μ₁ : Mem} {s s₁ s' : Shared} {X : String → Loc → Mem → Prop} {re : Value} (st : StepS c fs env μ μ₁ s s₁) (x : XPostS c d hd A fs env nr μ₁ s₁ X re s') : XPostS c d hd A fs env nr μ s X re s' :=
  let ⟨e, n, ρ₁, μ₁, μ', s₁, h1, a, r⟩ := x; ⟨e, n, ρ₁, μ₁, μ', s₁, h1, st.trans a, r⟩

theorem XPost.toS {c : Ctx} {d : Nat} {hd : Bool} {A : Around} {fs : List Env} {env : Env} {nr : Bool} {ρ : Loc} {μ : Mem} {s s' : Shared} {X : String → Loc → Mem → Prop} {re : Value} (S : St c d hd A fs env ρ μ s) (x : XPost c fs μ s (fun n μ₁ => X n ρ μ₁) re s') : XPostS c d hd A fs env nr μ s X re s' :=
  let ⟨e, n, μ', he, f, q⟩ := x; ⟨e, n, ρ, μ, μ', s, he, .refl, S, .inl f, q⟩

section
variable {c : Ctx} {sg : Sig} {d : Nat} {hd : Bool} {A : Around} {fs : List Env} {env : Env} {ρ : Loc} {μ : Mem} {s : Shared}

/-- a change of one private object -/
theorem Rel.private {b : Addr} {h h' : Heap} (r : Rel c μ h) (hm : μ b = none) (hb : c.base.get? b = none) (hnv : ∀ o, h.get? b = some o → ¬ RK o) (sb : Heap.SameBut b h h') : Rel c μ h' ∧ (∀ {v x}, RV c h v x → RV c h' v x) := by
  have k : ∀ a o, h.get? a = some o → RK o → ∃ sl, h'.get? a = some { o with slots := sl } ∧ ((∃ vs, o.data = .fields vs) → sl = o.slots) := fun a o e q => by
    refine ⟨o.slots, (sb.2 a fun z => ?_).trans e, fun _ => rfl⟩
    subst z
    exact hnv o e q
  refine ⟨⟨fun a o e => (sb.2 a fun z => by rw [z, hb] at e; cases e).trans (r.base a o e), fun a o e => ?_⟩, fun hv => hv.monoV k⟩
  obtain ⟨n, ob, e', ro⟩ := r.mem a o e
  exact ⟨n, ob, (sb.2 a fun z => by rw [z, hm] at e; cases e).trans e', ro.monoV k⟩

theorem FunFrames.turn {h h' base : Heap} {b : Addr} (sb : Heap.SameBut b h h') (hb : ∃ o, h'.get? b = some o ∧ ∀ vs, o.data ≠ .fields vs) : ∀ {l : List Env}, h.FunFrames base l → h'.FunFrames base l
  | [], _ => trivial
  | env :: l, ⟨hk, ⟨L, o, hf, hn, ho, hd⟩, hr⟩ => by
    refine ⟨hk, ?_, FunFrames.turn sb hb hr⟩
    by_cases e : L = b
    · subst e; obtain ⟨o', ho', hd'⟩ := hb; exact ⟨L, o', hf, hn, ho', hd'⟩
    · exact ⟨L, o, hf, hn, (sb.2 L e).trans ho, hd⟩

theorem AOK.turn {h h' : Heap} {b : Addr} (x : AOK c d hd A fs μ h) (sb : Heap.SameBut b h h') (hb : ∃ o, h'.get? b = some o ∧ ∀ vs, o.data ≠ .fields vs) (hd' : b ∈ frs fs → ∃ o es n, h'.get? b = some o ∧ o.data = .dict es n) : AOK c d hd A fs μ h' :=
  ⟨x.frames, x.room, x.units, x.handled, FunFrames.turn sb hb x.fun_, x.priv, fun L hL => by
    by_cases e : L = b
    · subst e; exact hd' hL
    · obtain ⟨o, es, n, ho, hd⟩ := x.dicts L hL
      exact ⟨o, es, n, (sb.2 L e).trans ho, hd⟩⟩

theorem Ns.dict {h : Heap} {a : Addr} {m : Str → Option Value} (x : h.Ns a m) : ∃ o es n, h.get? a = some o ∧ o.data = .dict es n := let ⟨o, es, n, ho, hd, _⟩ := x; ⟨o, es, n, ho, hd⟩

/-- a name is bound -/
theorem store_sound {x : String} {rv : Value} {v : V} {P : Unit → Shared → Prop} {E : Value → Shared → Prop} (S : St c d hd A fs env ρ μ s) (hk : env.kindOf (Str.ofString x) = some .local ∨ env.kindOf (Str.ofString x) = some .cell) (hv : RV c s.heap rv v)
    (h : ∀ s', StepS c fs env μ μ s s' → St c d hd A fs env (updL ρ x v) μ s' → P () s') : wpAny (model c.prog c.w) A (storeName env (Str.ofString x) rv) P E s := by
  obtain ⟨m, hns, hm⟩ := S.er.names
  obtain ⟨oL, esL, nL, hoL, hdL⟩ := Ns.dict hns
  rcases hk with hk | hk
  · refine wpAny_storeName_local hk hns (fun h' hn' sb => ?_) (by rw [S.er.kind]; rfl)
    obtain ⟨oL', esL', nL', hoL', hdL'⟩ := Ns.dict hn'
    obtain ⟨r', mono⟩ := Rel.private S.rel S.er.priv S.er.new (fun o e => by rw [hoL] at e; cases e; rintro (⟨_, vs, n, q⟩ | ⟨_, vs, q⟩) <;> (rw [hdL] at q; cases q)) sb
    have other : ∀ ca, (∃ w, s.heap.IsCell ca w) → ca ≠ env.locals := fun ca ⟨w, o, ho, hd⟩ q => by rw [q, hoL] at ho; cases ho; rw [hdL] at hd; cases hd
    refine h _ ⟨rfl, rfl, rfl, fun b o e hmb hp => ⟨hmb, o.slots, (sb.2 b fun q => hp (.inl q)).trans e, fun _ => rfl⟩⟩ ⟨r', ⟨S.er.kind, S.er.glob, S.er.blt, S.er.priv, S.er.new, fun y ca e => ?_, S.er.inj, S.er.has, _, hn', fun y w e => ?_⟩, S.aok.turn sb ⟨oL', hoL', fun vs q => by rw [hdL'] at q; cases q⟩ (fun _ => ⟨oL', _, _, hoL', hdL'⟩), S.room, S.units⟩
    · obtain ⟨⟨w, o, ho, hd⟩, h1, h2⟩ := S.er.cells y ca e
      exact ⟨⟨w, o, (sb.2 ca (other ca ⟨w, o, ho, hd⟩)).trans ho, hd⟩, h1, h2⟩
    · unfold updL at e
      split at e
      · rename_i hy; subst hy; cases e
        exact .inl ⟨hk, rv, by simp, mono hv⟩
      · rename_i hy
        rcases hm y w e with ⟨h1, rw_, h2, h3⟩ | ⟨h1, ca, rw_, h2, ⟨o, ho, hd⟩, h4⟩
        · exact .inl ⟨h1, rw_, by simp only [show Str.ofString y ≠ Str.ofString x from fun q => hy (ofString_inj q), if_false]; exact h2, mono h3⟩
        · exact .inr ⟨h1, ca, rw_, h2, ⟨o, (sb.2 ca (other ca ⟨_, o, ho, hd⟩)).trans ho, hd⟩, mono h4⟩
  · obtain ⟨ca, hca⟩ := Option.isSome_iff_exists.mp (S.er.has _ hk)
    obtain ⟨⟨w₀, hw₀⟩, hmc, hbc⟩ := S.er.cells _ ca hca
    obtain ⟨oc, hoc, hdc⟩ := id hw₀
    refine wpAny_storeName_cell S.er.kind hk hca hw₀ fun h' hc' sb => ?_
    obtain ⟨oc', hoc', hdc'⟩ := id hc'
    obtain ⟨r', mono⟩ := Rel.private S.rel hmc hbc (fun o e => by rw [hoc] at e; cases e; rintro (⟨_, vs, n, q⟩ | ⟨_, vs, q⟩) <;> (rw [hdc] at q; cases q)) sb
    have nL : env.locals ≠ ca := fun q => by rw [q, hoc] at hoL; cases hoL; rw [hdc] at hdL; cases hdL
    refine h _ ⟨rfl, rfl, rfl, fun b o e hmb hp => ⟨hmb, o.slots, (sb.2 b fun q => hp (.inr ⟨_, q ▸ hca⟩)).trans e, fun _ => rfl⟩⟩ ⟨r', ⟨S.er.kind, S.er.glob, S.er.blt, S.er.priv, S.er.new, fun y ya e => ?_, S.er.inj, S.er.has, m, ?_, fun y w e => ?_⟩, S.aok.turn sb ⟨oc', hoc', fun vs q => by rw [hdc'] at q; cases q⟩ (fun z => by obtain ⟨o, es, n, ho, hd⟩ := S.aok.dicts _ z; rw [hoc] at ho; cases ho; rw [hdc] at hd; cases hd), S.room, S.units⟩
    · obtain ⟨⟨w, o, ho, hd⟩, h1, h2⟩ := S.er.cells y ya e
      by_cases q : ya = ca
      · subst q; exact ⟨⟨_, hc'⟩, h1, h2⟩
      · exact ⟨⟨w, o, (sb.2 ya q).trans ho, hd⟩, h1, h2⟩
    · exact hns.sameBut sb nL
    · unfold updL at e
      split at e
      · rename_i hy; subst hy; cases e
        exact .inr ⟨.inl hk, ca, rv, hca, hc', mono hv⟩
      · rename_i hy
        rcases hm y w e with ⟨h1, rw_, h2, h3⟩ | ⟨h1, ya, rw_, h2, ⟨o, ho, hd⟩, h4⟩
        · exact .inl ⟨h1, rw_, h2, mono h3⟩
        · refine .inr ⟨h1, ya, rw_, h2, ⟨o, (sb.2 ya fun q => ?_).trans ho, hd⟩, mono h4⟩
          subst q
          exact hy (ofString_inj (S.er.inj _ _ _ h2 hca))
end
end Mine

set_option autoImplicit false
namespace Mine
set_option linter.unusedVariables false
set_option linter.unusedSimpArgs false
open PySem PySem.W PySem.Calls PyProof.Rows

section
variable {c : Ctx} {sg : Sig} {d : Nat} {nr hd : Bool} {A : Around} {fs : List Env} {env : Env} {ρ : Loc} {μ : Mem} {s : Shared} {X : String → Loc → Mem → Prop}

theorem XPostS.no {μ₀ : Mem} {s₀ : Shared} {re : Value} {s' : Shared} {P : Prop} (x : XPostS c d hd A fs env nr μ₀ s₀ (fun _ _ _ => False) re s') : P := let ⟨_, _, _, _, _, _, _, _, _, _, f⟩ := x; f.elim
theorem XPost.no {μ₀ : Mem} {s₀ : Shared} {re : Value} {s' : Shared} {P : Prop} (x : XPost c fs μ₀ s₀ (fun _ _ => False) re s') : P := let ⟨_, _, _, _, _, f⟩ := x; f.elim

/-- an iterator -/
structure Iter (c : Ctx) (A : Around) (it : Addr) (rv : Value) (v : V) (items : List V) (It : Nat → Heap → Prop) : Prop where
  obj : ∀ k h, It k h → ∃ o vs, h.get? it = some o ∧ o.data = .fields vs ∧ ¬ RK o
  keep : ∀ k h h', It k h → h'.get? it = h.get? it → It k h'
  item : ∀ k w s μ (P : Option Value → Shared → Prop) (E : Value → Shared → Prop), items[k]? = some w → itemsOf μ v = some items → Rel c μ s.heap → RV c s.heap rv v → It k s.heap →
    (∀ rw_ h' n, Heap.ExtBut it s.heap h' → It (k + 1) h' → RV c s.heap rw_ w → P (some rw_) { s with heap := h', toks := n }) → wpAny (model c.prog c.w) A (pyNext (.ref it)) P E s
  fin : ∀ k s μ (P : Option Value → Shared → Prop) (E : Value → Shared → Prop), items[k]? = none → itemsOf μ v = some items → Rel c μ s.heap → RV c s.heap rv v → It k s.heap →
    (∀ h', Heap.ExtBut it s.heap h' → P none { s with heap := h' }) → wpAny (model c.prog c.w) A (pyNext (.ref it)) P E s

theorem monoV_ext {it : Addr} {h h' : Heap} (x : Heap.ExtBut it h h') (ho : ∃ o vs, h.get? it = some o ∧ o.data = .fields vs ∧ ¬ RK o) : ∀ b o, h.get? b = some o → RK o → ∃ sl, h'.get? b = some { o with slots := sl } ∧ ((∃ vs, o.data = .fields vs) → sl = o.slots) := fun b o e q => by
  refine ⟨o.slots, x b o (fun z => ?_) e, fun _ => rfl⟩
  obtain ⟨oi, vs, h1, h2, h3⟩ := ho
  subst z
  rw [h1] at e; cases e; exact h3 q

theorem St.ext {it : Addr} {h' : Heap} {n : Nat} (S : St c d hd A fs env ρ μ s) (x : Heap.ExtBut it s.heap h') (hb : c.base.get? it = none) (ho : ∃ o vs, s.heap.get? it = some o ∧ o.data = .fields vs ∧ ¬ RK o) : St c d hd A fs env ρ μ { s with heap := h', toks := n } := by
  have k := monoV_ext x ho
  obtain ⟨oi, vsi, hi1, hi2, hi3⟩ := ho
  have hm : μ it = none := S.rel.none_of_fields hi1 hi2
  obtain ⟨m, hns, hnm⟩ := S.er.names
  obtain ⟨oL, esL, nL, hoL, hdL⟩ := Ns.dict hns
  have nl : env.locals ≠ it := fun q => by rw [q, hi1] at hoL; cases hoL; rw [hi2] at hdL; cases hdL
  have nc : ∀ ca w, s.heap.IsCell ca w → ca ≠ it := fun ca w ⟨o, ho, hd⟩ q => by rw [q, hi1] at ho; cases ho; rw [hi2] at hd; cases hd
  have cellk : ∀ ca w, s.heap.IsCell ca w → h'.IsCell ca w := fun ca w hc => by obtain ⟨o, ho, hd⟩ := id hc; exact ⟨o, x _ _ (nc ca w hc) ho, hd⟩
  have fr : ∀ l : List Env, s.heap.FunFrames c.base l → h'.FunFrames c.base l := by
    intro l
    induction l with
    | nil => intro _; trivial
    | cons e l ih =>
      rintro ⟨hk, ⟨L, o, hf, hn, ho, hd⟩, hr⟩
      exact ⟨hk, ⟨L, o, hf, hn, x _ _ (fun q => by rw [q, hi1] at ho; cases ho; exact hd _ hi2) ho, hd⟩, ih hr⟩
  refine ⟨⟨fun a o e => x a o (fun z => by rw [z, hb] at e; cases e) (S.rel.base a o e), fun a o e => ?_⟩, ⟨S.er.kind, S.er.glob, S.er.blt, S.er.priv, S.er.new, fun y ca e => ?_, S.er.inj, S.er.has, m, ?_, fun y w e => ?_⟩, ⟨S.aok.frames, S.aok.room, S.aok.units, S.aok.handled, fr _ S.aok.fun_, S.aok.priv, fun L hL => (by obtain ⟨o, es, n, ho, hd⟩ := S.aok.dicts L hL; exact ⟨o, es, n, x _ _ (fun q => by rw [q, hi1] at ho; cases ho; rw [hi2] at hd; cases hd) ho, hd⟩)⟩, S.room, S.units⟩
  · obtain ⟨n', ob, e', ro⟩ := S.rel.mem a o e
    exact ⟨n', ob, x _ _ (fun z => by rw [z, hm] at e; cases e) e', ro.monoV k⟩
  · obtain ⟨⟨w, hw⟩, h1, h2⟩ := S.er.cells y ca e
    exact ⟨⟨w, cellk _ _ hw⟩, h1, h2⟩
  · obtain ⟨o, es, ep, ho, hd, r⟩ := hns
    exact ⟨o, es, ep, x _ _ nl ho, hd, r⟩
  · rcases hnm y w e with ⟨h1, rw_, h2, h3⟩ | ⟨h1, ca, rw_, h2, h3, h4⟩
    · exact .inl ⟨h1, rw_, h2, h3.monoV k⟩
    · exact .inr ⟨h1, ca, rw_, h2, cellk _ _ h3, h4.monoV k⟩

theorem StepS.it {it : Addr} {μ₀ : Mem} {s₀ : Shared} {h' : Heap} {n : Nat} (st : StepS c fs env μ₀ μ s₀ s) (x : Heap.ExtBut it s.heap h') (hn : s₀.heap.get? it = none) : StepS c fs env μ₀ μ s₀ { s with heap := h', toks := n } :=
  ⟨st.gens, st.drawn, st.os, fun b o e hm hp => by
    obtain ⟨m', sl, e', q⟩ := st.kept b o e hm hp
    exact ⟨m', sl, x b _ (fun z => by rw [z, hn] at e; cases e) e', q⟩⟩

theorem StepS.fields {μ' : Mem} {s' : Shared} {it : Addr} (S : St c d hd A fs env ρ μ s) (st : StepS c fs env μ μ' s s') (ho : ∃ o vs, s.heap.get? it = some o ∧ o.data = .fields vs ∧ ¬ RK o) : s'.heap.get? it = s.heap.get? it := by
  obtain ⟨o, vs, h1, h2, _⟩ := ho
  have np : ¬ pv env it := by
    rintro (q | ⟨y, q⟩)
    · obtain ⟨m, hns, _⟩ := S.er.names
      obtain ⟨oL, esL, nL, hoL, hdL⟩ := Ns.dict hns
      rw [← q, h1] at hoL; cases hoL; rw [h2] at hdL; cases hdL
    · obtain ⟨⟨w, o', ho', hd'⟩, _, _⟩ := S.er.cells y it q
      rw [h1] at ho'; cases ho'; rw [h2] at hd'; cases hd'
  obtain ⟨_, sl, e, q⟩ := st.kept it o h1 (S.rel.none_of_fields h1 h2) np
  rw [q (.inr ⟨vs, h2⟩)] at e
  rw [e, h1]
theorem StepS.rv {μ' : Mem} {s' : Shared} {rv : Value} {v : V} (S : St c d hd A fs env ρ μ s) (st : StepS c fs env μ μ' s s') (h : RV c s.heap rv v) : RV c s'.heap rv v := by
  refine h.monoV fun b o e q => ?_
  obtain ⟨m, hns, _⟩ := S.er.names
  obtain ⟨oL, esL, nL, hoL, hdL⟩ := Ns.dict hns
  have np : ¬ pv env b := by
    rintro (z | ⟨y, z⟩)
    · rw [← z, e] at hoL; cases hoL
      rcases q with ⟨_, _, _, q⟩ | ⟨_, _, q⟩ <;> (rw [hdL] at q; cases q)
    · obtain ⟨⟨w, o', ho', hd'⟩, _, _⟩ := S.er.cells y b z
      rw [e] at ho'; cases ho'
      rcases q with ⟨_, _, _, q⟩ | ⟨_, _, q⟩ <;> (rw [hd'] at q; cases q)
  have hm : μ b = none := by
    rcases q with ⟨q, _⟩ | ⟨_, vs, q⟩
    · exact S.rel.none_of_cls e q (by decide) (by decide)
    · exact S.rel.none_of_fields e q
  obtain ⟨_, sl, e', q'⟩ := st.kept b o e hm np
  exact ⟨sl, e', fun z => q' (.inr z)⟩

end
end Mine

set_option autoImplicit false
namespace Mine
set_option linter.unusedVariables false
set_option linter.unusedSimpArgs false
open PySem PySem.W PySem.Calls PyProof.Rows

section
variable {c : Ctx} {sg : Sig} {d : Nat} {nr hd : Bool} {A : Around} {fs : List Env} {env : Env} {ρ : Loc} {μ : Mem} {s : Shared} {X : String → Loc → Mem → Prop}

theorem notRK {o : Obj} {vs : Array Value} {T : String} (hc : o.cls = .type T) (h1 : T ≠ "tuple") (h2 : T ≠ "range") : ¬ RK o := by
  rintro (⟨q, _⟩ | ⟨q | ⟨C, q⟩, _⟩)
  · rw [hc] at q; injection q with q; exact h1 q
  · rw [hc] at q; injection q with q; exact h2 q
  · rw [hc] at q; cases q

theorem iter_list (hh : A.handled = none) {it l : Addr} {items : List V} : Iter c A it (.ref l) (.ref l) items (fun k h => h.IsListIter it l k) where
  obj := fun k h ⟨o, ho, hc, hd⟩ => ⟨o, _, ho, hd, notRK (vs := #[]) hc (by decide) (by decide)⟩
  keep := fun k h h' ⟨o, ho, r⟩ e => ⟨o, e.trans ho, r⟩
  item := by
    intro k w s μ P E hk hi r hv hit h
    unfold itemsOf at hi
    dsimp only at hi
    split at hi
    · rename_i l' hl; cases hi
      obtain ⟨us, n, h1, h2, h3⟩ := r.lst hl
      obtain ⟨u, hu, hw⟩ := h2.get hk
      exact wpAny_pyNext_list_item hit ⟨_, h1, rfl, n, rfl⟩ (by rw [← Array.getElem?_toList]; exact hu) fun h' hit' sb => h u h' _ sb.extBut hit' hw
    · cases hi
  fin := by
    intro k s μ P E hk hi r hv hit h
    unfold itemsOf at hi
    dsimp only at hi
    split at hi
    · rename_i l' hl; cases hi
      obtain ⟨us, n, h1, h2, h3⟩ := r.lst hl
      refine wpAny_pyNext_list_end hh hit ⟨_, h1, rfl, n, rfl⟩ ?_ h
      rw [List.getElem?_eq_none_iff] at hk
      rw [Array.getElem?_eq_none_iff, ← Array.length_toList, h2.length]; exact hk
    · cases hi
theorem iter_tup (hh : A.handled = none) {it t : Addr} {items : List V} : Iter c A it (.ref t) (.tup items) items (fun k h => h.IsTupleIter it t k) where
  obj := fun k h ⟨o, ho, hc, hd⟩ => ⟨o, _, ho, hd, notRK (vs := #[]) hc (by decide) (by decide)⟩
  keep := fun k h h' ⟨o, ho, r⟩ e => ⟨o, e.trans ho, r⟩
  item := by
    intro k w s μ P E hk hi r hv hit h
    cases hv with
    | tup e hc hd hl hz =>
    obtain ⟨u, hu, hw⟩ := hl.get hk
    exact wpAny_pyNext_tuple_item hit ⟨_, e, hc, _, hd⟩ (by rw [← Array.getElem?_toList]; exact hu) fun h' hit' sb => h u h' _ sb.extBut hit' hw
  fin := by
    intro k s μ P E hk hi r hv hit h
    cases hv with
    | tup e hc hd hl hz =>
    refine wpAny_pyNext_tuple_end hh hit ⟨_, e, hc, _, hd⟩ ?_ h
    rw [List.getElem?_eq_none_iff] at hk
    rw [Array.getElem?_eq_none_iff, ← Array.length_toList, hl.length]; exact hk

noncomputable def rngLen (lo hi st : Int) : Nat := if st = 1 then (hi - lo).toNat else (lo - hi).toNat
theorem rngItems_get {lo hi st : Int} (hs : st = 1 ∨ st = -1) (k : Nat) : (rngItems lo hi st)[k]? = if k < rngLen lo hi st then some (.int (lo + k * st)) else none := by
  unfold rngItems rngLen
  rcases hs with rfl | rfl
  · rw [if_pos rfl, if_pos rfl, List.getElem?_map]
    split
    · rename_i h; rw [List.getElem?_range h]; simp
    · rename_i h; rw [List.getElem?_eq_none_iff.mpr (by simpa using Nat.le_of_not_lt h)]; rfl
  · simp only [show ¬ (-1 : Int) = 1 from by decide, if_false, if_true, List.getElem?_map]
    split
    · rename_i h; rw [List.getElem?_range h]; simp; omega
    · rename_i h; rw [List.getElem?_eq_none_iff.mpr (by simpa using Nat.le_of_not_lt h)]; rfl
theorem rng_size {lo hi st : Int} (hs : st = 1 ∨ st = -1) : Builtin.Range.rangeSize lo hi st = rngLen lo hi st := by
  unfold Builtin.Range.rangeSize rngLen
  rcases hs with rfl | rfl
  · rw [if_pos (by decide), if_pos rfl]; split <;> omega
  · simp only [show ¬ (-1 : Int) = 1 from by decide, show ¬ (-1 : Int) > 0 from by decide, if_false, Int.neg_neg, Int.ediv_one]
    split <;> omega
theorem rng_small' {lo hi st : Int} (ok : RngOk lo hi st) : Builtin.Range.small lo hi st = true := by
  obtain ⟨q2, q3, hs⟩ := ok
  unfold Builtin.Range.small
  rw [rng_size hs]
  unfold Builtin.Range.rangeFitsLong rngLen
  rcases hs with rfl | rfl
  · simp only [Bool.and_eq_true, Bool.or_eq_true, decide_eq_true_eq, beq_iff_eq, if_pos (show (1 : Int) > 0 from by decide), if_pos]
    omega
  · simp only [Bool.and_eq_true, Bool.or_eq_true, decide_eq_true_eq, beq_iff_eq, if_neg (show ¬ (-1 : Int) > 0 from by decide), if_neg (show ¬ (-1 : Int) = 1 from by decide)]
    omega

theorem iter_rng (hh : A.handled = none) {it r : Addr} {lo hi st : Int} (hs : st = 1 ∨ st = -1) : Iter c A it (.ref r) (.rng lo hi st) (rngItems lo hi st) (fun k h => IsRangeIter h it (lo + k * st) ((rngLen lo hi st : Int) - k) st) where
  obj := fun k h ho => ⟨_, _, ho, rfl, notRK (vs := #[]) (T := "range_iterator") rfl (by decide) (by decide)⟩
  keep := fun k h h' ho e => e.trans ho
  item := by
    intro k w s μ P E hk hi' r' hv hit h
    rw [rngItems_get hs] at hk
    split at hk
    · rename_i hlt; cases hk
      refine wpAny_pyNext_range_item hit (by omega) fun h' hit' sb => h _ h' _ sb.extBut ?_ (.int _ _)
      have e1 : lo + ((k : Nat) : Int) * st + st = lo + ((k + 1 : Nat) : Int) * st := by rw [Int.natCast_add, Int.add_mul]; omega
      have e2 : (rngLen lo hi st : Int) - k - 1 = (rngLen lo hi st : Int) - ((k + 1 : Nat) : Int) := by omega
      rw [e1, e2] at hit'
      exact hit'
    · cases hk
  fin := by
    intro k s μ P E hk hi' r' hv hit h
    rw [rngItems_get hs] at hk
    split at hk
    · cases hk
    · rename_i hlt
      exact wpAny_pyNext_range_end hh hit (by omega) h

/-- the start of a walk through items -/
theorem iter_sound {rv : Value} {v : V} {items : List V} {P : Value → Shared → Prop} {E : Value → Shared → Prop} (hh : A.handled = none) (r : Rel c μ s.heap) (hv : RV c s.heap rv v) (hi : itemsOf μ v = some items)
    (h : ∀ it s' It, Iter c A it rv v items It → It 0 s'.heap → s.heap.get? it = none → Step c fs μ μ s s' → P (.ref it) s') : wpAny (model c.prog c.w) A (pyIter rv) P E s := by
  have n0 : s.heap.get? s.heap.objs.size = none := Heap.get?_none_of_le (Nat.le_refl _)
  cases hv with
  | ref a =>
    have hi' := hi
    unfold itemsOf at hi
    dsimp only at hi
    split at hi
    · rename_i l hl; cases hi
      obtain ⟨us, n, h1, h2, h3⟩ := r.lst hl
      exact wpAny_pyIter_list ⟨_, h1, rfl, n, rfl⟩ (h _ _ _ (iter_list hh) ⟨_, Heap.get?_push_size _ rfl, rfl, rfl⟩ n0 (Step.grows (n := s.toks) r fun b o e => Heap.get?_push_of_some _ e))
    · cases hi
  | tup e hc hd hl hz =>
    cases hi
    exact wpAny_pyIter_tuple ⟨_, e, hc, _, hd⟩ (h _ _ _ (iter_tup hh) ⟨_, Heap.get?_push_size _ rfl, rfl, rfl⟩ n0 (Step.grows (n := s.toks) r fun b o e => Heap.get?_push_of_some _ e))
  | rng e ok =>
    cases hi
    refine wpAny_pyIter_range e (rng_small' ok) (h _ _ _ (iter_rng hh ok.2.2) ?_ n0 (Step.grows (n := s.toks) r fun b o e => Heap.get?_push_of_some _ e))
    rw [rng_size ok.2.2]
    refine (Heap.get?_push_size s.heap rfl).trans ?_
    simp
  | none | bool | int | str | exc | frz => cases hi

end
end Mine

set_option autoImplicit false
namespace Mine
set_option linter.unusedVariables false
set_option linter.unusedSimpArgs false
open PySem PySem.W PySem.Calls PyProof.Rows

/-- an expression is sound -/
noncomputable def SE (c : Ctx) (sg : Sig) (d : Nat) (e : E) : Prop := ∀ (hd : Bool) (A : Around) (fs : List Env) (env : Env) (ρ : Loc) (μ : Mem) (s : Shared) (Q : V → Mem → Prop) (X : String → Mem → Prop),
  okE sg env.scope.names e = true → wpE sg (SC c d) hd e ρ μ Q X → St c d hd A fs env ρ μ s → wpAny (model c.prog c.w) A (eval (toE e) env) (Post c fs μ s Q) (XPost c fs μ s X) s
noncomputable def ST (c : Ctx) (sg : Sig) (d : Nat) (e : E) : Prop := ∀ (hd : Bool) (A : Around) (fs : List Env) (env : Env) (ρ : Loc) (μ : Mem) (s : Shared) (Q₀ : V → Mem → Prop) (Q : Bool → Mem → Prop) (X : String → Mem → Prop),
  (∀ v μ₁, Q₀ v μ₁ → tr v fun b => Q b μ₁) → okE sg env.scope.names e = true → wpE sg (SC c d) hd e ρ μ Q₀ X → St c d hd A fs env ρ μ s → wpAny (model c.prog c.w) A (isTrue (toE e) env (eval (toE e) env)) (PostB c fs μ s Q) (XPost c fs μ s X) s

section
variable {c : Ctx} {sg : Sig} {d : Nat} {hd : Bool} {A : Around} {fs : List Env} {env : Env} {ρ : Loc} {μ : Mem} {s : Shared} {E : Value → Shared → Prop}

theorem ses {es : List Mine.E} : (∀ e ∈ es, SE c sg d e) → ∀ {μ : Mem} {s : Shared} {Q : List V → Mem → Prop} {X : String → Mem → Prop}, okEs sg env.scope.names es = true → wpEs sg (SC c d) hd es ρ μ Q X → St c d hd A fs env ρ μ s →
    wpAny (model c.prog c.w) A (spliced (es.map fun e => (false, eval (toE e) env))) (Posts c fs μ s fun vs μ' => vs.length = es.length ∧ Q vs μ') (XPost c fs μ s X) s := by
  induction es with
  | nil => intro _ μ s Q X _ h S; exact spliced_nil ⟨[], μ, Step.refl S.rel, .nil, rfl, h⟩
  | cons e es ih =>
    intro hs μ s Q X ok h S
    simp only [okEs, Bool.and_eq_true] at ok
    refine spliced_cons (wpAny_mono (hs e (.head _) hd A fs env ρ μ s _ X ok.1 h S) (fun rv s₁ ⟨v, μ₁, st, hv, q⟩ => ?_) fun _ _ x => x)
    refine wpAny_mono (ih (fun e' he => hs e' (.tail _ he)) ok.2 q (S.step st)) (fun rvs s₂ ⟨vs, μ₂, st₂, hvs, q₂⟩ => ?_) fun _ _ x => x.after st
    exact ⟨v :: vs, μ₂, st.trans st₂, .cons (hv.step st.rel st₂) hvs, by rw [List.length_cons, List.length_cons, q₂.1], q₂.2⟩

theorem tr_bool {v : V} {k : Bool → Prop} (h : tr v k) : ∃ b, v = .bool b ∧ k b := by
  unfold tr truth at h
  split at h
  · rename_i b e
    split at e
    · cases e; exact ⟨_, rfl, h⟩
    · cases e
  · exact h.elim
theorem truthy_sound {rv : Value} {v : V} {k : Bool → Prop} {P : Bool → Shared → Prop} {M : Model} {h : Heap} (hv : RV c h rv v) (t : tr v k) (q : ∀ b, k b → P b s) : wpAny M A (truthy rv) P E s := by
  obtain ⟨b, rfl, hb⟩ := tr_bool t
  cases hv
  exact wpAny_truthy_bool (q b hb)

/-- the arguments, then the call -/
theorem call_es {es : List Mine.E} {f : Value} {first : List Value} {pos : Pos} {Q : V → Mem → Prop} {Qs : List V → Mem → Prop} {X : String → Mem → Prop} (G : Good c sg) (hs : ∀ e ∈ es, SE c sg d e) (ok : okEs sg env.scope.names es = true) (h : wpEs sg (SC c d) hd es ρ μ Qs X) (S : St c d hd A fs env ρ μ s)
    (hk : keepIn c.K f = true ∨ (∃ id, f = .builtin id) ∨ ∃ T, f = .type T)
    (k : ∀ rvs vs μ₁ s₁, Step c fs μ μ₁ s s₁ → RVs c s₁.heap rvs vs → Qs vs μ₁ → wpAny (model c.prog c.w) A (call f (first ++ rvs)) (Post c fs μ₁ s₁ Q) (XPost c fs μ₁ s₁ X) s₁) :
    wpAny (model c.prog c.w) A (callWith pos f first (backTo pos (starEach (toEs es) env)) []) (Post c fs μ s Q) (XPost c fs μ s X) s := by
  have e1 : (es.map fun e => ((false, eval (toE e) env) : Bool × Sem Value)) = (es.map fun e => eval (toE e) env).map fun t => (false, t) := by rw [List.map_map]; rfl
  rw [backTo_toEs, e1]
  have hp : ((es.map fun e => eval (toE e) env).map fun t => ((false, t) : Bool × Sem Value)).any (·.1) = false := by
    rw [List.any_map]; simp
  have args := ses (fs := fs) (A := A) hs ok h S
  rw [e1] at args
  have fin : wpAny (model c.prog c.w) A (evalArgs f true ((es.map fun e => eval (toE e) env).map fun t => (false, t)) []) (fun a s₁ => c.K.In s₁.heap ∧ wpAny (model c.prog c.w) A (call f (first ++ a.pos) a.kw) (Post c fs μ s Q) (XPost c fs μ s X) s₁) (XPost c fs μ s X) s :=
    evalArgs_es (wpAny_mono args (fun rvs s₁ ⟨vs, μ₁, st, hvs, _, q⟩ => ⟨G.X.keeps st.rel.base, wp_after st (k rvs vs μ₁ s₁ st hvs q)⟩) fun _ _ x => x)
  rcases hk with hk | ⟨id, rfl⟩ | ⟨T, rfl⟩
  · exact callWith_of (by rw [hp]; rfl) (keeps_K hk) fin
  · exact PySem.Calls.callWith_builtin hp (wpAny_mono fin (fun _ _ x => x.2) fun _ _ x => x)
  · exact PySem.callWith_type hp (wpAny_mono fin (fun _ _ x => x.2) fun _ _ x => x)

theorem sc_call {hd : Bool} {f : String} {fa : Addr} {vs : List V} {rvs : List Value} {Q : V → Mem → Prop} {X : String → Mem → Prop} (h : SC c d hd f vs μ Q X) (hf : c.fn f = some fa) (aok : AOK c d hd A fs μ s.heap) (r : Rel c μ s.heap) (hr : RVs c s.heap rvs vs) :
    wpAny (model c.prog c.w) A (call (.ref fa) rvs) (Post c fs μ s Q) (XPost c fs μ s X) s := by
  obtain ⟨fa', h1, h2⟩ := h
  rw [hf] at h1; cases h1
  exact wpAny_call (h2 A fs s rvs aok r hr)

theorem new_sound {cl : String} {C fI : Addr} {vs : List V} {rvs : List Value} {Q : V → Mem → Prop} {X : String → Mem → Prop} (X' : c.K.In s.heap) (hm : makesIn c.K C = true) (hi : findIn c.K (.ref C) "__init__" = some (some (.ref fI))) (hty : typeIn c.K (.ref fI) = some (.type "function"))
    (hc : c.cls cl = some C) (hf : c.fn (cl ++ ".__init__") = some fI) (S : St c d hd A fs env ρ μ s) (hr : RVs c s.heap rvs vs)
    (h : ∀ a dd, μ a = none → μ dd = none → dd ≠ a → SC c d hd (cl ++ ".__init__") (.ref a :: vs) (updM (updM μ dd (.attrs [])) a (.inst cl dd)) (fun v μ₂ => (match v with | .none => True | _ => False) ∧ Q (.ref a) μ₂) X) :
    wpAny (model c.prog c.w) A (call (.ref C) rvs) (Post c fs μ s Q) (XPost c fs μ s X) s := by
  obtain ⟨hp, g, dr, t, os⟩ := s
  have n0 : hp.get? hp.objs.size = none := Heap.get?_none_of_le (Nat.le_refl _)
  have n1 : (hp.push emptyDict).get? (hp.objs.size + 1) = none := Heap.get?_none_of_le (by rw [Heap.size_push]; exact Nat.le_refl _)
  have k0 : ∀ b o, hp.get? b = some o → (hp.push emptyDict).get? b = some o := fun b o e => Heap.get?_push_of_some _ e
  have st0 : Step c fs μ (updM μ hp.objs.size (.attrs [])) ⟨hp, g, dr, t, os⟩ ⟨hp.push emptyDict, g, dr, t, os⟩ := Step.alloc S.rel k0 n0 (Heap.get?_push_size _ rfl) (.attrs (es := []) .nil)
  have g1 : ((hp.push emptyDict).push (instObj C hp.objs.size)).get? (hp.objs.size + 1) = some (instObj C hp.objs.size) := by
    have := Heap.get?_push_size (hp.push emptyDict) (o := instObj C hp.objs.size) rfl
    rwa [Heap.size_push] at this
  have st1 : Step c fs (updM μ hp.objs.size (.attrs [])) (updM (updM μ hp.objs.size (.attrs [])) (hp.objs.size + 1) (.inst cl hp.objs.size)) ⟨hp.push emptyDict, g, dr, t, os⟩ ⟨(hp.push emptyDict).push (instObj C hp.objs.size), g, dr, t, os⟩ :=
    Step.alloc st0.rel (fun b o e => Heap.get?_push_of_some _ e) n1 g1 (.inst hc)
  have st := st0.trans st1
  have m1 : μ (hp.objs.size + 1) = none := S.rel.free (Heap.get?_none_of_le (by exact Nat.le_succ _))
  obtain ⟨fa', h1, h2⟩ := h (hp.objs.size + 1) hp.objs.size m1 (S.rel.free n0) (Nat.ne_of_lt (Nat.lt_succ_self _))
  rw [hf] at h1; cases h1
  refine wpAny_call (make_core (makes_of X' hm) (looks_findIn X' hi) (fun self => bind_fn X' self hty) (.inl rfl) ?_)
  have aok := S.aok.step st
  have := S.room
  have hu := S.units
  have aok' : AOK c d hd (A.under (.builtin "type.__call__" ⟨.ref C :: rvs, []⟩)) fs (updM (updM μ hp.objs.size (.attrs [])) (hp.objs.size + 1) (.inst cl hp.objs.size)) ((hp.push emptyDict).push (instObj C hp.objs.size)) :=
    ⟨aok.frames, by rw [depth_under_make]; omega, by rw [units_under_make]; omega, aok.handled, aok.fun_, aok.priv, aok.dicts⟩
  refine codeAny_mono (h2 _ fs _ (.ref (hp.objs.size + 1) :: rvs) aok' st.rel (.cons (.ref _) (hr.step S.rel st))) fun r s' hrr => ?_
  rcases r with re | (_ | _ | _ | v)
  · exact hrr.after st
  · exact hrr.elim
  · exact hrr.elim
  · exact hrr.elim
  · obtain ⟨v', μ', st', hv, hn, hq⟩ := hrr
    cases hv <;> first | exact hn.elim | exact ⟨rfl, .ref (hp.objs.size + 1), μ', st.trans st', .ref _, hq⟩
end
end Mine

set_option autoImplicit false
namespace Mine
set_option linter.unusedVariables false
set_option linter.unusedSimpArgs false
open PySem PySem.W PySem.Calls PyProof.Rows

section
variable {c : Ctx} {sg : Sig} {d : Nat}

theorem wp_next {A : Around} {fs : List Env} {μ₀ μ : Mem} {s₀ s : Shared} {t : Sem Value} {Q₁ : V → Mem → Prop} {X : String → Mem → Prop} {P : Value → Shared → Prop} (st : Step c fs μ₀ μ s₀ s) (h : wpAny (model c.prog c.w) A t (Post c fs μ s Q₁) (XPost c fs μ s X) s)
    (k : ∀ rv v μ₁ s₁, Step c fs μ μ₁ s s₁ → Step c fs μ₀ μ₁ s₀ s₁ → RV c s₁.heap rv v → Q₁ v μ₁ → P rv s₁) : wpAny (model c.prog c.w) A t P (XPost c fs μ₀ s₀ X) s :=
  wpAny_mono h (fun rv s₁ ⟨v, μ₁, st₁, hv, q⟩ => k rv v μ₁ s₁ st₁ (st.trans st₁) hv q) fun _ _ x => x.after st
theorem wp_nextB {A : Around} {fs : List Env} {μ₀ μ : Mem} {s₀ s : Shared} {t : Sem Bool} {Q₁ : Bool → Mem → Prop} {X : String → Mem → Prop} {P : Bool → Shared → Prop} (st : Step c fs μ₀ μ s₀ s) (h : wpAny (model c.prog c.w) A t (PostB c fs μ s Q₁) (XPost c fs μ s X) s)
    (k : ∀ b μ₁ s₁, Step c fs μ μ₁ s s₁ → Step c fs μ₀ μ₁ s₀ s₁ → Q₁ b μ₁ → P b s₁) : wpAny (model c.prog c.w) A t P (XPost c fs μ₀ s₀ X) s :=
  wpAny_mono h (fun b s₁ ⟨μ₁, st₁, q⟩ => k b μ₁ s₁ st₁ (st.trans st₁) q) fun _ _ x => x.after st
theorem wp_last {A : Around} {fs : List Env} {μ₀ μ : Mem} {s₀ s : Shared} {t : Sem Value} {Q : V → Mem → Prop} {E : Value → Shared → Prop} (st : Step c fs μ₀ μ s₀ s) (h : wpAny (model c.prog c.w) A t (Post c fs μ s Q) E s) : wpAny (model c.prog c.w) A t (Post c fs μ₀ s₀ Q) E s :=
  wpAny_mono h (fun _ _ p => p.after st) fun _ _ x => x

theorem se_bin {op : Operator} {l r : E} {p : Pos} (hl : SE c sg d l) (hr : SE c sg d r) : SE c sg d (.bin op l r p) := by
  intro hd A fs env ρ μ s Q X ok h S
  simp only [okE, Bool.and_eq_true] at ok
  refine wpAny_BinOp (wp_next (Step.refl S.rel) (hl hd A fs env ρ μ s _ X ok.1 h S) fun ra a μ₁ s₁ st _ ha q => ?_)
  refine wp_next st (hr hd A fs env ρ μ₁ s₁ _ X ok.2 q (S.step st)) fun rb b μ₂ s₂ st₂ st' hb q₂ => ?_
  exact wp_last st' (bin_sound st₂.rel (ha.step st.rel st₂) hb q₂ ((S.step st).step st₂).aok)

theorem se_neg {e : E} {p : Pos} (he : SE c sg d e) : SE c sg d (.neg e p) := by
  intro hd A fs env ρ μ s Q X ok h S
  simp only [okE] at ok
  refine wpAny_UnaryOp (wp_next (Step.refl S.rel) (he hd A fs env ρ μ s _ X ok h S) fun ra a μ₁ s₁ st _ ha q => ?_)
  unfold asInt at q
  split at q
  · cases ha; exact PyProof.Rows.neg_int ⟨_, μ₁, st.trans (Step.toks st.rel), .int _ _, q⟩
  · exact q.elim

theorem se_not {e : E} {p : Pos} (he : SE c sg d e) : SE c sg d (.not e p) := by
  intro hd A fs env ρ μ s Q X ok h S
  simp only [okE] at ok
  refine wpAny_UnaryOp (wp_next (Step.refl S.rel) (he hd A fs env ρ μ s _ X ok h S) fun ra a μ₁ s₁ st _ ha q => ?_)
  exact not_of (truthy_sound ha q fun b hb => ⟨.bool (!b), μ₁, st, .bool _, hb⟩)

theorem behind_toE (op : CmpOp) (e : E) : behindInMarks op (toE e) = false := by cases e <;> rfl
theorem se_cmp {op : CmpOp} {l r : E} {p : Pos} (hl : SE c sg d l) (hr : SE c sg d r) : SE c sg d (.cmp op l r p) := by
  intro hd A fs env ρ μ s Q X ok h S
  simp only [okE, Bool.and_eq_true] at ok
  refine wpAny_Compare1 (wp_next (Step.refl S.rel) (hl hd A fs env ρ μ s _ X ok.1 h S) fun ra a μ₁ s₁ st _ ha q => ?_) (behind_toE op r)
  refine wp_next st (hr hd A fs env ρ μ₁ s₁ _ X ok.2 q (S.step st)) fun rb b μ₂ s₂ st₂ st' hb q₂ => ?_
  exact wp_last st' (cmp_sound st₂.rel (ha.step st.rel st₂) hb q₂ ((S.step st).step st₂).aok)

theorem se_attr {o : E} {a : String} {p : Pos} (G : Good c sg) (ho : SE c sg d o) : SE c sg d (.attr o a p) := by
  intro hd A fs env ρ μ s Q X ok h S
  simp only [okE, Bool.and_eq_true] at ok
  have hb : ∃ x p, o = .loc x p := by
    have := ok.2
    split at this
    · exact ⟨_, _, rfl⟩
    · cases this
  have main := wp_next (P := fun ra s₁ => wpAny (model c.prog c.w) A (getAttr ra (Str.ofString a) true) (Post c fs μ s Q) (XPost c fs μ s X) s₁) (Step.refl S.rel) (ho hd A fs env ρ μ s _ X ok.1.1 h S) fun ra v μ₁ s₁ st _ ha q => by
    unfold optW at q
    split at q
    · rename_i w hw
      exact wp_last st (attr_sound (G.X.keeps st.rel.base) st.rel ha hw G.cls (fun x C hC => G.attr x C a hC (List.contains_iff_mem.mp ok.1.2)) q)
    · exact q.elim
  obtain ⟨x, p', rfl⟩ := hb
  exact Attribute_any_ main rfl

theorem se_sub {o i : E} {p : Pos} (ho : SE c sg d o) (hi : SE c sg d i) : SE c sg d (.sub o i p) := by
  intro hd A fs env ρ μ s Q X ok h S
  simp only [okE, Bool.and_eq_true] at ok
  refine Subscript_ (wp_next (Step.refl S.rel) (ho hd A fs env ρ μ s _ X ok.1 h S) fun ra a μ₁ s₁ st _ ha q => ?_)
  refine wp_next st (hi hd A fs env ρ μ₁ s₁ _ X ok.2 q (S.step st)) fun rb b μ₂ s₂ st₂ st' hb q₂ => ?_
  unfold optW at q₂
  split at q₂
  · rename_i w hw
    exact wp_last st' (sub_sound st₂.rel (ha.step st.rel st₂) hb hw q₂)
  · exact q₂.elim

theorem se_tup {es : List E} {k : Nat} {p : Pos} (hs : ∀ e ∈ es, SE c sg d e) : SE c sg d (.tup es k p) := by
  intro hd A fs env ρ μ s Q X ok h S
  simp only [okE, Bool.and_eq_true, decide_eq_true_eq] at ok
  refine Tuple_ ?_
  rw [backTo_toEs]
  refine wpAny_mono (ses hs ok.1 h S) (fun rvs s₁ ⟨vs, μ₁, st, hvs, hln, q⟩ => ?_) fun _ _ x => x
  have hl := hvs.length
  have hok := ok.2
  have k : ∀ b o, s₁.heap.get? b = some o → (s₁.heap.push { cls := .type "tuple", data := .seq rvs.toArray }).get? b = some o := fun b o e => Heap.get?_push_of_some _ e
  have st' : Step c fs μ₁ μ₁ s₁ { s₁ with heap := s₁.heap.push { cls := .type "tuple", data := .seq rvs.toArray } } := Step.grows (n := s₁.toks) st.rel k
  refine wpAny_newTuple ⟨.tup vs, μ₁, st.trans st', .tup (Heap.get?_push_size _ rfl) rfl rfl (by simpa using hvs.step st.rel st') (by rw [lim_val]; omega), q⟩ ?_
  rw [sizeLine_eq]; omega

theorem se_list {es : List E} {p : Pos} (hs : ∀ e ∈ es, SE c sg d e) : SE c sg d (.list es p) := by
  intro hd A fs env ρ μ s Q X ok h S
  simp only [okE, Bool.and_eq_true, decide_eq_true_eq] at ok
  refine List_ ?_
  rw [backTo_toEs]
  refine wpAny_mono (ses hs ok.1 h S) (fun rvs s₁ ⟨vs, μ₁, st, hvs, _, q⟩ => ?_) fun _ _ x => x
  refine wpAny_newList ((post_newL (n := s₁.toks) st.rel (by simpa using hvs) q).after st) ?_
  have := newL_size (vs := rvs.toArray) (by simpa using hvs) q.1
  simpa using this
end
end Mine

set_option autoImplicit false
namespace Mine
set_option linter.unusedVariables false
set_option linter.unusedSimpArgs false
open PySem PySem.W PySem.Calls PyProof.Rows

section
variable {c : Ctx} {sg : Sig} {d : Nat}

theorem eval_SliceL {M : Model} {A : Around} {E : Value → Shared → Prop} {s : Shared} {env : Env} {l : Expr} {ps : Pos} {P : Value → Shared → Prop}
    (h : wpAny M A (eval l env) (fun rl s₁ => P (.ref s₁.heap.objs.size) { s₁ with heap := s₁.heap.push { cls := .type "slice", data := .fields #[rl, .none, .none] } }) E s) : wpAny M A (eval (.Slice (some l) none none ps) env) P E s := by
  show wpAny M A (do
    let l ← eval l env
    let u ← holding [l] (pure .none)
    let s ← holding [l, u] (pure .none)
    newFields "slice" [l, u, s]) P E s
  refine wpAny_bind (wpAny_mono h (fun rl s₁ h₁ => ?_) fun _ _ x => x)
  refine wpAny_bind (wpAny_holding (wpAny_pure (wpAny_bind (wpAny_holding (wpAny_pure ?_)))))
  unfold newFields
  exact wpAny_newObj_type h₁ (by show sizeOk (.fields _); simp [sizeOk, sizeLine_eq])
theorem eval_SliceU {M : Model} {A : Around} {E : Value → Shared → Prop} {s : Shared} {env : Env} {l : Expr} {ps : Pos} {P : Value → Shared → Prop}
    (h : wpAny M A (eval l env) (fun rl s₁ => P (.ref s₁.heap.objs.size) { s₁ with heap := s₁.heap.push { cls := .type "slice", data := .fields #[.none, rl, .none] } }) E s) : wpAny M A (eval (.Slice none (some l) none ps) env) P E s := by
  show wpAny M A (do
    let l' ← pure .none
    let u ← holding [l'] (eval l env)
    let s ← holding [l', u] (pure .none)
    newFields "slice" [l', u, s]) P E s
  refine wpAny_bind (wpAny_pure (wpAny_bind (wpAny_holding (wpAny_mono h (fun rl s₁ h₁ => ?_) fun _ _ x => x))))
  refine wpAny_bind (wpAny_holding (wpAny_pure ?_))
  unfold newFields
  exact wpAny_newObj_type h₁ (by show sizeOk (.fields _); simp [sizeOk, sizeLine_eq])

theorem se_sliceL {o l : E} {ps p : Pos} (ho : SE c sg d o) (hl : SE c sg d l) : SE c sg d (.sliceL o l ps p) := by
  intro hd A fs env ρ μ s Q X ok h S
  simp only [okE, Bool.and_eq_true] at ok
  refine Subscript_ (wp_next (Step.refl S.rel) (ho hd A fs env ρ μ s _ X ok.1 h S) fun ra a μ₁ s₁ st _ ha q => ?_)
  refine eval_SliceL (wp_next st (hl hd A fs env ρ μ₁ s₁ _ X ok.2 q (S.step st)) fun rb b μ₂ s₂ st₂ st' hb q₂ => ?_)
  obtain ⟨i, rfl, q₂⟩ := asInt_of q₂
  cases hb
  exact wpAny_mono (slice_sound st₂.rel (ha.step st.rel st₂) (.int _ _) .none q₂ fun _ _ => rfl) (fun _ _ p => p.after st') fun _ _ x => x
theorem se_sliceU {o l : E} {ps p : Pos} (ho : SE c sg d o) (hl : SE c sg d l) : SE c sg d (.sliceU o l ps p) := by
  intro hd A fs env ρ μ s Q X ok h S
  simp only [okE, Bool.and_eq_true] at ok
  refine Subscript_ (wp_next (Step.refl S.rel) (ho hd A fs env ρ μ s _ X ok.1 h S) fun ra a μ₁ s₁ st _ ha q => ?_)
  refine eval_SliceU (wp_next st (hl hd A fs env ρ μ₁ s₁ _ X ok.2 q (S.step st)) fun rb b μ₂ s₂ st₂ st' hb q₂ => ?_)
  obtain ⟨i, rfl, q₂⟩ := asInt_of q₂
  cases hb
  exact wpAny_mono (slice_sound st₂.rel (ha.step st.rel st₂) .none (.int _ _) q₂ fun _ _ => rfl) (fun _ _ p => p.after st') fun _ _ x => x

theorem br_ite {b : Bool} {P Q : Prop} {P' Q' : Prop} (h : br b P Q) (h1 : P → P') (h2 : Q → Q') : if b = true then P' else Q' := by
  cases b with
  | true => rw [if_pos rfl]; exact h1 (h.1 rfl)
  | false => rw [if_neg (by decide)]; exact h2 (h.2 rfl)

theorem se_cmp2 {op₁ op₂ : CmpOp} {a b e : E} {p : Pos} (ha : SE c sg d a) (hb : SE c sg d b) (he : SE c sg d e) : SE c sg d (.cmp2 op₁ op₂ a b e p) := by
  intro hd A fs env ρ μ s Q X ok h S
  simp only [okE, Bool.and_eq_true] at ok
  refine Compare_chain (wp_next (Step.refl S.rel) (ha hd A fs env ρ μ s _ X ok.1.1 h S) fun ra va μ₁ s₁ st _ hva q => ?_) (by show lastMarks [op₁, op₂] [toE b, toE e] = false; exact behind_toE op₂ e)
  refine chain_link (wp_next st (hb hd A fs env ρ μ₁ s₁ _ X ok.1.2 q (S.step st)) fun rb vb μ₂ s₂ st₂ st' hvb q₂ => ?_)
  have S₂ := (S.step st).step st₂
  refine wpAny_mono (cmp_sound (E := XPost c fs μ s X) st₂.rel (hva.step st.rel st₂) hvb q₂ S₂.aok) (fun rt s₃ ⟨t, μ₃, st₃, ht, q₃⟩ => ?_) fun _ _ x => x
  refine truthy_sound ht q₃ fun y hy => ?_
  refine br_ite hy (fun h1 => ?_) fun h2 => ⟨t, μ₃, st'.trans st₃, ht, h2⟩
  refine chain_last (wp_next (st'.trans st₃) (he hd A fs env ρ μ₃ s₃ _ X ok.2 h1 (S₂.step st₃)) fun rc vc μ₄ s₄ st₄ st'' hvc q₄ => ?_)
  exact wp_last st'' (cmp_sound st₄.rel ((hvb.step st₂.rel st₃).step st₃.rel st₄) hvc q₄ ((S₂.step st₃).step st₄).aok)

theorem evalEach_toEs (env : Env) : ∀ es : List E, evalEach (toEs es) env = es.map fun e => eval (toE e) env
  | [] => rfl
  | e :: es => by rw [toEs, evalEach, evalEach_toEs env es, List.map_cons]

theorem sands {hd : Bool} {A : Around} {fs : List Env} {env : Env} {ρ : Loc} {X : String → Mem → Prop} {Q : V → Mem → Prop} {p : Pos} : ∀ {es : List E} {μ : Mem} {s : Shared}, (∀ e ∈ es, SE c sg d e) → okEs sg env.scope.names es = true → wpAnd sg (SC c d) hd es ρ μ Q X → St c d hd A fs env ρ μ s →
    wpAny (model c.prog c.w) A (boolOp p .And (es.map fun e => eval (toE e) env)) (Post c fs μ s Q) (XPost c fs μ s X) s
  | [], _, _, _, _, h, _ => h.elim
  | [e], μ, s, hs, ok, h, S => by
    simp only [okEs, Bool.and_eq_true] at ok
    exact hs e (.head _) hd A fs env ρ μ s Q X ok.1 h S
  | e :: e' :: es, μ, s, hs, ok, h, S => by
    rw [okEs, Bool.and_eq_true] at ok
    show wpAny _ A (eval (toE e) env >>= fun v => standAt p >>= fun _ => holding [v] (truthy v) >>= fun t => match BoolOp.And, t with | .And, false | .Or, true => pure v | _, _ => boolOp p .And ((e' :: es).map fun e => eval (toE e) env)) _ _ s
    refine wpAny_bind (wp_next (Step.refl S.rel) (hs e (.head _) hd A fs env ρ μ s _ X ok.1 h S) fun rv v μ₁ s₁ st _ hv q => ?_)
    refine wpAny_bind (wpAny_standAt (wpAny_bind (wpAny_holding (truthy_sound hv q fun b hb => ?_))))
    cases b with
    | true => exact wp_after st (sands (fun x hx => hs x (.tail _ hx)) ok.2 (hb.1 rfl) (S.step st))
    | false => exact wpAny_pure ⟨v, μ₁, st, hv, hb.2 rfl⟩
theorem sors {hd : Bool} {A : Around} {fs : List Env} {env : Env} {ρ : Loc} {X : String → Mem → Prop} {Q : V → Mem → Prop} {p : Pos} : ∀ {es : List E} {μ : Mem} {s : Shared}, (∀ e ∈ es, SE c sg d e) → okEs sg env.scope.names es = true → wpOr sg (SC c d) hd es ρ μ Q X → St c d hd A fs env ρ μ s →
    wpAny (model c.prog c.w) A (boolOp p .Or (es.map fun e => eval (toE e) env)) (Post c fs μ s Q) (XPost c fs μ s X) s
  | [], _, _, _, _, h, _ => h.elim
  | [e], μ, s, hs, ok, h, S => by
    simp only [okEs, Bool.and_eq_true] at ok
    exact hs e (.head _) hd A fs env ρ μ s Q X ok.1 h S
  | e :: e' :: es, μ, s, hs, ok, h, S => by
    rw [okEs, Bool.and_eq_true] at ok
    show wpAny _ A (eval (toE e) env >>= fun v => standAt p >>= fun _ => holding [v] (truthy v) >>= fun t => match BoolOp.Or, t with | .And, false | .Or, true => pure v | _, _ => boolOp p .Or ((e' :: es).map fun e => eval (toE e) env)) _ _ s
    refine wpAny_bind (wp_next (Step.refl S.rel) (hs e (.head _) hd A fs env ρ μ s _ X ok.1 h S) fun rv v μ₁ s₁ st _ hv q => ?_)
    refine wpAny_bind (wpAny_standAt (wpAny_bind (wpAny_holding (truthy_sound hv q fun b hb => ?_))))
    cases b with
    | true => exact wpAny_pure ⟨v, μ₁, st, hv, hb.1 rfl⟩
    | false => exact wp_after st (sors (fun x hx => hs x (.tail _ hx)) ok.2 (hb.2 rfl) (S.step st))

theorem se_and {es : List E} {p : Pos} (hs : ∀ e ∈ es, SE c sg d e) : SE c sg d (.and es p) := by
  intro hd A fs env ρ μ s Q X ok h S
  simp only [okE] at ok
  show wpAny _ A (boolOp p .And (evalEach (toEs es) env)) _ _ s
  rw [evalEach_toEs]
  exact sands hs ok h S
theorem se_or {es : List E} {p : Pos} (hs : ∀ e ∈ es, SE c sg d e) : SE c sg d (.or es p) := by
  intro hd A fs env ρ μ s Q X ok h S
  simp only [okE] at ok
  show wpAny _ A (boolOp p .Or (evalEach (toEs es) env)) _ _ s
  rw [evalEach_toEs]
  exact sors hs ok h S
end
end Mine

set_option autoImplicit false
namespace Mine
set_option linter.unusedVariables false
set_option linter.unusedSimpArgs false
open PySem PySem.W PySem.Calls PyProof.Rows

theorem boot_len : bootBuiltins (Str.ofString "len") = some (.builtin "len") := by decide +kernel
theorem boot_min : bootBuiltins (Str.ofString "min") = some (.builtin "min") := by decide +kernel
theorem boot_max : bootBuiltins (Str.ofString "max") = some (.builtin "max") := by decide +kernel
theorem boot_sum : bootBuiltins (Str.ofString "sum") = some (.builtin "sum") := by decide +kernel
theorem boot_all : bootBuiltins (Str.ofString "all") = some (.builtin "all") := by decide +kernel
theorem boot_int : bootBuiltins (Str.ofString "int") = some (.type "int") := by decide +kernel
theorem boot_range : bootBuiltins (Str.ofString "range") = some (.type "range") := by decide +kernel
theorem boot_list : bootBuiltins (Str.ofString "list") = some (.type "list") := by decide +kernel
theorem boot_bool : bootBuiltins (Str.ofString "bool") = some (.type "bool") := by decide +kernel
theorem boot_str : bootBuiltins (Str.ofString "str") = some (.type "str") := by decide +kernel
theorem boot_tuple : bootBuiltins (Str.ofString "tuple") = some (.type "tuple") := by decide +kernel
theorem boot_isi : bootBuiltins (Str.ofString "isinstance") = some (.builtin "isinstance") := by decide +kernel
theorem boot_blt : ∀ f ∈ bltNames, bootBuiltins (Str.ofString f) = some (bltnV f) := by
  intro f hf
  simp only [bltNames, List.mem_cons, List.not_mem_nil, or_false] at hf
  rcases hf with rfl | rfl | rfl | rfl | rfl | rfl | rfl | rfl
  · exact boot_len
  · exact boot_int
  · exact boot_min
  · exact boot_max
  · exact boot_range
  · exact boot_list
  · exact boot_sum
  · exact boot_all
end Mine

set_option autoImplicit false
namespace Mine
set_option linter.unusedVariables false
set_option linter.unusedSimpArgs false
open PySem PySem.W PySem.Calls PyProof.Rows

section
variable {c : Ctx} {sg : Sig} {d : Nat}

theorem se_loc {x : String} {p : Pos} : SE c sg d (.loc x p) := by
  intro hd A fs env ρ μ s Q X ok h S
  simp only [okE, Bool.and_eq_true, bne_iff_ne, ne_eq] at ok
  replace h : optW (ρ x) μ Q := h
  unfold optW at h
  split at h
  · rename_i v hv
    exact loc_sound S hv ok.1.2 ok.2 h
  · exact h.elim
theorem se_glob {x : String} {p : Pos} (G : Good c sg) : SE c sg d (.glob x p) := by
  intro hd A fs env ρ μ s Q X ok h S
  simp only [okE, Bool.and_eq_true, bne_iff_ne, ne_eq, beq_iff_eq] at ok
  replace h : optW (sg.consts.lookup x) μ Q := h
  unfold optW at h
  split at h
  · rename_i v hv
    obtain ⟨rv, h1, h2⟩ := G.const x v hv
    exact name_glob G S.er S.rel ok.1.1 ok.2 h1 ⟨v, μ, Step.refl S.rel, h2 _, h⟩
  · exact h.elim

theorem se_call {f : String} {es : List E} {pf p : Pos} (G : Good c sg) (hs : ∀ e ∈ es, SE c sg d e) : SE c sg d (.call f es pf p) := by
  intro hd A fs env ρ μ s Q X ok h S
  simp only [okE, Bool.and_eq_true, bne_iff_ne, ne_eq, beq_iff_eq] at ok
  obtain ⟨fa, h1, h2, h3⟩ := G.fn f (List.contains_iff_mem.mp ok.1.1.2)
  refine wpAny_Call_NameR (name_glob G S.er S.rel ok.1.1.1 ok.2 h2 ?_)
  refine call_es G hs ok.1.2 h S (.inl h3) fun rvs vs μ₁ s₁ st hr q => ?_
  exact sc_call q h1 (S.step st).aok st.rel hr

theorem se_new {f : String} {es : List E} {pf p : Pos} (G : Good c sg) (hs : ∀ e ∈ es, SE c sg d e) : SE c sg d (.new f es pf p) := by
  intro hd A fs env ρ μ s Q X ok h S
  simp only [okE, Bool.and_eq_true, bne_iff_ne, ne_eq, beq_iff_eq] at ok
  obtain ⟨C, fI, h1, h2, h3, h4, h5, h6, h7⟩ := G.new f (List.contains_iff_mem.mp ok.1.1.2)
  refine wpAny_Call_NameR (name_glob G S.er S.rel ok.1.1.1 ok.2 h2 ?_)
  refine call_es G hs ok.1.2 h S (.inl h4) fun rvs vs μ₁ s₁ st hr q => ?_
  exact new_sound (G.X.keeps st.rel.base) h3 h6 h7 h1 h5 (S.step st) hr q

theorem bltn_ne {f : String} (h : f ∈ bltNames) : f ≠ "__debug__" ∧ f ≠ "__name__" := by
  simp only [bltNames, List.mem_cons, List.not_mem_nil, or_false] at h
  rcases h with rfl | rfl | rfl | rfl | rfl | rfl | rfl | rfl <;> decide

theorem se_bltn {f : String} {es : List E} {pf p : Pos} (G : Good c sg) (hs : ∀ e ∈ es, SE c sg d e) : SE c sg d (.bltn f es pf p) := by
  intro hd A fs env ρ μ s Q X ok h S
  simp only [okE, Bool.and_eq_true, bne_iff_ne, ne_eq, beq_iff_eq] at ok
  have hm := List.contains_iff_mem.mp ok.1.2
  refine wpAny_Call_NameR (name_blt G S.er S.rel ok.1.1 (bltn_ne hm).1 (bltn_ne hm).2 (G.blt f (List.mem_cons_of_mem _ (List.mem_append_left _ hm))) (boot_blt f hm) ?_)
  refine call_es G hs ok.2 h S ?_ fun rvs vs μ₁ s₁ st hr q => ?_
  · unfold bltnV
    split
    · exact .inr (.inl ⟨_, rfl⟩)
    · exact .inr (.inr ⟨_, rfl⟩)
  · exact bltn_sound st.rel hr q (S.step st).aok

theorem boot_ty : ∀ n ∈ tyNames, bootBuiltins (Str.ofString n) = some (.type n) ∧ n ≠ "__debug__" ∧ n ≠ "__name__" := by
  intro f hf
  simp only [tyNames, List.mem_cons, List.not_mem_nil, or_false] at hf
  rcases hf with rfl | rfl | rfl | rfl | rfl | rfl
  · exact ⟨boot_int, by decide, by decide⟩
  · exact ⟨boot_bool, by decide, by decide⟩
  · exact ⟨boot_str, by decide, by decide⟩
  · exact ⟨boot_tuple, by decide, by decide⟩
  · exact ⟨boot_list, by decide, by decide⟩
  · exact ⟨by decide +kernel, by decide, by decide⟩

theorem isi_out {cl : Cl} {v : V} {μ : Mem} {Q : V → Mem → Prop} (q : match isiO μ v cl with | some b => Q (.bool b) μ | none => False) : ∃ b, isiO μ v cl = some b ∧ Q (.bool b) μ := by
  split at q
  · rename_i b e; exact ⟨b, e, q⟩
  · exact q.elim
theorem own_exc {v : V} {μ : Mem} {n : String} {b : Bool} (h : isiO μ v (.own n) = some b) : ∃ x, v = .exc x ∧ isSub x n = b := by
  cases v with
  | exc x => exact ⟨x, rfl, Option.some.inj h⟩
  | _ => cases h
theorem owns_exc {v : V} {μ : Mem} {l : List (String × Pos)} {b : Bool} (h : isiO μ v (.owns l) = some b) : ∃ x, v = .exc x ∧ (l.any fun n => isSub x n.1) = b := by
  cases v with
  | exc x => exact ⟨x, rfl, Option.some.inj h⟩
  | _ => cases h
theorem ty_exc {v : V} {μ : Mem} {b : Bool} (h : isiO μ v (.ty "ValueError") = some b) : ∃ x, v = .exc x ∧ b = true := by
  cases v with
  | exc x => exact ⟨x, rfl, (Option.some.inj h).symm⟩
  | _ => simp [isiO] at h
section
variable {A : Around} {fs : List Env} {env : Env} {ρ : Loc} {μ : Mem} {s : Shared} {E : Value → Shared → Prop} {P : Value → Shared → Prop}
theorem isi_exc {ra cl : Value} {x : String} {b : Bool} (G : Good c sg) (r : Rel c μ s.heap) (ha : RV c s.heap ra (.exc x)) (hk : ∀ C, c.exc x = some C → kitOne c.K (.ref C) cl = some b) (h : ∀ tk, P (.bool b) { s with toks := tk }) :
    wpAny (model c.prog c.w) A (call (.builtin "isinstance") [ra, cl]) P E s := by
  cases ha with
  | exc h1 h2 h3 h4 => exact kia_one (kitx_exc (G.exk _ _ h4).1) (Kin G r) ⟨_, h1, h2⟩ (hk _ h4) nofun h
theorem isi_excs {ra : Value} {tp : Addr} {its : List Value} {x : String} {b : Bool} (G : Good c sg) (r : Rel c μ s.heap) (ha : RV c s.heap ra (.exc x)) (htp : s.heap.get? tp = some { cls := .type "tuple", data := .seq its.toArray }) (hk : ∀ C, c.exc x = some C → kitAny c.K (.ref C) its = some b)
    (h : ∀ tk, P (.bool b) { s with toks := tk }) : wpAny (model c.prog c.w) A (call (.builtin "isinstance") [ra, .ref tp]) P E s := by
  cases ha with
  | exc h1 h2 h3 h4 => exact kia_tup (kitx_exc (G.exk _ _ h4).1) (Kin G r) ⟨_, h1, h2⟩ htp (hk _ h4) nofun h
theorem okX_of {n : String} (G : Good c sg) (ok : okX sg env.scope.names n = true) : ∃ D, c.exc n = some D ∧ env.kindOf (Str.ofString n) = some .globalImplicit ∧ n ≠ "__debug__" := by
  simp only [okX, Bool.and_eq_true, bne_iff_ne, ne_eq, beq_iff_eq] at ok
  obtain ⟨D, hD⟩ := G.excs n (List.contains_iff_mem.mp ok.1.1)
  exact ⟨D, hD, ok.1.2, ok.2⟩
noncomputable def xV (c : Ctx) (n : String × Pos) : Value := .ref ((c.exc n.1).getD 0)
theorem names_sound (G : Good c sg) (er : ER c env ρ μ s.heap) (r : Rel c μ s.heap) {P : List Value → Shared → Prop} : ∀ {l : List (String × Pos)}, (∀ n ∈ l, okX sg env.scope.names n.1 = true) → P (l.map (xV c)) s → wpAny (model c.prog c.w) A (spliced (l.map fun n => (false, eval (.Name (Str.ofString n.1) n.2) env))) P E s := by
  intro l
  induction l generalizing P with
  | nil => intro _ h; exact spliced_nil h
  | cons n l ih =>
    intro ok h
    obtain ⟨D, hD, hk, hdb⟩ := okX_of G (ok n (.head _))
    refine spliced_cons (name_glob G er r hk hdb (G.exc _ _ hD).1 (ih (fun m hm => ok m (.tail _ hm)) ?_))
    have : xV c n = .ref D := by unfold xV; rw [hD]; rfl
    rw [List.map_cons, this] at h
    exact h
theorem kitAny_of {x : String} {C : Addr} (G : Good c sg) (hx : c.exc x = some C) : ∀ {l : List (String × Pos)}, (∀ n ∈ l, ∃ D, c.exc n.1 = some D) → kitAny c.K (.ref C) (l.map (xV c)) = some (l.any fun n => isSub x n.1)
  | [], _ => rfl
  | n :: l, h => by
    obtain ⟨D, hD⟩ := h n (.head _)
    have e1 : xV c n = .ref D := by unfold xV; rw [hD]; rfl
    have ih := kitAny_of G hx (l := l) fun m hm => h m (.tail _ hm)
    rw [List.map_cons, e1, List.any_cons]
    unfold kitAny
    rw [G.kit _ _ _ _ hx hD]
    cases isSub x n.1
    · exact ih
    · rfl
end

theorem se_isi {e : E} {cl : Cl} {pf pc p : Pos} (G : Good c sg) (he : SE c sg d e) : SE c sg d (.isi e cl pf pc p) := by
  intro hd A fs env ρ μ s Q X ok h S
  simp only [okE, Bool.and_eq_true, bne_iff_ne, ne_eq, beq_iff_eq] at ok
  obtain ⟨⟨ok1, ok2⟩, ok3⟩ := ok
  cases cl with
  | ty n =>
    simp only [Bool.and_eq_true, bne_iff_ne, ne_eq, beq_iff_eq] at ok3
    obtain ⟨m1, m3⟩ := ok3
    have hm := List.contains_iff_mem.mp m1
    obtain ⟨b1, b2, b3⟩ := boot_ty n hm
    refine wpAny_Call_NameR (name_blt G S.er S.rel ok1 (by decide) (by decide) (G.blt _ (.head _)) boot_isi ?_)
    have e1 : backTo p (starEach [toE e, Expr.Name (Str.ofString n) pc] env) = [(false, eval (toE e) env), (false, eval (.Name (Str.ofString n) pc) env)] := by cases e <;> rfl
    show wpAny _ A (callWith p (.builtin "isinstance") [] (backTo p (starEach [toE e, Expr.Name (Str.ofString n) pc] env)) []) _ _ s
    rw [e1]
    refine PySem.Calls.callWith_builtin rfl (evalArgs_plain (spliced_cons (wp_next (Step.refl S.rel) (he hd A fs env ρ μ s _ X ok2 h S) fun ra v μ₁ s₁ st _ ha q => ?_)))
    have S₁ := S.step st
    refine spliced_cons (name_blt G S₁.er S₁.rel m3 b2 b3 (G.blt n (List.mem_cons_of_mem _ (List.mem_append_right _ hm))) b1 (spliced_nil ?_))
    obtain ⟨b, hb, q⟩ := isi_out q
    by_cases m2 : n = "ValueError"
    · subst m2
      obtain ⟨x, rfl, rfl⟩ := ty_exc hb
      exact isi_exc G st.rel ha (fun C hC => (G.exk x C hC).2) fun tk => ⟨.bool true, μ₁, st.trans (Step.toks st.rel), .bool _, q⟩
    · refine isi_ty_sound st.rel ha (fun x hx => ?_) hb fun tk => ⟨.bool b, μ₁, st.trans (Step.toks st.rel), .bool _, q⟩
      subst hx
      simp only [isiO] at hb
      rw [if_neg m2] at hb
      cases hb
  | own n =>
    obtain ⟨D, hD, hk, hdb⟩ := okX_of G ok3
    refine wpAny_Call_NameR (name_blt G S.er S.rel ok1 (by decide) (by decide) (G.blt _ (.head _)) boot_isi ?_)
    have e1 : backTo p (starEach [toE e, Expr.Name (Str.ofString n) pc] env) = [(false, eval (toE e) env), (false, eval (.Name (Str.ofString n) pc) env)] := by cases e <;> rfl
    show wpAny _ A (callWith p (.builtin "isinstance") [] (backTo p (starEach [toE e, Expr.Name (Str.ofString n) pc] env)) []) _ _ s
    rw [e1]
    refine PySem.Calls.callWith_builtin rfl (evalArgs_plain (spliced_cons (wp_next (Step.refl S.rel) (he hd A fs env ρ μ s _ X ok2 h S) fun ra v μ₁ s₁ st _ ha q => ?_)))
    have S₁ := S.step st
    refine spliced_cons (name_glob G S₁.er S₁.rel hk hdb (G.exc _ _ hD).1 (spliced_nil ?_))
    obtain ⟨b, hb, q⟩ := isi_out q
    obtain ⟨x, rfl, rfl⟩ := own_exc hb
    exact isi_exc G st.rel ha (fun C hC => G.kit _ _ _ _ hC hD) fun tk => ⟨.bool _, μ₁, st.trans (Step.toks st.rel), .bool _, q⟩
  | owns l =>
    simp only [Bool.and_eq_true, decide_eq_true_eq, List.all_eq_true] at ok3
    refine wpAny_Call_NameR (name_blt G S.er S.rel ok1 (by decide) (by decide) (G.blt _ (.head _)) boot_isi ?_)
    have e1 : backTo p (starEach [toE e, Expr.Tuple (l.map fun n => .Name (Str.ofString n.1) n.2) 0 pc] env) = [(false, eval (toE e) env), (false, eval (.Tuple (l.map fun n => .Name (Str.ofString n.1) n.2) 0 pc) env)] := by cases e <;> rfl
    show wpAny _ A (callWith p (.builtin "isinstance") [] (backTo p (starEach [toE e, Expr.Tuple (l.map fun n => .Name (Str.ofString n.1) n.2) 0 pc] env)) []) _ _ s
    rw [e1]
    refine PySem.Calls.callWith_builtin rfl (evalArgs_plain (spliced_cons (wp_next (Step.refl S.rel) (he hd A fs env ρ μ s _ X ok2 h S) fun ra v μ₁ s₁ st _ ha q => ?_)))
    have S₁ := S.step st
    have e2 : backTo pc (starEach (l.map fun n => Expr.Name (Str.ofString n.1) n.2) env) = l.map fun n => (false, eval (.Name (Str.ofString n.1) n.2) env) := by
      have e3 : ∀ l : List (String × Pos), toEs (l.map fun n => E.glob n.1 n.2) = l.map fun n => Expr.Name (Str.ofString n.1) n.2 := fun l => by
        induction l with
        | nil => rfl
        | cons n l ih => rw [List.map_cons, List.map_cons, toEs, ih]; rfl
      rw [← e3, backTo_toEs, List.map_map]; rfl
    refine spliced_cons (Tuple_ ?_)
    rw [e2]
    refine names_sound G S₁.er S₁.rel ok3.1 ?_
    have k : ∀ b o, s₁.heap.get? b = some o → (s₁.heap.push { cls := .type "tuple", data := .seq (l.map (xV c)).toArray }).get? b = some o := fun b o e => Heap.get?_push_of_some _ e
    have st' : Step c fs μ₁ μ₁ s₁ { s₁ with heap := s₁.heap.push { cls := .type "tuple", data := .seq (l.map (xV c)).toArray } } := Step.grows (n := s₁.toks) st.rel k
    refine wpAny_newTuple (spliced_nil ?_) (by rw [List.length_map, sizeLine_eq]; omega)
    obtain ⟨b, hb, q⟩ := isi_out q
    obtain ⟨x, rfl, rfl⟩ := owns_exc hb
    exact isi_excs G st'.rel (ha.step st.rel st') (Heap.get?_push_size _ rfl) (fun C hC => kitAny_of G hC fun n hn => (okX_of G (ok3.1 n hn)).imp fun D h => h.1) fun tk => ⟨.bool _, μ₁, (st.trans st').trans (Step.toks st'.rel), .bool _, q⟩

theorem base_toE (o : E) (m : Str) (env : Env) (w : Sem Value) (h : (match o with | .call _ es _ _ | .new _ es _ _ | .bltn _ es _ _ => !es.isEmpty | _ => true) = true) : attributeBase (toE o) m env w = w := by
  cases o <;> first | rfl | (rename_i es _ _; cases es with | nil => cases h | cons _ _ => rfl)

theorem meth_eval {M : Model} {A : Around} {Ex : Value → Shared → Prop} {s : Shared} {env : Env} {o : E} {es : List E} {m : Str} {pa p : Pos} {P : Value → Shared → Prop} (hb : attributeBase (toE o) m env (eval (toE o) env) = eval (toE o) env) (hl : (pa.endLine == p.line) = true) (hn : es.length < 20)
    (h : wpAny M A (eval (toE o) env) (fun ov s₁ => wpAny M A (getMethod ov m (do return (← importBound (toE o) env).getD true)) (fun fx s₂ => wpAny M A (callWith p fx.1 fx.2 (backTo p (starEach (toEs es) env)) []) P Ex s₂) Ex s₁) Ex s) :
    wpAny M A (eval (.Call (.Attribute (toE o) m pa) (toEs es) [] p) env) P Ex s := by
  rw [arm_eval_Call, hb]
  refine wpAny_bind (wpAny_mono h (fun ov s₁ h₁ => wpAny_bind (wpAny_standAt ?_)) fun _ _ x => x)
  have hform : methodCallForm ((toEs es).length + ([] : List Keyword).length) (backTo p (starEach (toEs es) env)) (backToKw p (keywordEach [] env)) = true := by
    rw [backTo_toEs, toEs_length]
    unfold methodCallForm
    simp [backToKw, keywordEach]
    omega
  have hpos : methodCallPos true (toE o) env pa p = pure p := by unfold methodCallPos; simp [hl]
  unfold methodCall
  rw [hform]
  refine wpAny_bind (wpAny_holding ?_)
  show wpAny M A (getMethod ov m _) _ _ _
  exact wpAny_mono h₁ (fun fx s₂ h₂ => wpAny_bind (wpAny_of_eq hpos h₂)) fun _ _ x => x

theorem list_attr (m : String) (hm : m = "append" ∨ m = "extend" ∨ m = "pop" ∨ m = "reverse" ∨ m = "clear") : Slot "list" (Str.ofString m) ("list." ++ m) ∧ typeOf (.builtin ("list." ++ m)) = pure (.type "method_descriptor") := by
  rcases hm with rfl | rfl | rfl | rfl | rfl
  · exact ⟨F.slot_list_append, F.type_list_append⟩
  · exact ⟨F.slot_list_extend, F.type_list_extend⟩
  · exact ⟨F.slot_list_pop, F.type_list_pop⟩
  · exact ⟨F.slot_list_reverse, F.type_list_reverse⟩
  · exact ⟨F.slot_list_clear, F.type_list_clear⟩

theorem se_meth {o : E} {m : String} {es : List E} {pa p : Pos} (G : Good c sg) (ho : SE c sg d o) (hs : ∀ e ∈ es, SE c sg d e) : SE c sg d (.meth o m es pa p) := by
  intro hd A fs env ρ μ s Q X ok h S
  simp only [okE, Bool.and_eq_true, decide_eq_true_eq] at ok
  obtain ⟨⟨⟨⟨ok1, ok2⟩, ok3⟩, ok4⟩, ok5⟩ := ok
  refine meth_eval (base_toE o _ env _ ok5) ok3 ok4 (wp_next (Step.refl S.rel) (ho hd A fs env ρ μ s _ X ok1 h S) fun ra v μ₁ s₁ st _ ha q => ?_)
  have S₁ := S.step st
  split at q
  · rename_i f a hc
    unfold calO at hc
    split at hc
    · rename_i x
      split at hc
      · rename_i cl dd hx
        split at hc
        · rename_i fl hdd
          split at hc
          · rename_i hl
            cases hc
            cases ha
            rw [Bool.and_eq_true] at hl
            obtain ⟨C, h1, h2⟩ := st.rel.insts hx
            obtain ⟨ess, n, h3, h4⟩ := st.rel.attr hdd
            have I : InstAt s₁.heap a (instObj C dd) C (some (dictOf ess n)) := ⟨h2, rfl, rfl, h3⟩
            have K' := G.X.keeps st.rel.base
            have hmiss := h4.missL (Option.isNone_iff_eq_none.mp hl.1)
            obtain ⟨fa, hfa, g1, g2, g3⟩ := G.meth cl C m h1 (List.contains_iff_mem.mp hl.2)
            refine method_fn K' I (G.cls _ _ h1).ga (G.cls _ _ h1).gat g1 g2 (by show (lookIn (Str.ofString m) (dictOf ess n)).map _ = _; rw [lookIn_dict, hmiss]; rfl) ?_
            refine wp_after st (call_es G hs ok2 q S₁ (.inl g3) fun rvs vs μ₂ s₂ st₂ hr q₂ => ?_)
            exact sc_call q₂ hfa (S₁.step st₂).aok st₂.rel (.cons (.ref _) hr)
          · cases hc
        · cases hc
      · split at hc <;> cases hc
      · cases hc
    · cases hc
  · rename_i m' a hc
    unfold calO at hc
    split at hc
    · rename_i x
      split at hc
      · split at hc
        · split at hc <;> cases hc
        · cases hc
      · rename_i l hx
        split at hc
        · rename_i hm
          cases hc
          cases ha
          obtain ⟨vs, n, h1, h2, h3⟩ := st.rel.lst hx
          obtain ⟨g1, g2⟩ := list_attr m hm
          refine getMethod_builtin (T := "list") (id := "list." ++ m) ⟨_, h1, rfl⟩ F.plainAttrs_list g1 g2 (fun b hb => by cases hb; exact ⟨_, h1, rfl⟩) ?_
          refine wp_after st (call_es G hs ok2 q S₁ (.inr (.inl ⟨_, rfl⟩)) fun rvs vs μ₂ s₂ st₂ hr q₂ => ?_)
          exact lst_sound st₂.rel hr q₂ (S₁.step st₂).aok
        · cases hc
      · cases hc
    · cases hc
  · exact q.elim
end
end Mine

set_option autoImplicit false
namespace Mine
set_option linter.unusedVariables false
set_option linter.unusedSimpArgs false
open PySem PySem.W PySem.Calls PyProof.Rows

theorem ER.forget {c : Ctx} {env : Env} {ρ : Loc} {μ : Mem} {h : Heap} (x : ER c env ρ μ h) : ER c env (fun _ => none) μ h := by
  obtain ⟨m, hns, _⟩ := x.names
  exact ⟨x.kind, x.glob, x.blt, x.priv, x.new, x.cells, x.inj, x.has, m, hns, nofun⟩

theorem lookup_mem {α β : Type} [BEq α] [LawfulBEq α] {x : α} {v : β} : ∀ {l : List (α × β)}, l.lookup x = some v → (x, v) ∈ l
  | [], h => by cases h
  | (y, w) :: r, h => by
    simp only [List.lookup_cons] at h
    split at h
    · rename_i e; cases h; rw [beq_iff_eq.mp e]; exact .head _
    · exact .tail _ (lookup_mem h)

section
variable {c : Ctx} {sg : Sig} {d : Nat}

theorem lst_app {n : Addr} {acc : List V} {v : V} {μ : Mem} {Q : V → Mem → Prop} (ha : μ n = some (.list acc)) (hl : acc.length < lim) (q : Q .none (updM μ n (.list (acc ++ [v])))) : lstW "append" n [v] μ Q := by
  unfold lstW asL
  simp only [ha]
  exact ⟨hl, q⟩

theorem comp_loop {elt : E} {x : String} {it : Expr} {sc : Scope} {px p : Pos} {hd : Bool} {A : Around} {fs : List Env} {cenv : Env} {μ μ₀ : Mem} {s s₀ : Shared} {ia a n : Addr} {items : List V} {Q : Mem → Prop} {R : Result → Shared → Prop}
    (he : SE c sg d elt) (I : Iter c A ia (.ref a) (.ref a) items (fun k h => h.IsListIter ia a k)) (okx : cenv.kindOf (Str.ofString x) = some .local) (oke : okE sg cenv.scope.names elt = true) (hbase : c.base.get? ia = none) (hn : s₀.heap.get? ia = none)
    (st : StepS c fs cenv μ₀ μ s₀ s) (S : St c d hd A fs cenv (fun _ => none) μ s) (hit : s.heap.IsListIter ia a 0)
    (h : compI n (fun μ' => μ' a = some (.list items)) (fun w μ₂ k => wpE sg (SC c d) hd elt (updL (fun _ => none) x w) μ₂ k fun _ _ => False) items μ Q)
    (fin : ∀ μ' s', StepS c fs cenv μ₀ μ' s₀ s' → St c d hd A fs cenv (fun _ => none) μ' s' → Q μ' → R (.ok .next) s') :
    codeAny (model c.prog c.w) A (.compLoop (.ListComp (toE elt) [⟨.Name (Str.ofString x) px, it, [], 0⟩] sc p) 0 (.ref ia) (.ref n) cenv) R s := by
  obtain ⟨J, j0, jst, jturn, jfin⟩ := h
  refine codeAny_compLoop_tests (fun m s => ∃ k μ, m = items.length - k ∧ k ≤ items.length ∧ StepS c fs cenv μ₀ μ s₀ s ∧ St c d hd A fs cenv (fun _ => none) μ s ∧ s.heap.IsListIter ia a k ∧ J k μ) (fun m s hs => ?_) items.length ⟨0, μ, rfl, Nat.zero_le _, st, S, hit, j0⟩
  obtain ⟨k, μ, hk, hkl, st, S, hit, h⟩ := hs
  have ei : itemsOf μ (.ref a) = some items := by unfold itemsOf; simp only [jst _ _ h]
  cases hk' : items[k]? with
  | none =>
    have : k = items.length := Nat.le_antisymm hkl (List.getElem?_eq_none_iff.mp hk')
    refine I.fin k s μ _ _ hk' ei S.rel (.ref a) hit fun h' x => ?_
    subst this
    exact fin μ _ (st.it (n := s.toks) x hn) (S.ext (n := s.toks) x hbase (I.obj _ _ hit)) (jfin _ h)
  | some w =>
    have hlt : k < items.length := (List.getElem?_eq_some_iff.mp hk').1
    refine I.item k w s μ _ _ hk' ei S.rel (.ref a) hit fun rw_ h' n' x hit' hw => ?_
    have ho := I.obj k _ hit
    have S₁ := S.ext (n := n') x hbase ho
    have st₁ := st.it (n := n') x hn
    refine wpAny_assign_Name (store_sound S₁ (.inl okx) (hw.monoV (monoV_ext x ho)) fun s₂ st₂ S₂ => ?_)
    refine wpAny_tests_nil ?_
    rw [if_pos rfl]
    refine wpAny_mono (he hd A fs cenv _ μ s₂ _ _ oke (jturn k w μ hk' h) S₂) (fun rv s₃ hp => ?_) fun _ _ y => y.no
    obtain ⟨v, μ₃, st₃, hv, acc, ha, hl, q⟩ := hp
    have S₃ := S₂.step st₃
    refine wpAny_mono (lst_sound (m := "append") (Q := fun _ μ' => J (k + 1) μ') st₃.rel (.cons hv .nil) (lst_app ha hl q) S₃.aok) (fun _ s₅ hp => ?_) fun _ _ y => y
    obtain ⟨_, μ₅, st₅, _, q₅⟩ := hp
    have S₅ := S₃.step st₅
    have st₁₅ := st₂.trans (st₃.toS.trans st₅.toS)
    exact ⟨items.length - (k + 1), by omega, k + 1, μ₅, rfl, hlt, st₁.trans st₁₅, ⟨S₅.rel, S₅.er.forget, S₅.aok, S₅.room, S₅.units⟩, I.keep _ _ _ hit' (st₁₅.fields S₁ (I.obj _ _ hit')), q₅⟩

theorem se_comp {elt it : E} {x : String} {sc : Scope} {ifs : List E} {px p : Pos} (hi : SE c sg d it) (he : SE c sg d elt) : SE c sg d (.comp elt x it ifs sc px p) := by
  intro hd A fs env ρ μ s Q X ok h S
  simp only [okE, Bool.and_eq_true, beq_iff_eq, List.all_eq_true, List.isEmpty_iff] at ok
  obtain ⟨⟨⟨⟨⟨rfl, ok1⟩, ok2⟩, ok3⟩, ok4⟩, ok5⟩ := ok
  obtain ⟨h0, h⟩ := h
  have loc : ∀ y ∈ sc.names, y.2 = .local := fun y hy => (ok4 y hy).1
  have ncell : ∀ y ∈ sc.names, y.2 ≠ .cell := fun y hy q => by rw [loc y hy] at q; cases q
  refine wpAny_ListComp (fun y hy q => by rw [loc y hy] at q; cases q) ok3 (fun y hy _ => (ok4 y hy).2) (wp_next (Step.refl S.rel) (hi hd A fs env ρ μ s _ X ok1 h S) fun rv v μ₁ s₁ st _ hv q => ?_) (fun x => by cases it <;> rfl)
  obtain ⟨a, items, rfl, ha, q⟩ := asL_of q
  cases hv.ref_of
  obtain ⟨us, m, h1, h2, h3⟩ := st.rel.lst ha
  refine wpAny_pyIter_list ⟨_, h1, rfl, m, rfl⟩ ?_
  have I : Iter c A s₁.heap.objs.size (.ref a) (.ref a) items (fun k h => h.IsListIter s₁.heap.objs.size a k) := iter_list (S.aok.handled h0)
  have hn : s₁.heap.get? s₁.heap.objs.size = none := Heap.get?_none_of_le (Nat.le_refl _)
  refine wpAny_newObj_type (hd := by size_fits) (wpAny_newFunctionEnv ncell (by intro y hy; cases hy) (fun h₁ hns₁ hsb₁ => ?_) ok3)
  dsimp only at hns₁ hsb₁ ⊢
  generalize hH1 : s₁.heap.push { cls := .type "list_iterator", data := .fields #[.ref a, .int 0 0] } = H1 at hns₁ hsb₁ ⊢
  have k1 : ∀ b o, s₁.heap.get? b = some o → H1.get? b = some o := fun b o e => hH1 ▸ Heap.get?_push_of_some _ e
  have hit1 : H1.IsListIter s₁.heap.objs.size a 0 := ⟨_, hH1 ▸ Heap.get?_push_size _ rfl, rfl, rfl⟩
  have st₂ : Step c fs μ₁ μ₁ s₁ { s₁ with heap := H1 } := Step.grows (n := s₁.toks) st.rel k1
  generalize hH2 : H1.push { cls := .type "list", dict := none, data := .seq ([] : List Value).toArray } = H2 at hns₁ hsb₁ ⊢
  have k2 : ∀ b o, H1.get? b = some o → H2.get? b = some o := fun b o e => hH2 ▸ Heap.get?_push_of_some _ e
  have hn1 : H1.get? H1.objs.size = none := Heap.get?_none_of_le (Nat.le_refl _)
  have st₃ : Step c fs μ₁ (updM μ₁ H1.objs.size (.list [])) { s₁ with heap := H1 } { s₁ with heap := H2 } := Step.alloc (n := s₁.toks) st₂.rel k2 hn1 (hH2 ▸ Heap.get?_push_size _ rfl) (.list .nil (Nat.zero_le _))
  have hn2 : H2.get? H2.objs.size = none := Heap.get?_none_of_le (Nat.le_refl _)
  have ltC : ∀ {b o}, H2.get? b = some o → b ≠ H2.objs.size := fun e => Nat.ne_of_lt (Heap.lt_size e)
  have k3 : ∀ b o, H2.get? b = some o → h₁.get? b = some o := fun b o e => hsb₁.extBut b o (ltC e) (Heap.get?_push_of_some _ e)
  have st₄ : Step c fs (updM μ₁ H1.objs.size (.list [])) (updM μ₁ H1.objs.size (.list [])) { s₁ with heap := H2 } { s₁ with heap := h₁, toks := s₁.toks + ([] : List (Str × Value)).length } := Step.grows st₃.rel k3
  have st₁₄ := st₂.trans (st₃.trans st₄)
  have S₄ := (S.step st).step st₁₄
  have pC : updM μ₁ H1.objs.size (.list []) H2.objs.size = none := st₃.rel.free hn2
  have bC : c.base.get? H2.objs.size = none := by
    cases z : c.base.get? H2.objs.size with
    | none => rfl
    | some o => have := st₃.rel.base _ o z; rw [hn2] at this; cases this
  have bI : c.base.get? s₁.heap.objs.size = none := by
    cases z : c.base.get? s₁.heap.objs.size with
    | none => rfl
    | some o => have := st.rel.base _ o z; rw [hn] at this; cases this
  have er : ER c (compEnv sc H2.objs.size env) (fun _ => none) (updM μ₁ H1.objs.size (.list [])) h₁ :=
    ⟨ok3, S.er.glob, S.er.blt, pC, bC, (fun _ _ e => nomatch e), (fun _ _ _ e => nomatch e), (fun y hy => (ncell _ (lookup_mem hy) rfl).elim), _, hns₁, nofun⟩
  have hit : h₁.IsListIter s₁.heap.objs.size a 0 := by
    obtain ⟨o, ho, r⟩ := hit1
    exact ⟨o, k3 _ _ (k2 _ _ ho), r⟩
  have fn : s₁.heap.get? H1.objs.size = none := by
    cases z : s₁.heap.get? H1.objs.size with
    | none => rfl
    | some o => have := k1 _ _ z; rw [hn1] at this; cases this
  have loop := comp_loop (px := px) (p := p) (it := toE it) (sc := sc) (n := H1.objs.size) (Q := Q (.ref H1.objs.size)) (R := fun r s' => ∃ m, s'.heap.Ns H2.objs.size m ∧ ∀ h', Heap.SameBut H2.objs.size s'.heap h' →
          match r with | .ok _ => Post c fs μ s Q (.ref H1.objs.size) { s' with heap := h' } | .error x => wpAny (model c.prog c.w) A (passOn "comprehension.variables-let-go" x (compEnv sc H2.objs.size env)) (Post c fs μ s Q) (XPost c fs μ s X) { s' with heap := h' })
    he I (cenv := compEnv sc H2.objs.size env) ok5 ok2 bI hn st₁₄.toS ⟨S₄.rel, er, S₄.aok, S₄.room, S₄.units⟩ hit (q _ (st.rel.free fn)) fun μ' s' stS S' hq => ?_
  · exact codeAny_compStart_list loop (wpAny_pyIter_listiter hit loop)
  · obtain ⟨m', hns', _⟩ := S'.er.names
    obtain ⟨oL, esL, nL, hoL, hdL⟩ := Ns.dict hns'
    refine ⟨m', hns', fun h' sb => ⟨.ref _, μ', st.trans ⟨stS.gens, stS.drawn, stS.os, (Rel.private S'.rel S'.er.priv S'.er.new (fun o e => ?_) sb).1, fun b o e hm => ?_⟩, .ref _, hq⟩⟩
    · rw [hoL] at e; cases e
      rintro (⟨_, vs, n, q⟩ | ⟨_, vs, q⟩) <;> (rw [hdL] at q; cases q)
    · have hb := ltC (k2 _ _ (k1 _ _ e))
      obtain ⟨m₂, sl, e', q'⟩ := stS.kept b o e hm (by rintro (z | ⟨y, z⟩); exact hb z; cases z)
      exact ⟨m₂, sl, (sb.2 b hb).trans e', q'⟩
end
end Mine

set_option autoImplicit false
namespace Mine
set_option linter.unusedVariables false
set_option linter.unusedSimpArgs false
open PySem PySem.W PySem.Calls PyProof.Rows

section
variable {c : Ctx} {sg : Sig} {d : Nat}

theorem soundE_lt (G : Good c sg) : ∀ (n : Nat) (e : E), sizeOf e < n → SE c sg d e := by
  intro n
  induction n with
  | zero => intro e h; exact absurd h (Nat.not_lt_zero _)
  | succ n ih =>
    intro e h
    have sub : ∀ es : List E, sizeOf es < n → ∀ e ∈ es, SE c sg d e := fun es hl e he => ih e (Nat.lt_trans (List.sizeOf_lt_of_mem he) hl)
    cases e with
    | none p => intro hd A fs env ρ μ s Q X ok h S; exact wpAny_Constant_none ⟨_, μ, Step.refl S.rel, .none, h⟩
    | bool b p => intro hd A fs env ρ μ s Q X ok h S; exact wpAny_Constant_bool ⟨_, μ, Step.refl S.rel, .bool b, h⟩
    | int i p => intro hd A fs env ρ μ s Q X ok h S; exact fun _ _ _ => ⟨_, μ, Step.toks S.rel, .int i _, h⟩
    | str x p => intro hd A fs env ρ μ s Q X ok h S; exact wpAny_Constant_str ⟨_, μ, Step.toks S.rel, .str _ _, h⟩
    | loc x p => exact se_loc
    | glob x p => exact se_glob G
    | bin op l r p => simp only [E.bin.sizeOf_spec] at h; exact se_bin (ih l (by omega)) (ih r (by omega))
    | neg e p => simp only [E.neg.sizeOf_spec] at h; exact se_neg (ih e (by omega))
    | not e p => simp only [E.not.sizeOf_spec] at h; exact se_not (ih e (by omega))
    | and es p => simp only [E.and.sizeOf_spec] at h; exact se_and (sub es (by omega))
    | or es p => simp only [E.or.sizeOf_spec] at h; exact se_or (sub es (by omega))
    | cmp op l r p => simp only [E.cmp.sizeOf_spec] at h; exact se_cmp (ih l (by omega)) (ih r (by omega))
    | cmp2 o1 o2 a b e p => simp only [E.cmp2.sizeOf_spec] at h; exact se_cmp2 (ih a (by omega)) (ih b (by omega)) (ih e (by omega))
    | attr o a p => simp only [E.attr.sizeOf_spec] at h; exact se_attr G (ih o (by omega))
    | sub o i p => simp only [E.sub.sizeOf_spec] at h; exact se_sub (ih o (by omega)) (ih i (by omega))
    | sliceL o l ps p => simp only [E.sliceL.sizeOf_spec] at h; exact se_sliceL (ih o (by omega)) (ih l (by omega))
    | sliceU o l ps p => simp only [E.sliceU.sizeOf_spec] at h; exact se_sliceU (ih o (by omega)) (ih l (by omega))
    | sliceLU o l u ps p => intro hd A fs env ρ μ s Q X ok h S; simp only [okE] at ok; cases ok
    | tup es k p => simp only [E.tup.sizeOf_spec] at h; exact se_tup (sub es (by omega))
    | list es p => simp only [E.list.sizeOf_spec] at h; exact se_list (sub es (by omega))
    | call f es pf p => simp only [E.call.sizeOf_spec] at h; exact se_call G (sub es (by omega))
    | new f es pf p => simp only [E.new.sizeOf_spec] at h; exact se_new G (sub es (by omega))
    | bltn f es pf p => simp only [E.bltn.sizeOf_spec] at h; exact se_bltn G (sub es (by omega))
    | isi e cl pf pc p => simp only [E.isi.sizeOf_spec] at h; exact se_isi G (ih e (by omega))
    | meth o m es pa p => simp only [E.meth.sizeOf_spec] at h; exact se_meth G (ih o (by omega)) (sub es (by omega))
    | comp elt x it ifs sc px p => simp only [E.comp.sizeOf_spec] at h; exact se_comp (ih it (by omega)) (ih elt (by omega))
theorem soundE (G : Good c sg) (e : E) : SE c sg d e := soundE_lt G (sizeOf e + 1) e (Nat.lt_succ_self _)

theorem tr_of {b : Bool} {k : Bool → Prop} (h : tr (.bool b) k) : k b := h

theorem stands {hd : Bool} {A : Around} {fs : List Env} {env : Env} {ρ : Loc} {X : String → Mem → Prop} {Q₀ : V → Mem → Prop} {Q : Bool → Mem → Prop} (hq : ∀ v μ₁, Q₀ v μ₁ → tr v fun b => Q b μ₁) : ∀ {es : List E} {μ : Mem} {s : Shared}, (∀ e ∈ es, ST c sg d e) → okEs sg env.scope.names es = true → wpAnd sg (SC c d) hd es ρ μ Q₀ X → St c d hd A fs env ρ μ s →
    wpAny (model c.prog c.w) A (allTrue .And (toEs es) env) (PostB c fs μ s Q) (XPost c fs μ s X) s
  | [], _, _, _, _, h, _ => h.elim
  | [e], μ, s, hs, ok, h, S => by
    simp only [okEs, Bool.and_eq_true] at ok
    refine wpAny_allTrue_And_cons (wp_nextB (Step.refl S.rel) (hs e (.head _) hd A fs env ρ μ s Q₀ Q X hq ok.1 h S) fun b μ₁ s₁ st _ q => ?_)
    cases b with
    | true => exact wpAny_allTrue_And_nil ⟨μ₁, st, q⟩
    | false => exact ⟨μ₁, st, q⟩
  | e :: e' :: es, μ, s, hs, ok, h, S => by
    rw [okEs, Bool.and_eq_true] at ok
    refine wpAny_allTrue_And_cons (wp_nextB (Q₁ := fun b μ₁ => br b (wpAnd sg (SC c d) hd (e' :: es) ρ μ₁ Q₀ X) (Q false μ₁)) (Step.refl S.rel) (hs e (.head _) hd A fs env ρ μ s _ _ X (fun v μ₁ h₁ => ?_) ok.1 h S) fun b μ₁ s₁ st _ q => ?_)
    · obtain ⟨b, rfl, hb⟩ := tr_bool h₁
      exact ⟨hb.1, fun hf => by subst hf; exact tr_of (hq _ _ (hb.2 rfl))⟩
    · cases b with
      | true => exact wpAny_mono (stands hq (fun x hx => hs x (.tail _ hx)) ok.2 (q.1 rfl) (S.step st)) (fun _ _ p => p.after st) fun _ _ x => x.after st
      | false => exact ⟨μ₁, st, q.2 rfl⟩
theorem stors {hd : Bool} {A : Around} {fs : List Env} {env : Env} {ρ : Loc} {X : String → Mem → Prop} {Q₀ : V → Mem → Prop} {Q : Bool → Mem → Prop} (hq : ∀ v μ₁, Q₀ v μ₁ → tr v fun b => Q b μ₁) : ∀ {es : List E} {μ : Mem} {s : Shared}, (∀ e ∈ es, ST c sg d e) → okEs sg env.scope.names es = true → wpOr sg (SC c d) hd es ρ μ Q₀ X → St c d hd A fs env ρ μ s →
    wpAny (model c.prog c.w) A (allTrue .Or (toEs es) env) (PostB c fs μ s Q) (XPost c fs μ s X) s
  | [], _, _, _, _, h, _ => h.elim
  | [e], μ, s, hs, ok, h, S => by
    simp only [okEs, Bool.and_eq_true] at ok
    refine wpAny_allTrue_Or_cons (wp_nextB (Step.refl S.rel) (hs e (.head _) hd A fs env ρ μ s Q₀ Q X hq ok.1 h S) fun b μ₁ s₁ st _ q => ?_)
    cases b with
    | true => exact ⟨μ₁, st, q⟩
    | false => exact wpAny_allTrue_Or_nil ⟨μ₁, st, q⟩
  | e :: e' :: es, μ, s, hs, ok, h, S => by
    rw [okEs, Bool.and_eq_true] at ok
    refine wpAny_allTrue_Or_cons (wp_nextB (Q₁ := fun b μ₁ => br b (Q true μ₁) (wpOr sg (SC c d) hd (e' :: es) ρ μ₁ Q₀ X)) (Step.refl S.rel) (hs e (.head _) hd A fs env ρ μ s _ _ X (fun v μ₁ h₁ => ?_) ok.1 h S) fun b μ₁ s₁ st _ q => ?_)
    · obtain ⟨b, rfl, hb⟩ := tr_bool h₁
      exact ⟨fun hf => by subst hf; exact tr_of (hq _ _ (hb.1 rfl)), hb.2⟩
    · cases b with
      | true => exact ⟨μ₁, st, q.1 rfl⟩
      | false => exact wpAny_mono (stors hq (fun x hx => hs x (.tail _ hx)) ok.2 (q.2 rfl) (S.step st)) (fun _ _ p => p.after st) fun _ _ x => x.after st

theorem st_plain (G : Good c sg) {e : E} (he : ∀ env : Env, isTrue (toE e) env (eval (toE e) env) = (do let v ← eval (toE e) env; standAt (toE e).pos; holding [v] (truthy v))) : ST c sg d e := by
  intro hd A fs env ρ μ s Q₀ Q X hq ok h S
  refine isTrue_plain (wp_next (Step.refl S.rel) (soundE G e hd A fs env ρ μ s Q₀ X ok h S) fun rv v μ₁ s₁ st _ hv q => ?_) (he env)
  exact truthy_sound hv (hq v μ₁ q) fun b hb => ⟨μ₁, st, hb⟩

theorem soundT_lt (G : Good c sg) : ∀ (n : Nat) (e : E), sizeOf e < n → ST c sg d e := by
  intro n
  induction n with
  | zero => intro e h; exact absurd h (Nat.not_lt_zero _)
  | succ n ih =>
    intro e h
    have sub : ∀ es : List E, sizeOf es < n → ∀ e ∈ es, ST c sg d e := fun es hl e he => ih e (Nat.lt_trans (List.sizeOf_lt_of_mem he) hl)
    cases e with
    | not e p =>
      simp only [E.not.sizeOf_spec] at h
      intro hd A fs env ρ μ s Q₀ Q X hq ok hw S
      simp only [okE] at ok
      refine isTrue_not (wpAny_mono (ih e (by omega) hd A fs env ρ μ s _ (fun b μ₁ => Q (!b) μ₁) X (fun v μ₁ h₁ => ?_) ok hw S) (fun b s₁ p => p) fun _ _ x => x)
      obtain ⟨b, rfl, hb⟩ := tr_bool h₁
      exact tr_of (hq _ _ hb)
    | and es p =>
      simp only [E.and.sizeOf_spec] at h
      intro hd A fs env ρ μ s Q₀ Q X hq ok hw S
      simp only [okE] at ok
      exact wpAny_isTrue_BoolOp (stands hq (sub es (by omega)) ok hw S)
    | or es p =>
      simp only [E.or.sizeOf_spec] at h
      intro hd A fs env ρ μ s Q₀ Q X hq ok hw S
      simp only [okE] at ok
      exact wpAny_isTrue_BoolOp (stors hq (sub es (by omega)) ok hw S)
    | cmp op l r p =>
      intro hd A fs env ρ μ s Q₀ Q X hq ok hw S
      simp only [okE, Bool.and_eq_true] at ok
      refine wpAny_isTrue_Compare1 (wp_next (Step.refl S.rel) (soundE G l hd A fs env ρ μ s _ X ok.1 hw S) fun ra a μ₁ s₁ st _ ha q => ?_) (behind_toE op r)
      refine wp_next st (soundE G r hd A fs env ρ μ₁ s₁ _ X ok.2 q (S.step st)) fun rb b μ₂ s₂ st₂ st' hb q₂ => ?_
      refine wpAny_mono (cmp_sound (E := XPost c fs μ s X) st₂.rel (ha.step st.rel st₂) hb q₂ ((S.step st).step st₂).aok) (fun rv s₃ ⟨v, μ₃, st₃, hv, q₃⟩ => ?_) fun _ _ x => x
      exact truthy_sound hv (hq v μ₃ q₃) fun b hb => ⟨μ₃, st'.trans st₃, hb⟩
    | cmp2 op₁ op₂ a b e p =>
      intro hd A fs env ρ μ s Q₀ Q X hq ok hw S
      simp only [okE, Bool.and_eq_true] at ok
      refine isTrue_chain (wp_next (Step.refl S.rel) (soundE G a hd A fs env ρ μ s _ X ok.1.1 hw S) fun ra va μ₁ s₁ st _ hva q => ?_) (by show lastMarks [op₁, op₂] [toE b, toE e] = false; exact behind_toE op₂ e)
      refine test_link (wp_next st (soundE G b hd A fs env ρ μ₁ s₁ _ X ok.1.2 q (S.step st)) fun rb vb μ₂ s₂ st₂ st' hvb q₂ => ?_)
      have S₂ := (S.step st).step st₂
      refine wpAny_mono (cmp_sound (E := XPost c fs μ s X) st₂.rel (hva.step st.rel st₂) hvb q₂ S₂.aok) (fun rt s₃ ⟨t, μ₃, st₃, ht, q₃⟩ => ?_) fun _ _ x => x
      obtain ⟨bt, rfl, hbt⟩ := tr_bool q₃
      cases ht
      refine wpAny_truthy_bool ?_
      cases bt with
      | true =>
        refine test_last (wp_next (st'.trans st₃) (soundE G e hd A fs env ρ μ₃ s₃ _ X ok.2 (hbt.1 rfl) (S₂.step st₃)) fun rc vc μ₄ s₄ st₄ st'' hvc q₄ => ?_)
        refine wpAny_mono (cmp_sound (E := XPost c fs μ s X) st₄.rel ((hvb.step st₂.rel st₃).step st₃.rel st₄) hvc q₄ ((S₂.step st₃).step st₄).aok) (fun rv s₅ ⟨v, μ₅, st₅, hv, q₅⟩ => ?_) fun _ _ x => x
        exact truthy_sound hv (hq v μ₅ q₅) fun b hb => ⟨μ₅, st''.trans st₅, hb⟩
      | false => exact ⟨μ₃, st'.trans st₃, tr_of (hq _ _ (hbt.2 rfl))⟩
    | _ => exact st_plain G fun env => rfl
theorem soundT (G : Good c sg) (e : E) : ST c sg d e := soundT_lt G (sizeOf e + 1) e (Nat.lt_succ_self _)
end
end Mine

set_option autoImplicit false
namespace Mine
set_option linter.unusedVariables false
set_option linter.unusedSimpArgs false
open PySem PySem.W PySem.Calls PyProof.Rows

noncomputable def isSto : Option NameKind → Bool
  | some .local | some .cell => true
  | _ => false

noncomputable def okMore (sg : Sig) (ns : List (Str × NameKind)) : List (String × Pos × E × Pos × Pos) → Bool
  | [] => true
  | (c, _, e, _, _) :: r => sg.excs.contains c && ns.lookup (Str.ofString c) == some .globalImplicit && c != "__debug__" && okE sg ns e && okMore sg ns r

noncomputable def noComp : E → Bool
  | .comp _ _ _ _ _ _ _ => false
  | _ => true
noncomputable def okV (sg : Sig) (ns : List (Str × NameKind)) (e : E) : Bool := okE sg ns e && noComp e
mutual
noncomputable def okS (sg : Sig) (nr : Bool) (ns : List (Str × NameKind)) : S → Bool
  | .expr e _ => okV sg ns e
  | .assign x e _ _ => okV sg ns e && isSto (ns.lookup (Str.ofString x))
  | .setattr o a e _ _ => okE sg ns o && okV sg ns e && sg.attrs.contains a
  | .setitem o i e _ _ => okE sg ns o && okE sg ns i && okV sg ns e
  | .unpack xs e _ _ _ => okE sg ns e && (match e with | .loc _ _ => true | _ => false) && (xs.all fun x => isSto (ns.lookup (Str.ofString x.1)))
  | .ite c t f _ => okE sg ns c && okSs sg nr ns t && okSs sg nr ns f
  | .for_ x it body _ _ => okE sg ns it && isSto (ns.lookup (Str.ofString x)) && okSs sg nr ns body
  | .while_ c body _ => okE sg ns c && okSs sg nr ns body
  | .ret e _ => okE sg ns e
  | .raise c m _ _ _ _ => !nr && sg.excs.contains c && ns.lookup (Str.ofString c) == some .globalImplicit && c != "__debug__"
  | .try_ body c as h more _ _ _ => okSs sg true ns body && !h.isEmpty && okSs sg nr ns h && sg.excs.contains c && ns.lookup (Str.ofString c) == some .globalImplicit && c != "__debug__" &&
      (match as with | some n => ns.lookup (Str.ofString n) == some .local | none => true) && okMore sg ns more
  | .pass _ => true
noncomputable def okSs (sg : Sig) (nr : Bool) (ns : List (Str × NameKind)) : List S → Bool
  | [] => true
  | s :: r => okS sg nr ns s && okSs sg nr ns r
end

noncomputable def Top (fs : List Env) (env : Env) : Prop := ∃ outer, fs = env :: outer ∧ env.frame = some env.locals

noncomputable def SS (c : Ctx) (sg : Sig) (d : Nat) (t : S) : Prop := ∀ (nr hd : Bool) (A : Around) (fs : List Env) (env : Env) (ρ : Loc) (μ : Mem) (s : Shared) (Q : Fl → Loc → Mem → Prop) (X : String → Loc → Mem → Prop),
  okS sg nr env.scope.names t = true → Top fs env → wpS sg (SC c d) hd t ρ μ Q X → St c d hd A fs env ρ μ s → wpAny (model c.prog c.w) A (exec (toS t) env) (PostS c d hd A fs env μ s Q) (XPostS c d hd A fs env nr μ s X) s
noncomputable def SSs (c : Ctx) (sg : Sig) (d : Nat) (t : List S) : Prop := ∀ (nr hd : Bool) (A : Around) (fs : List Env) (env : Env) (ρ : Loc) (μ : Mem) (s : Shared) (Q : Fl → Loc → Mem → Prop) (X : String → Loc → Mem → Prop),
  okSs sg nr env.scope.names t = true → Top fs env → wpSs sg (SC c d) hd t ρ μ Q X → St c d hd A fs env ρ μ s → wpAny (model c.prog c.w) A (execs (toSs t) env) (PostS c d hd A fs env μ s Q) (XPostS c d hd A fs env nr μ s X) s

section
variable {c : Ctx} {sg : Sig} {d : Nat} {nr hd : Bool} {A : Around} {fs : List Env} {env : Env} {ρ : Loc} {μ : Mem} {s : Shared} {X : String → Loc → Mem → Prop}

theorem ev (G : Good c sg) {e : E} {μ₀ : Mem} {s₀ : Shared} {Q₁ : V → Mem → Prop} {P : Value → Shared → Prop} (ok : okE sg env.scope.names e = true) (st : StepS c fs env μ₀ μ s₀ s) (h : wpE sg (SC c d) hd e ρ μ Q₁ (fun x μ₁ => X x ρ μ₁)) (S : St c d hd A fs env ρ μ s)
    (k : ∀ rv v μ₁ s₁, Step c fs μ μ₁ s s₁ → RV c s₁.heap rv v → Q₁ v μ₁ → P rv s₁) : wpAny (model c.prog c.w) A (eval (toE e) env) P (XPostS c d hd A fs env nr μ₀ s₀ X) s :=
  wpAny_mono (soundE G e hd A fs env ρ μ s Q₁ _ ok h S) (fun rv s₁ ⟨v, μ₁, st₁, hv, q⟩ => k rv v μ₁ s₁ st₁ hv q) fun _ _ x => (XPost.toS S x).after st

theorem okV_of {ns : List (Str × NameKind)} {e : E} (ok : okV sg ns e = true) : okE sg ns e = true ∧ noComp e = true := Bool.and_eq_true_iff.mp ok
theorem swaps_toE (e : E) (t : Option Expr) (n : Nat) (env : Env) (ok : noComp e = true) : swapsWith (toE e) t n env = pure false := by
  cases e <;> first | rfl | cases ok

theorem sto {x : String} (h : isSto (env.scope.names.lookup (Str.ofString x)) = true) : env.kindOf (Str.ofString x) = some .local ∨ env.kindOf (Str.ofString x) = some .cell := by
  show env.scope.names.lookup _ = _ ∨ env.scope.names.lookup _ = _
  unfold isSto at h
  split at h
  · rename_i e; exact .inl e
  · rename_i e; exact .inr e
  · cases h

theorem ss_expr (G : Good c sg) {e : E} {p : Pos} : SS c sg d (.expr e p) := by
  intro nr hd A fs env ρ μ s Q X ok tp h S
  simp only [okS] at ok
  refine wpAny_Expr_any (ev G (okV_of ok).1 .refl h S fun rv v μ₁ s₁ st hv q => ⟨.next, ρ, μ₁, st.toS, S.step st, .next, q⟩) (by unfold interactive; rw [S.er.kind]; rfl) (swaps_toE e _ _ _ (okV_of ok).2)

theorem ss_assign (G : Good c sg) {x : String} {e : E} {px p : Pos} : SS c sg d (.assign x e px p) := by
  intro nr hd A fs env ρ μ s Q X ok tp h S
  simp only [okS, Bool.and_eq_true] at ok
  refine wpAny_Assign_Name (ev G (okV_of ok.1).1 .refl h S fun rv v μ₁ s₁ st hv q => ?_) (swaps_toE e _ _ _ (okV_of ok.1).2)
  exact store_sound (S.step st) (sto ok.2) hv fun s' st' S' => ⟨.next, _, μ₁, st.toS.trans st', S', .next, q⟩

theorem ss_setattr (G : Good c sg) {o e : E} {a : String} {pa p : Pos} : SS c sg d (.setattr o a e pa p) := by
  intro nr hd A fs env ρ μ s Q X ok tp h S
  simp only [okS, Bool.and_eq_true] at ok
  refine plainObj_wpAny_Assign_Attribute (ev G (okV_of ok.1.2).1 .refl h S fun rv v μ₁ s₁ st hv q => ?_) (swaps_toE e _ _ _ (okV_of ok.1.2).2)
  refine ev G ok.1.1 st.toS q (S.step st) fun ro w μ₂ s₂ st₂ hw q₂ => ?_
  have S₂ := (S.step st).step st₂
  split at q₂
  · split at q₂
    · rename_i x _ _ dd hx
      split at q₂
      · rename_i fl hfl
        cases hw
        refine setattr_sound (fs := fs) (Kin G S₂.rel) S₂.rel (hv.step st.rel st₂) hx hfl G.cls (fun y C hy => G.attr y C a hy (by simpa using ok.2)) q₂.1 fun s' st₃ => ?_
        exact ⟨.next, ρ, _, (st.trans (st₂.trans st₃)).toS, S₂.step st₃, .next, q₂.2⟩
      · exact q₂.elim
    · exact q₂.elim
  · exact q₂.elim

theorem ss_setitem (G : Good c sg) {o i e : E} {ps p : Pos} : SS c sg d (.setitem o i e ps p) := by
  intro nr hd A fs env ρ μ s Q X ok tp h S
  simp only [okS, Bool.and_eq_true] at ok
  refine wpAny_Assign_Subscript (ev G (okV_of ok.2).1 .refl h S fun rv v μ₁ s₁ st hv q => ?_) (swaps_toE e _ _ _ (okV_of ok.2).2)
  refine ev G ok.1.1 st.toS q (S.step st) fun ro w μ₂ s₂ st₂ hw q₂ => ?_
  refine ev G ok.1.2 (st.trans st₂).toS q₂ ((S.step st).step st₂) fun ri j μ₃ s₃ st₃ hj q₃ => ?_
  have S₃ := ((S.step st).step st₂).step st₃
  split at q₃
  · rename_i x k
    split at q₃
    · rename_i l hl
      obtain ⟨h0, hk, q₃⟩ := q₃
      cases hw; cases hj
      obtain ⟨vs, n, h1, h2, h3⟩ := S₃.rel.lst hl
      have hsz : vs.size = l.length := by rw [← Array.length_toList, h2.length]
      have hlim : l.length < 2 ^ 62 := Nat.lt_of_le_of_lt h3 (by decide)
      refine ki_setAt (n := n) h1 h0 (by omega) (by rw [hsz]; exact hk) ?_
      have st₄ : Step c fs μ₃ (updM μ₃ x (.list (l.set k.toNat v))) s₃ { s₃ with heap := s₃.heap.update x (Obj.mapSeq (·.setIfInBounds k.toNat rv)) } := step_list S₃.rel hl h1 rfl (by rw [Array.toList_setIfInBounds]; exact h2.set ((hv.step st.rel st₂).step st₂.rel st₃) _) (by rw [List.length_set]; exact h3)
      exact ⟨.next, ρ, _, (st.trans (st₂.trans (st₃.trans st₄))).toS, S₃.step st₄, .next, q₃⟩
    · exact q₃.elim
  · exact q₃.elim

theorem StepS.rvs {μ' : Mem} {s' : Shared} (S : St c d hd A fs env ρ μ s) (st : StepS c fs env μ μ' s s') : ∀ {vs : List Value} {xs : List V}, RVs c s.heap vs xs → RVs c s'.heap vs xs
  | _, _, .nil => .nil
  | _, _, .cons hv hr => .cons (st.rv S hv) (StepS.rvs S st hr)
theorem each_len (env : Env) : ∀ xs : List (String × Pos), (assignEach (xs.map fun x => Expr.Name (Str.ofString x.1) x.2) env).length = xs.length ∧ (assignEach (xs.map fun x => Expr.Name (Str.ofString x.1) x.2) env).findIdx? (·.1) = none
  | [] => ⟨rfl, rfl⟩
  | x :: xs => by
    obtain ⟨h1, h2⟩ := each_len env xs
    have e : assignEach ((x :: xs).map fun x => Expr.Name (Str.ofString x.1) x.2) env = (false, assign (.Name (Str.ofString x.1) x.2) env) :: assignEach (xs.map fun x => Expr.Name (Str.ofString x.1) x.2) env := rfl
    rw [e]
    exact ⟨by rw [List.length_cons, h1, List.length_cons], by rw [List.findIdx?_cons, h2]; rfl⟩
theorem assign_names {P : Unit → Shared → Prop} {E : Value → Shared → Prop} : ∀ {xs : List (String × Pos)} {vs : List Value} {l : List V} {ρ ρ' : Loc} {s : Shared}, RVs c s.heap vs l → bindAll (xs.map (·.1)) l ρ = some ρ' → (∀ x ∈ xs, isSto (env.scope.names.lookup (Str.ofString x.1)) = true) → St c d hd A fs env ρ μ s →
    (∀ s', StepS c fs env μ μ s s' → St c d hd A fs env ρ' μ s' → P () s') → wpAny (model c.prog c.w) A (assignInOrder ((assignEach (xs.map fun x => Expr.Name (Str.ofString x.1) x.2) env).map (·.2)) vs) P E s
  | [], _, [], _, _, _, hr, hb, _, S, h => by
    cases hr; cases hb
    exact wpAny_pure (h _ .refl S)
  | [], _, _ :: _, _, _, _, _, hb, _, _, _ => by cases hb
  | _ :: _, _, [], _, _, _, _, hb, _, _, _ => by cases hb
  | x :: xs, _, v :: l, ρ, ρ', s, .cons hv hr, hb, ok, S, h => by
    refine wpAny_bind (wpAny_holding (wpAny_assign_Name (store_sound S (sto (ok x (.head _))) hv fun s₁ st₁ S₁ => ?_)))
    exact assign_names (st₁.rvs S hr) hb (fun y hy => ok y (.tail _ hy)) S₁ fun s' st' S' => h s' (st₁.trans st') S'
theorem asT_of {v : V} {k : List V → Prop} (h : asT v k) : ∃ l, v = .tup l ∧ k l := by
  unfold asT at h
  split at h
  · exact ⟨_, rfl, h⟩
  · exact h.elim
theorem ss_unpack (G : Good c sg) {xs : List (String × Pos)} {e : E} {k : Nat} {pt p : Pos} : SS c sg d (.unpack xs e k pt p) := by
  intro nr hd A fs env ρ μ s Q X ok tp h S
  simp only [okS, Bool.and_eq_true, List.all_eq_true] at ok
  obtain ⟨h0, h⟩ := h
  obtain ⟨⟨ok1, ok2⟩, ok3⟩ := ok
  cases e with
  | loc x px =>
    refine Assign_Tuple (ev G ok1 .refl h S fun rv v μ₁ s₁ st hv q => ?_)
    replace q := asT_of q
    obtain ⟨l, rfl, q⟩ := q
    split at q
    · rename_i ρ' hb
      cases hv with
      | @tup t o us n _ ho hc hdd hl hz =>
      have hln : xs.length = us.size := by
        have : ∀ (ys : List String) (l : List V) (ρ ρ' : Loc), bindAll ys l ρ = some ρ' → ys.length = l.length := by
          intro ys
          induction ys with
          | nil => intro l ρ ρ' e; cases l with
            | nil => rfl
            | cons _ _ => cases e
          | cons y ys ih => intro l ρ ρ' e; cases l with
            | nil => cases e
            | cons v l => rw [List.length_cons, List.length_cons, ih l _ _ e]
        have e1 := this _ _ _ _ hb
        rw [List.length_map] at e1
        rw [e1, ← Array.length_toList, hl.length]
      refine assign_Tuple_tuple ((S.step st).aok.handled h0) ⟨_, ho, hc, n, hdd⟩ ((each_len env xs).1.trans hln) (each_len env xs).2 fun h' he => ?_
      have st₂ : Step c fs μ₁ μ₁ s₁ { s₁ with heap := h' } := Step.grows (n := s₁.toks) st.rel fun b o e => he b o (Nat.ne_of_lt (Heap.lt_size e)) e
      exact assign_names (hl.step st.rel st₂) hb ok3 ((S.step st).step st₂) fun s' st' S' => ⟨.next, ρ', μ₁, (st.trans st₂).toS.trans st', S', .next, q⟩
    · exact q.elim
  | _ => cases ok2
end
end Mine

set_option autoImplicit false
namespace Mine
set_option linter.unusedVariables false
set_option linter.unusedSimpArgs false
open PySem PySem.W PySem.Calls PyProof.Rows

section
variable {c : Ctx} {sg : Sig} {d : Nat} {nr hd : Bool} {A : Around} {fs : List Env} {env : Env} {ρ : Loc} {μ : Mem} {s : Shared} {X : String → Loc → Mem → Prop}

theorem ss_pass {p : Pos} : SS c sg d (.pass p) := by
  intro nr hd A fs env ρ μ s Q X ok tp h S
  exact wpAny_Pass ⟨.next, ρ, μ, .refl, S, .next, h⟩

theorem ss_ret (G : Good c sg) {e : E} {p : Pos} : SS c sg d (.ret e p) := by
  intro nr hd A fs env ρ μ s Q X ok tp h S
  simp only [okS] at ok
  exact wpAny_Return_some (ev G ok .refl h S fun rv v μ₁ s₁ st hv q => ⟨.ret v, ρ, μ₁, st.toS, S.step st, .ret hv, q⟩)

theorem sss {t : List S} (ht : ∀ x ∈ t, SS c sg d x) : SSs c sg d t := by
  induction t with
  | nil =>
    intro nr hd A fs env ρ μ s Q X ok tp h S
    exact wpAny_execs_nil ⟨.next, ρ, μ, .refl, S, .next, h⟩
  | cons t r ih =>
    intro nr hd A fs env ρ μ s Q X ok tp h S
    simp only [okSs, Bool.and_eq_true] at ok
    refine wpAny_execs_cons (wpAny_mono (ht t (.head _) nr hd A fs env ρ μ s _ X ok.1 tp h S) (fun fl s₁ ⟨fl', ρ₁, μ₁, st, S₁, hfl, q⟩ => ?_) fun _ _ x => x)
    cases hfl with
    | next => exact wpAny_mono (ih (fun x hx => ht x (.tail _ hx)) nr hd A fs env ρ₁ μ₁ s₁ Q X ok.2 tp q S₁) (fun _ _ p => p.after st) fun _ _ p => p.after st
    | ret hv => exact ⟨_, ρ₁, μ₁, st, S₁, .ret hv, q⟩

theorem ss_ite (G : Good c sg) {e : E} {t f : List S} {p : Pos} (ht : SSs c sg d t) (hf : SSs c sg d f) : SS c sg d (.ite e t f p) := by
  intro nr hd A fs env ρ μ s Q X ok tp h S
  simp only [okS, Bool.and_eq_true] at ok
  refine wpAny_If (wpAny_mono (soundT G e hd A fs env ρ μ s _ (fun b μ₁ => br b (wpSs sg (SC c d) hd t ρ μ₁ Q X) (wpSs sg (SC c d) hd f ρ μ₁ Q X)) _ (fun v μ₁ h₁ => h₁) ok.1.1 h S) (fun b s₁ ⟨μ₁, st, q⟩ => ?_) fun _ _ x => XPost.toS S x)
  cases b with
  | true =>
    rw [if_pos rfl]
    exact wpAny_mono (ht nr hd A fs env ρ μ₁ s₁ Q X ok.1.2 tp (q.1 rfl) (S.step st)) (fun _ _ p => p.after st.toS) fun _ _ p => p.after st.toS
  | false =>
    rw [if_neg Bool.false_ne_true]
    exact wpAny_mono (hf nr hd A fs env ρ μ₁ s₁ Q X ok.2 tp (q.2 rfl) (S.step st)) (fun _ _ p => p.after st.toS) fun _ _ p => p.after st.toS

theorem for_sound {it : Addr} {rv : Value} {v : V} {items : List V} {It : Nat → Heap → Prop} {x : String} {px : Pos} {body : List S} {Q : Fl → Loc → Mem → Prop} {E : Value → Shared → Prop} {μ₀ : Mem} {s₀ : Shared} (I : Iter c A it rv v items It) (hb : SSs c sg d body)
    (okx : isSto (env.scope.names.lookup (Str.ofString x)) = true) (okb : okSs sg nr env.scope.names body = true) (tp : Top fs env) (hn : s₀.heap.get? it = none) (hbase : c.base.get? it = none)
    (st : StepS c fs env μ₀ μ s₀ s) (S : St c d hd A fs env ρ μ s) (hv : RV c s.heap rv v) (hit : It 0 s.heap)
    (h : forI (fun μ' => itemsOf μ' v = some items) x (fun ρ' μ' k => wpSs sg (SC c d) hd body ρ' μ' k fun _ _ _ => False) items ρ μ Q) :
    codeAny (model c.prog c.w) A (.forLoop (.Name (Str.ofString x) px) (.ref it) (toSs body) [] env) (fun r s' => match r with | .ok f => PostS c d hd A fs env μ₀ s₀ Q f s' | .error e => E e s') s := by
  obtain ⟨J, j0, jst, jturn, jfin⟩ := h
  refine codeAny_forLoop (fun n s => ∃ k ρ μ, n = items.length - k ∧ k ≤ items.length ∧ StepS c fs env μ₀ μ s₀ s ∧ St c d hd A fs env ρ μ s ∧ RV c s.heap rv v ∧ It k s.heap ∧ J k ρ μ)
    (fun n s ⟨k, ρ, μ, hk, hkl, st, S, hv, hit, h⟩ => ?_) items.length ⟨0, ρ, μ, rfl, Nat.zero_le _, st, S, hv, hit, j0⟩
  cases hk' : items[k]? with
  | none =>
    have : k = items.length := Nat.le_antisymm hkl (List.getElem?_eq_none_iff.mp hk')
    refine I.fin k s μ _ _ hk' (jst _ _ _ h) S.rel hv hit fun h' x => ?_
    subst this
    exact wpAny_execs_nil ⟨.next, ρ, μ, st.it (n := s.toks) x hn, S.ext (n := s.toks) x hbase (I.obj _ _ hit), .next, jfin _ _ h⟩
  | some w =>
    have hlt : k < items.length := (List.getElem?_eq_some_iff.mp hk').1
    refine I.item k w s μ _ _ hk' (jst _ _ _ h) S.rel hv hit fun rw_ h' n' x hit' hw => ?_
    have ho := I.obj k _ hit
    have S₁ := S.ext (n := n') x hbase ho
    have st₁ := st.it (n := n') x hn
    refine wpAny_assign_Name (store_sound S₁ (sto okx) (hw.monoV (monoV_ext x ho)) fun s₂ st₂ S₂ => ?_)
    refine wpAny_mono (hb nr hd A fs env _ μ s₂ _ _ okb tp (jturn k w ρ μ hk' h) S₂) (fun fl s₃ ⟨fl', ρ₃, μ₃, st₃, S₃, hfl, q⟩ => ?_) fun _ _ y => y.no
    have st₁₃ := st₂.trans st₃
    cases hfl with
    | next => exact ⟨items.length - (k + 1), by omega, k + 1, ρ₃, μ₃, rfl, hlt, st₁.trans st₁₃, S₃, st₁₃.rv S₁ (hv.monoV (monoV_ext x ho)), I.keep _ _ _ hit' (st₁₃.fields S₁ (I.obj _ _ hit')), q⟩
    | ret hr => exact ⟨_, ρ₃, μ₃, st₁.trans st₁₃, S₃, .ret hr, q⟩

theorem ss_while (G : Good c sg) {e : E} {body : List S} {p : Pos} (hb : SSs c sg d body) : SS c sg d (.while_ e body p) := by
  intro nr hd A fs env ρ μ s Q X ok tp h S
  simp only [okS, Bool.and_eq_true] at ok
  obtain ⟨J, ⟨n, j0⟩, jturn⟩ := h
  refine wpAny_While (codeAny_whileLoop (fun n s' => ∃ ρ' μ', StepS c fs env μ μ' s s' ∧ St c d hd A fs env ρ' μ' s' ∧ J n ρ' μ')
    (fun n s' ⟨ρ', μ', st, S', h'⟩ => ?_) n ⟨ρ, μ, .refl, S, j0⟩)
  refine wpAny_mono (soundT G e hd A fs env ρ' μ' s' _ _ _ (fun v μ₁ h₁ => h₁) ok.1 (jturn n ρ' μ' h') S') (fun b s₁ ⟨μ₁, st₁, q⟩ => ?_) fun _ _ y => y.no
  cases b with
  | true =>
    rw [if_pos rfl]
    refine wpAny_mono (hb nr hd A fs env ρ' μ₁ s₁ _ _ ok.2 tp (q.1 rfl) (S'.step st₁)) (fun fl s₃ ⟨fl', ρ₃, μ₃, st₃, S₃, hfl, q⟩ => ?_) fun _ _ y => y.no
    cases hfl with
    | next =>
      obtain ⟨m, hm, q⟩ := q
      exact ⟨m, hm, ρ₃, μ₃, st.trans (st₁.toS.trans st₃), S₃, q⟩
    | ret hr => exact ⟨_, ρ₃, μ₃, st.trans (st₁.toS.trans st₃), S₃, .ret hr, q⟩
  | false =>
    rw [if_neg Bool.false_ne_true]
    exact wpAny_execs_nil ⟨.next, ρ', μ₁, st.trans st₁.toS, S'.step st₁, .next, q.2 rfl⟩
end
end Mine

set_option autoImplicit false
namespace Mine
set_option linter.unusedVariables false
set_option linter.unusedSimpArgs false
open PySem PySem.W PySem.Calls PyProof.Rows

section
variable {c : Ctx} {sg : Sig} {d : Nat} {nr hd : Bool} {A : Around} {fs : List Env} {env : Env} {ρ : Loc} {μ : Mem} {s : Shared} {X : String → Loc → Mem → Prop}

theorem ss_for (G : Good c sg) {x : String} {e : E} {body : List S} {px p : Pos} (hb : SSs c sg d body) : SS c sg d (.for_ x e body px p) := by
  intro nr hd A fs env ρ μ s Q X ok tp h S
  simp only [okS, Bool.and_eq_true] at ok
  obtain ⟨h0, h⟩ := h
  refine wpAny_For (ev G ok.1.1 .refl h S fun rv v μ₁ s₁ st hv q => ?_) (fun x => by cases e <;> rfl)
  split at q
  · rename_i items hi
    refine iter_sound (fs := fs) (S.aok.handled h0) st.rel hv hi fun it s₂ It I hit hn st₂ => ?_
    have hb' : c.base.get? it = none := by
      cases z : c.base.get? it with
      | none => rfl
      | some o => have := st.rel.base it o z; rw [hn] at this; cases this
    have hn' : s.heap.get? it = none ∨ True := .inr trivial
    refine codeAny_mono (for_sound (E := fun e s' => cameBackBy (model c.prog c.w) A env (XPostS c d hd A fs env nr μ s X) e s') (μ₀ := μ₁) (s₀ := s₁) I hb ok.1.2 ok.2 tp hn hb' st₂.toS ((S.step st).step st₂) (hv.step st.rel st₂) hit q) fun r s' hr => ?_
    cases r with
    | error e => exact hr
    | ok f => exact PostS.after st.toS hr
  · exact q.elim
end
end Mine

set_option autoImplicit false
namespace Mine
set_option linter.unusedVariables false
set_option linter.unusedSimpArgs false
open PySem PySem.W PySem.Calls PyProof.Rows

section
variable {c : Ctx} {sg : Sig} {d : Nat} {nr hd : Bool} {A : Around} {fs : List Env} {env : Env} {ρ : Loc} {μ : Mem} {s : Shared} {X : String → Loc → Mem → Prop}

theorem ss_raise (G : Good c sg) {n m : String} {pf pm pc p : Pos} : SS c sg d (.raise n m pf pm pc p) := by
  intro nr hd A fs env ρ μ s Q X ok tp h S
  simp only [okS, Bool.and_eq_true, Bool.not_eq_true', beq_iff_eq, bne_iff_ne] at ok
  obtain ⟨⟨⟨hnr, hin⟩, hk⟩, hdb⟩ := ok
  obtain ⟨C, hC⟩ := G.excs n (by simpa using hin)
  obtain ⟨e1, e2⟩ := G.exc n C hC
  obtain ⟨pp, loose, mg, mb, T⟩ := G.top
  have O := own_of_in G.X T e1 e2
  obtain ⟨tl, N, nm, q, bs, hdct, sn, sub, ab, col, dd, k0, k1, k2, k3, k5, mN, oC, hN, hni, TL⟩ := O.obj
  refine wpAny_Raise_call_subT (C := C) (nm := nm) (q := q) (N := N) (bs := bs) (bm := tl) (hdct := hdct) (sn := sn) (sub := sub) (ab := ab) (col := col) (dd := dd) (k0 := k0) (k1 := k1) (k2 := k2) (k3 := k3) (k5 := k5)
    PySem.F.excBase_ValueError (mN := mN) (TL.hasType PySem.F.excBase_ValueError.hasBase) (S.aok.handled h.1) rfl hni (name_glob G S.er S.rel hk hdb e1 ⟨rfl, ?_⟩)
  refine Calls.evalArgs_plain (Calls.spliced_cons (wpAny_Constant_str (k := 0) (pos := pm) (Calls.spliced_nil ?_)))
  have st : Step c fs μ μ s { s with toks := s.toks + 1 } := Step.toks S.rel
  refine ⟨rfl, by show 1 ≤ sizeLine; decide, S.rel.base _ _ oC, hN.keeps S.rel.base, TL.keeps S.rel.base, fun h' e hm => ?_⟩
  exact ⟨e, n, ρ, μ, μ, _, rfl, st.toS, S.step st, .inr ⟨hnr, rfl, rfl, rfl, rfl, C, _, hC, hm⟩, h.2⟩

structure InAir (c : Ctx) (fs : List Env) (μ μ' : Mem) (s s' : Shared) (x : String) (B : Heap) (C : Addr) : Prop where
  gens : s'.gens = s.gens
  drawn : s'.drawn = s.drawn
  os : s'.os = s.os
  kept : Kept (frs fs) μ μ' s.heap s'.heap
  hx : c.exc x = some C
  hr : Rel c μ' B
  hB : ∀ b o, s.heap.get? b = some o → μ b = none → b ∉ frs fs → B.get? b = some o

/-- an exception is looked at where it lands -/
theorem InAir.land {e : Addr} {x : String} {μ' : Mem} {s' : Shared} {B h₅ : Heap} {C : Addr} {a0 : Value} (I : InAir c fs μ μ' s s' x B C) (S : St c d hd A fs env ρ μ s) (up : s'.heap.UpToSlots h₅) (hf : Heap.FlyingW B fs e (.ref C) a0 h₅) :
    St c d hd A fs env ρ μ' { s' with heap := h₅ } ∧ StepS c fs env μ μ' s { s' with heap := h₅ } ∧ RV c h₅ (.ref e) (.exc x) := by
  obtain ⟨gens, drawn, os, kept, hx, hr, hB⟩ := I
  obtain ⟨f1, f2, f3, f4⟩ := id hf
  have slots : ∀ b o, s.heap.get? b = some o → μ b = none → (∀ vs, o.data ≠ .fields vs) → ∃ sl, h₅.get? b = some { o with slots := sl } := fun b o e hm hnf => by
    obtain ⟨_, sl, e', _⟩ := kept b o e hm
    obtain ⟨sl', e''⟩ := up b _ e' hnf
    exact ⟨sl', e''⟩
  have notfr : ∀ b o, s.heap.get? b = some o → (∃ vs, o.data = .fields vs) → b ∉ frs fs := fun b o e ⟨vs, hd⟩ hb => by
    obtain ⟨_, o', ho', hd'⟩ := S.aok.fun_.mem hb
    rw [e] at ho'; cases ho'; exact hd' vs hd
  have k : ∀ b o, s.heap.get? b = some o → RK o → ∃ sl, h₅.get? b = some { o with slots := sl } ∧ ((∃ vs, o.data = .fields vs) → sl = o.slots) := fun b o e q => by
    rcases q with ⟨q, vs, n, hd⟩ | ⟨_, vs, hd⟩
    · obtain ⟨sl, e'⟩ := slots b o e (S.rel.none_of_cls e q (by decide) (by decide)) (fun vs' q' => by rw [hd] at q'; cases q')
      exact ⟨sl, e', fun ⟨vs', q'⟩ => by rw [hd] at q'; cases q'⟩
    · exact ⟨o.slots, f1 _ _ (hB b o e (S.rel.none_of_fields e hd) (notfr b o e ⟨vs, hd⟩)), fun _ => rfl⟩
  obtain ⟨m, hns, hnm⟩ := S.er.names
  obtain ⟨oL, esL, epL, hoL, hdL, rL⟩ := id hns
  have cellk : ∀ ca w, μ ca = none → s.heap.IsCell ca w → h₅.IsCell ca w := fun ca w hm ⟨o, ho, hd⟩ => by
    obtain ⟨sl, e'⟩ := slots ca o ho hm (fun vs q => by rw [hd] at q; cases q)
    exact ⟨_, e', hd⟩
  refine ⟨⟨hr.keeps f1, ⟨S.er.kind, S.er.glob, S.er.blt, (kept _ _ hoL S.er.priv).1, S.er.new, fun y ca e => ?_, S.er.inj, S.er.has, m, ?_, fun y w e => ?_⟩, ⟨S.aok.frames, S.aok.room, S.aok.units, S.aok.handled, funFrames_base hr.base f3, fun L hL => ?_, fun L hL => (by obtain ⟨o, es, n, ho, hd⟩ := S.aok.dicts L hL; obtain ⟨sl, e'⟩ := slots L o ho (S.aok.priv L hL) (fun vs q => by rw [hd] at q; cases q); exact ⟨_, es, n, e', hd⟩)⟩, S.room, S.units⟩, ⟨gens, drawn, os, fun b o e hm hp => ?_⟩, ?_⟩
  · obtain ⟨⟨w, hw⟩, h1, h2⟩ := S.er.cells y ca e
    obtain ⟨o, ho, hd⟩ := id hw
    exact ⟨⟨w, cellk _ _ h1 hw⟩, (kept _ _ ho h1).1, h2⟩
  · obtain ⟨sl, e'⟩ := slots _ _ hoL S.er.priv (fun vs q => by rw [hdL] at q; cases q)
    exact ⟨_, esL, epL, e', hdL, rL⟩
  · rcases hnm y w e with ⟨h1, rw_, h2, h3⟩ | ⟨h1, ca, rw_, h2, h3, h4⟩
    · exact .inl ⟨h1, rw_, h2, h3.monoV k⟩
    · exact .inr ⟨h1, ca, rw_, h2, cellk _ _ (S.er.cells _ ca h2).2.1 h3, h4.monoV k⟩
  · obtain ⟨_, o, ho, _⟩ := S.aok.fun_.mem hL
    exact (kept L o ho (S.aok.priv L hL)).1
  · refine ⟨(kept b o e hm).1, ?_⟩
    by_cases hb : b ∈ frs fs
    · obtain ⟨_, o', ho', hd'⟩ := S.aok.fun_.mem hb
      rw [e] at ho'; cases ho'
      obtain ⟨sl, e'⟩ := slots b o e hm hd'
      exact ⟨sl, e', fun q => (q.elim (fun z => (z hb).elim) fun ⟨vs, z⟩ => (hd' vs z).elim)⟩
    · exact ⟨o.slots, f1 _ _ (hB b o e hm hb), fun _ => rfl⟩
  · obtain ⟨oe, vs, h1, h2, h3, _⟩ := hf.first
    exact .exc h1 h2 h3 hx

theorem St.mark {v : Option Value} (S : St c d hd A fs env ρ μ s) : St c d true (A.mark v) fs env ρ μ s := ⟨S.rel, S.er, ⟨S.aok.frames, S.aok.room, S.aok.units, nofun, S.aok.fun_, S.aok.priv, S.aok.dicts⟩, S.room, S.units⟩
theorem St.unmark {v : Option Value} (h0 : A.handled = none) (S : St c d true (A.mark v) fs env ρ μ s) : St c d hd A fs env ρ μ s := ⟨S.rel, S.er, ⟨S.aok.frames, S.aok.room, S.aok.units, fun q => h0, S.aok.fun_, S.aok.priv, S.aok.dicts⟩, S.room, S.units⟩

/-- the first clause -/
theorem handle_cons (G : Good c sg) {e : Addr} {x n : String} {as : Option Str} {body : List Stmt} {pc ph : Pos} {rest : List ExceptHandler} {Q : Flow → Shared → Prop} {E : Value → Shared → Prop} (S : St c d hd A fs env ρ μ s) (hin : n ∈ sg.excs)
    (hk : env.kindOf (Str.ofString n) = some .globalImplicit) (hdb : n ≠ "__debug__") (he : RV c s.heap (.ref e) (.exc x))
    (hy : isSub x n = true → codeAny (model c.prog c.w) (A.mark (some (.ref e))) (.handlers (.ref e) [.ExceptHandler none as body ph] env) (fun r s₂ => match r with
          | .ok f => (match as with
            | none => Q f s₂
            | some n => wpAny (model c.prog c.w) A (do bindName env n .none; unbindBehindTheSuite env n ph) (fun _ s₃ => Q f s₃) E s₂)
          | .error x => cameBackBy (model c.prog c.w) A env E x s₂) s)
    (hn : isSub x n = false → wpAny (model c.prog c.w) A (handleBy (.ref e) env rest) Q E s) :
    wpAny (model c.prog c.w) A (handleBy (.ref e) env (.ExceptHandler (some (.Name (Str.ofString n) pc)) as body ph :: rest)) Q E s := by
  cases he with
  | @exc _ o Cx _ vs h1 h2 h3 h4 =>
  obtain ⟨C, hC⟩ := G.excs n hin
  obtain ⟨e1, e2⟩ := G.exc n C hC
  refine wpAny_handleBy_cons (codeAny_handlers_test (name_glob G S.er S.rel hk hdb e1 ?_)) (by intro q; cases q)
  have LT : Looks (model c.prog c.w) s.heap (typeOf (.ref e)) (.ref Cx) := by
    exact h2 ▸ (Looks.ld h1).andThen .now
  refine (exm_one (Kin G S.rel) LT (G.sub x n Cx C h4 hC)).here ?_
  cases q : isSub x n with
  | true => exact hy q
  | false => exact hn q

theorem RFl.mono {h h' : Heap} {fl : Flow} {fl' : Fl} (k : ∀ {v x}, RV c h v x → RV c h' v x) (x : RFl c h fl fl') : RFl c h' fl fl' := by
  cases x with
  | next => exact .next
  | ret hv => exact .ret (k hv)

/-- the names are forgotten -/
theorem St.forget {h' : Heap} {m' : Str → Option Value} {n : Nat} (S : St c d hd A fs env ρ μ s) (hn' : h'.Ns env.locals m') (sb : Heap.SameBut env.locals s.heap h') :
    St c d hd A fs env (fun _ => none) μ { s with heap := h', toks := n } ∧ StepS c fs env μ μ s { s with heap := h', toks := n } ∧ (∀ {v x}, RV c s.heap v x → RV c h' v x) := by
  obtain ⟨m, hns, hm⟩ := S.er.names
  obtain ⟨oL, esL, nL, hoL, hdL⟩ := Ns.dict hns
  obtain ⟨oL', esL', nL', hoL', hdL'⟩ := Ns.dict hn'
  obtain ⟨r', mono⟩ := Rel.private S.rel S.er.priv S.er.new (fun o e => by rw [hoL] at e; cases e; rintro (⟨_, vs, n, q⟩ | ⟨_, vs, q⟩) <;> (rw [hdL] at q; cases q)) sb
  have other : ∀ ca, (∃ w, s.heap.IsCell ca w) → ca ≠ env.locals := fun ca ⟨w, o, ho, hd⟩ q => by rw [q, hoL] at ho; cases ho; rw [hdL] at hd; cases hd
  refine ⟨⟨r', ⟨S.er.kind, S.er.glob, S.er.blt, S.er.priv, S.er.new, fun y ca e => ?_, S.er.inj, S.er.has, _, hn', fun y w e => by cases e⟩, S.aok.turn sb ⟨oL', hoL', fun vs q => by rw [hdL'] at q; cases q⟩ (fun _ => ⟨oL', _, _, hoL', hdL'⟩), S.room, S.units⟩, ⟨rfl, rfl, rfl, fun b o e hmb hp => ⟨hmb, o.slots, (sb.2 b fun q => hp (.inl q)).trans e, fun _ => rfl⟩⟩, mono⟩
  obtain ⟨⟨w, o, ho, hd⟩, h1, h2⟩ := S.er.cells y ca e
  exact ⟨⟨w, o, (sb.2 ca (other ca ⟨w, o, ho, hd⟩)).trans ho, hd⟩, h1, h2⟩

section
variable {e : Addr} {x : String} {μ' : Mem} {s' : Shared} {B h : Heap} {C : Addr} {a0 : Value} {Q : Fl → Loc → Mem → Prop} {E : Value → Shared → Prop} {b : S} {bs : List S} {ph : Pos}

theorem suite_sound (I : InAir c fs μ μ' s s' x B C) (S : St c d hd A fs env ρ μ s) (h0 : A.handled = none) (tp : Top fs env) (hb : SSs c sg d (b :: bs)) (ok : okSs sg nr env.scope.names (b :: bs) = true)
    (hw : wpSs sg (SC c d) true (b :: bs) ρ μ' Q fun _ _ _ => False) (up : s'.heap.UpToSlots h) (hf : Heap.FlyingW B fs e (.ref C) a0 h) :
    codeAny (model c.prog c.w) (A.mark (some (.ref e))) (.handlers (.ref e) [.ExceptHandler none none (toSs (b :: bs)) ph] env) (fun r s₂ => match r with
      | .ok f => PostS c d hd A fs env μ s Q f s₂
      | .error x => cameBackBy (model c.prog c.w) A env E x s₂) { s' with heap := h } := by
  refine codeAny_handlers_suite (lands_againW hf fun h₆ hf₆ up₆ => ?_)
  obtain ⟨S₆, st₆, he₆⟩ := I.land S (up.trans up₆) hf₆
  refine wpAny_mono (hb nr true _ fs env ρ μ' _ Q _ ok tp hw S₆.mark) (fun fl s₂ ⟨fl', ρ₂, μ₂, st₂, S₂, hfl, q⟩ => ?_) fun _ _ y => y.no
  exact ⟨fl', ρ₂, μ₂, st₆.trans st₂, S₂.unmark h0, hfl, q⟩

theorem suite_as_sound (I : InAir c fs μ μ' s s' x B C) (S : St c d hd A fs env ρ μ s) (h0 : A.handled = none) (tp : Top fs env) {n : String} (hn : env.kindOf (Str.ofString n) = some .local) (hb : SSs c sg d (b :: bs)) (ok : okSs sg nr env.scope.names (b :: bs) = true)
    (hw : wpSs sg (SC c d) true (b :: bs) (updL ρ n (.exc x)) μ' (fun fl _ μ₂ => Q fl (fun _ => none) μ₂) fun _ _ _ => False) (up : s'.heap.UpToSlots h) (hf : Heap.FlyingW B fs e (.ref C) a0 h) :
    codeAny (model c.prog c.w) (A.mark (some (.ref e))) (.handlers (.ref e) [.ExceptHandler none (some (Str.ofString n)) (toSs (b :: bs)) ph] env) (fun r s₂ => match r with
      | .ok f => wpAny (model c.prog c.w) A (do bindName env (Str.ofString n) .none; unbindBehindTheSuite env (Str.ofString n) ph) (fun _ s₃ => PostS c d hd A fs env μ s Q f s₃) E s₂
      | .error x => cameBackBy (model c.prog c.w) A env E x s₂) { s' with heap := h } := by
  refine codeAny_handlers_suite_as (lands_againW hf fun h₆ hf₆ up₆ => ?_)
  obtain ⟨S₆, st₆, he₆⟩ := I.land S (up.trans up₆) hf₆
  refine store_sound (v := .exc x) S₆.mark (.inl hn) he₆ fun s₇ st₇ S₇ => ?_
  refine wpAny_mono (hb nr true _ fs env _ μ' _ _ _ ok tp hw S₇) (fun fl s₂ ⟨fl', ρ₂, μ₂, st₂, S₂, hfl, q⟩ => ?_) fun _ _ y => y.no
  obtain ⟨m₂, hns₂, _⟩ := S₂.er.names
  refine wpAny_nameGoes hn hns₂ (by rw [S.er.kind]; rfl) fun h' m' hn' sb => ?_
  obtain ⟨S₈, st₈, mono⟩ := St.forget (n := s₂.toks + 1) (S₂.unmark (hd := hd) h0) hn' sb
  exact ⟨fl', _, μ₂, ((st₆.trans st₇).trans st₂).trans st₈, S₈, hfl.mono mono, q⟩

theorem more_sound (G : Good c sg) (I : InAir c fs μ μ' s s' x B C) (S : St c d hd A fs env ρ μ s) (h0 : A.handled = none) (tp : Top fs env) : ∀ {more : List (String × Pos × Mine.E × Pos × Pos)} {h : Heap}, okMore sg env.scope.names more = true → moreW sg (SC c d) x ρ μ' Q more →
    s'.heap.UpToSlots h → Heap.FlyingW B fs e (.ref C) a0 h → wpAny (model c.prog c.w) A (handleBy (.ref e) env (toMore more)) (PostS c d hd A fs env μ s Q) E { s' with heap := h }
  | [], _, _, hw, _, _ => hw.elim
  | (n, pc, r, pr, ph) :: more, h, ok, hw, up, hf => by
    simp only [okMore, Bool.and_eq_true, beq_iff_eq, bne_iff_ne] at ok
    obtain ⟨⟨⟨⟨o1, o2⟩, o3⟩, o4⟩, o5⟩ := ok
    obtain ⟨S₅, st₅, he⟩ := I.land S up hf
    unfold moreW at hw
    refine handle_cons G S₅ (by simpa using o1) o2 o3 he (fun hy => ?_) fun hy => ?_
    · rw [if_pos hy] at hw
      refine suite_sound (sg := sg) (b := .ret r pr) (bs := []) (nr := false) I S h0 tp (sss fun t ht => ?_) (by simp only [okSs, okS, o4, Bool.and_true]) ?_ up hf
      · rw [List.mem_singleton] at ht; subst ht; exact ss_ret G
      · exact hw
    · rw [if_neg (by rw [hy]; exact Bool.false_ne_true)] at hw
      exact more_sound G I S h0 tp o5 hw up hf
end

theorem ss_try (G : Good c sg) {body h : List S} {n : String} {as : Option String} {more : List (String × Pos × E × Pos × Pos)} {pc ph p : Pos} (hb : SSs c sg d body) (hh : SSs c sg d h) : SS c sg d (.try_ body n as h more pc ph p) := by
  intro nr hd A fs env ρ μ s Q X ok tp hw S
  simp only [okS, Bool.and_eq_true, beq_iff_eq, bne_iff_ne, Bool.not_eq_true'] at ok
  obtain ⟨⟨⟨⟨⟨⟨⟨o1, o2⟩, o3⟩, o4⟩, o5⟩, o6⟩, o7⟩, o8⟩ := ok
  obtain ⟨rfl, hw⟩ := hw
  have h0 := S.aok.handled rfl
  obtain ⟨outer, hfs, hfr⟩ := id tp
  refine wpAny_Try_except (wpAny_mono (hb true false A fs env ρ μ s Q _ o1 tp hw S) (fun fl s₁ hp => ?_) fun re s' hx => ?_)
  · obtain ⟨fl', ρ₁, μ₁, st, S₁, hfl, q⟩ := hp
    cases hfl with
    | next => exact wpAny_execs_nil ⟨_, ρ₁, μ₁, st, S₁, .next, q⟩
    | ret hv => exact ⟨_, ρ₁, μ₁, st, S₁, .ret hv, q⟩
  · obtain ⟨e, x, ρ₁, μ₁, μ', s₁, rfl, st, S₁, hfly, hq⟩ := hx
    rcases hfly with hfly | ⟨q, _⟩
    · obtain ⟨B, C, a0, hC, hf, hr, hB⟩ := hfly.there
      have I : InAir c fs μ₁ μ' s₁ s' x B C := ⟨hfly.gens, hfly.drawn, hfly.os, hfly.kept, hC, hr, hB⟩
      refine wpAny_looks_onW (hfs ▸ S.aok.frames) hfr (hfs ▸ hf) fun h₄ hh₄ up₄ => ?_
      refine wpAny_landsW hh₄ fun h₅ hf₅ up₅ => ?_
      have up := up₄.trans up₅
      rw [← hfs] at hf₅
      obtain ⟨S₅, st₅, he⟩ := I.land S₁ up hf₅
      refine wpAny_mono (Q := PostS c d false A fs env μ₁ s₁ Q) (E := XPostS c d false A fs env nr μ s X) (handle_cons G S₅ (by simpa using o4) o5 o6 he (fun hy => ?_) fun hy => ?_) (fun _ _ y => y.after st) fun _ _ y => y
      · simp only [hy, if_true] at hq
        cases h with
        | nil => cases o2
        | cons b bs =>
          cases as with
          | none => exact suite_sound (s' := s') I S₁ h0 tp hh o3 hq up hf₅
          | some n => exact suite_as_sound (s' := s') I S₁ h0 tp (show env.scope.names.lookup _ = _ by simpa using o7) hh o3 hq up hf₅
      · simp only [hy, Bool.false_eq_true, if_false] at hq
        exact more_sound (s' := s') G I S₁ h0 tp o8 hq up hf₅
    · cases q

theorem soundS_lt (G : Good c sg) : ∀ (n : Nat) (t : S), sizeOf t < n → SS c sg d t := by
  intro n
  induction n with
  | zero => intro e h; exact absurd h (Nat.not_lt_zero _)
  | succ n ih =>
    intro t h
    have sub : ∀ l : List S, sizeOf l < n → SSs c sg d l := fun l hl => sss fun t ht => ih t (Nat.lt_trans (List.sizeOf_lt_of_mem ht) hl)
    cases t with
    | expr e p => exact ss_expr G
    | assign x e px p => exact ss_assign G
    | setattr o a e pa p => exact ss_setattr G
    | setitem o i e ps p => exact ss_setitem G
    | unpack xs e k pt p => exact ss_unpack G
    | ite e t f p => simp only [S.ite.sizeOf_spec] at h; exact ss_ite G (sub t (by omega)) (sub f (by omega))
    | for_ x e b px p => simp only [S.for_.sizeOf_spec] at h; exact ss_for G (sub b (by omega))
    | while_ e b p => simp only [S.while_.sizeOf_spec] at h; exact ss_while G (sub b (by omega))
    | ret e p => exact ss_ret G
    | raise n m pf pm pc p => exact ss_raise G
    | try_ b n as h' more pc ph p => simp only [S.try_.sizeOf_spec] at h; exact ss_try G (sub b (by omega)) (sub h' (by omega))
    | pass p => exact ss_pass
theorem soundSs (G : Good c sg) (t : List S) : SSs c sg d t := sss fun t _ => soundS_lt G (sizeOf t + 1) t (Nat.lt_succ_self _)
end
end Mine

set_option autoImplicit false
namespace Mine
set_option linter.unusedVariables false
set_option linter.unusedSimpArgs false
open PySem PySem.W PySem.Calls PyProof.Rows

/-- a function of the text -/
structure Def (c : Ctx) (sg : Sig) (f : String) (ps : List String) (body : List S) : Prop where
  limit : c.base.NoLimit
  def_ : ∃ fa o fd, c.fn f = some fa ∧ c.base.get? fa = some o ∧ o.data = .func fd ∧ fd.body = .stmts (toSs body) ∧ fd.closure = [] ∧ fd.globals = mainGlobals ∧ fd.builtins = builtinsNs ∧ c.base.CodeRec fd.code fd.qualname ∧
    fd.scope.kind = .function ∧ fd.scope.isCoroutine = false ∧ fd.scope.isGenerator = false ∧ (∀ rvs : List Value, rvs.length = ps.length → bindArgs fd ⟨rvs, []⟩ = pure ((ps.map Str.ofString).zip rvs)) ∧
    (ps.all fun p => isSto (fd.scope.names.lookup (Str.ofString p))) = true ∧ okSs sg false fd.scope.names body = true

theorem cellsFrom_has {x : Str} : ∀ (l : List (Str × NameKind)) (n : Nat) (acc : List (Str × Addr)), l.lookup x = some .cell ∨ (acc.lookup x).isSome = true → ((cellsFrom n l acc).lookup x).isSome = true
  | [], n, acc, h => by
    rcases h with h | h
    · cases h
    · exact h
  | (y, k) :: r, n, acc, h => by
    unfold cellsFrom
    by_cases hk : (k == NameKind.cell) = true
    · rw [if_pos hk]
      refine cellsFrom_has r _ _ ?_
      by_cases e : (x == y) = true
      · refine .inr ?_
        simp only [List.lookup_cons, e]; rfl
      · have e' : (x == y) = false := by simpa using e
        simp only [List.lookup_cons, e'] at h ⊢
        exact h
    · rw [if_neg hk]
      refine cellsFrom_has r _ _ ?_
      by_cases e : (x == y) = true
      · simp only [List.lookup_cons, e] at h
        rcases h with h | h
        · cases h; exact absurd rfl hk
        · exact .inr h
      · have e' : (x == y) = false := by simpa using e
        simp only [List.lookup_cons, e'] at h
        exact h

theorem apart_inj {cs : List (Str × Addr)} (h : cs.Pairwise fun x y => x.2 ≠ y.2) {x y : Str} {ca : Addr} (hx : (x, ca) ∈ cs) (hy : (y, ca) ∈ cs) : x = y := by
  induction h with
  | nil => cases hx
  | cons hd _ ih =>
    cases hx with
    | head => cases hy with
      | head => rfl
      | tail _ hy => exact absurd rfl (hd (y, ca) hy)
    | tail _ hx => cases hy with
      | head => exact absurd rfl (hd (x, ca) hx)
      | tail _ hy => exact ih hx hy

section
variable {c : Ctx} {sg : Sig} {d : Nat} {hd : Bool}

noncomputable def Has (c : Ctx) (k : Str → Option NameKind) (h : Heap) (m cm : Str → Option Value) (x : String) (v : V) : Prop :=
  (k (Str.ofString x) = some .local ∧ ∃ rv, m (Str.ofString x) = some rv ∧ RV c h rv v) ∨ (k (Str.ofString x) = some .cell ∧ ∃ rv, cm (Str.ofString x) = some rv ∧ RV c h rv v)

theorem binds_has {k : Str → Option NameKind} {h : Heap} : ∀ {ps : List String} {vs : List V} {rvs : List Value} {ρ ρ' : Loc} {m cm : Str → Option Value}, RVs c h rvs vs → bindAll ps vs ρ = some ρ' → (∀ p ∈ ps, k (Str.ofString p) = some .local ∨ k (Str.ofString p) = some .cell) →
    (∀ x v, ρ x = some v → Has c k h m cm x v) → ∀ x v, ρ' x = some v → Has c k h (bindL k ((ps.map Str.ofString).zip rvs) m) (bindC k ((ps.map Str.ofString).zip rvs) cm) x v
  | [], [], _, ρ, ρ', m, cm, hr, hb, _, hρ => by
    cases hr; cases hb; exact hρ
  | p :: ps, v :: vs, _, ρ, ρ', m, cm, hr, hb, hk, hρ => by
    cases hr with
    | @cons rv rvs _ _ hv hr =>
    simp only [bindAll] at hb
    simp only [List.map_cons, List.zip_cons_cons, bindL, bindC]
    refine binds_has hr hb (fun q hq => hk q (.tail _ hq)) fun x w e => ?_
    unfold updL at e
    split at e
    · rename_i hx; subst hx; cases e
      rcases hk x (.head _) with hk | hk
      · exact .inl ⟨hk, rv, by rw [if_pos hk]; simp, hv⟩
      · exact .inr ⟨hk, rv, by rw [if_neg (by rw [hk]; nofun)]; simp, hv⟩
    · rename_i hx
      have hne : Str.ofString x ≠ Str.ofString p := fun q => hx (ofString_inj q)
      rcases hρ x w e with ⟨h1, rw_, h2, h3⟩ | ⟨h1, rw_, h2, h3⟩
      · refine .inl ⟨h1, rw_, ?_, h3⟩
        split
        · simp only [hne, if_false]; exact h2
        · exact h2
      · refine .inr ⟨h1, rw_, ?_, h3⟩
        split
        · exact h2
        · simp only [hne, if_false]; exact h2
  | [], _ :: _, _, _, _, _, _, _, hb, _, _ => by cases hb
  | _ :: _, [], _, _, _, _, _, _, hb, _, _ => by cases hb

theorem bindAll_length : ∀ {ps : List String} {vs : List V} {ρ ρ' : Loc}, bindAll ps vs ρ = some ρ' → ps.length = vs.length
  | [], [], _, _, _ => rfl
  | _ :: ps, _ :: vs, _, _, h => by simp only [bindAll] at h; simp [bindAll_length h]
  | [], _ :: _, _, _, h => by cases h
  | _ :: _, [], _, _, h => by cases h

theorem Rel.hide {μ : Mem} {h : Heap} {l : List Addr} (r : Rel c μ h) (hb : ∀ a ∈ l, c.base.get? a = none) (hm : ∀ a ∈ l, μ a = none) (hd : ∀ a ∈ l, ∃ o es n, h.get? a = some o ∧ o.data = .dict es n) : Rel c μ (hideAll h l) := by
  refine ⟨fun b o e => hideAll_get _ (r.base b o e) fun z => (by rw [hb b z] at e; cases e), fun a o e => ?_⟩
  obtain ⟨n, ob, e', ro⟩ := r.mem a o e
  refine ⟨n, ob, hideAll_get _ e' fun z => by (rw [hm a z] at e; cases e), ro.monoV fun b q eb rk => ⟨q.slots, hideAll_get _ eb fun z => ?_, fun _ => rfl⟩⟩
  obtain ⟨o', es, n', ho', hd'⟩ := hd b z
  rw [eb] at ho'; cases ho'
  rcases rk with ⟨_, _, _, q⟩ | ⟨_, _, q⟩ <;> (rw [hd'] at q; cases q)

/-- a call of a function of the text -/
theorem sc_intro (G : Good c sg) {f : String} {ps : List String} {body : List S} (D : Def c sg f ps body) {vs : List V} {ρ₀ : Loc} {μ : Mem} {Q : V → Mem → Prop} {X : String → Mem → Prop} (hb : bindAll ps vs (fun _ => none) = some ρ₀)
    (h : wpSs sg (SC c d) hd body ρ₀ μ (fun fl _ μ' => match fl with | .ret v => Q v μ' | .next => Q .none μ') (fun x _ μ' => X x μ')) : SC c (d + 1) hd f vs μ Q X := by
  obtain ⟨hlim, fa, o, fd, hfn, ho, hdata, hbody, hclo, hglob, hblt, hcd, hk, hco, hgen, hbind, hps, hok⟩ := D
  refine ⟨fa, hfn, fun A fs s rvs aok r hr => ?_⟩
  have hlen : rvs.length = ps.length := by rw [hr.length, bindAll_length hb]
  have room := aok.room
  have units := aok.units
  refine codeAny_call_function (by show A.depth < 1000; omega) (r.base _ _ ho) hdata hco hgen hbody (hcd.keeps r.base) ?_
  rw [hbind rvs hlen, hclo, hglob, hblt]
  refine wpAny_pure (wpAny_newFunctionEnv_cells hk (fun x hx => ?_) fun env he s₁ x => ?_)
  · obtain ⟨p, hp, e⟩ := List.mem_map.mp (List.of_mem_zip (a := x.1) (b := x.2) hx).1
    have := List.all_eq_true.mp hps p hp
    unfold isSto at this
    rw [← e]
    split at this
    · rename_i q; exact .inl q
    · rename_i q; exact .inr ⟨q, cellsFrom_has _ _ _ (.inl q)⟩
    · cases this
  subst he
  refine ⟨(hlim.keeps r.base).keeps x.toInCall.keep, codeAny_func ?_⟩
  obtain ⟨h₁, tk, rfl, _⟩ := x.done
  have keep := x.toInCall.keep
  have r₁ : Rel c μ h₁ := r.keeps keep
  have nL : s.heap.get? s.heap.objs.size = none := Heap.get?_none_of_le (Nat.le_refl _)
  have freeB : ∀ b, s.heap.get? b = none → c.base.get? b = none := fun b hb => by
    cases q : c.base.get? b with
    | none => rfl
    | some o => have := r.base b o q; rw [hb] at this; cases this
  have cellN : ∀ y ca, (cellsFrom (s.heap.objs.size + 1) fd.scope.names []).lookup y = some ca → s.heap.get? ca = none := fun y ca e =>
    Heap.get?_none_of_le (Nat.le_of_lt (x.above y ca (lookup_mem e)))
  obtain ⟨oL, esL, epL, hoL, hdL, rL⟩ := id x.toInCall.ns
  let env := newEnv fd.scope s.heap.objs.size mainGlobals (cellsFrom (s.heap.objs.size + 1) fd.scope.names []) (fd.qualname ++ ".<locals>.") (some fa) fd.code none builtinsNs
  have er : ER c env ρ₀ μ h₁ := by
    refine ⟨hk, rfl, rfl, r.free nL, freeB _ nL, fun y ca e => ?_, fun y z ca e1 e2 => apart_inj x.apart (lookup_mem e1) (lookup_mem e2), fun y hy => cellsFrom_has _ _ _ (.inl hy), _, x.toInCall.ns, fun y v e => ?_⟩
    · exact ⟨⟨_, x.cell y ca e⟩, r.free (cellN y ca e), freeB _ (cellN y ca e)⟩
    · have hr₁ : RVs c h₁ rvs vs := hr.mono r (.of_keeps fun b o e _ => keep b o e)
      have := binds_has (k := env.kindOf) (m := fun _ => none) (cm := fun _ => none) hr₁ hb (fun p hp => by
        have := List.all_eq_true.mp hps p hp
        exact sto this) (fun _ _ e => by cases e) y v e
      rcases this with ⟨h1, rv, h2, h3⟩ | ⟨h1, rv, h2, h3⟩
      · exact .inl ⟨h1, rv, h2, h3⟩
      · obtain ⟨ca, hca⟩ := Option.isSome_iff_exists.mp (cellsFrom_has (x := Str.ofString y) fd.scope.names (s.heap.objs.size + 1) [] (.inl h1))
        have hc := x.cell _ _ hca
        refine .inr ⟨.inl h1, ca, rv, hca, ?_, h3⟩
        rw [← h2]; exact hc
  have fnew : ∀ L ∈ frs fs, L ≠ s.heap.objs.size := fun L hL q => by
    obtain ⟨_, o, ho, _⟩ := aok.fun_.mem hL
    rw [q, nL] at ho; cases ho
  have frsE : frs (env :: fs) = s.heap.objs.size :: frs fs := rfl
  have aok' : AOK c d hd (A.deeper env) (env :: fs) μ h₁ := by
    refine ⟨?_, ?_, ?_, aok.handled, ?_, fun L hL => ?_, fun L hL => ?_⟩
    · show A.frames.map _ = _
      rw [aok.frames]; rfl
    · show A.depth + 1 + 3 * d < 900
      omega
    · show A.units + 3 + 100 * d + 200 < cLine
      omega
    · refine ⟨by show fd.scope.kind ≠ _; rw [hk]; nofun, ⟨s.heap.objs.size, oL, rfl, freeB _ nL, hoL, fun vs q => by rw [hdL] at q; cases q⟩, ?_⟩
      exact aok.fun_.of_keeps fun b o e _ => ⟨o, keep b o e, rfl⟩
    · rw [frsE] at hL
      rcases List.mem_cons.mp hL with rfl | hL
      · exact r.free nL
      · exact aok.priv L hL
    · rw [frsE] at hL
      rcases List.mem_cons.mp hL with rfl | hL
      · exact ⟨oL, _, _, hoL, hdL⟩
      · obtain ⟨o, es, n, ho, hd⟩ := aok.dicts L hL
        exact ⟨o, es, n, keep _ _ ho, hd⟩
  have S₁ : St c d hd (A.deeper env) (env :: fs) env ρ₀ μ { s with heap := h₁, toks := tk } := ⟨r₁, er, aok', by show A.depth + 1 + 3 * d + 2 < 900; omega, by show A.units + 3 + 100 * d + 250 < cLine; omega⟩
  have npv : ∀ b o, s.heap.get? b = some o → ¬ pv env b := by
    rintro b o e (q | ⟨y, q⟩)
    · rw [q] at e; rw [show s.heap.get? env.locals = none from nL] at e; cases e
    · rw [cellN y b q] at e; cases e
  have nfr : ∀ b o, s.heap.get? b = some o → b ∉ frs fs → b ∉ frs (env :: fs) := fun b o e hb hb' => by
    rw [frsE] at hb'
    rcases List.mem_cons.mp hb' with q | q
    · rw [q, nL] at e; cases e
    · exact hb q
  have kept₁ : ∀ {μ₂ : Mem} {s₂ : Shared}, StepS c (env :: fs) env μ μ₂ { s with heap := h₁, toks := tk } s₂ → ∀ b o, s.heap.get? b = some o → μ b = none → μ₂ b = none ∧ ∃ sl, s₂.heap.get? b = some { o with slots := sl } ∧ (b ∉ frs fs ∨ (∃ vs, o.data = .fields vs) → sl = o.slots) := fun st b o e hm => by
    obtain ⟨m', sl, e', q⟩ := st.kept b o (keep b o e) hm (npv b o e)
    exact ⟨m', sl, e', fun z => q (z.imp (fun z => nfr b o e z) id)⟩
  refine wpAny_mono (soundSs G body false hd _ (env :: fs) env ρ₀ μ _ _ _ hok ⟨fs, rfl, rfl⟩ h S₁) (fun fl s₂ ⟨fl', ρ₂, μ₂, st, S₂, hfl, q⟩ => ?_) fun re s' hx => ?_
  · have stp : Step c fs μ μ₂ s s₂ := ⟨st.gens, st.drawn, st.os, S₂.rel, kept₁ st⟩
    cases hfl with
    | next => exact ⟨.none, μ₂, stp, .none, q⟩
    | ret hv => exact ⟨_, μ₂, stp, hv, q⟩
  · obtain ⟨e, x', ρ₁, μ₁, μ', s₁, rfl, st, S', hfly, hq⟩ := hx
    have frE : (A.deeper env).frames = some (env :: fs) := aok'.frames
    rcases hfly with hfly | ⟨_, rfl, hg, hdr, hos, C, args, hC, hmade⟩
    · obtain ⟨B, C, a0, hC, hf, hrB, hB⟩ := hfly.there
      refine wpAny_leaves_onW frE rfl hf fun h' hf' up => ?_
      have hB' : ∀ b o, s.heap.get? b = some o → μ b = none → b ∉ frs fs → B.get? b = some o := fun b o e hm hb => by
        obtain ⟨m₁, sl, e₁, q⟩ := kept₁ st b o e hm
        rw [q (.inl hb)] at e₁
        exact hB b o e₁ m₁ (nfr b o e hb)
      refine ⟨e, x', μ', rfl, ⟨hfly.gens.trans st.gens, hfly.drawn.trans st.drawn, hfly.os.trans st.os, ⟨B, C, a0, hC, hf', hrB, hB'⟩, fun b o e hm => ?_⟩, hq⟩
      obtain ⟨m₁, sl, e₁, q₁⟩ := kept₁ st b o e hm
      obtain ⟨m₂, sl₂, e₂, q₂⟩ := hfly.kept b _ e₁ m₁
      refine ⟨m₂, ?_⟩
      by_cases hb : b ∈ frs fs
      · obtain ⟨_, o', ho', hd'⟩ := aok.fun_.mem hb
        rw [e] at ho'; cases ho'
        obtain ⟨sl₃, e₃⟩ := up b _ e₂ hd'
        exact ⟨sl₃, e₃, fun z => z.elim (fun z => (z hb).elim) fun ⟨vs, z⟩ => (hd' vs z).elim⟩
      · exact ⟨o.slots, hf'.1 _ _ (hB' b o e hm hb), fun _ => rfl⟩
    · have hrB : Rel c μ' (hideAll s₁.heap (frs (env :: fs))) := S'.rel.hide (fun a ha => (S'.aok.fun_.mem ha).1) S'.aok.priv S'.aok.dicts
      refine wpAny_leaves_madeW frE rfl (fun b o q => of_hideAll _ q) (funFrames_hide S'.aok.fun_ fun env' he b hb => List.mem_filterMap.mpr ⟨env', he, hb⟩) hmade fun h' t hf' _ _ up => ?_
      have hB' : ∀ b o, s.heap.get? b = some o → μ b = none → b ∉ frs fs → (hideAll s₁.heap (frs (env :: fs))).get? b = some o := fun b o e hm hb => by
        obtain ⟨m₁, sl, e₁, q⟩ := kept₁ st b o e hm
        rw [q (.inl hb)] at e₁
        exact hideAll_get _ e₁ (nfr b o e hb)
      refine ⟨e, x', μ', rfl, ⟨hg.trans st.gens, hdr.trans st.drawn, hos.trans st.os, ⟨_, C, _, hC, hf', hrB, hB'⟩, fun b o e hm => ?_⟩, hq⟩
      obtain ⟨m₁, sl, e₁, q₁⟩ := kept₁ st b o e hm
      refine ⟨m₁, ?_⟩
      by_cases hb : b ∈ frs fs
      · obtain ⟨_, o', ho', hd'⟩ := aok.fun_.mem hb
        rw [e] at ho'; cases ho'
        obtain ⟨sl₃, e₃⟩ := up b _ (hmade.keeps _ _ e₁) hd'
        exact ⟨sl₃, e₃, fun z => z.elim (fun z => (z hb).elim) fun ⟨vs, z⟩ => (hd' vs z).elim⟩
      · exact ⟨o.slots, hf'.1 _ _ (hB' b o e hm hb), fun _ => rfl⟩
end
end Mine

set_option autoImplicit false
namespace Mine
set_option linter.unusedVariables false
set_option linter.unusedSimpArgs false
open PySem PySem.W PySem.Calls PyProof.Rows

noncomputable def fdOf (K : Frag) (fa : Addr) : Option FuncData := match K.lookup fa with
  | some o => (match o.data with | .func fd => some fd | _ => none)
  | none => none

theorem def_of {c : Ctx} {sg : Sig} {f : String} {ps : List String} {body : List S} {fa : Addr} (hK : c.K.In c.base) (hl : c.base.NoLimit) (hf : c.fn f = some fa)
    (h1 : (fdOf c.K fa).map (fun fd => fd.body) = some (.stmts (toSs body)))
    (h2 : (fdOf c.K fa).map (fun fd => (fd.closure, fd.globals, fd.builtins, fd.scope.kind, fd.scope.isCoroutine, fd.scope.isGenerator)) = some ([], mainGlobals, builtinsNs, .function, false, false))
    (h3 : (fdOf c.K fa).map (fun fd => codeIn c.K fd.code fd.qualname && ((ps.all fun p => isSto (fd.scope.names.lookup (Str.ofString p))) && okSs sg false fd.scope.names body)) = some true)
    (h5 : ∀ rvs : List Value, rvs.length = ps.length → (fdOf c.K fa).map (fun fd => bindArgs fd ⟨rvs, []⟩) = some (pure ((ps.map Str.ofString).zip rvs))) : Def c sg f ps body := by
  cases e : fdOf c.K fa with
  | none => rw [e] at h1; cases h1
  | some fd =>
    rw [e] at h1 h2 h3 h5
    simp only [Option.map_some, Option.some.injEq, Prod.mk.injEq, Bool.and_eq_true] at h1 h2 h3 h5
    unfold fdOf at e
    split at e
    · rename_i o ho
      split at e
      · rename_i fd' hd
        cases e
        exact ⟨hl, fa, o, fd, hf, hK _ _ ho, hd, h1, h2.1, h2.2.1, h2.2.2.1, codeRec_of hK h3.1, h2.2.2.2.1, h2.2.2.2.2.1, h2.2.2.2.2.2, h5, h3.2.1, h3.2.2⟩
      · cases e
    · cases e

theorem len1 {P : List Value → Prop} (h : ∀ a, P [a]) : ∀ l : List Value, l.length = 1 → P l := fun l e => by
  obtain ⟨a, rfl⟩ := List.length_eq_one_iff.mp e; exact h a
theorem lenS {n : Nat} {P : List Value → Prop} (h : ∀ a, ∀ l : List Value, l.length = n → P (a :: l)) : ∀ l : List Value, l.length = n + 1 → P l := fun l e => by
  cases l with
  | nil => cases e
  | cons a l => exact h a l (Nat.succ.inj e)
theorem len2 {P : List Value → Prop} (h : ∀ a b, P [a, b]) : ∀ l : List Value, l.length = 2 → P l := lenS fun a => len1 (h a)
theorem len3 {P : List Value → Prop} (h : ∀ a b c, P [a, b, c]) : ∀ l : List Value, l.length = 3 → P l := lenS fun a => len2 (h a)
theorem len4 {P : List Value → Prop} (h : ∀ a b c d, P [a, b, c, d]) : ∀ l : List Value, l.length = 4 → P l := lenS fun a => len3 (h a)
theorem len5 {P : List Value → Prop} (h : ∀ a b c d e, P [a, b, c, d, e]) : ∀ l : List Value, l.length = 5 → P l := lenS fun a => len4 (h a)
theorem len6 {P : List Value → Prop} (h : ∀ a b c d e f, P [a, b, c, d, e, f]) : ∀ l : List Value, l.length = 6 → P l := lenS fun a => len5 (h a)

theorem forall_lookup {α β : Type} [BEq α] [LawfulBEq α] {P : α → β → Prop} {tab : List (α × β)} (h : ∀ p ∈ tab, P p.1 p.2) : ∀ x v, tab.lookup x = some v → P x v := fun x v e => h (x, v) (lookup_mem e)

noncomputable def chkCls (K : Frag) (C : Addr) : Bool := findIn K (.ref C) "__getattribute__" == some (some (.builtin "object.__getattribute__")) && findIn K (.ref C) "__getattr__" == some none &&
  findIn K (.ref C) "__setattr__" == some (some (.builtin "object.__setattr__")) && hasDictIn K C && plainOver K C
noncomputable def chkMeth (K : Frag) (clsT fnT : List (String × Addr)) (p : String × String) : Bool := match clsT.lookup p.1, fnT.lookup (p.1 ++ "." ++ p.2) with
  | some C, some f => findIn K (.ref C) (Str.ofString p.2) == some (some (.ref f)) && typeIn K (.ref f) == some (.type "function") && keepIn K (.ref f)
  | _, _ => false
noncomputable def chkFn (K : Frag) (fnT : List (String × Addr)) (f : String) : Bool := match fnT.lookup f with
  | some fa => nsIn K mainGlobals (Str.ofString f) == some (some (.ref fa)) && keepIn K (.ref fa)
  | none => false
noncomputable def chkNew (K : Frag) (clsT fnT : List (String × Addr)) (x : String) : Bool := match clsT.lookup x, fnT.lookup (x ++ ".__init__") with
  | some C, some fI => nsIn K mainGlobals (Str.ofString x) == some (some (.ref C)) && makesIn K C && keepIn K (.ref C) && findIn K (.ref C) "__init__" == some (some (.ref fI)) && typeIn K (.ref fI) == some (.type "function")
  | _, _ => false
noncomputable def chkConst (K : Frag) (p : String × V) : Bool := match p.2, nsIn K mainGlobals (Str.ofString p.1) with
  | .int i, some (some (.int j _)) => i == j
  | _, _ => false
noncomputable def chkExc (K : Frag) (C : Addr) : Bool := (clsIn K C).isSome && findIn K (.ref C) "__getattribute__" == some (some (.builtin "BaseException.__getattribute__")) && findIn K (.ref C) "__getattr__" == some none &&
  findIn K (.ref C) "__class__" == some (some (.builtin "object.__class__")) && specialIn K (.builtin "object.__class__") "__get__" == some (some (.builtin "getset_descriptor.__get__")) && takesIn K (.builtin "object.__class__") == some true &&
  mroIn K C (.type "object") == some true && mroIn K C (.type "BaseException") == some true && kitOne K (.ref C) (.type "ValueError") == some true
noncomputable def chkGood (K : Frag) (sg : Sig) (clsT excT fnT : List (String × Addr)) : Bool :=
  (clsT.all fun p => chkCls K p.2) && (clsT.all fun p => sg.attrs.all fun a => findIn K (.ref p.2) (Str.ofString a) == some none) && (sg.meths.all (chkMeth K clsT fnT)) && (sg.fns.all (chkFn K fnT)) && (sg.clss.all (chkNew K clsT fnT)) &&
  (("isinstance" :: bltNames ++ tyNames).all fun f => nsIn K mainGlobals (Str.ofString f) == some none) && (excT.all fun p => nsIn K mainGlobals (Str.ofString p.1) == some (some (.ref p.2)) && excIn K p.2 vErr "ValueError.__new__") &&
  (sg.excs.all fun x => (excT.lookup x).isSome) && (excT.all fun p => excT.all fun q => exmOne K (.ref p.2) (.ref q.2) == some (isSub p.1 q.1)) && (excT.all fun p => chkExc K p.2) && (excT.all fun p => excT.all fun q => kitOne K (.ref p.2) (.ref q.2) == some (isSub p.1 q.1)) && (sg.consts.all (chkConst K))

noncomputable def ctxOf (prog : Program) (w : World) (K : Frag) (base : Heap) (clsT excT fnT : List (String × Addr)) : Ctx := ⟨prog, w, K, base, fun x => clsT.lookup x, fun x => excT.lookup x, fun x => fnT.lookup x⟩

theorem good_of {prog : Program} {w : World} {K : Frag} {base : Heap} {sg : Sig} {clsT excT fnT : List (String × Addr)} {p : Program} {loose : List Str} {mg mb : Str → Option Value} (X : K.In base) (T : TopRead p loose mg mb base) (h : chkGood K sg clsT excT fnT = true) :
    Good (ctxOf prog w K base clsT excT fnT) sg := by
  unfold chkGood at h
  simp only [Bool.and_eq_true, List.all_eq_true] at h
  obtain ⟨⟨⟨⟨⟨⟨⟨⟨⟨⟨⟨h1, h2⟩, h3⟩, h4⟩, h5⟩, h6⟩, h7⟩, h8⟩, h9⟩, h11⟩, h12⟩, h10⟩ := h
  refine ⟨X, ⟨p, loose, mg, mb, T⟩, forall_lookup fun q hq => ?_, fun x C a hx ha => ?_, fun x C m hx hm => ?_, fun f hf => ?_, fun x hx => ?_, fun f hf => ?_, forall_lookup fun q hq => ?_, fun x hx => ?_, fun x y C D hx hy => ?_, forall_lookup fun q hq => ?_, fun x y C D hx hy => ?_, fun x v hx => ?_⟩
  · have := h1 q hq
    simp only [chkCls, Bool.and_eq_true, beq_iff_eq] at this
    exact ⟨this.1.1.1.1, this.1.1.1.2, this.1.1.2, this.1.2, this.2⟩
  · exact beq_iff_eq.mp (h2 _ (lookup_mem hx) a ha)
  · have := h3 _ hm
    unfold chkMeth at this
    split at this
    · rename_i C' f e1 e2
      simp only [Bool.and_eq_true, beq_iff_eq] at this
      have hx' : clsT.lookup x = some C := hx
      rw [hx'] at e1; cases e1
      exact ⟨f, e2, this.1.1, this.1.2, this.2⟩
    · cases this
  · have := h4 f hf
    unfold chkFn at this
    split at this
    · rename_i fa e
      simp only [Bool.and_eq_true, beq_iff_eq] at this
      exact ⟨fa, e, this.1, this.2⟩
    · cases this
  · have := h5 x hx
    unfold chkNew at this
    split at this
    · rename_i C fI e1 e2
      simp only [Bool.and_eq_true, beq_iff_eq] at this
      exact ⟨C, fI, e1, this.1.1.1.1, this.1.1.1.2, this.1.1.2, e2, this.1.2, this.2⟩
    · cases this
  · exact beq_iff_eq.mp (h6 f hf)
  · have := h7 q hq
    simp only [Bool.and_eq_true, beq_iff_eq] at this
    exact this
  · exact Option.isSome_iff_exists.mp (h8 x hx)
  · exact beq_iff_eq.mp (h9 _ (lookup_mem hx) _ (lookup_mem hy))
  · have := h11 q hq
    simp only [chkExc, Bool.and_eq_true, beq_iff_eq] at this
    exact ⟨⟨this.1.1.1.1.1.1.1.1, this.1.1.1.1.1.1.1.2, this.1.1.1.1.1.1.2, this.1.1.1.1.1.2, this.1.1.1.1.2, this.1.1.1.2, this.1.1.2, this.1.2⟩, this.2⟩
  · exact beq_iff_eq.mp (h12 _ (lookup_mem hx) _ (lookup_mem hy))
  · have := h10 _ (lookup_mem hx)
    unfold chkConst at this
    split at this
    · rename_i i j t e1 e2
      have e1' : v = V.int i := e1
      subst e1'
      have := beq_iff_eq.mp this
      subst this
      exact ⟨_, e2, fun h => .int _ _⟩
    · cases this
end Mine

set_option autoImplicit false
namespace Mine
set_option linter.unusedVariables false
set_option linter.unusedSimpArgs false
open PySem PySem.W PySem.Calls PyProof.Rows

theorem top_sound {c : Ctx} {s₁ : Shared} {d : Nat} {fa l : Addr} {vs : List Value} {ns : List Int} {R : Result → Shared → Prop} (hb : c.base = s₁.heap) (hd : d ≤ 60) (hfn : c.fn "law" = some fa) (hL : s₁.heap.IsList l vs.toArray) (hI : IntsAre vs ns) (hn : ns.length ≤ lim)
    (h : SC c d false "law" [.frz ns] (fun _ => none) (fun v _ => v = .bool true) (fun _ _ => False))
    (hR : ∀ s', (∀ b o, s₁.heap.get? b = some o → s'.heap.get? b = some o) → s'.os = s₁.os → s'.gens = s₁.gens → R (.ok (.ret (.bool true))) s') :
    codeAny (model c.prog c.w) callerA (.call (.ref fa) ⟨[.ref l], []⟩) R s₁ := by
  obtain ⟨fa', hfn', h⟩ := h
  rw [hfn] at hfn'; cases hfn'
  obtain ⟨o, ho, hc, n, hdt⟩ := hL
  have aok : AOK c d false callerA [] (fun _ => none) s₁.heap := ⟨rfl, by show 1 + 300 + 3 * d < 900; omega, by show 4 + 100 * d + 200 < 9900; omega, fun _ => rfl, trivial, nofun, nofun⟩
  refine codeAny_mono (h callerA [] s₁ [.ref l] aok ⟨fun b o e => by rw [← hb]; exact e, nofun⟩ (.cons (.frz (by rw [hb]; exact ho) hc hdt (by simpa using hI) hn) .nil)) fun r s' hr => ?_
  rcases r with re | (_ | _ | _ | v)
  · obtain ⟨_, _, _, _, _, f⟩ := hr; exact f.elim
  · exact hr.elim
  · exact hr.elim
  · exact hr.elim
  · obtain ⟨v', μ', st, hv, rfl⟩ := hr
    cases hv
    refine hR s' (fun b o e => ?_) st.os st.gens
    exact st.kept.exact e rfl (by simp [frs])
end Mine

set_option autoImplicit false
namespace Mine
set_option linter.unusedVariables false
set_option linter.unusedSimpArgs false
open PySem

theorem sc_up {c : Ctx} {d d' : Nat} {hd : Bool} {f : String} {vs : List V} {μ : Mem} {Q : V → Mem → Prop} {X : String → Mem → Prop} (h : SC c d hd f vs μ Q X) (hdd : d ≤ d') : SC c d' hd f vs μ Q X := by
  obtain ⟨fa, hf, h⟩ := h
  refine ⟨fa, hf, fun A fs s rvs aok => h A fs s rvs ⟨aok.frames, ?_, ?_, aok.handled, aok.fun_, aok.priv, aok.dicts⟩⟩
  · have := aok.room; omega
  · have := aok.units; omega

noncomputable def fq (Q : V → Mem → Prop) : Fl → Loc → Mem → Prop := fun fl _ μ' => match fl with | .ret v => Q v μ' | .next => Q .none μ'
theorem fq_ret {Q : V → Mem → Prop} {v : V} {ρ : Loc} {μ : Mem} (h : Q v μ) : fq Q (.ret v) ρ μ := h
theorem fq_next {Q : V → Mem → Prop} {ρ : Loc} {μ : Mem} (h : Q .none μ) : fq Q .next ρ μ := h
theorem sq_next {R : Loc → Mem → Prop} {Q : Fl → Loc → Mem → Prop} {ρ : Loc} {μ : Mem} (h : R ρ μ) : sq R Q .next ρ μ := h
theorem sq_ret {R : Loc → Mem → Prop} {Q : Fl → Loc → Mem → Prop} {v : V} {ρ : Loc} {μ : Mem} (h : Q (.ret v) ρ μ) : sq R Q (.ret v) ρ μ := h

theorem call_in {c : Ctx} {sg : Sig} {d : Nat} {hd : Bool} (G : Good c sg) {f : String} {ps : List String} {body : List S} (D : Def c sg f ps body) {vs : List V} {ρ₀ : Loc} {μ : Mem} {Q : V → Mem → Prop} {X : String → Mem → Prop} (hb : bindAll ps vs (fun _ => none) = some ρ₀)
    (h : wpSs sg (SC c d) hd body ρ₀ μ (fq Q) (fun x _ μ' => X x μ')) : SC c (d + 1) hd f vs μ Q X := sc_intro G D hb h

noncomputable def setA (w : V) (a : String) (v : V) (μ : Mem) (k : Mem → Prop) : Prop := match w with
  | .ref x => (match μ x with
    | some (.inst _ d) => (match μ d with
      | some (.attrs fs) => fs.length < 900 ∧ k (updM μ d (.attrs (putA a v fs)))
      | _ => False)
    | _ => False)
  | _ => False
theorem setA_in {x d : Addr} {cl : String} {fs : List (String × V)} {a : String} {v : V} {μ : Mem} {k : Mem → Prop} (hx : μ x = some (.inst cl d)) (hd : μ d = some (.attrs fs)) (hz : fs.length < 900) (h : k (updM μ d (.attrs (putA a v fs)))) : setA (.ref x) a v μ k := by
  unfold setA; simp only [hx, hd]; exact ⟨hz, h⟩
noncomputable def setI (w j v : V) (μ : Mem) (k : Mem → Prop) : Prop := match w, j with
  | .ref x, .int i => (match μ x with
    | some (.list l) => 0 ≤ i ∧ i < l.length ∧ k (updM μ x (.list (l.set i.toNat v)))
    | _ => False)
  | _, _ => False
theorem setI_in {x : Addr} {i : Int} {l : List V} {v : V} {μ : Mem} {k : Mem → Prop} (hx : μ x = some (.list l)) (h0 : 0 ≤ i) (h1 : i < l.length) (h : k (updM μ x (.list (l.set i.toNat v)))) : setI (.ref x) (.int i) v μ k := by
  unfold setI; simp only [hx]; exact ⟨h0, h1, h⟩
noncomputable def methW (sg : Sig) (sc : Bool → Sc) (hd : Bool) (es : List E) (ρ : Loc) (v : V) (m : String) (μ : Mem) (Q : V → Mem → Prop) (X : String → Mem → Prop) : Prop := match calO sg μ v m with
  | some (.own f a) => wpEs sg sc hd es ρ μ (fun vs μ₂ => sc hd f (.ref a :: vs) μ₂ Q X) X
  | some (.lst m a) => wpEs sg sc hd es ρ μ (fun vs μ₂ => lstW m a vs μ₂ Q) X
  | none => False
theorem meth_own {sg : Sig} {sc : Bool → Sc} {hd : Bool} {es : List E} {ρ : Loc} {x d : Addr} {cl m : String} (f : String) {fs : List (String × V)} {μ : Mem} {Q : V → Mem → Prop} {X : String → Mem → Prop} (hx : μ x = some (.inst cl d)) (hd' : μ d = some (.attrs fs)) (hn : fs.lookup m = none) (hm : sg.meths.contains (cl, m) = true) (hf : cl ++ "." ++ m = f)
    (h : wpEs sg sc hd es ρ μ (fun vs μ₂ => sc hd f (.ref x :: vs) μ₂ Q X) X) : methW sg sc hd es ρ (.ref x) m μ Q X := by
  subst hf; unfold methW calO; simp only [hx, hd', hn, hm, Option.isNone_none, Bool.and_self, if_true]; exact h
theorem meth_lst {sg : Sig} {sc : Bool → Sc} {hd : Bool} {es : List E} {ρ : Loc} {x : Addr} {m : String} {l : List V} {μ : Mem} {Q : V → Mem → Prop} {X : String → Mem → Prop} (hx : μ x = some (.list l)) (hm : m = "append" ∨ m = "extend" ∨ m = "pop" ∨ m = "reverse" ∨ m = "clear")
    (h : wpEs sg sc hd es ρ μ (fun vs μ₂ => lstW m x vs μ₂ Q) X) : methW sg sc hd es ρ (.ref x) m μ Q X := by
  unfold methW calO; simp only [hx, hm, if_true]; exact h
noncomputable def isiW (c : Cl) (v : V) (μ : Mem) (Q : V → Mem → Prop) : Prop := match isiO μ v c with | some b => Q (.bool b) μ | none => False
theorem isi_in {cl : Cl} {v : V} {μ : Mem} {b : Bool} {Q : V → Mem → Prop} (e : isiO μ v cl = some b) (h : Q (.bool b) μ) : isiW cl v μ Q := by unfold isiW; rw [e]; exact h

section
variable {sg : Sig} {sc : Bool → Sc} {hd : Bool} {ρ : Loc} {μ : Mem} {Q : V → Mem → Prop} {X : String → Mem → Prop}
theorem e_none {p : Pos} (h : Q .none μ) : wpE sg sc hd (.none p) ρ μ Q X := h
theorem e_bool {b : Bool} {p : Pos} (h : Q (.bool b) μ) : wpE sg sc hd (.bool b p) ρ μ Q X := h
theorem e_int {i : Int} {p : Pos} (h : Q (.int i) μ) : wpE sg sc hd (.int i p) ρ μ Q X := h
theorem e_str {x : String} {p : Pos} (h : Q (.str (Str.ofString x)) μ) : wpE sg sc hd (.str x p) ρ μ Q X := h
theorem e_loc {x : String} {v : V} {p : Pos} (e : ρ x = some v) (h : Q v μ) : wpE sg sc hd (.loc x p) ρ μ Q X := by show optW (ρ x) μ Q; rw [e]; exact h
theorem e_here {x : String} {v : V} {p : Pos} (h : Q v μ) : wpE sg sc hd (.loc x p) (updL ρ x v) μ Q X := e_loc (by simp [updL]) h
theorem e_skip {x y : String} {v : V} {p : Pos} (hn : x ≠ y) (h : wpE sg sc hd (.loc x p) ρ μ Q X) : wpE sg sc hd (.loc x p) (updL ρ y v) μ Q X := by
  show optW (updL ρ y v x) μ Q; rw [updL_at, if_neg hn]; exact h
theorem e_glob {x : String} {v : V} {p : Pos} (e : sg.consts.lookup x = some v) (h : Q v μ) : wpE sg sc hd (.glob x p) ρ μ Q X := by show optW (sg.consts.lookup x) μ Q; rw [e]; exact h
theorem e_bin {op : Operator} {l r : E} {p : Pos} (h : wpE sg sc hd l ρ μ (fun a μ₁ => wpE sg sc hd r ρ μ₁ (fun b μ₂ => binW op a b μ₂ Q) X) X) : wpE sg sc hd (.bin op l r p) ρ μ Q X := h
theorem e_neg {e : E} {p : Pos} (h : wpE sg sc hd e ρ μ (fun v μ₁ => asInt v fun i => Q (.int (-i)) μ₁) X) : wpE sg sc hd (.neg e p) ρ μ Q X := h
theorem e_not {e : E} {p : Pos} (h : wpE sg sc hd e ρ μ (fun v μ₁ => tr v fun b => Q (.bool (!b)) μ₁) X) : wpE sg sc hd (.not e p) ρ μ Q X := h
theorem e_and {es : List E} {p : Pos} (h : wpAnd sg sc hd es ρ μ Q X) : wpE sg sc hd (.and es p) ρ μ Q X := h
theorem e_or {es : List E} {p : Pos} (h : wpOr sg sc hd es ρ μ Q X) : wpE sg sc hd (.or es p) ρ μ Q X := h
theorem a_one {e : E} (h : wpE sg sc hd e ρ μ Q X) : wpAnd sg sc hd [e] ρ μ Q X := h
theorem a_cons {e e' : E} {es : List E} (h : wpE sg sc hd e ρ μ (fun v μ₁ => tr v fun b => br b (wpAnd sg sc hd (e' :: es) ρ μ₁ Q X) (Q v μ₁)) X) : wpAnd sg sc hd (e :: e' :: es) ρ μ Q X := h
theorem o_one {e : E} (h : wpE sg sc hd e ρ μ Q X) : wpOr sg sc hd [e] ρ μ Q X := h
theorem o_cons {e e' : E} {es : List E} (h : wpE sg sc hd e ρ μ (fun v μ₁ => tr v fun b => br b (Q v μ₁) (wpOr sg sc hd (e' :: es) ρ μ₁ Q X)) X) : wpOr sg sc hd (e :: e' :: es) ρ μ Q X := h
theorem e_cmp {op : CmpOp} {l r : E} {p : Pos} (h : wpE sg sc hd l ρ μ (fun a μ₁ => wpE sg sc hd r ρ μ₁ (fun b μ₂ => cmpW op μ₂ a b Q) X) X) : wpE sg sc hd (.cmp op l r p) ρ μ Q X := h
theorem e_cmp2 {o₁ o₂ : CmpOp} {a b e : E} {p : Pos} (h : wpE sg sc hd a ρ μ (fun va μ₁ => wpE sg sc hd b ρ μ₁ (fun vb μ₂ => cmpW o₁ μ₂ va vb fun t μ₃ => tr t fun y => br y (wpE sg sc hd e ρ μ₃ (fun vc μ₄ => cmpW o₂ μ₄ vb vc Q) X) (Q t μ₃)) X) X) : wpE sg sc hd (.cmp2 o₁ o₂ a b e p) ρ μ Q X := h
theorem e_attr {o : E} {a : String} {p : Pos} (h : wpE sg sc hd o ρ μ (fun v μ₁ => optW (getA μ₁ v a) μ₁ Q) X) : wpE sg sc hd (.attr o a p) ρ μ Q X := h
theorem e_sub {o i : E} {p : Pos} (h : wpE sg sc hd o ρ μ (fun v μ₁ => wpE sg sc hd i ρ μ₁ (fun j μ₂ => optW (subO μ₂ v j) μ₂ Q) X) X) : wpE sg sc hd (.sub o i p) ρ μ Q X := h
theorem e_sliceL {o l : E} {ps p : Pos} (h : wpE sg sc hd o ρ μ (fun v μ₁ => wpE sg sc hd l ρ μ₁ (fun i μ₂ => asInt i fun i => sliceW μ₂ v (some i) none Q) X) X) : wpE sg sc hd (.sliceL o l ps p) ρ μ Q X := h
theorem e_sliceU {o l : E} {ps p : Pos} (h : wpE sg sc hd o ρ μ (fun v μ₁ => wpE sg sc hd l ρ μ₁ (fun i μ₂ => asInt i fun i => sliceW μ₂ v none (some i) Q) X) X) : wpE sg sc hd (.sliceU o l ps p) ρ μ Q X := h
theorem e_tup {es : List E} {k : Nat} {p : Pos} (h : wpEs sg sc hd es ρ μ (fun vs μ₁ => Q (.tup vs) μ₁) X) : wpE sg sc hd (.tup es k p) ρ μ Q X := h
theorem e_list {es : List E} {p : Pos} (h : wpEs sg sc hd es ρ μ (fun vs μ₁ => newL μ₁ vs Q) X) : wpE sg sc hd (.list es p) ρ μ Q X := h
theorem e_call {f : String} {es : List E} {pf p : Pos} (h : wpEs sg sc hd es ρ μ (fun vs μ₁ => sc hd f vs μ₁ Q X) X) : wpE sg sc hd (.call f es pf p) ρ μ Q X := h
noncomputable def newW (sc : Bool → Sc) (hd : Bool) (c : String) (vs : List V) (μ : Mem) (Q : V → Mem → Prop) (X : String → Mem → Prop) : Prop := ∀ a d, μ a = none → μ d = none → d ≠ a →
      sc hd (c ++ ".__init__") (.ref a :: vs) (updM (updM μ d (.attrs [])) a (.inst c d)) (fun v μ₂ => (match v with | .none => True | _ => False) ∧ Q (.ref a) μ₂) X
theorem e_new {f : String} {es : List E} {pf p : Pos} (h : wpEs sg sc hd es ρ μ (fun vs μ₁ => newW sc hd f vs μ₁ Q X) X) : wpE sg sc hd (.new f es pf p) ρ μ Q X := h
theorem e_bltn {f : String} {es : List E} {pf p : Pos} (h : wpEs sg sc hd es ρ μ (fun vs μ₁ => bltnW hd f vs μ₁ Q) X) : wpE sg sc hd (.bltn f es pf p) ρ μ Q X := h
theorem e_isi {e : E} {cl : Cl} {pf pc p : Pos} (h : wpE sg sc hd e ρ μ (fun v μ₁ => isiW cl v μ₁ Q) X) : wpE sg sc hd (.isi e cl pf pc p) ρ μ Q X := h
theorem e_meth {o : E} {m : String} {es : List E} {pa p : Pos} (h : wpE sg sc hd o ρ μ (fun v μ₁ => methW sg sc hd es ρ v m μ₁ Q X) X) : wpE sg sc hd (.meth o m es pa p) ρ μ Q X := h
theorem es_nil {Q : List V → Mem → Prop} (h : Q [] μ) : wpEs sg sc hd [] ρ μ Q X := h
theorem es_cons {e : E} {es : List E} {Q : List V → Mem → Prop} (h : wpE sg sc hd e ρ μ (fun v μ₁ => wpEs sg sc hd es ρ μ₁ (fun vs μ₂ => Q (v :: vs) μ₂) X) X) : wpEs sg sc hd (e :: es) ρ μ Q X := h

theorem asL_in {x : Addr} {l : List V} {k : Addr → List V → Prop} (hx : μ x = some (.list l)) (h : k x l) : asL μ (.ref x) k := by
  unfold asL; simp only [hx]; exact h
theorem tr_in {b : Bool} {k : Bool → Prop} (h : k b) : tr (.bool b) k := h
theorem br_in {b : Bool} {A B : Prop} (h1 : b = true → A) (h2 : b = false → B) : br b A B := ⟨h1, h2⟩
theorem br_t {A B : Prop} (h : A) : br true A B := ⟨fun _ => h, nofun⟩
theorem br_f {A B : Prop} (h : B) : br false A B := ⟨nofun, fun _ => h⟩
theorem br_nt {A B : Prop} (h : B) : br (!true) A B := ⟨nofun, fun _ => h⟩
theorem br_nf {A B : Prop} (h : A) : br (!false) A B := ⟨fun _ => h, nofun⟩
theorem br_d {p : Prop} [Decidable p] {A B : Prop} (h1 : p → A) (h2 : ¬ p → B) : br (decide p) A B := ⟨fun h => h1 (of_decide_eq_true h), fun h => h2 (of_decide_eq_false h)⟩
theorem br_nd {p : Prop} [Decidable p] {A B : Prop} (h1 : p → B) (h2 : ¬ p → A) : br (!decide p) A B := ⟨fun h => h2 (by simpa using h), fun h => h1 (by simpa using h)⟩
theorem br_dt {p : Prop} [Decidable p] {A B : Prop} (hp : p) (h : A) : br (decide p) A B := ⟨fun _ => h, fun q => absurd hp (of_decide_eq_false q)⟩
theorem br_df {p : Prop} [Decidable p] {A B : Prop} (hp : ¬ p) (h : B) : br (decide p) A B := ⟨fun q => absurd (of_decide_eq_true q) hp, fun _ => h⟩
theorem br_ndt {p : Prop} [Decidable p] {A B : Prop} (hp : p) (h : B) : br (!decide p) A B := br_nd (fun _ => h) fun q => absurd hp q
theorem br_ndf {p : Prop} [Decidable p] {A B : Prop} (hp : ¬ p) (h : A) : br (!decide p) A B := br_nd (fun q => absurd q hp) fun _ => h
theorem opt_in {r : Option V} {v : V} (e : r = some v) (h : Q v μ) : optW r μ Q := by rw [e]; exact h
theorem int_in {i : Int} {k : Int → Prop} (h : k i) : asInt (.int i) k := h
theorem getA_in {x d : Addr} {cl a : String} {fs : List (String × V)} {v : V} (hx : μ x = some (.inst cl d)) (hd : μ d = some (.attrs fs)) (hv : fs.lookup a = some v) (h : Q v μ) : optW (getA μ (.ref x) a) μ Q := by unfold getA; simp only [hx, hd, hv]; exact h
theorem sub_l {x : Addr} {i : Int} {l : List V} {v : V} (hx : μ x = some (.list l)) (hi : idx l i = some v) (h : Q v μ) : optW (subO μ (.ref x) (.int i)) μ Q := by unfold subO; simp only [hx, hi]; exact h
theorem sub_t {i : Int} {l : List V} {v : V} (hi : idx l i = some v) (h : Q v μ) : optW (subO μ (.tup l) (.int i)) μ Q := by unfold subO; simp only [hi]; exact h
theorem add_i {i j : Int} (h : Q (.int (i + j)) μ) : binW .Add (.int i) (.int j) μ Q := h
theorem sub_i {i j : Int} (h : Q (.int (i - j)) μ) : binW .Sub (.int i) (.int j) μ Q := h
theorem mul_i {i j : Int} (hb : i.natAbs < 2 ^ 63 ∨ j.natAbs < 2 ^ 63) (h : Q (.int (i * j)) μ) : binW .Mult (.int i) (.int j) μ Q := ⟨hb, h⟩
theorem div_i {i j : Int} (h0 : 0 < j) (h1 : j < 1000000000) (h : Q (.int (i / j)) μ) : binW .FloorDiv (.int i) (.int j) μ Q := ⟨h0, h1, h⟩
theorem mod_i {i j : Int} (h0 : 0 < j) (h : Q (.int (i % j)) μ) : binW .Mod (.int i) (.int j) μ Q := ⟨h0, h⟩
theorem pow_i {i j : Int} (h0 : 0 ≤ j) (h1 : j ≤ 1000) (h2 : i.natAbs < 2 ^ 63) (h : Q (.int (i ^ j.toNat)) μ) : binW .Pow (.int i) (.int j) μ Q := ⟨h0, h1, h2, h⟩
theorem cat_l {x y : Addr} {l k : List V} (hx : μ x = some (.list l)) (hy : μ y = some (.list k)) (h : newL μ (l ++ k) Q) : binW .Add (.ref x) (.ref y) μ Q := asL_in (k := fun _ l => asL μ (.ref y) fun _ k => newL μ (l ++ k) Q) hx (asL_in hy h)
theorem rep_l {x : Addr} {n : Int} {l : List V} (hx : μ x = some (.list l)) (h0 : 0 ≤ n) (h1 : n ≤ 1000000) (h2 : n.toNat * l.length ≤ lim) (h : newL μ (List.replicate n.toNat l).flatten Q) : binW .Mult (.ref x) (.int n) μ Q := asL_in (k := fun _ l => asInt (.int n) fun n => 0 ≤ n ∧ n ≤ 1000000 ∧ n.toNat * l.length ≤ lim ∧ newL μ (List.replicate n.toNat l).flatten Q) hx ⟨h0, h1, h2, h⟩
theorem newL_in {l : List V} (hz : l.length ≤ lim) (h : ∀ n, μ n = none → Q (.ref n) (updM μ n (.list l))) : newL μ l Q := ⟨hz, h⟩
theorem eq_i {i j : Int} (h : Q (.bool (decide (i = j))) μ) : cmpW .Eq μ (.int i) (.int j) Q := h
theorem ne_i {i j : Int} (h : Q (.bool (!decide (i = j))) μ) : cmpW .NotEq μ (.int i) (.int j) Q := h
theorem lt_i {i j : Int} (h : Q (.bool (decide (i < j))) μ) : cmpW .Lt μ (.int i) (.int j) Q := h
theorem le_i {i j : Int} (h : Q (.bool (decide (i ≤ j))) μ) : cmpW .LtE μ (.int i) (.int j) Q := h
theorem gt_i {i j : Int} (h : Q (.bool (decide (j < i))) μ) : cmpW .Gt μ (.int i) (.int j) Q := h
theorem ge_i {i j : Int} (h : Q (.bool (decide (j ≤ i))) μ) : cmpW .GtE μ (.int i) (.int j) Q := h
theorem cmp_in {op : CmpOp} {a b : V} {r : Bool} (e : cmpO op μ a b = some r) (h : Q (.bool r) μ) : cmpW op μ a b Q := by unfold cmpW; rw [e]; exact h
theorem len_l {x : Addr} {l : List V} (hx : μ x = some (.list l)) (h : Q (.int l.length) μ) : bltnW hd "len" [.ref x] μ Q := asL_in (k := fun _ l => Q (.int l.length) μ) hx h
theorem len_t {l : List V} (h : Q (.int l.length) μ) : bltnW hd "len" [.tup l] μ Q := h
theorem len_f {ns : List Int} (h : Q (.int ns.length) μ) : bltnW hd "len" [.frz ns] μ Q := h
theorem int_b {b : Bool} (h : Q (.int (if b then 1 else 0)) μ) : bltnW hd "int" [.bool b] μ Q := h
theorem list_l {x : Addr} {l : List V} (hx : μ x = some (.list l)) (h : newL μ l Q) : bltnW hd "list" [.ref x] μ Q := asL_in (k := fun _ l => newL μ l Q) hx h
theorem rng1 {b : Int} (h1 : b ≤ lim) (h2 : -2 ^ 62 < b) (h : Q (.rng 0 b 1) μ) : bltnW hd "range" [.int b] μ Q := ⟨h1, h2, h⟩
theorem rng2 {a b : Int} (h0 : b - a ≤ lim) (h1 : -2 ^ 62 < b ∧ b < 2 ^ 62) (h2 : -2 ^ 62 < a ∧ a < 2 ^ 62) (h : Q (.rng a b 1) μ) : bltnW hd "range" [.int a, .int b] μ Q := ⟨h0, h1, h2, h⟩
theorem app_l {x : Addr} {l : List V} {v : V} (hx : μ x = some (.list l)) (hz : l.length < lim) (h : Q .none (updM μ x (.list (l ++ [v])))) : lstW "append" x [v] μ Q := by unfold lstW; exact asL_in hx ⟨hz, h⟩
theorem ext_l {x y : Addr} {l k : List V} (hx : μ x = some (.list l)) (hy : μ y = some (.list k)) (hn : y ≠ x) (hz : l.length + k.length ≤ lim) (h : Q .none (updM μ x (.list (l ++ k)))) : lstW "extend" x [.ref y] μ Q := by
  unfold lstW
  exact asL_in hx (asL_in (k := fun b k => b ≠ x ∧ l.length + k.length ≤ lim ∧ Q .none (updM μ x (.list (l ++ k)))) hy ⟨hn, hz, h⟩)
theorem pop_l {x : Addr} {i : Int} {l : List V} {v : V} (hx : μ x = some (.list l)) (h0 : 0 ≤ i) (hv : l[i.toNat]? = some v) (h : Q v (updM μ x (.list (l.eraseIdx i.toNat)))) : lstW "pop" x [.int i] μ Q := by
  unfold lstW
  refine asL_in hx (show 0 ≤ i ∧ _ from ⟨h0, ?_⟩)
  rw [hv]; exact h
theorem rev_l {x : Addr} {l : List V} (hx : μ x = some (.list l)) (h : Q .none (updM μ x (.list l.reverse))) : lstW "reverse" x [] μ Q := by
  unfold lstW
  exact asL_in hx ⟨rfl, h⟩
theorem all_l {x : Addr} {l : List V} {b : Bool} (h0 : hd = false) (hx : μ x = some (.list l)) (e : allO l = some b) (h : Q (.bool b) μ) : bltnW hd "all" [.ref x] μ Q := by
  refine ⟨h0, asL_in (k := fun _ l => allW l fun b => Q (.bool b) μ) hx ?_⟩
  unfold allW; rw [e]; exact h
theorem min_i {a b : Int} (h0 : hd = false) (h : Q (.int (min a b)) μ) : bltnW hd "min" [.int a, .int b] μ Q := ⟨h0, h⟩
theorem slice_in {x : Addr} {l : List V} {lo hi : Option Int} (hx : μ x = some (.list l)) (h1 : nn lo) (h2 : nn hi) (h : newL μ (cut lo hi l) Q) : sliceW μ (.ref x) lo hi Q := by
  unfold sliceW; simp only [hx]; exact ⟨h1, h2, h⟩
noncomputable def compW (sg : Sig) (sc : Bool → Sc) (hd : Bool) (elt : E) (x : String) (v : V) (μ : Mem) (Q : V → Mem → Prop) : Prop := asL μ v fun a items => ∀ n, μ n = none →
      compI n (fun μ' => μ' a = some (.list items)) (fun w μ₂ k => wpE sg sc hd elt (updL (fun _ => none) x w) μ₂ k fun _ _ => False) items (updM μ n (.list [])) (Q (.ref n))
theorem e_comp {elt it : E} {x : String} {ifs : List E} {s : Scope} {px p : Pos} (h0 : hd = false) (h : wpE sg sc hd it ρ μ (fun v μ₁ => compW sg sc hd elt x v μ₁ Q) X) : wpE sg sc hd (.comp elt x it ifs s px p) ρ μ Q X := ⟨h0, h⟩
theorem comp_in {elt : E} {x : String} {a : Addr} {items : List V} (e : μ a = some (.list items)) (h : ∀ n, μ n = none → ∃ I : Nat → Mem → Prop, I 0 (updM μ n (.list [])) ∧ (∀ k μ, I k μ → μ a = some (.list items)) ∧
    (∀ k w μ, items[k]? = some w → I k μ → wpE sg sc hd elt (updL (fun _ => none) x w) μ (fun r μ' => ∃ acc, μ' n = some (.list acc) ∧ acc.length < lim ∧ I (k + 1) (updM μ' n (.list (acc ++ [r])))) fun _ _ => False) ∧ ∀ μ, I items.length μ → Q (.ref n) μ) : compW sg sc hd elt x (.ref a) μ Q :=
  asL_in e h
end

section
variable {sg : Sig} {sc : Bool → Sc} {hd : Bool} {ρ : Loc} {μ : Mem} {r : List S} {Q : Fl → Loc → Mem → Prop} {X : String → Loc → Mem → Prop}
theorem s_nil (h : Q .next ρ μ) : wpSs sg sc hd [] ρ μ Q X := h
theorem s_expr {e : E} {p : Pos} (h : wpE sg sc hd e ρ μ (fun _ μ₁ => wpSs sg sc hd r ρ μ₁ Q X) (fun x μ₁ => X x ρ μ₁)) : wpSs sg sc hd (.expr e p :: r) ρ μ Q X := h
theorem s_assign {x : String} {e : E} {px p : Pos} (h : wpE sg sc hd e ρ μ (fun v μ₁ => wpSs sg sc hd r (updL ρ x v) μ₁ Q X) (fun x μ₁ => X x ρ μ₁)) : wpSs sg sc hd (.assign x e px p :: r) ρ μ Q X := h
theorem s_setattr {o e : E} {a : String} {pa p : Pos} (h : wpE sg sc hd e ρ μ (fun v μ₁ => wpE sg sc hd o ρ μ₁ (fun w μ₂ => setA w a v μ₂ fun μ₃ => wpSs sg sc hd r ρ μ₃ Q X) (fun x μ₁ => X x ρ μ₁)) (fun x μ₁ => X x ρ μ₁)) : wpSs sg sc hd (.setattr o a e pa p :: r) ρ μ Q X := h
theorem s_setitem {o i e : E} {pa p : Pos} (h : wpE sg sc hd e ρ μ (fun v μ₁ => wpE sg sc hd o ρ μ₁ (fun w μ₂ => wpE sg sc hd i ρ μ₂ (fun j μ₃ => setI w j v μ₃ fun μ₄ => wpSs sg sc hd r ρ μ₄ Q X) (fun x μ₁ => X x ρ μ₁)) (fun x μ₁ => X x ρ μ₁)) (fun x μ₁ => X x ρ μ₁)) : wpSs sg sc hd (.setitem o i e pa p :: r) ρ μ Q X := h
noncomputable def unpW (xs : List (String × Pos)) (ρ : Loc) (v : V) (k : Loc → Prop) : Prop := asT v fun l => match bindAll (xs.map (·.1)) l ρ with
        | some ρ' => k ρ'
        | none => False
theorem unp_in {xs : List (String × Pos)} {ρ ρ' : Loc} {l : List V} {k : Loc → Prop} (e : bindAll (xs.map (·.1)) l ρ = some ρ') (h : k ρ') : unpW xs ρ (.tup l) k := by
  show (match bindAll (xs.map (·.1)) l ρ with | some ρ' => k ρ' | none => False)
  rw [e]; exact h
theorem s_unpack {xs : List (String × Pos)} {e : E} {k : Nat} {pt p : Pos} (h0 : hd = false) (h : wpE sg sc hd e ρ μ (fun v μ₁ => unpW xs ρ v fun ρ' => wpSs sg sc hd r ρ' μ₁ Q X) (fun x μ₁ => X x ρ μ₁)) : wpSs sg sc hd (.unpack xs e k pt p :: r) ρ μ Q X := ⟨h0, h⟩
theorem s_ret {e : E} {p : Pos} (h : wpE sg sc hd e ρ μ (fun v μ₁ => Q (.ret v) ρ μ₁) (fun x μ₁ => X x ρ μ₁)) : wpSs sg sc hd (.ret e p :: r) ρ μ Q X := h
theorem s_raise {n m : String} {pf pm pc p : Pos} (h0 : hd = false) (h : X n ρ μ) : wpSs sg sc hd (.raise n m pf pm pc p :: r) ρ μ Q X := ⟨h0, h⟩

theorem s_ite {e : E} {t f : List S} {p : Pos} (h : wpE sg sc hd e ρ μ (fun v μ₁ => tr v fun b => br b (wpSs sg sc hd t ρ μ₁ (sq (fun ρ₁ μ₁ => wpSs sg sc hd r ρ₁ μ₁ Q X) Q) X) (wpSs sg sc hd f ρ μ₁ (sq (fun ρ₁ μ₁ => wpSs sg sc hd r ρ₁ μ₁ Q X) Q) X)) (fun x μ₁ => X x ρ μ₁)) : wpSs sg sc hd (.ite e t f p :: r) ρ μ Q X := h
theorem s_if {e : E} {t : List S} {p : Pos} (h : wpE sg sc hd e ρ μ (fun v μ₁ => tr v fun b => br b (wpSs sg sc hd t ρ μ₁ (sq (fun ρ₁ μ₁ => wpSs sg sc hd r ρ₁ μ₁ Q X) Q) X) (wpSs sg sc hd r ρ μ₁ Q X)) (fun x μ₁ => X x ρ μ₁)) : wpSs sg sc hd (.ite e t [] p :: r) ρ μ Q X := h

noncomputable def forW (sg : Sig) (sc : Bool → Sc) (hd : Bool) (x : String) (body r : List S) (ρ : Loc) (Q : Fl → Loc → Mem → Prop) (X : String → Loc → Mem → Prop) (v : V) (μ : Mem) : Prop := match itemsOf μ v with
  | some items => forI (fun μ' => itemsOf μ' v = some items) x (fun ρ' μ' k => wpSs sg sc hd body ρ' μ' k fun _ _ _ => False) items ρ μ (sq (fun ρ₁ μ₁ => wpSs sg sc hd r ρ₁ μ₁ Q X) Q)
  | none => False
theorem s_for {x : String} {it : E} {body : List S} {px p : Pos} (h0 : hd = false) (h : wpE sg sc hd it ρ μ (fun v μ₁ => forW sg sc hd x body r ρ Q X v μ₁) (fun x μ₁ => X x ρ μ₁)) : wpSs sg sc hd (.for_ x it body px p :: r) ρ μ Q X := ⟨h0, h⟩
theorem for_in {x : String} {body : List S} {v : V} {items : List V} (e : itemsOf μ v = some items) (I : Nat → Loc → Mem → Prop) (i0 : I 0 ρ μ) (st : ∀ k ρ μ, I k ρ μ → itemsOf μ v = some items)
    (turn : ∀ k w ρ μ, items[k]? = some w → I k ρ μ → wpSs sg sc hd body (updL ρ x w) μ (sq (I (k + 1)) (sq (fun ρ₁ μ₁ => wpSs sg sc hd r ρ₁ μ₁ Q X) Q)) fun _ _ _ => False) (fin : ∀ ρ μ, I items.length ρ μ → wpSs sg sc hd r ρ μ Q X) : forW sg sc hd x body r ρ Q X v μ := by
  unfold forW
  rw [e]
  exact ⟨I, i0, st, turn, fin⟩
/-- a loop over numbers -/
theorem for_rng {x : String} {body : List S} {a b : Int} (I : Int → Loc → Mem → Prop) (i0 : I a ρ μ) 
    (turn : ∀ i ρ μ, a ≤ i → i < b → I i ρ μ → wpSs sg sc hd body (updL ρ x (.int i)) μ (sq (I (i + 1)) (sq (fun ρ₁ μ₁ => wpSs sg sc hd r ρ₁ μ₁ Q X) Q)) fun _ _ _ => False) (fin : ∀ ρ μ, I (max a b) ρ μ → wpSs sg sc hd r ρ μ Q X) : forW sg sc hd x body r ρ Q X (.rng a b 1) μ := by
  refine for_in (items := rngItems a b 1) rfl (fun k ρ μ => I (a + k) ρ μ) (by simpa using i0) (fun _ _ _ _ => rfl) (fun k w ρ μ hk hi => ?_) (fun ρ μ hi => ?_)
  · rw [rngItems_get (.inl rfl)] at hk
    split at hk
    · rename_i hlt
      unfold rngLen at hlt
      rw [if_pos rfl] at hlt
      cases hk
      have := turn (a + k) ρ μ (by omega) (by omega) hi
      simp only [Int.mul_one]
      have e : a + ((k + 1 : Nat) : Int) = a + k + 1 := by omega
      rw [e]
      exact this
    · cases hk
  · have : (rngItems a b 1).length = (b - a).toNat := by unfold rngItems; simp
    rw [this] at hi
    refine fin ρ μ ?_
    have e : max a b = a + ((b - a).toNat : Int) := by omega
    rw [e]; exact hi

noncomputable def tryX (sg : Sig) (sc : Bool → Sc) (c : String) (as : Option String) (h : List S) (more : List (String × Pos × E × Pos × Pos)) (Q : Fl → Loc → Mem → Prop) (x : String) (ρ₁ : Loc) (μ₁ : Mem) : Prop :=
  if isSub x c then wpSs sg sc true h (match as with | some n => updL ρ₁ n (.exc x) | none => ρ₁) μ₁ (fun fl ρ₂ μ₂ => Q fl (match as with | some _ => fun _ => none | none => ρ₂) μ₂) (fun _ _ _ => False)
      else moreW sg sc x ρ₁ μ₁ Q more
theorem s_try {body h : List S} {n : String} {as : Option String} {more : List (String × Pos × E × Pos × Pos)} {pc ph p : Pos} (h0 : hd = false)
    (hh : wpSs sg sc false body ρ μ (sq (fun ρ₁ μ₁ => wpSs sg sc hd r ρ₁ μ₁ Q X) Q) (tryX sg sc n as h more (sq (fun ρ₁ μ₁ => wpSs sg sc hd r ρ₁ μ₁ Q X) Q))) : wpSs sg sc hd (.try_ body n as h more pc ph p :: r) ρ μ Q X := ⟨h0, hh⟩
theorem try_y {h : List S} {n x : String} {more : List (String × Pos × E × Pos × Pos)} (e : isSub x n = true) (hh : wpSs sg sc true h ρ μ Q (fun _ _ _ => False)) : tryX sg sc n none h more Q x ρ μ := by
  unfold tryX; rw [if_pos e]; exact hh
theorem try_as {h : List S} {n x a : String} {more : List (String × Pos × E × Pos × Pos)} (e : isSub x n = true) (hh : wpSs sg sc true h (updL ρ a (.exc x)) μ (fun fl _ μ₂ => Q fl (fun _ => none) μ₂) (fun _ _ _ => False)) : tryX sg sc n (some a) h more Q x ρ μ := by
  unfold tryX; rw [if_pos e]; exact hh
theorem try_n {h : List S} {n x : String} {as : Option String} {more : List (String × Pos × E × Pos × Pos)} (e : isSub x n = false) (hh : moreW sg sc x ρ μ Q more) : tryX sg sc n as h more Q x ρ μ := by
  unfold tryX; rw [if_neg (by rw [e]; exact Bool.false_ne_true)]; exact hh
theorem more_y {n x : String} {e : E} {pc pr ph : Pos} {more : List (String × Pos × E × Pos × Pos)} (q : isSub x n = true) (hh : wpE sg sc true e ρ μ (fun v μ₁ => Q (.ret v) ρ μ₁) (fun _ _ => False)) : moreW sg sc x ρ μ Q ((n, pc, e, pr, ph) :: more) := by
  unfold moreW; rw [if_pos q]; exact hh
theorem more_n {n x : String} {e : E} {pc pr ph : Pos} {more : List (String × Pos × E × Pos × Pos)} (q : isSub x n = false) (hh : moreW sg sc x ρ μ Q more) : moreW sg sc x ρ μ Q ((n, pc, e, pr, ph) :: more) := by
  unfold moreW; rw [if_neg (by rw [q]; exact Bool.false_ne_true)]; exact hh
theorem loc_here {ρ : Loc} {x : String} {v : V} : updL ρ x v x = some v := by simp [updL]
theorem loc_skip {ρ : Loc} {x y : String} {v w : V} (h : x ≠ y) (e : ρ x = some w) : updL ρ y v x = some w := by simp [updL, h, e]
theorem mem_here {μ : Mem} {a : Addr} {o : O} : updM μ a o a = some o := by simp [updM]
theorem mem_skip {μ : Mem} {a b : Addr} {o o' : O} (h : b ≠ a) (e : μ b = some o') : updM μ a o b = some o' := by simp [updM, h, e]
end
end Mine

set_option autoImplicit false
namespace Mine
open PySem PySem.W PySem.Calls PyProof.Rows

/-! A head of one's own: the states are written in twin form. -/

noncomputable def nthS : List Stmt → Nat → Stmt
  | [], _ => .Pass ⟨0, 0, 0, 0⟩
  | s :: _, 0 => s
  | _ :: r, n + 1 => nthS r n
noncomputable def cBody : Stmt → List Stmt
  | .ClassDef _ _ _ b _ _ _ _ _ _ _ => b
  | _ => []
noncomputable def fArgs : Stmt → Arguments
  | .FunctionDef _ a _ _ _ _ _ _ _ _ => a
  | _ => ⟨[], [], none, [], [], none, []⟩
noncomputable def fBody : Stmt → List Stmt
  | .FunctionDef _ _ b _ _ _ _ _ _ _ => b
  | _ => []
noncomputable def fScope : Stmt → Scope
  | .FunctionDef _ _ _ _ _ _ sc _ _ _ => sc
  | _ => { kind := .function, names := [], isGenerator := false, isCoroutine := false }

section
variable {p : Program} {w : World} {n₀ N b : Nat} {ann : Option Value}
theorem segT_q {s : SharedT} {t : Thread} {r : Option (Flow × SharedT × Code × Pos)} (h : Fast.tw10110043849684766642 Fast.tw14364793385576792824 p w n₀ ann b N s t = r) : segRunT treeTable p w n₀ ann b N s t = r := by
  rw [Fast.te10110043849684766642, Fast.te14364793385576792824]; exact h
theorem seg_q {s : Shared} {t : Thread} {r : Option (Flow × Shared × Code × Pos)} (h : Fast.tw14374325043358763698 Fast.tw14364793385576792824 p w n₀ ann b N s t = r) : segRun treeTable p w n₀ ann b N s t = r := by
  rw [Fast.te14374325043358763698, Fast.te14364793385576792824]; exact h
theorem top_q {s : Shared} {t : Thread} {r : Option Shared} (h : Fast.tw14082659384304107361 Fast.tw14364793385576792824 p w n₀ ann N s t = r) : topRun treeTable p w n₀ ann N s t = r := by
  rw [Fast.te14082659384304107361, Fast.te14364793385576792824]; exact h
theorem go_q {s s' : Shared} {t : Thread} {c c' : Code} {q : Pos} {B : List Frame} (h : Fast.tw15667345088766844465 Fast.tw14364793385576792824 p w n₀ ann N s t = some (s', ⟨Fast.tw11892475500146522536 Fast.tw14364793385576792824 c, c', q, B⟩)) : topGo treeTable p w n₀ ann N s t = some (s', ⟨denote treeTable c, c', q, B⟩) := by
  rw [Fast.te15667345088766844465, Fast.te11892475500146522536, Fast.te14364793385576792824]; exact h
end
section
variable {p : Program} {w : World} {n₀ : Nat} {ann : Option Value} {env : Env} {q : Pos}
theorem piece_cut {n N k : Nat} {s s' r : Shared} {l : List Stmt} {c : Code} {pos p' : Pos} (h : segRun treeTable p w n₀ ann 1 n s (piecesOf (l.take k) env c pos [topFrame q]) = some (.next, s', c, p'))
    (z : topRun treeTable p w n₀ ann N s' (restOf (l.drop k) env c p' [topFrame q]) = some r) : topRun treeTable p w n₀ ann (n + N) s (restOf l env c pos [topFrame q]) = some r := by
  have := piece_app h z
  rwa [List.take_append_drop] at this
theorem piece_last {n N : Nat} {s s' r : Shared} {l : List Stmt} {c : Code} {pos p' : Pos} (h : segRun treeTable p w n₀ ann 1 n s (piecesOf l env c pos [topFrame q]) = some (.next, s', c, p'))
    (z : topRun treeTable p w n₀ ann N s' ⟨doneF .next, c, p', [topFrame q]⟩ = some r) : topRun treeTable p w n₀ ann (n + N) s (restOf l env c pos [topFrame q]) = some r := by
  have := piece_app (rest := []) h z
  rwa [List.append_nil] at this
end
end Mine

set_option autoImplicit false
set_option maxRecDepth 100000
set_option maxHeartbeats 8000000
set_option linter.unusedVariables false
namespace Mine
open PySem PySem.W PySem.Calls PyProof.Rows
lay_quick PySem.Challenge.pw_uf040019_01
noncomputable abbrev pq : Program := PySem.W.Fast.tw17954326180704996023
theorem pq_eq : Challenge.pw_uf040019_01 = pq := PySem.W.Fast.te17954326180704996023
noncomputable def bq : List Stmt := behindTheImports pq
noncomputable def sA (i : Nat) : Stmt := nthS bq i
noncomputable def mA (i j : Nat) : Stmt := nthS (cBody (sA i)) j
noncomputable def envq : Env := { scope := pq.main.scope, locals := mainNs, globals := mainNs, cells := [], code := .ref 13, frame := some 14 }
noncomputable def cdq : Code := .body (behindTheImports pq) envq
noncomputable def p0q : Pos := ⟨0, 0, 0, 0⟩
noncomputable def q0 : Str := ⟨⟨[60, 109, 111, 100, 117, 108, 101, 62]⟩⟩
noncomputable def q1 : Str := ⟨⟨[47, 99, 108, 97, 105, 109, 47, 99, 117, 116, 46, 112, 121]⟩⟩
noncomputable def q2 : Str := ⟨⟨[95, 95, 109, 97, 105, 110, 95, 95]⟩⟩
noncomputable def q3 : Str := ⟨⟨[95, 95, 110, 97, 109, 101, 95, 95]⟩⟩
noncomputable def q4 : Str := ⟨⟨[100, 101, 98, 116, 116, 114, 101, 101, 46, 101, 114, 114, 111, 114, 115]⟩⟩
noncomputable def q5 : Str := ⟨⟨[95, 95, 100, 111, 99, 95, 95]⟩⟩
noncomputable def q6 : Str := ⟨⟨[95, 95, 112, 97, 99, 107, 97, 103, 101, 95, 95]⟩⟩
noncomputable def q7 : Str := ⟨⟨[95, 95, 108, 111, 97, 100, 101, 114, 95, 95]⟩⟩
noncomputable def q8 : Str := ⟨⟨[95, 95, 115, 112, 101, 99, 95, 95]⟩⟩
noncomputable def q9 : Str := ⟨⟨[95, 95, 97, 110, 110, 111, 116, 97, 116, 105, 111, 110, 115, 95, 95]⟩⟩
noncomputable def q10 : Str := ⟨⟨[95, 95, 98, 117, 105, 108, 116, 105, 110, 115, 95, 95]⟩⟩
noncomputable def q11 : Str := ⟨⟨[95, 95, 102, 105, 108, 101, 95, 95]⟩⟩
noncomputable def q12 : Str := ⟨⟨[95, 95, 99, 97, 99, 104, 101, 100, 95, 95]⟩⟩
noncomputable def q13 : Str := ⟨⟨[68, 101, 98, 116, 69, 114, 114, 111, 114]⟩⟩
noncomputable def q14 : Str := ⟨⟨[78, 111, 67, 111, 109, 112, 97, 110, 121]⟩⟩
noncomputable def q15 : Str := ⟨⟨[95, 95, 109, 111, 100, 117, 108, 101, 95, 95]⟩⟩
noncomputable def q16 : Str := ⟨⟨[95, 95, 102, 105, 114, 115, 116, 108, 105, 110, 101, 110, 111, 95, 95]⟩⟩
noncomputable def q17 : Str := ⟨⟨[95, 95, 115, 116, 97, 116, 105, 99, 95, 97, 116, 116, 114, 105, 98, 117, 116, 101, 115, 95, 95]⟩⟩
noncomputable def q18 : Str := ⟨⟨[95, 95, 119, 101, 97, 107, 114, 101, 102, 95, 95]⟩⟩
noncomputable def q19 : Str := ⟨⟨[95, 95, 113, 117, 97, 108, 110, 97, 109, 101, 95, 95]⟩⟩
noncomputable def q20 : Str := ⟨⟨[78, 111, 72, 97, 110, 100]⟩⟩
noncomputable def q21 : Str := ⟨⟨[78, 111, 87, 111, 114, 107]⟩⟩
noncomputable def q22 : Str := ⟨⟨[78, 111, 80, 108, 97, 99, 101]⟩⟩
noncomputable def q23 : Str := ⟨⟨[66, 101, 103, 117, 110]⟩⟩
noncomputable def q24 : Str := ⟨⟨[100, 101, 98, 116, 116, 114, 101, 101, 46, 112, 111, 115, 116]⟩⟩
noncomputable def q25 : Str := ⟨⟨[78, 111, 82, 111, 119]⟩⟩
noncomputable def q26 : Str := ⟨⟨[105, 115, 95, 102, 114, 111, 109]⟩⟩
noncomputable def q27 : Str := ⟨⟨[100, 101, 98, 116, 116, 114, 101, 101, 46, 119, 104, 111, 108, 101, 115]⟩⟩
noncomputable def q28 : Str := ⟨⟨[116, 104, 105, 110, 103]⟩⟩
noncomputable def q29 : Str := ⟨⟨[108, 101, 97, 115, 116]⟩⟩
noncomputable def q30 : Str := ⟨⟨[109, 111, 115, 116]⟩⟩
noncomputable def q31 : Str := ⟨⟨[108, 97, 119, 95, 117, 102, 48, 52, 48, 48, 49, 57, 95, 48, 49]⟩⟩
noncomputable def q32 : Str := ⟨⟨[80, 111, 115, 116]⟩⟩
noncomputable def q33 : Str := ⟨⟨[95, 108, 97, 119, 95, 114, 111, 119, 95, 98, 121]⟩⟩
noncomputable def q34 : Str := ⟨⟨[95, 108, 97, 119, 95, 112, 108, 97, 99, 101, 95, 98, 121]⟩⟩
noncomputable def q35 : Str := ⟨⟨[95, 108, 97, 119, 95, 116, 97, 107, 101, 110]⟩⟩
noncomputable def q36 : Str := ⟨⟨[95, 108, 97, 119, 95, 99, 108, 97, 115, 115, 95, 103, 111, 111, 100]⟩⟩
noncomputable def q37 : Str := ⟨⟨[108, 97, 119]⟩⟩
noncomputable def q38 : Str := ⟨⟨[112, 117, 116]⟩⟩
noncomputable def q39 : Str := ⟨⟨[80, 111, 115, 116, 46, 112, 117, 116]⟩⟩
noncomputable def q40 : Str := ⟨⟨[95, 95, 105, 110, 105, 116, 95, 95]⟩⟩
noncomputable def q41 : Str := ⟨⟨[116, 97, 107, 101]⟩⟩
noncomputable def q42 : Str := ⟨⟨[117, 110, 100, 101, 114]⟩⟩
noncomputable def q43 : Str := ⟨⟨[95, 95, 100, 105, 99, 116, 95, 95]⟩⟩
noncomputable def q44 : Str := ⟨⟨[95, 108, 97, 119, 95, 99, 101, 108, 108]⟩⟩
noncomputable def q45 : Str := ⟨⟨[95, 108, 97, 119, 95, 107]⟩⟩
noncomputable def q46 : Str := ⟨⟨[80, 111, 115, 116, 46, 95, 95, 105, 110, 105, 116, 95, 95]⟩⟩
noncomputable def q47 : Str := ⟨⟨[80, 111, 115, 116, 46, 117, 110, 100, 101, 114]⟩⟩
noncomputable def q48 : Str := ⟨⟨[115, 101, 108, 102]⟩⟩
noncomputable def q49 : Str := ⟨⟨[114, 111, 119]⟩⟩
noncomputable def q50 : Str := ⟨⟨[80, 111, 115, 116, 46, 116, 97, 107, 101]⟩⟩
noncomputable def q51 : Str := ⟨⟨[95, 108, 97, 119, 95, 112, 111, 115, 116]⟩⟩
noncomputable def q52 : Str := ⟨⟨[95, 108, 97, 119, 95, 112, 108, 97, 99, 101]⟩⟩
noncomputable def q53 : Str := ⟨⟨[101]⟩⟩
noncomputable def q54 : Str := ⟨⟨[112, 108, 97, 99, 101]⟩⟩
noncomputable def q55 : Str := ⟨⟨[114, 111, 119, 115]⟩⟩
noncomputable def q56 : Str := ⟨⟨[95, 108, 97, 119, 95, 109, 97, 110, 121]⟩⟩
noncomputable def ob43 (P : Params) : Obj := { cls := Value.type "tuple", data := Data.seq #[] }
noncomputable def ob45 (P : Params) : Obj := { cls := Value.type "code", data := Data.fields #[Value.str (q0) 182, Value.str (q0) 183, Value.str (q1) 184, Value.int 1 0, Value.int 0 0, Value.int 0 0, Value.int 0 0, Value.int 0 0, Value.ref 11, Value.bool Bool.false, Value.int 181 0, Value.ref 12, Value.none, Value.none, Value.none, Value.none, Value.int 185 0, Value.int 1 0, Value.str (q1) 186] }
noncomputable def ob44 (P : Params) : Obj := { cls := Value.none, data := Data.fields #[] }
noncomputable def ob46 (P : Params) : Obj := { cls := Value.type "frame", slots := #[Option.some (Value.ref 13), Option.some (Value.ref 3), Option.some (Value.ref 3), Option.none, Option.some (Value.str (q2) 164), Option.none, Option.some (Value.ref 0)] }
noncomputable def ob64 (P : Params) : Obj := { cls := Value.type "dict", data := Data.dict #[{ hash := PyData.keyHash P (q3), key := Value.str (q3) 165, val := Value.str (q4) 187 }, { hash := PyData.keyHash P (q5), key := Value.str (q5) 166, val := Value.none }, { hash := PyData.keyHash P (q6), key := Value.str (q6) 167, val := Value.none }, { hash := PyData.keyHash P (q7), key := Value.str (q7) 168, val := Value.builtin "__main__.__loader__#opaque" }, { hash := PyData.keyHash P (q8), key := Value.str (q8) 169, val := Value.none }, { hash := PyData.keyHash P (q9), key := Value.str (q9) 170, val := Value.ref 6 }, { hash := PyData.keyHash P (q10), key := Value.str (q10) 171, val := Value.ref 4 }, { hash := PyData.keyHash P (q11), key := Value.str (q11) 173, val := Value.str (q1) 172 }, { hash := PyData.keyHash P (q12), key := Value.str (q12) 174, val := Value.none }, { hash := PyData.keyHash P (q13), key := Value.str (q13) 206, val := Value.ref 24 }, { hash := PyData.keyHash P (q14), key := Value.str (q14) 222, val := Value.ref 37 }] 11 }
noncomputable def ob51 (P : Params) : Obj := { cls := Value.type "tuple", data := Data.seq #[Value.type "ValueError"] }
noncomputable def ob70 (P : Params) : Obj := { cls := Value.type "tuple", data := Data.seq #[] }
noncomputable def ob59 (P : Params) : Obj := { cls := Value.type "dict", data := Data.dict #[{ hash := PyData.keyHash P (q15), key := Value.str (q15) 196, val := Value.str (q4) 187 }, { hash := PyData.keyHash P (q16), key := Value.str (q16) 200, val := Value.int 2 199 }, { hash := PyData.keyHash P (q17), key := Value.str (q17) 201, val := Value.ref 22 }, { hash := PyData.keyHash P (q18), key := Value.str (q18) 203, val := Value.ref 25 }, { hash := PyData.keyHash P (q5), key := Value.str (q5) 204, val := Value.none }] 3 }
noncomputable def ob78 (P : Params) : Obj := { cls := Value.type "builtin_function_or_method", data := Data.fields #[Value.builtin "object.__init_subclass__", Value.ref 37] }
noncomputable def ob55 (P : Params) : Obj := { cls := Value.none, data := Data.fields #[] }
noncomputable def ob74 (P : Params) : Obj := { cls := Value.type "tuple", data := Data.seq #[] }
noncomputable def ob63 (P : Params) : Obj := { cls := Value.type "builtin_function_or_method", data := Data.fields #[Value.builtin "object.__init_subclass__", Value.ref 24] }
noncomputable def ob53 (P : Params) : Obj := { cls := Value.type "dict", data := Data.dict #[{ hash := PyData.keyHash P (q15), key := Value.str (q15) 196, val := Value.str (q4) 187 }, { hash := PyData.keyHash P (q19), key := Value.str (q19) 198, val := Value.str (q13) 197 }, { hash := PyData.keyHash P (q16), key := Value.str (q16) 200, val := Value.int 2 199 }, { hash := PyData.keyHash P (q17), key := Value.str (q17) 201, val := Value.ref 22 }] 4 }
noncomputable def ob72 (P : Params) : Obj := { cls := Value.type "code", data := Data.fields #[Value.str (q14) 209, Value.str (q14) 210, Value.str (q1) 211, Value.int 4 0, Value.int 0 0, Value.int 0 0, Value.int 0 0, Value.int 0 0, Value.ref 31, Value.bool Bool.false, Value.int 181 0, Value.ref 32, Value.none, Value.none, Value.none, Value.none, Value.int 212 0, Value.int 4 0, Value.str (q1) 213] }
noncomputable def ob61 (P : Params) : Obj := { cls := Value.type "getset_descriptor", data := Data.fields #[Value.str (q18) 202, Value.ref 24, Value.builtin "ExceptionGroup.__weakref__", Value.none] }
noncomputable def ob57 (P : Params) : Obj := { cls := Value.type "frame", slots := #[Option.some (Value.ref 20), Option.some (Value.ref 3), Option.some (Value.ref 17), Option.none, Option.some (Value.str (q4) 187), Option.none, Option.some (Value.ref 0)] }
noncomputable def ob76 (P : Params) : Obj := { cls := Value.type "type", data := Data.cls { name := q14, bases := [Value.ref 24], mro := [Value.ref 37, Value.ref 24, Value.type "ValueError", Value.type "Exception", Value.type "BaseException", Value.type "object"], ns := 36, qualname := q14 }, slots := #[Option.some (Value.ref 28), Option.none, Option.some (Value.str (q14) 207), Option.some (Value.str (q14) 215), Option.some (Value.builtin "ValueError.__new__"), Option.some (Value.bool Bool.true)] }
noncomputable def ob68 (P : Params) : Obj := { cls := Value.type "builtin_function_or_method", data := Data.fields #[Value.builtin "type.__prepare__", Value.type "type"] }
noncomputable def ob52 (P : Params) : Obj := { cls := Value.type "builtin_function_or_method", data := Data.fields #[Value.builtin "type.__prepare__", Value.type "type"] }
noncomputable def ob71 (P : Params) : Obj := { cls := Value.none, data := Data.fields #[] }
noncomputable def ob66 (P : Params) : Obj := { cls := Value.type "type", data := Data.cls { name := q13, bases := [Value.type "ValueError"], mro := [Value.ref 24, Value.type "ValueError", Value.type "Exception", Value.type "BaseException", Value.type "object"], ns := 23, qualname := q13, subclasses := [Value.ref 37] }, slots := #[Option.some (Value.ref 15), Option.none, Option.some (Value.str (q13) 189), Option.some (Value.str (q13) 197), Option.some (Value.builtin "ValueError.__new__"), Option.some (Value.bool Bool.true)] }
noncomputable def ob65 (P : Params) : Obj := { cls := Value.none, data := Data.fields #[Value.int 2 0, Value.int 0 0, Value.ref 20, Value.int 4 0, Value.int 0 0, Value.ref 33] }
noncomputable def ob56 (P : Params) : Obj := { cls := Value.type "code", data := Data.fields #[Value.str (q13) 191, Value.str (q13) 192, Value.str (q1) 193, Value.int 2 0, Value.int 0 0, Value.int 0 0, Value.int 0 0, Value.int 0 0, Value.ref 18, Value.bool Bool.false, Value.int 181 0, Value.ref 19, Value.none, Value.none, Value.none, Value.none, Value.int 194 0, Value.int 2 0, Value.str (q1) 195] }
noncomputable def ob75 (P : Params) : Obj := { cls := Value.type "dict", data := Data.dict #[{ hash := PyData.keyHash P (q15), key := Value.str (q15) 214, val := Value.str (q4) 187 }, { hash := PyData.keyHash P (q16), key := Value.str (q16) 218, val := Value.int 4 217 }, { hash := PyData.keyHash P (q17), key := Value.str (q17) 219, val := Value.ref 35 }, { hash := PyData.keyHash P (q5), key := Value.str (q5) 220, val := Value.none }] 2 }
noncomputable def ob67 (P : Params) : Obj := { cls := Value.type "tuple", data := Data.seq #[Value.ref 24] }
noncomputable def ob54 (P : Params) : Obj := { cls := Value.type "tuple", data := Data.seq #[] }
noncomputable def ob73 (P : Params) : Obj := { cls := Value.type "frame", slots := #[Option.some (Value.ref 33), Option.some (Value.ref 3), Option.some (Value.ref 30), Option.none, Option.some (Value.str (q4) 187), Option.none, Option.some (Value.ref 0)] }
noncomputable def ob62 (P : Params) : Obj := { cls := Value.type "super", data := Data.fields #[Value.ref 24, Value.ref 24, Value.ref 24] }
noncomputable def ob58 (P : Params) : Obj := { cls := Value.type "tuple", data := Data.seq #[] }
noncomputable def ob77 (P : Params) : Obj := { cls := Value.type "super", data := Data.fields #[Value.ref 37, Value.ref 37, Value.ref 37] }
noncomputable def ob69 (P : Params) : Obj := { cls := Value.type "dict", data := Data.dict #[{ hash := PyData.keyHash P (q15), key := Value.str (q15) 214, val := Value.str (q4) 187 }, { hash := PyData.keyHash P (q19), key := Value.str (q19) 216, val := Value.str (q14) 215 }, { hash := PyData.keyHash P (q16), key := Value.str (q16) 218, val := Value.int 4 217 }, { hash := PyData.keyHash P (q17), key := Value.str (q17) 219, val := Value.ref 35 }] 4 }
noncomputable def ob94 (P : Params) : Obj := { cls := Value.type "dict", data := Data.dict #[{ hash := PyData.keyHash P (q3), key := Value.str (q3) 165, val := Value.str (q4) 187 }, { hash := PyData.keyHash P (q5), key := Value.str (q5) 166, val := Value.none }, { hash := PyData.keyHash P (q6), key := Value.str (q6) 167, val := Value.none }, { hash := PyData.keyHash P (q7), key := Value.str (q7) 168, val := Value.builtin "__main__.__loader__#opaque" }, { hash := PyData.keyHash P (q8), key := Value.str (q8) 169, val := Value.none }, { hash := PyData.keyHash P (q9), key := Value.str (q9) 170, val := Value.ref 6 }, { hash := PyData.keyHash P (q10), key := Value.str (q10) 171, val := Value.ref 4 }, { hash := PyData.keyHash P (q11), key := Value.str (q11) 173, val := Value.str (q1) 172 }, { hash := PyData.keyHash P (q12), key := Value.str (q12) 174, val := Value.none }, { hash := PyData.keyHash P (q13), key := Value.str (q13) 206, val := Value.ref 24 }, { hash := PyData.keyHash P (q14), key := Value.str (q14) 222, val := Value.ref 37 }, { hash := PyData.keyHash P (q20), key := Value.str (q20) 238, val := Value.ref 49 }, { hash := PyData.keyHash P (q21), key := Value.str (q21) 254, val := Value.ref 61 }] 13 }
noncomputable def ob108 (P : Params) : Obj := { cls := Value.type "builtin_function_or_method", data := Data.fields #[Value.builtin "object.__init_subclass__", Value.ref 61] }
noncomputable def ob89 (P : Params) : Obj := { cls := Value.type "tuple", data := Data.seq #[] }
noncomputable def ob100 (P : Params) : Obj := { cls := Value.type "tuple", data := Data.seq #[] }
noncomputable def ob93 (P : Params) : Obj := { cls := Value.type "builtin_function_or_method", data := Data.fields #[Value.builtin "object.__init_subclass__", Value.ref 49] }
noncomputable def ob85 (P : Params) : Obj := { cls := Value.type "tuple", data := Data.seq #[] }
noncomputable def ob104 (P : Params) : Obj := { cls := Value.type "tuple", data := Data.seq #[] }
noncomputable def ob91 (P : Params) : Obj := { cls := Value.type "type", data := Data.cls { name := q20, bases := [Value.ref 24], mro := [Value.ref 49, Value.ref 24, Value.type "ValueError", Value.type "Exception", Value.type "BaseException", Value.type "object"], ns := 48, qualname := q20 }, slots := #[Option.some (Value.ref 40), Option.none, Option.some (Value.str (q20) 223), Option.some (Value.str (q20) 231), Option.some (Value.builtin "ValueError.__new__"), Option.some (Value.bool Bool.true)] }
noncomputable def ob83 (P : Params) : Obj := { cls := Value.type "builtin_function_or_method", data := Data.fields #[Value.builtin "type.__prepare__", Value.type "type"] }
noncomputable def ob102 (P : Params) : Obj := { cls := Value.type "code", data := Data.fields #[Value.str (q21) 241, Value.str (q21) 242, Value.str (q1) 243, Value.int 8 0, Value.int 0 0, Value.int 0 0, Value.int 0 0, Value.int 0 0, Value.ref 55, Value.bool Bool.false, Value.int 181 0, Value.ref 56, Value.none, Value.none, Value.none, Value.none, Value.int 244 0, Value.int 8 0, Value.str (q1) 245] }
noncomputable def ob98 (P : Params) : Obj := { cls := Value.type "builtin_function_or_method", data := Data.fields #[Value.builtin "type.__prepare__", Value.type "type"] }
noncomputable def ob87 (P : Params) : Obj := { cls := Value.type "code", data := Data.fields #[Value.str (q20) 225, Value.str (q20) 226, Value.str (q1) 227, Value.int 6 0, Value.int 0 0, Value.int 0 0, Value.int 0 0, Value.int 0 0, Value.ref 43, Value.bool Bool.false, Value.int 181 0, Value.ref 44, Value.none, Value.none, Value.none, Value.none, Value.int 228 0, Value.int 6 0, Value.str (q1) 229] }
noncomputable def ob106 (P : Params) : Obj := { cls := Value.type "type", data := Data.cls { name := q21, bases := [Value.ref 24], mro := [Value.ref 61, Value.ref 24, Value.type "ValueError", Value.type "Exception", Value.type "BaseException", Value.type "object"], ns := 60, qualname := q21 }, slots := #[Option.some (Value.ref 52), Option.none, Option.some (Value.str (q21) 239), Option.some (Value.str (q21) 247), Option.some (Value.builtin "ValueError.__new__"), Option.some (Value.bool Bool.true)] }
noncomputable def ob90 (P : Params) : Obj := { cls := Value.type "dict", data := Data.dict #[{ hash := PyData.keyHash P (q15), key := Value.str (q15) 230, val := Value.str (q4) 187 }, { hash := PyData.keyHash P (q16), key := Value.str (q16) 234, val := Value.int 6 233 }, { hash := PyData.keyHash P (q17), key := Value.str (q17) 235, val := Value.ref 47 }, { hash := PyData.keyHash P (q5), key := Value.str (q5) 236, val := Value.none }] 2 }
noncomputable def ob96 (P : Params) : Obj := { cls := Value.type "type", data := Data.cls { name := q13, bases := [Value.type "ValueError"], mro := [Value.ref 24, Value.type "ValueError", Value.type "Exception", Value.type "BaseException", Value.type "object"], ns := 23, qualname := q13, subclasses := [Value.ref 37, Value.ref 49, Value.ref 61] }, slots := #[Option.some (Value.ref 15), Option.none, Option.some (Value.str (q13) 189), Option.some (Value.str (q13) 197), Option.some (Value.builtin "ValueError.__new__"), Option.some (Value.bool Bool.true)] }
noncomputable def ob82 (P : Params) : Obj := { cls := Value.type "tuple", data := Data.seq #[Value.ref 24] }
noncomputable def ob101 (P : Params) : Obj := { cls := Value.none, data := Data.fields #[] }
noncomputable def ob95 (P : Params) : Obj := { cls := Value.none, data := Data.fields #[Value.int 2 0, Value.int 0 0, Value.ref 20, Value.int 4 0, Value.int 0 0, Value.ref 33, Value.int 6 0, Value.int 0 0, Value.ref 45, Value.int 8 0, Value.int 0 0, Value.ref 57] }
noncomputable def ob97 (P : Params) : Obj := { cls := Value.type "tuple", data := Data.seq #[Value.ref 24] }
noncomputable def ob86 (P : Params) : Obj := { cls := Value.none, data := Data.fields #[] }
noncomputable def ob105 (P : Params) : Obj := { cls := Value.type "dict", data := Data.dict #[{ hash := PyData.keyHash P (q15), key := Value.str (q15) 246, val := Value.str (q4) 187 }, { hash := PyData.keyHash P (q16), key := Value.str (q16) 250, val := Value.int 8 249 }, { hash := PyData.keyHash P (q17), key := Value.str (q17) 251, val := Value.ref 59 }, { hash := PyData.keyHash P (q5), key := Value.str (q5) 252, val := Value.none }] 2 }
noncomputable def ob92 (P : Params) : Obj := { cls := Value.type "super", data := Data.fields #[Value.ref 49, Value.ref 49, Value.ref 49] }
noncomputable def ob84 (P : Params) : Obj := { cls := Value.type "dict", data := Data.dict #[{ hash := PyData.keyHash P (q15), key := Value.str (q15) 230, val := Value.str (q4) 187 }, { hash := PyData.keyHash P (q19), key := Value.str (q19) 232, val := Value.str (q20) 231 }, { hash := PyData.keyHash P (q16), key := Value.str (q16) 234, val := Value.int 6 233 }, { hash := PyData.keyHash P (q17), key := Value.str (q17) 235, val := Value.ref 47 }] 4 }
noncomputable def ob103 (P : Params) : Obj := { cls := Value.type "frame", slots := #[Option.some (Value.ref 57), Option.some (Value.ref 3), Option.some (Value.ref 54), Option.none, Option.some (Value.str (q4) 187), Option.none, Option.some (Value.ref 0)] }
noncomputable def ob99 (P : Params) : Obj := { cls := Value.type "dict", data := Data.dict #[{ hash := PyData.keyHash P (q15), key := Value.str (q15) 246, val := Value.str (q4) 187 }, { hash := PyData.keyHash P (q19), key := Value.str (q19) 248, val := Value.str (q21) 247 }, { hash := PyData.keyHash P (q16), key := Value.str (q16) 250, val := Value.int 8 249 }, { hash := PyData.keyHash P (q17), key := Value.str (q17) 251, val := Value.ref 59 }] 4 }
noncomputable def ob88 (P : Params) : Obj := { cls := Value.type "frame", slots := #[Option.some (Value.ref 45), Option.some (Value.ref 3), Option.some (Value.ref 42), Option.none, Option.some (Value.str (q4) 187), Option.none, Option.some (Value.ref 0)] }
noncomputable def ob107 (P : Params) : Obj := { cls := Value.type "super", data := Data.fields #[Value.ref 61, Value.ref 61, Value.ref 61] }
noncomputable def ob124 (P : Params) : Obj := { cls := Value.type "dict", data := Data.dict #[{ hash := PyData.keyHash P (q3), key := Value.str (q3) 165, val := Value.str (q4) 187 }, { hash := PyData.keyHash P (q5), key := Value.str (q5) 166, val := Value.none }, { hash := PyData.keyHash P (q6), key := Value.str (q6) 167, val := Value.none }, { hash := PyData.keyHash P (q7), key := Value.str (q7) 168, val := Value.builtin "__main__.__loader__#opaque" }, { hash := PyData.keyHash P (q8), key := Value.str (q8) 169, val := Value.none }, { hash := PyData.keyHash P (q9), key := Value.str (q9) 170, val := Value.ref 6 }, { hash := PyData.keyHash P (q10), key := Value.str (q10) 171, val := Value.ref 4 }, { hash := PyData.keyHash P (q11), key := Value.str (q11) 173, val := Value.str (q1) 172 }, { hash := PyData.keyHash P (q12), key := Value.str (q12) 174, val := Value.none }, { hash := PyData.keyHash P (q13), key := Value.str (q13) 206, val := Value.ref 24 }, { hash := PyData.keyHash P (q14), key := Value.str (q14) 222, val := Value.ref 37 }, { hash := PyData.keyHash P (q20), key := Value.str (q20) 238, val := Value.ref 49 }, { hash := PyData.keyHash P (q21), key := Value.str (q21) 254, val := Value.ref 61 }, { hash := PyData.keyHash P (q22), key := Value.str (q22) 270, val := Value.ref 73 }, { hash := PyData.keyHash P (q23), key := Value.str (q23) 286, val := Value.ref 85 }] 15 }
noncomputable def ob130 (P : Params) : Obj := { cls := Value.type "tuple", data := Data.seq #[] }
noncomputable def ob119 (P : Params) : Obj := { cls := Value.type "tuple", data := Data.seq #[] }
noncomputable def ob138 (P : Params) : Obj := { cls := Value.type "builtin_function_or_method", data := Data.fields #[Value.builtin "object.__init_subclass__", Value.ref 85] }
noncomputable def ob115 (P : Params) : Obj := { cls := Value.type "tuple", data := Data.seq #[] }
noncomputable def ob134 (P : Params) : Obj := { cls := Value.type "tuple", data := Data.seq #[] }
noncomputable def ob123 (P : Params) : Obj := { cls := Value.type "builtin_function_or_method", data := Data.fields #[Value.builtin "object.__init_subclass__", Value.ref 73] }
noncomputable def ob113 (P : Params) : Obj := { cls := Value.type "builtin_function_or_method", data := Data.fields #[Value.builtin "type.__prepare__", Value.type "type"] }
noncomputable def ob132 (P : Params) : Obj := { cls := Value.type "code", data := Data.fields #[Value.str (q23) 273, Value.str (q23) 274, Value.str (q1) 275, Value.int 12 0, Value.int 0 0, Value.int 0 0, Value.int 0 0, Value.int 0 0, Value.ref 79, Value.bool Bool.false, Value.int 181 0, Value.ref 80, Value.none, Value.none, Value.none, Value.none, Value.int 276 0, Value.int 12 0, Value.str (q1) 277] }
noncomputable def ob121 (P : Params) : Obj := { cls := Value.type "type", data := Data.cls { name := q22, bases := [Value.ref 24], mro := [Value.ref 73, Value.ref 24, Value.type "ValueError", Value.type "Exception", Value.type "BaseException", Value.type "object"], ns := 72, qualname := q22 }, slots := #[Option.some (Value.ref 64), Option.none, Option.some (Value.str (q22) 255), Option.some (Value.str (q22) 263), Option.some (Value.builtin "ValueError.__new__"), Option.some (Value.bool Bool.true)] }
noncomputable def ob117 (P : Params) : Obj := { cls := Value.type "code", data := Data.fields #[Value.str (q22) 257, Value.str (q22) 258, Value.str (q1) 259, Value.int 10 0, Value.int 0 0, Value.int 0 0, Value.int 0 0, Value.int 0 0, Value.ref 67, Value.bool Bool.false, Value.int 181 0, Value.ref 68, Value.none, Value.none, Value.none, Value.none, Value.int 260 0, Value.int 10 0, Value.str (q1) 261] }
noncomputable def ob136 (P : Params) : Obj := { cls := Value.type "type", data := Data.cls { name := q23, bases := [Value.ref 24], mro := [Value.ref 85, Value.ref 24, Value.type "ValueError", Value.type "Exception", Value.type "BaseException", Value.type "object"], ns := 84, qualname := q23 }, slots := #[Option.some (Value.ref 76), Option.none, Option.some (Value.str (q23) 271), Option.some (Value.str (q23) 279), Option.some (Value.builtin "ValueError.__new__"), Option.some (Value.bool Bool.true)] }
noncomputable def ob128 (P : Params) : Obj := { cls := Value.type "builtin_function_or_method", data := Data.fields #[Value.builtin "type.__prepare__", Value.type "type"] }
noncomputable def ob112 (P : Params) : Obj := { cls := Value.type "tuple", data := Data.seq #[Value.ref 24] }
noncomputable def ob131 (P : Params) : Obj := { cls := Value.none, data := Data.fields #[] }
noncomputable def ob126 (P : Params) : Obj := { cls := Value.type "type", data := Data.cls { name := q13, bases := [Value.type "ValueError"], mro := [Value.ref 24, Value.type "ValueError", Value.type "Exception", Value.type "BaseException", Value.type "object"], ns := 23, qualname := q13, subclasses := [Value.ref 37, Value.ref 49, Value.ref 61, Value.ref 73, Value.ref 85] }, slots := #[Option.some (Value.ref 15), Option.none, Option.some (Value.str (q13) 189), Option.some (Value.str (q13) 197), Option.some (Value.builtin "ValueError.__new__"), Option.some (Value.bool Bool.true)] }
noncomputable def ob120 (P : Params) : Obj := { cls := Value.type "dict", data := Data.dict #[{ hash := PyData.keyHash P (q15), key := Value.str (q15) 262, val := Value.str (q4) 187 }, { hash := PyData.keyHash P (q16), key := Value.str (q16) 266, val := Value.int 10 265 }, { hash := PyData.keyHash P (q17), key := Value.str (q17) 267, val := Value.ref 71 }, { hash := PyData.keyHash P (q5), key := Value.str (q5) 268, val := Value.none }] 2 }
noncomputable def ob125 (P : Params) : Obj := { cls := Value.none, data := Data.fields #[Value.int 2 0, Value.int 0 0, Value.ref 20, Value.int 4 0, Value.int 0 0, Value.ref 33, Value.int 6 0, Value.int 0 0, Value.ref 45, Value.int 8 0, Value.int 0 0, Value.ref 57, Value.int 10 0, Value.int 0 0, Value.ref 69, Value.int 12 0, Value.int 0 0, Value.ref 81] }
noncomputable def ob116 (P : Params) : Obj := { cls := Value.none, data := Data.fields #[] }
noncomputable def ob135 (P : Params) : Obj := { cls := Value.type "dict", data := Data.dict #[{ hash := PyData.keyHash P (q15), key := Value.str (q15) 278, val := Value.str (q4) 187 }, { hash := PyData.keyHash P (q16), key := Value.str (q16) 282, val := Value.int 12 281 }, { hash := PyData.keyHash P (q17), key := Value.str (q17) 283, val := Value.ref 83 }, { hash := PyData.keyHash P (q5), key := Value.str (q5) 284, val := Value.none }] 2 }
noncomputable def ob127 (P : Params) : Obj := { cls := Value.type "tuple", data := Data.seq #[Value.ref 24] }
noncomputable def ob114 (P : Params) : Obj := { cls := Value.type "dict", data := Data.dict #[{ hash := PyData.keyHash P (q15), key := Value.str (q15) 262, val := Value.str (q4) 187 }, { hash := PyData.keyHash P (q19), key := Value.str (q19) 264, val := Value.str (q22) 263 }, { hash := PyData.keyHash P (q16), key := Value.str (q16) 266, val := Value.int 10 265 }, { hash := PyData.keyHash P (q17), key := Value.str (q17) 267, val := Value.ref 71 }] 4 }
noncomputable def ob133 (P : Params) : Obj := { cls := Value.type "frame", slots := #[Option.some (Value.ref 81), Option.some (Value.ref 3), Option.some (Value.ref 78), Option.none, Option.some (Value.str (q4) 187), Option.none, Option.some (Value.ref 0)] }
noncomputable def ob122 (P : Params) : Obj := { cls := Value.type "super", data := Data.fields #[Value.ref 73, Value.ref 73, Value.ref 73] }
noncomputable def ob118 (P : Params) : Obj := { cls := Value.type "frame", slots := #[Option.some (Value.ref 69), Option.some (Value.ref 3), Option.some (Value.ref 66), Option.none, Option.some (Value.str (q4) 187), Option.none, Option.some (Value.ref 0)] }
noncomputable def ob137 (P : Params) : Obj := { cls := Value.type "super", data := Data.fields #[Value.ref 85, Value.ref 85, Value.ref 85] }
noncomputable def ob129 (P : Params) : Obj := { cls := Value.type "dict", data := Data.dict #[{ hash := PyData.keyHash P (q15), key := Value.str (q15) 278, val := Value.str (q4) 187 }, { hash := PyData.keyHash P (q19), key := Value.str (q19) 280, val := Value.str (q23) 279 }, { hash := PyData.keyHash P (q16), key := Value.str (q16) 282, val := Value.int 12 281 }, { hash := PyData.keyHash P (q17), key := Value.str (q17) 283, val := Value.ref 83 }] 4 }
noncomputable def ob139 (P : Params) : Obj := { cls := Value.type "dict", data := Data.dict #[{ hash := PyData.keyHash P (q3), key := Value.str (q3) 165, val := Value.str (q24) 314 }, { hash := PyData.keyHash P (q5), key := Value.str (q5) 166, val := Value.none }, { hash := PyData.keyHash P (q6), key := Value.str (q6) 167, val := Value.none }, { hash := PyData.keyHash P (q7), key := Value.str (q7) 168, val := Value.builtin "__main__.__loader__#opaque" }, { hash := PyData.keyHash P (q8), key := Value.str (q8) 169, val := Value.none }, { hash := PyData.keyHash P (q9), key := Value.str (q9) 170, val := Value.ref 6 }, { hash := PyData.keyHash P (q10), key := Value.str (q10) 171, val := Value.ref 4 }, { hash := PyData.keyHash P (q11), key := Value.str (q11) 173, val := Value.str (q1) 172 }, { hash := PyData.keyHash P (q12), key := Value.str (q12) 174, val := Value.none }, { hash := PyData.keyHash P (q13), key := Value.str (q13) 206, val := Value.ref 24 }, { hash := PyData.keyHash P (q14), key := Value.str (q14) 222, val := Value.ref 37 }, { hash := PyData.keyHash P (q20), key := Value.str (q20) 238, val := Value.ref 49 }, { hash := PyData.keyHash P (q21), key := Value.str (q21) 254, val := Value.ref 61 }, { hash := PyData.keyHash P (q22), key := Value.str (q22) 270, val := Value.ref 73 }, { hash := PyData.keyHash P (q23), key := Value.str (q23) 286, val := Value.ref 85 }, { hash := PyData.keyHash P (q25), key := Value.str (q25) 302, val := Value.ref 97 }, { hash := PyData.keyHash P (q26), key := Value.str (q26) 313, val := Value.ref 106 }] 17 }
noncomputable def ob149 (P : Params) : Obj := { cls := Value.type "tuple", data := Data.seq #[] }
noncomputable def ob157 (P : Params) : Obj := { cls := Value.type "tuple", data := Data.seq #[] }
noncomputable def ob153 (P : Params) : Obj := { cls := Value.type "builtin_function_or_method", data := Data.fields #[Value.builtin "object.__init_subclass__", Value.ref 97] }
noncomputable def ob145 (P : Params) : Obj := { cls := Value.type "tuple", data := Data.seq #[] }
noncomputable def ob151 (P : Params) : Obj := { cls := Value.type "type", data := Data.cls { name := q25, bases := [Value.ref 24], mro := [Value.ref 97, Value.ref 24, Value.type "ValueError", Value.type "Exception", Value.type "BaseException", Value.type "object"], ns := 96, qualname := q25 }, slots := #[Option.some (Value.ref 88), Option.none, Option.some (Value.str (q25) 287), Option.some (Value.str (q25) 295), Option.some (Value.builtin "ValueError.__new__"), Option.some (Value.bool Bool.true)] }
noncomputable def ob159 (P : Params) : Obj := { cls := Value.type "code", data := Data.fields #[Value.str (q26) 305, Value.str (q26) 306, Value.str (q1) 307, Value.int 17 0, Value.int 3 0, Value.int 0 0, Value.int 0 0, Value.int 3 0, Value.ref 100, Value.bool Bool.true, Value.int 181 0, Value.ref 101, Value.none, Value.ref 102, Value.ref 103, Value.ref 104, Value.int 311 0, Value.int 17 0, Value.str (q1) 312] }
noncomputable def ob143 (P : Params) : Obj := { cls := Value.type "builtin_function_or_method", data := Data.fields #[Value.builtin "type.__prepare__", Value.type "type"] }
noncomputable def ob155 (P : Params) : Obj := { cls := Value.none, data := Data.fields #[] }
noncomputable def ob147 (P : Params) : Obj := { cls := Value.type "code", data := Data.fields #[Value.str (q25) 289, Value.str (q25) 290, Value.str (q1) 291, Value.int 14 0, Value.int 0 0, Value.int 0 0, Value.int 0 0, Value.int 0 0, Value.ref 91, Value.bool Bool.false, Value.int 181 0, Value.ref 92, Value.none, Value.none, Value.none, Value.none, Value.int 292 0, Value.int 14 0, Value.str (q1) 293] }
noncomputable def ob150 (P : Params) : Obj := { cls := Value.type "dict", data := Data.dict #[{ hash := PyData.keyHash P (q15), key := Value.str (q15) 294, val := Value.str (q4) 187 }, { hash := PyData.keyHash P (q16), key := Value.str (q16) 298, val := Value.int 14 297 }, { hash := PyData.keyHash P (q17), key := Value.str (q17) 299, val := Value.ref 95 }, { hash := PyData.keyHash P (q5), key := Value.str (q5) 300, val := Value.none }] 2 }
noncomputable def ob141 (P : Params) : Obj := { cls := Value.type "type", data := Data.cls { name := q13, bases := [Value.type "ValueError"], mro := [Value.ref 24, Value.type "ValueError", Value.type "Exception", Value.type "BaseException", Value.type "object"], ns := 23, qualname := q13, subclasses := [Value.ref 37, Value.ref 49, Value.ref 61, Value.ref 73, Value.ref 85, Value.ref 97] }, slots := #[Option.some (Value.ref 15), Option.none, Option.some (Value.str (q13) 189), Option.some (Value.str (q13) 197), Option.some (Value.builtin "ValueError.__new__"), Option.some (Value.bool Bool.true)] }
noncomputable def ob158 (P : Params) : Obj := { cls := Value.none, data := Data.func { name := q26, qualname := q26, params := fArgs (sA 9), body := FuncBody.stmts (fBody (sA 9)), scope := fScope (sA 9), globals := 0, closure := [], defaults := Value.none, kwdefaults := Value.none } }
noncomputable def ob142 (P : Params) : Obj := { cls := Value.type "tuple", data := Data.seq #[Value.ref 24] }
noncomputable def ob140 (P : Params) : Obj := { cls := Value.none, data := Data.fields #[Value.int 2 0, Value.int 0 0, Value.ref 20, Value.int 4 0, Value.int 0 0, Value.ref 33, Value.int 6 0, Value.int 0 0, Value.ref 45, Value.int 8 0, Value.int 0 0, Value.ref 57, Value.int 10 0, Value.int 0 0, Value.ref 69, Value.int 12 0, Value.int 0 0, Value.ref 81, Value.int 14 0, Value.int 0 0, Value.ref 93, Value.int 17 0, Value.int 0 0, Value.ref 105] }
noncomputable def ob154 (P : Params) : Obj := { cls := Value.type "tuple", data := Data.seq #[] }
noncomputable def ob146 (P : Params) : Obj := { cls := Value.none, data := Data.fields #[] }
noncomputable def ob152 (P : Params) : Obj := { cls := Value.type "super", data := Data.fields #[Value.ref 97, Value.ref 97, Value.ref 97] }
noncomputable def ob160 (P : Params) : Obj := { cls := Value.type "function", data := Data.func { name := q26, qualname := q26, params := fArgs (sA 9), body := FuncBody.stmts (fBody (sA 9)), scope := fScope (sA 9), globals := 3, closure := [], defaults := Value.none, kwdefaults := Value.none, pyModule := Value.str (q27) 303, code := Value.ref 105 } }
noncomputable def ob144 (P : Params) : Obj := { cls := Value.type "dict", data := Data.dict #[{ hash := PyData.keyHash P (q15), key := Value.str (q15) 294, val := Value.str (q4) 187 }, { hash := PyData.keyHash P (q19), key := Value.str (q19) 296, val := Value.str (q25) 295 }, { hash := PyData.keyHash P (q16), key := Value.str (q16) 298, val := Value.int 14 297 }, { hash := PyData.keyHash P (q17), key := Value.str (q17) 299, val := Value.ref 95 }] 4 }
noncomputable def ob156 (P : Params) : Obj := { cls := Value.type "tuple", data := Data.seq #[Value.str (q28) 308, Value.str (q29) 309, Value.str (q30) 310] }
noncomputable def ob148 (P : Params) : Obj := { cls := Value.type "frame", slots := #[Option.some (Value.ref 93), Option.some (Value.ref 3), Option.some (Value.ref 90), Option.none, Option.some (Value.str (q4) 187), Option.none, Option.some (Value.ref 0)] }
noncomputable def ob219 (P : Params) : Obj := { cls := Value.type "dict", data := Data.dict #[{ hash := PyData.keyHash P (q3), key := Value.str (q3) 165, val := Value.str (q31) 368 }, { hash := PyData.keyHash P (q5), key := Value.str (q5) 166, val := Value.none }, { hash := PyData.keyHash P (q6), key := Value.str (q6) 167, val := Value.none }, { hash := PyData.keyHash P (q7), key := Value.str (q7) 168, val := Value.builtin "__main__.__loader__#opaque" }, { hash := PyData.keyHash P (q8), key := Value.str (q8) 169, val := Value.none }, { hash := PyData.keyHash P (q9), key := Value.str (q9) 170, val := Value.ref 6 }, { hash := PyData.keyHash P (q10), key := Value.str (q10) 171, val := Value.ref 4 }, { hash := PyData.keyHash P (q11), key := Value.str (q11) 173, val := Value.str (q1) 172 }, { hash := PyData.keyHash P (q12), key := Value.str (q12) 174, val := Value.none }, { hash := PyData.keyHash P (q13), key := Value.str (q13) 206, val := Value.ref 24 }, { hash := PyData.keyHash P (q14), key := Value.str (q14) 222, val := Value.ref 37 }, { hash := PyData.keyHash P (q20), key := Value.str (q20) 238, val := Value.ref 49 }, { hash := PyData.keyHash P (q21), key := Value.str (q21) 254, val := Value.ref 61 }, { hash := PyData.keyHash P (q22), key := Value.str (q22) 270, val := Value.ref 73 }, { hash := PyData.keyHash P (q23), key := Value.str (q23) 286, val := Value.ref 85 }, { hash := PyData.keyHash P (q25), key := Value.str (q25) 302, val := Value.ref 97 }, { hash := PyData.keyHash P (q26), key := Value.str (q26) 313, val := Value.ref 106 }, { hash := PyData.keyHash P (q32), key := Value.str (q32) 367, val := Value.ref 144 }, { hash := PyData.keyHash P (q33), key := Value.str (q33) 377, val := Value.ref 155 }, { hash := PyData.keyHash P (q34), key := Value.str (q34) 385, val := Value.ref 162 }, { hash := PyData.keyHash P (q35), key := Value.str (q35) 393, val := Value.ref 169 }, { hash := PyData.keyHash P (q36), key := Value.str (q36) 402, val := Value.ref 176 }, { hash := PyData.keyHash P (q37), key := Value.str (q37) 408, val := Value.ref 181 }] 23 }
noncomputable def ob183 (P : Params) : Obj := { cls := Value.type "function", data := Data.func { name := q38, qualname := q39, params := fArgs (mA 11 1), body := FuncBody.stmts (fBody (mA 11 1)), scope := fScope (mA 11 1), globals := 3, closure := [], defaults := Value.none, kwdefaults := Value.none, pyModule := Value.str (q24) 314, code := Value.ref 126 } }
noncomputable def ob215 (P : Params) : Obj := { cls := Value.type "tuple", data := Data.seq #[] }
noncomputable def ob199 (P : Params) : Obj := { cls := Value.type "dict", data := Data.dict #[{ hash := PyData.keyHash P (q15), key := Value.str (q15) 323, val := Value.str (q24) 314 }, { hash := PyData.keyHash P (q16), key := Value.str (q16) 327, val := Value.int 20 326 }, { hash := PyData.keyHash P (q40), key := Value.str (q40) 334, val := Value.ref 120 }, { hash := PyData.keyHash P (q38), key := Value.str (q38) 342, val := Value.ref 127 }, { hash := PyData.keyHash P (q41), key := Value.str (q41) 351, val := Value.ref 134 }, { hash := PyData.keyHash P (q42), key := Value.str (q42) 358, val := Value.ref 141 }, { hash := PyData.keyHash P (q17), key := Value.str (q17) 360, val := Value.ref 142 }, { hash := PyData.keyHash P (q43), key := Value.str (q43) 362, val := Value.ref 145 }, { hash := PyData.keyHash P (q18), key := Value.str (q18) 364, val := Value.ref 146 }, { hash := PyData.keyHash P (q5), key := Value.str (q5) 365, val := Value.none }] 4 }
noncomputable def ob167 (P : Params) : Obj := { cls := Value.none, data := Data.fields #[Value.int 22 0, Value.int 4 0, Value.ref 119, Value.int 25 0, Value.int 4 0, Value.ref 126, Value.int 28 0, Value.int 4 0, Value.ref 133, Value.int 35 0, Value.int 4 0, Value.ref 140] }
noncomputable def ob233 (P : Params) : Obj := { cls := Value.type "code", data := Data.fields #[Value.str (q36) 394, Value.str (q36) 395, Value.str (q1) 396, Value.int 49 0, Value.int 2 0, Value.int 0 0, Value.int 0 0, Value.int 3 0, Value.ref 170, Value.bool Bool.true, Value.int 181 0, Value.ref 171, Value.none, Value.ref 172, Value.ref 173, Value.ref 174, Value.int 400 0, Value.int 49 0, Value.str (q1) 401] }
noncomputable def ob191 (P : Params) : Obj := { cls := Value.type "tuple", data := Data.seq #[] }
noncomputable def ob225 (P : Params) : Obj := { cls := Value.none, data := Data.func { name := q35, qualname := q35, params := fArgs (sA 15), body := FuncBody.stmts (fBody (sA 15)), scope := fScope (sA 15), globals := 0, closure := [], defaults := Value.none, kwdefaults := Value.none } }
noncomputable def ob207 (P : Params) : Obj := { cls := Value.type "tuple", data := Data.seq #[Value.str (q44) 373, Value.str (q45) 374] }
noncomputable def ob175 (P : Params) : Obj := { cls := Value.type "code", data := Data.fields #[Value.str (q40) 328, Value.str (q46) 329, Value.str (q1) 330, Value.int 22 0, Value.int 1 0, Value.int 0 0, Value.int 0 0, Value.int 3 0, Value.ref 114, Value.bool Bool.true, Value.int 181 0, Value.ref 115, Value.none, Value.ref 116, Value.ref 117, Value.ref 118, Value.int 332 0, Value.int 22 0, Value.str (q1) 333] }
noncomputable def ob187 (P : Params) : Obj := { cls := Value.type "tuple", data := Data.seq #[] }
noncomputable def ob221 (P : Params) : Obj := { cls := Value.type "tuple", data := Data.seq #[] }
noncomputable def ob203 (P : Params) : Obj := { cls := Value.type "super", data := Data.fields #[Value.ref 144, Value.ref 144, Value.ref 144] }
noncomputable def ob171 (P : Params) : Obj := { cls := Value.none, data := Data.fields #[] }
noncomputable def ob237 (P : Params) : Obj := { cls := Value.none, data := Data.func { name := q37, qualname := q37, params := fArgs (sA 17), body := FuncBody.stmts (fBody (sA 17)), scope := fScope (sA 17), globals := 0, closure := [], defaults := Value.none, kwdefaults := Value.none } }
noncomputable def ob195 (P : Params) : Obj := { cls := Value.none, data := Data.func { name := q42, qualname := q47, params := fArgs (mA 11 3), body := FuncBody.stmts (fBody (mA 11 3)), scope := fScope (mA 11 3), globals := 0, closure := [], defaults := Value.none, kwdefaults := Value.none } }
noncomputable def ob163 (P : Params) : Obj := { cls := Value.type "tuple", data := Data.seq #[] }
noncomputable def ob229 (P : Params) : Obj := { cls := Value.none, data := Data.fields #[] }
noncomputable def ob211 (P : Params) : Obj := { cls := Value.type "function", data := Data.func { name := q33, qualname := q33, params := fArgs (sA 13), body := FuncBody.stmts (fBody (sA 13)), scope := fScope (sA 13), globals := 3, closure := [], defaults := Value.none, kwdefaults := Value.none, pyModule := Value.str (q31) 368, code := Value.ref 154 } }
noncomputable def ob179 (P : Params) : Obj := { cls := Value.type "tuple", data := Data.seq #[Value.str (q48) 338, Value.str (q49) 339] }
noncomputable def ob185 (P : Params) : Obj := { cls := Value.none, data := Data.fields #[] }
noncomputable def ob217 (P : Params) : Obj := { cls := Value.type "code", data := Data.fields #[Value.str (q34) 378, Value.str (q34) 379, Value.str (q1) 380, Value.int 40 0, Value.int 2 0, Value.int 0 0, Value.int 0 0, Value.int 3 0, Value.ref 156, Value.bool Bool.true, Value.int 181 0, Value.ref 157, Value.none, Value.ref 158, Value.ref 159, Value.ref 160, Value.int 383 0, Value.int 40 0, Value.str (q1) 384] }
noncomputable def ob201 (P : Params) : Obj := { cls := Value.type "getset_descriptor", data := Data.fields #[Value.str (q43) 361, Value.ref 144, Value.builtin "function.__dict__", Value.builtin "function.__dict__#set"] }
noncomputable def ob169 (P : Params) : Obj := { cls := Value.type "frame", slots := #[Option.some (Value.ref 112), Option.some (Value.ref 3), Option.some (Value.ref 109), Option.none, Option.some (Value.str (q24) 314), Option.none, Option.some (Value.ref 0)] }
noncomputable def ob235 (P : Params) : Obj := { cls := Value.type "tuple", data := Data.seq #[] }
noncomputable def ob193 (P : Params) : Obj := { cls := Value.type "tuple", data := Data.seq #[Value.str (q48) 355] }
noncomputable def ob227 (P : Params) : Obj := { cls := Value.type "function", data := Data.func { name := q35, qualname := q35, params := fArgs (sA 15), body := FuncBody.stmts (fBody (sA 15)), scope := fScope (sA 15), globals := 3, closure := [], defaults := Value.none, kwdefaults := Value.none, pyModule := Value.str (q31) 368, code := Value.ref 168 } }
noncomputable def ob209 (P : Params) : Obj := { cls := Value.none, data := Data.func { name := q33, qualname := q33, params := fArgs (sA 13), body := FuncBody.stmts (fBody (sA 13)), scope := fScope (sA 13), globals := 0, closure := [], defaults := Value.none, kwdefaults := Value.none } }
noncomputable def ob177 (P : Params) : Obj := { cls := Value.type "tuple", data := Data.seq #[] }
noncomputable def ob189 (P : Params) : Obj := { cls := Value.type "code", data := Data.fields #[Value.str (q41) 343, Value.str (q50) 344, Value.str (q1) 345, Value.int 28 0, Value.int 2 0, Value.int 0 0, Value.int 0 0, Value.int 3 0, Value.ref 128, Value.bool Bool.true, Value.int 181 0, Value.ref 129, Value.none, Value.ref 130, Value.ref 131, Value.ref 132, Value.int 349 0, Value.int 28 0, Value.str (q1) 350] }
noncomputable def ob223 (P : Params) : Obj := { cls := Value.type "tuple", data := Data.seq #[Value.str (q51) 389, Value.str (q52) 390] }
noncomputable def ob205 (P : Params) : Obj := { cls := Value.type "tuple", data := Data.seq #[] }
noncomputable def ob173 (P : Params) : Obj := { cls := Value.type "tuple", data := Data.seq #[] }
noncomputable def ob239 (P : Params) : Obj := { cls := Value.type "function", data := Data.func { name := q37, qualname := q37, params := fArgs (sA 17), body := FuncBody.stmts (fBody (sA 17)), scope := fScope (sA 17), globals := 3, closure := [], defaults := Value.none, kwdefaults := Value.none, pyModule := Value.str (q31) 368, code := Value.ref 180 } }
noncomputable def ob197 (P : Params) : Obj := { cls := Value.type "function", data := Data.func { name := q42, qualname := q47, params := fArgs (mA 11 3), body := FuncBody.stmts (fBody (mA 11 3)), scope := fScope (mA 11 3), globals := 3, closure := [], defaults := Value.none, kwdefaults := Value.none, pyModule := Value.str (q24) 314, code := Value.ref 140 } }
noncomputable def ob165 (P : Params) : Obj := { cls := Value.type "dict", data := Data.dict #[{ hash := PyData.keyHash P (q15), key := Value.str (q15) 323, val := Value.str (q24) 314 }, { hash := PyData.keyHash P (q19), key := Value.str (q19) 325, val := Value.str (q32) 324 }, { hash := PyData.keyHash P (q16), key := Value.str (q16) 327, val := Value.int 20 326 }, { hash := PyData.keyHash P (q40), key := Value.str (q40) 334, val := Value.ref 120 }, { hash := PyData.keyHash P (q38), key := Value.str (q38) 342, val := Value.ref 127 }, { hash := PyData.keyHash P (q41), key := Value.str (q41) 351, val := Value.ref 134 }, { hash := PyData.keyHash P (q42), key := Value.str (q42) 358, val := Value.ref 141 }, { hash := PyData.keyHash P (q17), key := Value.str (q17) 360, val := Value.ref 142 }] 8 }
noncomputable def ob231 (P : Params) : Obj := { cls := Value.type "tuple", data := Data.seq #[] }
noncomputable def ob213 (P : Params) : Obj := { cls := Value.none, data := Data.fields #[] }
noncomputable def ob181 (P : Params) : Obj := { cls := Value.none, data := Data.func { name := q38, qualname := q39, params := fArgs (mA 11 1), body := FuncBody.stmts (fBody (mA 11 1)), scope := fScope (mA 11 1), globals := 0, closure := [], defaults := Value.none, kwdefaults := Value.none } }
noncomputable def ob184 (P : Params) : Obj := { cls := Value.type "tuple", data := Data.seq #[] }
noncomputable def ob216 (P : Params) : Obj := { cls := Value.none, data := Data.func { name := q34, qualname := q34, params := fArgs (sA 14), body := FuncBody.stmts (fBody (sA 14)), scope := fScope (sA 14), globals := 0, closure := [], defaults := Value.none, kwdefaults := Value.none } }
noncomputable def ob200 (P : Params) : Obj := { cls := Value.type "type", data := Data.cls { name := q32, bases := [Value.type "object"], mro := [Value.ref 144, Value.type "object"], ns := 143, qualname := q32 }, slots := #[Option.none, Option.none, Option.some (Value.str (q32) 316), Option.some (Value.str (q32) 324), Option.some (Value.builtin "object.__new__"), Option.some (Value.bool Bool.true)] }
noncomputable def ob168 (P : Params) : Obj := { cls := Value.type "code", data := Data.fields #[Value.str (q32) 318, Value.str (q32) 319, Value.str (q1) 320, Value.int 20 0, Value.int 0 0, Value.int 0 0, Value.int 0 0, Value.int 0 0, Value.ref 110, Value.bool Bool.false, Value.int 181 0, Value.ref 111, Value.none, Value.none, Value.none, Value.none, Value.int 321 0, Value.int 20 0, Value.str (q1) 322] }
noncomputable def ob234 (P : Params) : Obj := { cls := Value.type "function", data := Data.func { name := q36, qualname := q36, params := fArgs (sA 16), body := FuncBody.stmts (fBody (sA 16)), scope := fScope (sA 16), globals := 3, closure := [], defaults := Value.none, kwdefaults := Value.none, pyModule := Value.str (q31) 368, code := Value.ref 175 } }
noncomputable def ob192 (P : Params) : Obj := { cls := Value.none, data := Data.fields #[] }
noncomputable def ob226 (P : Params) : Obj := { cls := Value.type "code", data := Data.fields #[Value.str (q35) 386, Value.str (q35) 387, Value.str (q1) 388, Value.int 44 0, Value.int 2 0, Value.int 0 0, Value.int 0 0, Value.int 3 0, Value.ref 163, Value.bool Bool.true, Value.int 181 0, Value.ref 164, Value.none, Value.ref 165, Value.ref 166, Value.ref 167, Value.int 391 0, Value.int 44 0, Value.str (q1) 392] }
noncomputable def ob208 (P : Params) : Obj := { cls := Value.type "tuple", data := Data.seq #[] }
noncomputable def ob176 (P : Params) : Obj := { cls := Value.type "function", data := Data.func { name := q40, qualname := q46, params := fArgs (mA 11 0), body := FuncBody.stmts (fBody (mA 11 0)), scope := fScope (mA 11 0), globals := 3, closure := [], defaults := Value.none, kwdefaults := Value.none, pyModule := Value.str (q24) 314, code := Value.ref 119 } }
noncomputable def ob220 (P : Params) : Obj := { cls := Value.none, data := Data.fields #[Value.int 2 0, Value.int 0 0, Value.ref 20, Value.int 4 0, Value.int 0 0, Value.ref 33, Value.int 6 0, Value.int 0 0, Value.ref 45, Value.int 8 0, Value.int 0 0, Value.ref 57, Value.int 10 0, Value.int 0 0, Value.ref 69, Value.int 12 0, Value.int 0 0, Value.ref 81, Value.int 14 0, Value.int 0 0, Value.ref 93, Value.int 17 0, Value.int 0 0, Value.ref 105, Value.int 20 0, Value.int 0 0, Value.ref 112, Value.int 38 0, Value.int 0 0, Value.ref 154, Value.int 40 0, Value.int 0 0, Value.ref 161, Value.int 44 0, Value.int 0 0, Value.ref 168, Value.int 49 0, Value.int 0 0, Value.ref 175, Value.int 57 0, Value.int 0 0, Value.ref 180] }
noncomputable def ob188 (P : Params) : Obj := { cls := Value.none, data := Data.func { name := q41, qualname := q50, params := fArgs (mA 11 2), body := FuncBody.stmts (fBody (mA 11 2)), scope := fScope (mA 11 2), globals := 0, closure := [], defaults := Value.none, kwdefaults := Value.none } }
noncomputable def ob222 (P : Params) : Obj := { cls := Value.none, data := Data.fields #[] }
noncomputable def ob204 (P : Params) : Obj := { cls := Value.type "builtin_function_or_method", data := Data.fields #[Value.builtin "object.__init_subclass__", Value.ref 144] }
noncomputable def ob172 (P : Params) : Obj := { cls := Value.type "tuple", data := Data.seq #[Value.str (q48) 331] }
noncomputable def ob238 (P : Params) : Obj := { cls := Value.type "code", data := Data.fields #[Value.str (q37) 403, Value.str (q37) 404, Value.str (q1) 405, Value.int 57 0, Value.int 1 0, Value.int 0 0, Value.int 0 0, Value.int 3 0, Value.ref 177, Value.bool Bool.true, Value.int 181 0, Value.ref 178, Value.none, Value.none, Value.none, Value.ref 179, Value.int 406 0, Value.int 57 0, Value.str (q1) 407] }
noncomputable def ob196 (P : Params) : Obj := { cls := Value.type "code", data := Data.fields #[Value.str (q42) 352, Value.str (q47) 353, Value.str (q1) 354, Value.int 35 0, Value.int 1 0, Value.int 0 0, Value.int 0 0, Value.int 3 0, Value.ref 135, Value.bool Bool.true, Value.int 181 0, Value.ref 136, Value.none, Value.ref 137, Value.ref 138, Value.ref 139, Value.int 356 0, Value.int 35 0, Value.str (q1) 357] }
noncomputable def ob164 (P : Params) : Obj := { cls := Value.type "builtin_function_or_method", data := Data.fields #[Value.builtin "type.__prepare__", Value.type "type"] }
noncomputable def ob230 (P : Params) : Obj := { cls := Value.type "tuple", data := Data.seq #[Value.str (q51) 397, Value.str (q52) 398, Value.str (q53) 399] }
noncomputable def ob212 (P : Params) : Obj := { cls := Value.type "tuple", data := Data.seq #[] }
noncomputable def ob180 (P : Params) : Obj := { cls := Value.type "tuple", data := Data.seq #[] }
noncomputable def ob186 (P : Params) : Obj := { cls := Value.type "tuple", data := Data.seq #[Value.str (q48) 346, Value.str (q54) 347, Value.str (q49) 348] }
noncomputable def ob218 (P : Params) : Obj := { cls := Value.type "function", data := Data.func { name := q34, qualname := q34, params := fArgs (sA 14), body := FuncBody.stmts (fBody (sA 14)), scope := fScope (sA 14), globals := 3, closure := [], defaults := Value.none, kwdefaults := Value.none, pyModule := Value.str (q31) 368, code := Value.ref 161 } }
noncomputable def ob202 (P : Params) : Obj := { cls := Value.type "getset_descriptor", data := Data.fields #[Value.str (q18) 363, Value.ref 144, Value.builtin "ExceptionGroup.__weakref__", Value.none] }
noncomputable def ob170 (P : Params) : Obj := { cls := Value.type "tuple", data := Data.seq #[] }
noncomputable def ob236 (P : Params) : Obj := { cls := Value.none, data := Data.fields #[] }
noncomputable def ob194 (P : Params) : Obj := { cls := Value.type "tuple", data := Data.seq #[] }
noncomputable def ob228 (P : Params) : Obj := { cls := Value.type "tuple", data := Data.seq #[] }
noncomputable def ob210 (P : Params) : Obj := { cls := Value.type "code", data := Data.fields #[Value.str (q33) 370, Value.str (q33) 371, Value.str (q1) 372, Value.int 38 0, Value.int 2 0, Value.int 0 0, Value.int 0 0, Value.int 3 0, Value.ref 149, Value.bool Bool.true, Value.int 181 0, Value.ref 150, Value.none, Value.ref 151, Value.ref 152, Value.ref 153, Value.int 375 0, Value.int 38 0, Value.str (q1) 376] }
noncomputable def ob178 (P : Params) : Obj := { cls := Value.none, data := Data.fields #[] }
noncomputable def ob190 (P : Params) : Obj := { cls := Value.type "function", data := Data.func { name := q41, qualname := q50, params := fArgs (mA 11 2), body := FuncBody.stmts (fBody (mA 11 2)), scope := fScope (mA 11 2), globals := 3, closure := [], defaults := Value.none, kwdefaults := Value.none, pyModule := Value.str (q24) 314, code := Value.ref 133 } }
noncomputable def ob224 (P : Params) : Obj := { cls := Value.type "tuple", data := Data.seq #[] }
noncomputable def ob206 (P : Params) : Obj := { cls := Value.none, data := Data.fields #[] }
noncomputable def ob174 (P : Params) : Obj := { cls := Value.none, data := Data.func { name := q40, qualname := q46, params := fArgs (mA 11 0), body := FuncBody.stmts (fBody (mA 11 0)), scope := fScope (mA 11 0), globals := 0, closure := [], defaults := Value.none, kwdefaults := Value.none } }
noncomputable def ob198 (P : Params) : Obj := { cls := Value.type "tuple", data := Data.seq #[Value.str (q55) 359] }
noncomputable def ob166 (P : Params) : Obj := { cls := Value.type "tuple", data := Data.seq #[] }
noncomputable def ob232 (P : Params) : Obj := { cls := Value.none, data := Data.func { name := q36, qualname := q36, params := fArgs (sA 16), body := FuncBody.stmts (fBody (sA 16)), scope := fScope (sA 16), globals := 0, closure := [], defaults := Value.none, kwdefaults := Value.none } }
noncomputable def ob214 (P : Params) : Obj := { cls := Value.type "tuple", data := Data.seq #[Value.str (q44) 381, Value.str (q56) 382] }
noncomputable def ob182 (P : Params) : Obj := { cls := Value.type "code", data := Data.fields #[Value.str (q38) 335, Value.str (q39) 336, Value.str (q1) 337, Value.int 25 0, Value.int 2 0, Value.int 0 0, Value.int 0 0, Value.int 3 0, Value.ref 121, Value.bool Bool.true, Value.int 181 0, Value.ref 122, Value.none, Value.ref 123, Value.ref 124, Value.ref 125, Value.int 340 0, Value.int 25 0, Value.str (q1) 341] }
noncomputable def heapA (P : Params) : Heap := ⟨⟨[boot_o_0 P, boot_o_1 P, boot_o_2 P, boot_o_3 P, boot_o_4 P, boot_o_5 P, boot_o_6 P, boot_o_7 P, boot_o_8 P, boot_o_9 P, boot_o_10 P, ob43 P, ob44 P, ob45 P, ob46 P]⟩, {}⟩
noncomputable def tr47 (P : Params) : BT := .node (boot_o_0 P) (.node (boot_o_1 P) (.node (boot_o_3 P) (.node (boot_o_7 P) .nil .nil) (.node (ob43 P) .nil .nil)) (.node (boot_o_5 P) (.node (boot_o_9 P) .nil .nil) (.node (ob45 P) .nil .nil))) (.node (boot_o_2 P) (.node (boot_o_4 P) (.node (boot_o_8 P) .nil .nil) (.node (ob44 P) .nil .nil)) (.node (boot_o_6 P) (.node (boot_o_10 P) .nil .nil) (.node (ob46 P) .nil .nil)))
noncomputable def tr78 (P : Params) : BT := .node (boot_o_0 P) (.node (boot_o_1 P) (.node (ob64 P) (.node (boot_o_7 P) (.node (ob51 P) (.node (ob70 P) .nil .nil) .nil) (.node (ob59 P) (.node (ob78 P) .nil .nil) .nil)) (.node (ob43 P) (.node (ob55 P) (.node (ob74 P) .nil .nil) .nil) (.node (ob63 P) .nil .nil))) (.node (boot_o_5 P) (.node (boot_o_9 P) (.node (ob53 P) (.node (ob72 P) .nil .nil) .nil) (.node (ob61 P) .nil .nil)) (.node (ob45 P) (.node (ob57 P) (.node (ob76 P) .nil .nil) .nil) (.node (ob68 P) .nil .nil)))) (.node (boot_o_2 P) (.node (boot_o_4 P) (.node (boot_o_8 P) (.node (ob52 P) (.node (ob71 P) .nil .nil) .nil) (.node (ob66 P) .nil .nil)) (.node (ob65 P) (.node (ob56 P) (.node (ob75 P) .nil .nil) .nil) (.node (ob67 P) .nil .nil))) (.node (boot_o_6 P) (.node (boot_o_10 P) (.node (ob54 P) (.node (ob73 P) .nil .nil) .nil) (.node (ob62 P) .nil .nil)) (.node (ob46 P) (.node (ob58 P) (.node (ob77 P) .nil .nil) .nil) (.node (ob69 P) .nil .nil))))
noncomputable def tr108 (P : Params) : BT := .node (boot_o_0 P) (.node (boot_o_1 P) (.node (ob94 P) (.node (boot_o_7 P) (.node (ob51 P) (.node (ob70 P) (.node (ob108 P) .nil .nil) .nil) (.node (ob89 P) .nil .nil)) (.node (ob59 P) (.node (ob78 P) .nil .nil) (.node (ob100 P) .nil .nil))) (.node (ob43 P) (.node (ob55 P) (.node (ob74 P) .nil .nil) (.node (ob93 P) .nil .nil)) (.node (ob63 P) (.node (ob85 P) .nil .nil) (.node (ob104 P) .nil .nil)))) (.node (boot_o_5 P) (.node (boot_o_9 P) (.node (ob53 P) (.node (ob72 P) .nil .nil) (.node (ob91 P) .nil .nil)) (.node (ob61 P) (.node (ob83 P) .nil .nil) (.node (ob102 P) .nil .nil))) (.node (ob45 P) (.node (ob57 P) (.node (ob76 P) .nil .nil) (.node (ob98 P) .nil .nil)) (.node (ob68 P) (.node (ob87 P) .nil .nil) (.node (ob106 P) .nil .nil))))) (.node (boot_o_2 P) (.node (boot_o_4 P) (.node (boot_o_8 P) (.node (ob52 P) (.node (ob71 P) .nil .nil) (.node (ob90 P) .nil .nil)) (.node (ob96 P) (.node (ob82 P) .nil .nil) (.node (ob101 P) .nil .nil))) (.node (ob95 P) (.node (ob56 P) (.node (ob75 P) .nil .nil) (.node (ob97 P) .nil .nil)) (.node (ob67 P) (.node (ob86 P) .nil .nil) (.node (ob105 P) .nil .nil)))) (.node (boot_o_6 P) (.node (boot_o_10 P) (.node (ob54 P) (.node (ob73 P) .nil .nil) (.node (ob92 P) .nil .nil)) (.node (ob62 P) (.node (ob84 P) .nil .nil) (.node (ob103 P) .nil .nil))) (.node (ob46 P) (.node (ob58 P) (.node (ob77 P) .nil .nil) (.node (ob99 P) .nil .nil)) (.node (ob69 P) (.node (ob88 P) .nil .nil) (.node (ob107 P) .nil .nil)))))
noncomputable def tr138 (P : Params) : BT := .node (boot_o_0 P) (.node (boot_o_1 P) (.node (ob124 P) (.node (boot_o_7 P) (.node (ob51 P) (.node (ob70 P) (.node (ob108 P) .nil .nil) .nil) (.node (ob89 P) (.node (ob130 P) .nil .nil) .nil)) (.node (ob59 P) (.node (ob78 P) (.node (ob119 P) .nil .nil) .nil) (.node (ob100 P) (.node (ob138 P) .nil .nil) .nil))) (.node (ob43 P) (.node (ob55 P) (.node (ob74 P) (.node (ob115 P) .nil .nil) .nil) (.node (ob93 P) (.node (ob134 P) .nil .nil) .nil)) (.node (ob63 P) (.node (ob85 P) (.node (ob123 P) .nil .nil) .nil) (.node (ob104 P) .nil .nil)))) (.node (boot_o_5 P) (.node (boot_o_9 P) (.node (ob53 P) (.node (ob72 P) (.node (ob113 P) .nil .nil) .nil) (.node (ob91 P) (.node (ob132 P) .nil .nil) .nil)) (.node (ob61 P) (.node (ob83 P) (.node (ob121 P) .nil .nil) .nil) (.node (ob102 P) .nil .nil))) (.node (ob45 P) (.node (ob57 P) (.node (ob76 P) (.node (ob117 P) .nil .nil) .nil) (.node (ob98 P) (.node (ob136 P) .nil .nil) .nil)) (.node (ob68 P) (.node (ob87 P) (.node (ob128 P) .nil .nil) .nil) (.node (ob106 P) .nil .nil))))) (.node (boot_o_2 P) (.node (boot_o_4 P) (.node (boot_o_8 P) (.node (ob52 P) (.node (ob71 P) (.node (ob112 P) .nil .nil) .nil) (.node (ob90 P) (.node (ob131 P) .nil .nil) .nil)) (.node (ob126 P) (.node (ob82 P) (.node (ob120 P) .nil .nil) .nil) (.node (ob101 P) .nil .nil))) (.node (ob125 P) (.node (ob56 P) (.node (ob75 P) (.node (ob116 P) .nil .nil) .nil) (.node (ob97 P) (.node (ob135 P) .nil .nil) .nil)) (.node (ob67 P) (.node (ob86 P) (.node (ob127 P) .nil .nil) .nil) (.node (ob105 P) .nil .nil)))) (.node (boot_o_6 P) (.node (boot_o_10 P) (.node (ob54 P) (.node (ob73 P) (.node (ob114 P) .nil .nil) .nil) (.node (ob92 P) (.node (ob133 P) .nil .nil) .nil)) (.node (ob62 P) (.node (ob84 P) (.node (ob122 P) .nil .nil) .nil) (.node (ob103 P) .nil .nil))) (.node (ob46 P) (.node (ob58 P) (.node (ob77 P) (.node (ob118 P) .nil .nil) .nil) (.node (ob99 P) (.node (ob137 P) .nil .nil) .nil)) (.node (ob69 P) (.node (ob88 P) (.node (ob129 P) .nil .nil) .nil) (.node (ob107 P) .nil .nil)))))
noncomputable def tr160 (P : Params) : BT := .node (boot_o_0 P) (.node (boot_o_1 P) (.node (ob139 P) (.node (boot_o_7 P) (.node (ob51 P) (.node (ob70 P) (.node (ob108 P) .nil .nil) (.node (ob149 P) .nil .nil)) (.node (ob89 P) (.node (ob130 P) .nil .nil) .nil)) (.node (ob59 P) (.node (ob78 P) (.node (ob119 P) .nil .nil) (.node (ob157 P) .nil .nil)) (.node (ob100 P) (.node (ob138 P) .nil .nil) .nil))) (.node (ob43 P) (.node (ob55 P) (.node (ob74 P) (.node (ob115 P) .nil .nil) (.node (ob153 P) .nil .nil)) (.node (ob93 P) (.node (ob134 P) .nil .nil) .nil)) (.node (ob63 P) (.node (ob85 P) (.node (ob123 P) .nil .nil) .nil) (.node (ob104 P) (.node (ob145 P) .nil .nil) .nil)))) (.node (boot_o_5 P) (.node (boot_o_9 P) (.node (ob53 P) (.node (ob72 P) (.node (ob113 P) .nil .nil) (.node (ob151 P) .nil .nil)) (.node (ob91 P) (.node (ob132 P) .nil .nil) .nil)) (.node (ob61 P) (.node (ob83 P) (.node (ob121 P) .nil .nil) (.node (ob159 P) .nil .nil)) (.node (ob102 P) (.node (ob143 P) .nil .nil) .nil))) (.node (ob45 P) (.node (ob57 P) (.node (ob76 P) (.node (ob117 P) .nil .nil) (.node (ob155 P) .nil .nil)) (.node (ob98 P) (.node (ob136 P) .nil .nil) .nil)) (.node (ob68 P) (.node (ob87 P) (.node (ob128 P) .nil .nil) .nil) (.node (ob106 P) (.node (ob147 P) .nil .nil) .nil))))) (.node (boot_o_2 P) (.node (boot_o_4 P) (.node (boot_o_8 P) (.node (ob52 P) (.node (ob71 P) (.node (ob112 P) .nil .nil) (.node (ob150 P) .nil .nil)) (.node (ob90 P) (.node (ob131 P) .nil .nil) .nil)) (.node (ob141 P) (.node (ob82 P) (.node (ob120 P) .nil .nil) (.node (ob158 P) .nil .nil)) (.node (ob101 P) (.node (ob142 P) .nil .nil) .nil))) (.node (ob140 P) (.node (ob56 P) (.node (ob75 P) (.node (ob116 P) .nil .nil) (.node (ob154 P) .nil .nil)) (.node (ob97 P) (.node (ob135 P) .nil .nil) .nil)) (.node (ob67 P) (.node (ob86 P) (.node (ob127 P) .nil .nil) .nil) (.node (ob105 P) (.node (ob146 P) .nil .nil) .nil)))) (.node (boot_o_6 P) (.node (boot_o_10 P) (.node (ob54 P) (.node (ob73 P) (.node (ob114 P) .nil .nil) (.node (ob152 P) .nil .nil)) (.node (ob92 P) (.node (ob133 P) .nil .nil) .nil)) (.node (ob62 P) (.node (ob84 P) (.node (ob122 P) .nil .nil) (.node (ob160 P) .nil .nil)) (.node (ob103 P) (.node (ob144 P) .nil .nil) .nil))) (.node (ob46 P) (.node (ob58 P) (.node (ob77 P) (.node (ob118 P) .nil .nil) (.node (ob156 P) .nil .nil)) (.node (ob99 P) (.node (ob137 P) .nil .nil) .nil)) (.node (ob69 P) (.node (ob88 P) (.node (ob129 P) .nil .nil) .nil) (.node (ob107 P) (.node (ob148 P) .nil .nil) .nil)))))
noncomputable def tr239 (P : Params) : BT := .node (boot_o_0 P) (.node (boot_o_1 P) (.node (ob219 P) (.node (boot_o_7 P) (.node (ob51 P) (.node (ob70 P) (.node (ob108 P) (.node (ob183 P) .nil .nil) .nil) (.node (ob149 P) (.node (ob215 P) .nil .nil) .nil)) (.node (ob89 P) (.node (ob130 P) (.node (ob199 P) .nil .nil) .nil) (.node (ob167 P) (.node (ob233 P) .nil .nil) .nil))) (.node (ob59 P) (.node (ob78 P) (.node (ob119 P) (.node (ob191 P) .nil .nil) .nil) (.node (ob157 P) (.node (ob225 P) .nil .nil) .nil)) (.node (ob100 P) (.node (ob138 P) (.node (ob207 P) .nil .nil) .nil) (.node (ob175 P) .nil .nil)))) (.node (ob43 P) (.node (ob55 P) (.node (ob74 P) (.node (ob115 P) (.node (ob187 P) .nil .nil) .nil) (.node (ob153 P) (.node (ob221 P) .nil .nil) .nil)) (.node (ob93 P) (.node (ob134 P) (.node (ob203 P) .nil .nil) .nil) (.node (ob171 P) (.node (ob237 P) .nil .nil) .nil))) (.node (ob63 P) (.node (ob85 P) (.node (ob123 P) (.node (ob195 P) .nil .nil) .nil) (.node (ob163 P) (.node (ob229 P) .nil .nil) .nil)) (.node (ob104 P) (.node (ob145 P) (.node (ob211 P) .nil .nil) .nil) (.node (ob179 P) .nil .nil))))) (.node (boot_o_5 P) (.node (boot_o_9 P) (.node (ob53 P) (.node (ob72 P) (.node (ob113 P) (.node (ob185 P) .nil .nil) .nil) (.node (ob151 P) (.node (ob217 P) .nil .nil) .nil)) (.node (ob91 P) (.node (ob132 P) (.node (ob201 P) .nil .nil) .nil) (.node (ob169 P) (.node (ob235 P) .nil .nil) .nil))) (.node (ob61 P) (.node (ob83 P) (.node (ob121 P) (.node (ob193 P) .nil .nil) .nil) (.node (ob159 P) (.node (ob227 P) .nil .nil) .nil)) (.node (ob102 P) (.node (ob143 P) (.node (ob209 P) .nil .nil) .nil) (.node (ob177 P) .nil .nil)))) (.node (ob45 P) (.node (ob57 P) (.node (ob76 P) (.node (ob117 P) (.node (ob189 P) .nil .nil) .nil) (.node (ob155 P) (.node (ob223 P) .nil .nil) .nil)) (.node (ob98 P) (.node (ob136 P) (.node (ob205 P) .nil .nil) .nil) (.node (ob173 P) (.node (ob239 P) .nil .nil) .nil))) (.node (ob68 P) (.node (ob87 P) (.node (ob128 P) (.node (ob197 P) .nil .nil) .nil) (.node (ob165 P) (.node (ob231 P) .nil .nil) .nil)) (.node (ob106 P) (.node (ob147 P) (.node (ob213 P) .nil .nil) .nil) (.node (ob181 P) .nil .nil)))))) (.node (boot_o_2 P) (.node (boot_o_4 P) (.node (boot_o_8 P) (.node (ob52 P) (.node (ob71 P) (.node (ob112 P) (.node (ob184 P) .nil .nil) .nil) (.node (ob150 P) (.node (ob216 P) .nil .nil) .nil)) (.node (ob90 P) (.node (ob131 P) (.node (ob200 P) .nil .nil) .nil) (.node (ob168 P) (.node (ob234 P) .nil .nil) .nil))) (.node (ob141 P) (.node (ob82 P) (.node (ob120 P) (.node (ob192 P) .nil .nil) .nil) (.node (ob158 P) (.node (ob226 P) .nil .nil) .nil)) (.node (ob101 P) (.node (ob142 P) (.node (ob208 P) .nil .nil) .nil) (.node (ob176 P) .nil .nil)))) (.node (ob220 P) (.node (ob56 P) (.node (ob75 P) (.node (ob116 P) (.node (ob188 P) .nil .nil) .nil) (.node (ob154 P) (.node (ob222 P) .nil .nil) .nil)) (.node (ob97 P) (.node (ob135 P) (.node (ob204 P) .nil .nil) .nil) (.node (ob172 P) (.node (ob238 P) .nil .nil) .nil))) (.node (ob67 P) (.node (ob86 P) (.node (ob127 P) (.node (ob196 P) .nil .nil) .nil) (.node (ob164 P) (.node (ob230 P) .nil .nil) .nil)) (.node (ob105 P) (.node (ob146 P) (.node (ob212 P) .nil .nil) .nil) (.node (ob180 P) .nil .nil))))) (.node (boot_o_6 P) (.node (boot_o_10 P) (.node (ob54 P) (.node (ob73 P) (.node (ob114 P) (.node (ob186 P) .nil .nil) .nil) (.node (ob152 P) (.node (ob218 P) .nil .nil) .nil)) (.node (ob92 P) (.node (ob133 P) (.node (ob202 P) .nil .nil) .nil) (.node (ob170 P) (.node (ob236 P) .nil .nil) .nil))) (.node (ob62 P) (.node (ob84 P) (.node (ob122 P) (.node (ob194 P) .nil .nil) .nil) (.node (ob160 P) (.node (ob228 P) .nil .nil) .nil)) (.node (ob103 P) (.node (ob144 P) (.node (ob210 P) .nil .nil) .nil) (.node (ob178 P) .nil .nil)))) (.node (ob46 P) (.node (ob58 P) (.node (ob77 P) (.node (ob118 P) (.node (ob190 P) .nil .nil) .nil) (.node (ob156 P) (.node (ob224 P) .nil .nil) .nil)) (.node (ob99 P) (.node (ob137 P) (.node (ob206 P) .nil .nil) .nil) (.node (ob174 P) .nil .nil))) (.node (ob69 P) (.node (ob88 P) (.node (ob129 P) (.node (ob198 P) .nil .nil) .nil) (.node (ob166 P) (.node (ob232 P) .nil .nil) .nil)) (.node (ob107 P) (.node (ob148 P) (.node (ob214 P) .nil .nil) .nil) (.node (ob182 P) .nil .nil))))))
noncomputable def Kq (P : Params) : Frag := [(2, boot_o_2 P), (3, ob219 P), (6, boot_o_6 P), (15, ob51 P), (22, ob58 P), (23, ob59 P), (24, ob141 P), (25, ob61 P), (28, ob67 P), (35, ob74 P), (36, ob75 P), (37, ob76 P), (40, ob82 P), (47, ob89 P), (48, ob90 P), (49, ob91 P), (52, ob97 P), (59, ob104 P), (60, ob105 P), (61, ob106 P), (64, ob112 P), (71, ob119 P), (72, ob120 P), (73, ob121 P), (76, ob127 P), (83, ob134 P), (84, ob135 P), (85, ob136 P), (88, ob142 P), (95, ob149 P), (96, ob150 P), (97, ob151 P), (100, ob154 P), (102, ob156 P), (103, ob157 P), (105, ob159 P), (106, ob160 P), (114, ob170 P), (116, ob172 P), (117, ob173 P), (119, ob175 P), (120, ob176 P), (121, ob177 P), (123, ob179 P), (124, ob180 P), (126, ob182 P), (127, ob183 P), (128, ob184 P), (130, ob186 P), (131, ob187 P), (133, ob189 P), (134, ob190 P), (135, ob191 P), (137, ob193 P), (138, ob194 P), (140, ob196 P), (141, ob197 P), (142, ob198 P), (143, ob199 P), (144, ob200 P), (145, ob201 P), (146, ob202 P), (149, ob205 P), (151, ob207 P), (152, ob208 P), (154, ob210 P), (155, ob211 P), (156, ob212 P), (158, ob214 P), (159, ob215 P), (161, ob217 P), (162, ob218 P), (163, ob221 P), (165, ob223 P), (166, ob224 P), (168, ob226 P), (169, ob227 P), (170, ob228 P), (172, ob230 P), (173, ob231 P), (175, ob233 P), (176, ob234 P), (177, ob235 P), (180, ob238 P), (181, ob239 P)]
noncomputable def asq : List Addr := [2, 3, 6, 15, 22, 23, 24, 25, 28, 35, 36, 37, 40, 47, 48, 49, 52, 59, 60, 61, 64, 71, 72, 73, 76, 83, 84, 85, 88, 95, 96, 97, 100, 102, 103, 105, 106, 114, 116, 117, 119, 120, 121, 123, 124, 126, 127, 128, 130, 131, 133, 134, 135, 137, 138, 140, 141, 142, 143, 144, 145, 146, 149, 151, 152, 154, 155, 156, 158, 159, 161, 162, 163, 165, 166, 168, 169, 170, 172, 173, 175, 176, 177, 180, 181]
noncomputable def heapE (P : Params) : Heap := absHeap (tr239 P) 182 {}
section
variable (w : World) (os : OsState)
theorem pre_q : topGo treeTable pq w 11 (some (.ref 6)) 12 ⟨boot_heap w.params, ⟨[]⟩, boot_drawn, boot_toks, os⟩ (topStub pq) = some (⟨heapA w.params, ⟨[]⟩, {}, 187, os⟩, ⟨denote treeTable cdq, cdq, p0q, [topFrame p0q]⟩) := go_q (by kernel_rfl)
theorem blk_q : segRun treeTable pq w 11 (some (.ref 6)) 1 1 ⟨heapA w.params, ⟨[]⟩, {}, 187, os⟩ (blockOf bq envq cdq p0q [topFrame p0q]) = some (.next, SharedT.abs ⟨tr47 w.params, 15, {}, ⟨[]⟩, {}, 187, os⟩, cdq, p0q) := seg_q (by kernel_rfl)
theorem pc0_q : segRunT treeTable pq w 11 (some (.ref 6)) 1 409 ⟨tr47 w.params, 15, {}, ⟨[]⟩, {}, 187, os⟩ (piecesOf (bq.take 3) envq cdq p0q [topFrame p0q]) = some (.next, ⟨tr78 w.params, 40, {}, ⟨[]⟩, {}, 223, os⟩, cdq, ⟨4, 0, 5, 8⟩) := segT_q (by kernel_rfl)
theorem pc1_q : segRunT treeTable pq w 11 (some (.ref 6)) 1 427 ⟨tr78 w.params, 40, {}, ⟨[]⟩, {}, 223, os⟩ (piecesOf ((bq.drop 3).take 2) envq cdq ⟨4, 0, 5, 8⟩ [topFrame p0q]) = some (.next, ⟨tr108 w.params, 64, {}, ⟨[]⟩, {}, 255, os⟩, cdq, ⟨8, 0, 9, 8⟩) := segT_q (by kernel_rfl)
theorem pc2_q : segRunT treeTable pq w 11 (some (.ref 6)) 1 427 ⟨tr108 w.params, 64, {}, ⟨[]⟩, {}, 255, os⟩ (piecesOf (((bq.drop 3).drop 2).take 2) envq cdq ⟨8, 0, 9, 8⟩ [topFrame p0q]) = some (.next, ⟨tr138 w.params, 88, {}, ⟨[]⟩, {}, 287, os⟩, cdq, ⟨12, 0, 13, 8⟩) := segT_q (by kernel_rfl)
theorem pc3_q : segRunT treeTable pq w 11 (some (.ref 6)) 1 263 ⟨tr138 w.params, 88, {}, ⟨[]⟩, {}, 287, os⟩ (piecesOf ((((bq.drop 3).drop 2).drop 2).take 4) envq cdq ⟨12, 0, 13, 8⟩ [topFrame p0q]) = some (.next, ⟨tr160 w.params, 107, {}, ⟨[]⟩, {}, 316, os⟩, cdq, ⟨19, 0, 19, 8⟩) := segT_q (by kernel_rfl)
theorem pc4_q : segRunT treeTable pq w 11 (some (.ref 6)) 1 474 ⟨tr160 w.params, 107, {}, ⟨[]⟩, {}, 316, os⟩ (piecesOf ((((bq.drop 3).drop 2).drop 2).drop 4) envq cdq ⟨19, 0, 19, 8⟩ [topFrame p0q]) = some (.next, ⟨tr239 w.params, 182, {}, ⟨[]⟩, {}, 409, os⟩, cdq, ⟨57, 0, 85, 137⟩) := segT_q (by kernel_rfl)
theorem fin_q : topRun treeTable pq w 11 (some (.ref 6)) 2 (SharedT.abs ⟨tr239 w.params, 182, {}, ⟨[]⟩, {}, 409, os⟩) ⟨doneF .next, cdq, ⟨57, 0, 85, 137⟩, [topFrame p0q]⟩ = some ⟨heapE w.params, ⟨[]⟩, {}, 409, os⟩ := top_q (by kernel_rfl)
theorem rest_q : topRun treeTable pq w 11 (some (.ref 6)) (409 + (427 + (427 + (263 + (474 + (2)))))) (SharedT.abs ⟨tr47 w.params, 15, {}, ⟨[]⟩, {}, 187, os⟩) (restOf bq envq cdq p0q [topFrame p0q]) = some ⟨heapE w.params, ⟨[]⟩, {}, 409, os⟩ := piece_cut (segRun_of (pc0_q w os)) (piece_cut (segRun_of (pc1_q w os)) (piece_cut (segRun_of (pc2_q w os)) (piece_cut (segRun_of (pc3_q w os)) (piece_last (segRun_of (pc4_q w os)) (fin_q w os)))))
theorem run_q : topRun treeTable pq w 11 (some (.ref 6)) (12 + (1 + (409 + (427 + (427 + (263 + (474 + (2)))))))) ⟨boot_heap w.params, ⟨[]⟩, boot_drawn, boot_toks, os⟩ (topStub pq) = some ⟨heapE w.params, ⟨[]⟩, {}, 409, os⟩ :=
  go_top (pre_q w os) (piece_block (blk_q w os) (rest_q w os))
end
theorem opn_q : ∀ w : World, (fencedOpening treeTable pq w 4116).map (fun s => (s.heap, s.gens, s.drawn, s.toks)) = some (boot_heap w.params, ⟨[]⟩, boot_drawn, boot_toks) :=
  boot_open (by kernel_rfl) (by decide) (fun s => by kernel_rfl)
theorem size_q : ∀ w : World, ((boot_heap w.params).isNs mainGlobals && (⟨[]⟩ : Array GenState).size == 0, (boot_heap w.params).objs.size, (boot_heap w.params).nsMap mainGlobals "__annotations__") = (true, 11, (some (.ref 6))) := fun w => by kernel_rfl
noncomputable def vq : Program := { pq with main := { pq.main with body := [sA 1, sA 2, sA 3, sA 4, sA 5, sA 6, sA 7, sA 9, sA 11, sA 13, sA 14, sA 15, sA 16, sA 17] } }
section
variable (w : World) (os : OsState)
noncomputable abbrev sE : Shared := ⟨heapE w.params, ⟨[]⟩, {}, 409, os⟩
theorem l1 : staticsOk (importedModules pq.main.body) (boot_heap w.params) (heapE w.params) = true := by kernel_rfl
theorem l2 : namesBound pq (heapE w.params) = true := by kernel_rfl
theorem l3 : gensDone (sE w os) = true := by kernel_rfl
theorem l4 : laidKept (boot_heap w.params) (heapE w.params) = true := by kernel_rfl
theorem l5 : seen ((recsOf vq).map (·.name)) (ownsOf vq) [] { sE w os with gens := #[] } = expectedOf vq := by kernel_rfl
theorem l6 : (sE w os).heap.bltView = bltViewBooted := by kernel_rfl
noncomputable def xq (s : Shared) : Bool := xlAt vq [] s && recOk (RowW.records (OpenRow.toRowW (OpenLaw.row Challenge.rw_uf040019_01))) s
theorem l7 : ((sE w os).heap.keysOk (looseW vq []) ((recsOf vq).map (·.name)) ((litsOf vq).map (·.1)) ((clssOf vq (looseW vq [])).map (·.name)) && (sE w os).heap.accountedOkI (importedModules pq.main.body) && (sE w os).heap.isNs mainGlobals && (sE w os).heap.isNs builtinsNs && tablesOk vq (sE w os).heap && xq (sE w os) && (if true then (sE w os).gens.size == 0 else !leftWithCleanup (sE w os).gens)) = true := by kernel_rfl
theorem l8 : tabsOk vq (sE w os) = true := by kernel_rfl
theorem l9 : pinSeenD vq (drecsOf vq) (sE w os) = pinGoodD (drecsOf vq) := by kernel_rfl
theorem l10 : plainSeenE vq (looseW vq []) (sE w os) = plainGoodE vq (looseW vq []) := by kernel_rfl
theorem l11 : plainSeenD vq [] (sE w os) = plainGoodD vq [] := by kernel_rfl
theorem l12 : wideSeen vq (sE w os) = wideGood vq := by kernel_rfl
theorem l13 : clsSeenW vq [] (sE w os) = clsGoodW vq [] := by kernel_rfl
theorem l14 : asq.map (sE w os).heap.get? = (Kq w.params).map fun p => some p.2 := by kernel_rfl
theorem as_q (P : Params) : asq = (Kq P).map (·.1) := by kernel_rfl
end
noncomputable def Hq : Hook := kHook Kq asq as_q
theorem looks_q : ∀ w : World, (fun os => ((staticsOk (importedModules pq.main.body) (boot_heap w.params) (heapE w.params) && namesBound pq (heapE w.params) && gensDone ⟨heapE w.params, ⟨[]⟩, {}, 409, os⟩ && laidKept (boot_heap w.params) (heapE w.params)),
        openSeen vq [] (importedModules pq.main.body) xq true ⟨heapE w.params, ⟨[]⟩, {}, 409, os⟩, Hook.obs Hq ⟨heapE w.params, ⟨[]⟩, {}, 409, os⟩)) = fun _ => (true, openGood vq [], Hook.val Hq w) := fun w => funext fun os =>
  looks_pair (by rw [l1, l2, l3 w os, l4]; rfl) (looks_pair (looks_pair (l5 w os) (looks_pair (l6 w os) (looks_pair (l7 w os) (looks_pair (l8 w os) (looks_pair (l9 w os) (looks_pair (l10 w os) (looks_pair (l11 w os) (looks_pair (l12 w os) (l13 w os))))))))) (l14 w os))
theorem prog_q : (OpenLaw.row Challenge.rw_uf040019_01).prog = pq := pq_eq
theorem left_q : LeftO (OpenLaw.row Challenge.rw_uf040019_01).prog vq [] xq (Hook.obs Hq) (Hook.val Hq) 4116 := by
  rw [prog_q]
  exact LeftO.of_pieces opn_q size_q run_q (by decide) looks_q
noncomputable def dq : DefRec := ⟨Str.ofString "law", fArgs (sA 17), fBody (sA 17), fScope (sA 17), (sA 17).pos⟩
theorem dof_q : defOf vq (OpenLaw.row Challenge.rw_uf040019_01).name = some (dq, []) := by kernel_rfl
theorem dthe_q : (OpenLaw.row Challenge.rw_uf040019_01).prog.theDef (OpenLaw.row Challenge.rw_uf040019_01).name = some (dq.params, dq.body, dq.scope) := by kernel_rfl
theorem dkw_q : kwWritten? dq.params.kwonlyargs dq.params.kw_defaults = some [] := by kernel_rfl
theorem xl_q (s : Shared) (e : xq s = true) : XL vq [] (s.heap.nsMap mainGlobals) s.heap := xl_of s (Bool.and_eq_true_iff.mp e).1
theorem rec_q (s : Shared) (e : xq s = true) : RecFacts (OpenLaw.row Challenge.rw_uf040019_01).records s.heap := recFacts_of (Bool.and_eq_true_iff.mp e).2
theorem wr_q : (!(OpenLaw.row Challenge.rw_uf040019_01).writes || List.isEmpty (OpenLaw.row Challenge.rw_uf040019_01).records) = true := by kernel_rfl
theorem ch_q : (chainsOk vq && opensWell (OpenLaw.row Challenge.rw_uf040019_01).prog && (frees (OpenLaw.row Challenge.rw_uf040019_01).toRowW && (OpenLaw.row Challenge.rw_uf040019_01).within.isEmpty)) = true := by kernel_rfl
theorem bare_q : (OpenLaw.row Challenge.rw_uf040019_01).prog.bare := ⟨rfl, rfl, rfl, rfl, rfl, by decide +kernel⟩
theorem own_head (said : (OpenLaw.row Challenge.rw_uf040019_01).wellSaid = true) (hw : (OpenLaw.row Challenge.rw_uf040019_01).promised) (hc : WalkO vq [] (XL vq []) (Hook.says Hq) (OpenLaw.row Challenge.rw_uf040019_01).toRowW dq [] fun f vs => call f vs) : (OpenLaw.row Challenge.rw_uf040019_01).Holds :=
  PySem.W.holds_open left_q (Hook.of Hq) (Hook.keeps Hq) xl_q XL.keeps dof_q dthe_q dkw_q rec_q wr_q said ch_q bare_q hw hc
theorem law_ns (P : Params) : nsIn (Kq P) mainGlobals (Str.ofString "law") = some (some (.ref 181)) := by kernel_rfl
theorem law_at {w : World} {base : Heap} {p : Program} {loose : List Str} {mg mb : Str → Option Value} (X : (Kq w.params).In base) (T : TopRead p loose mg mb base) : mg (Str.ofString "law") = some (.ref 181) := mg_of X T.g (law_ns w.params)
theorem kq_of {w : World} {h : Heap} (Y : Hook.says Hq w h) : (Kq w.params).In h := Y
end Mine

set_option autoImplicit false
namespace Mine
set_option linter.unusedVariables false
set_option maxRecDepth 100000
set_option maxHeartbeats 4000000
open PySem PySem.W PySem.Calls PyProof.Rows

noncomputable def b_Post___init__ : List S := [
  .setattr (.loc "self" ⟨23, 8, 23, 12⟩) "rows" (.list [] ⟨23, 20, 23, 22⟩) ⟨23, 8, 23, 17⟩ ⟨23, 8, 23, 22⟩]
noncomputable def p_Post___init__ : List String := ["self"]
noncomputable def b_Post_put : List S := [
  .expr (.meth (.attr (.loc "self" ⟨26, 8, 26, 12⟩) "rows" ⟨26, 8, 26, 17⟩) "append" [.loc "row" ⟨26, 25, 26, 28⟩] ⟨26, 8, 26, 24⟩ ⟨26, 8, 26, 29⟩) ⟨26, 8, 26, 29⟩]
noncomputable def p_Post_put : List String := ["self", "row"]
noncomputable def b_Post_take : List S := [
  .ite (.not (.call "is_from" [.loc "place" ⟨29, 23, 29, 28⟩, .int 0 ⟨29, 30, 29, 31⟩, .bin .Sub (.bltn "len" [.attr (.loc "self" ⟨29, 37, 29, 41⟩) "rows" ⟨29, 37, 29, 46⟩] ⟨29, 33, 29, 36⟩ ⟨29, 33, 29, 47⟩) (.int 1 ⟨29, 50, 29, 51⟩) ⟨29, 33, 29, 51⟩] ⟨29, 15, 29, 22⟩ ⟨29, 15, 29, 52⟩) ⟨29, 11, 29, 52⟩) [
    .raise "NoPlace" "no such place" ⟨30, 18, 30, 25⟩ ⟨30, 26, 30, 41⟩ ⟨30, 18, 30, 42⟩ ⟨30, 12, 30, 42⟩] [] ⟨29, 8, 30, 42⟩,
  .assign "row" (.sub (.attr (.loc "self" ⟨31, 14, 31, 18⟩) "rows" ⟨31, 14, 31, 23⟩) (.loc "place" ⟨31, 24, 31, 29⟩) ⟨31, 14, 31, 30⟩) ⟨31, 8, 31, 11⟩ ⟨31, 8, 31, 30⟩,
  .setattr (.loc "self" ⟨32, 8, 32, 12⟩) "rows" (.bin .Add (.sliceU (.attr (.loc "self" ⟨32, 20, 32, 24⟩) "rows" ⟨32, 20, 32, 29⟩) (.loc "place" ⟨32, 31, 32, 36⟩) ⟨32, 30, 32, 36⟩ ⟨32, 20, 32, 37⟩) (.sliceL (.attr (.loc "self" ⟨32, 40, 32, 44⟩) "rows" ⟨32, 40, 32, 49⟩) (.bin .Add (.loc "place" ⟨32, 50, 32, 55⟩) (.int 1 ⟨32, 58, 32, 59⟩) ⟨32, 50, 32, 59⟩) ⟨32, 50, 32, 60⟩ ⟨32, 40, 32, 61⟩) ⟨32, 20, 32, 61⟩) ⟨32, 8, 32, 17⟩ ⟨32, 8, 32, 61⟩,
  .ret (.loc "row" ⟨33, 15, 33, 18⟩) ⟨33, 8, 33, 18⟩]
noncomputable def p_Post_take : List String := ["self", "place"]
noncomputable def b_Post_under : List S := [
  .ret (.bltn "list" [.attr (.loc "self" ⟨36, 20, 36, 24⟩) "rows" ⟨36, 20, 36, 29⟩] ⟨36, 15, 36, 19⟩ ⟨36, 15, 36, 30⟩) ⟨36, 8, 36, 30⟩]
noncomputable def p_Post_under : List String := ["self"]
noncomputable def b_is_from : List S := [
  .ret (.and [.isi (.loc "thing" ⟨18, 22, 18, 27⟩) (.ty "int") ⟨18, 11, 18, 21⟩ ⟨18, 29, 18, 32⟩ ⟨18, 11, 18, 33⟩, .not (.isi (.loc "thing" ⟨18, 54, 18, 59⟩) (.ty "bool") ⟨18, 43, 18, 53⟩ ⟨18, 61, 18, 65⟩ ⟨18, 43, 18, 66⟩) ⟨18, 39, 18, 66⟩, .cmp2 .LtE .LtE (.loc "least" ⟨18, 73, 18, 78⟩) (.loc "thing" ⟨18, 82, 18, 87⟩) (.loc "most" ⟨18, 91, 18, 95⟩) ⟨18, 73, 18, 95⟩] ⟨18, 11, 18, 96⟩) ⟨18, 4, 18, 96⟩]
noncomputable def p_is_from : List String := ["thing", "least", "most"]
noncomputable def b__law_row_by : List S := [
  .ret (.tup [.sub (.list [.str "letter" ⟨39, 13, 39, 21⟩, .str "answer" ⟨39, 23, 39, 31⟩] ⟨39, 12, 39, 32⟩) (.bin .Mod (.loc "_law_cell" ⟨39, 33, 39, 42⟩) (.int 2 ⟨39, 45, 39, 46⟩) ⟨39, 33, 39, 46⟩) ⟨39, 12, 39, 47⟩, .bin .Mod (.bin .FloorDiv (.loc "_law_cell" ⟨39, 49, 39, 58⟩) (.int 2 ⟨39, 62, 39, 63⟩) ⟨39, 49, 39, 63⟩) (.int 60 ⟨39, 66, 39, 68⟩) ⟨39, 49, 39, 68⟩, .bin .Mod (.bin .FloorDiv (.loc "_law_cell" ⟨39, 70, 39, 79⟩) (.int 120 ⟨39, 83, 39, 86⟩) ⟨39, 70, 39, 86⟩) (.int 60 ⟨39, 89, 39, 91⟩) ⟨39, 70, 39, 91⟩, .bin .Mod (.bin .Add (.bin .FloorDiv (.loc "_law_cell" ⟨39, 94, 39, 103⟩) (.int 7200 ⟨39, 107, 39, 111⟩) ⟨39, 94, 39, 111⟩) (.loc "_law_k" ⟨39, 114, 39, 120⟩) ⟨39, 94, 39, 120⟩) (.int 999999 ⟨39, 124, 39, 130⟩) ⟨39, 93, 39, 130⟩] 0 ⟨39, 11, 39, 131⟩) ⟨39, 4, 39, 131⟩]
noncomputable def p__law_row_by : List String := ["_law_cell", "_law_k"]
noncomputable def b__law_place_by : List S := [
  .ite (.cmp .Eq (.bin .Mod (.loc "_law_cell" ⟨41, 7, 41, 16⟩) (.int 16 ⟨41, 19, 41, 21⟩) ⟨41, 7, 41, 21⟩) (.int 7 ⟨41, 25, 41, 26⟩) ⟨41, 7, 41, 26⟩) [
    .ret (.bin .Sub (.bin .Mult (.bin .Mod (.bin .FloorDiv (.loc "_law_cell" ⟨42, 15, 42, 24⟩) (.int 16 ⟨42, 28, 42, 30⟩) ⟨42, 15, 42, 30⟩) (.bin .Pow (.int 10 ⟨42, 33, 42, 35⟩) (.int 59 ⟨42, 39, 42, 41⟩) ⟨42, 33, 42, 41⟩) ⟨42, 15, 42, 41⟩) (.sub (.list [.int 1 ⟨42, 45, 42, 46⟩, .neg (.int 1 ⟨42, 49, 42, 50⟩) ⟨42, 48, 42, 50⟩] ⟨42, 44, 42, 51⟩) (.bin .Mod (.bin .FloorDiv (.loc "_law_cell" ⟨42, 52, 42, 61⟩) (.int 16 ⟨42, 65, 42, 67⟩) ⟨42, 52, 42, 67⟩) (.int 2 ⟨42, 70, 42, 71⟩) ⟨42, 52, 42, 71⟩) ⟨42, 44, 42, 72⟩) ⟨42, 15, 42, 72⟩) (.bin .Mult (.bin .Pow (.int 10 ⟨42, 75, 42, 77⟩) (.int 59 ⟨42, 81, 42, 83⟩) ⟨42, 75, 42, 83⟩) (.bin .Mod (.bin .FloorDiv (.loc "_law_cell" ⟨42, 87, 42, 96⟩) (.int 16 ⟨42, 100, 42, 102⟩) ⟨42, 87, 42, 102⟩) (.int 2 ⟨42, 105, 42, 106⟩) ⟨42, 87, 42, 106⟩) ⟨42, 75, 42, 107⟩) ⟨42, 15, 42, 107⟩) ⟨42, 8, 42, 107⟩] [] ⟨41, 4, 42, 107⟩,
  .ret (.bin .Sub (.bin .Mod (.bin .FloorDiv (.loc "_law_cell" ⟨43, 11, 43, 20⟩) (.int 16 ⟨43, 24, 43, 26⟩) ⟨43, 11, 43, 26⟩) (.bin .Add (.loc "_law_many" ⟨43, 30, 43, 39⟩) (.int 4 ⟨43, 42, 43, 43⟩) ⟨43, 30, 43, 43⟩) ⟨43, 11, 43, 44⟩) (.int 2 ⟨43, 47, 43, 48⟩) ⟨43, 11, 43, 48⟩) ⟨43, 4, 43, 48⟩]
noncomputable def p__law_place_by : List String := ["_law_cell", "_law_many"]
noncomputable def b__law_taken : List S := [
  .try_ [
    .ret (.meth (.loc "_law_post" ⟨46, 15, 46, 24⟩) "take" [.loc "_law_place" ⟨46, 30, 46, 40⟩] ⟨46, 15, 46, 29⟩ ⟨46, 15, 46, 41⟩) ⟨46, 8, 46, 41⟩] "NoPlace" none [
    .ret (.none ⟨48, 15, 48, 19⟩) ⟨48, 8, 48, 19⟩] [] ⟨47, 11, 47, 18⟩ ⟨47, 4, 48, 19⟩ ⟨45, 4, 48, 19⟩]
noncomputable def p__law_taken : List String := ["_law_post", "_law_place"]
noncomputable def b__law_class_good : List S := [
  .try_ [
    .expr (.meth (.loc "_law_post" ⟨51, 8, 51, 17⟩) "take" [.loc "_law_place" ⟨51, 23, 51, 33⟩] ⟨51, 8, 51, 22⟩ ⟨51, 8, 51, 34⟩) ⟨51, 8, 51, 34⟩] "DebtError" (some "e") [
    .ite (.or [.not (.isi (.loc "e" ⟨53, 26, 53, 27⟩) (.ty "ValueError") ⟨53, 15, 53, 25⟩ ⟨53, 29, 53, 39⟩ ⟨53, 15, 53, 40⟩) ⟨53, 11, 53, 40⟩, .not (.isi (.loc "e" ⟨53, 59, 53, 60⟩) (.own "NoPlace") ⟨53, 48, 53, 58⟩ ⟨53, 62, 53, 69⟩ ⟨53, 48, 53, 70⟩) ⟨53, 44, 53, 70⟩] ⟨53, 11, 53, 70⟩) [
      .ret (.bool false ⟨54, 19, 54, 24⟩) ⟨54, 12, 54, 24⟩] [] ⟨53, 8, 54, 24⟩,
    .ret (.and [.not (.isi (.loc "e" ⟨55, 30, 55, 31⟩) (.owns [("NoCompany", ⟨55, 34, 55, 43⟩), ("NoHand", ⟨55, 45, 55, 51⟩)]) ⟨55, 19, 55, 29⟩ ⟨55, 33, 55, 52⟩ ⟨55, 19, 55, 53⟩) ⟨55, 15, 55, 53⟩, .not (.isi (.loc "e" ⟨55, 74, 55, 75⟩) (.owns [("NoWork", ⟨55, 78, 55, 84⟩), ("Begun", ⟨55, 86, 55, 91⟩), ("NoRow", ⟨55, 93, 55, 98⟩)]) ⟨55, 63, 55, 73⟩ ⟨55, 77, 55, 99⟩ ⟨55, 63, 55, 100⟩) ⟨55, 59, 55, 100⟩] ⟨55, 15, 55, 101⟩) ⟨55, 8, 55, 101⟩] [] ⟨52, 11, 52, 20⟩ ⟨52, 4, 55, 101⟩ ⟨50, 4, 55, 101⟩,
  .ret (.bool false ⟨56, 11, 56, 16⟩) ⟨56, 4, 56, 16⟩]
noncomputable def p__law_class_good : List String := ["_law_post", "_law_place"]
noncomputable def b_law : List S := [
  .assign "_law_post" (.new "Post" [] ⟨58, 16, 58, 20⟩ ⟨58, 16, 58, 22⟩) ⟨58, 4, 58, 13⟩ ⟨58, 4, 58, 22⟩,
  .assign "_law_other" (.new "Post" [] ⟨59, 17, 59, 21⟩ ⟨59, 17, 59, 23⟩) ⟨59, 4, 59, 14⟩ ⟨59, 4, 59, 23⟩,
  .assign "_law_rows" (.list [] ⟨60, 16, 60, 18⟩) ⟨60, 4, 60, 13⟩ ⟨60, 4, 60, 18⟩,
  .assign "_law_held" (.list [] ⟨61, 16, 61, 18⟩) ⟨61, 4, 61, 13⟩ ⟨61, 4, 61, 18⟩,
  .for_ "_law_k" (.bltn "range" [.bltn "min" [.bltn "len" [.loc "_law_script" ⟨62, 32, 62, 43⟩] ⟨62, 28, 62, 31⟩ ⟨62, 28, 62, 44⟩, .int 200 ⟨62, 46, 62, 49⟩] ⟨62, 24, 62, 27⟩ ⟨62, 24, 62, 50⟩] ⟨62, 18, 62, 23⟩ ⟨62, 18, 62, 51⟩) [
    .ite (.cmp .Lt (.bin .Mod (.sub (.loc "_law_script" ⟨63, 11, 63, 22⟩) (.loc "_law_k" ⟨63, 23, 63, 29⟩) ⟨63, 11, 63, 30⟩) (.int 3 ⟨63, 33, 63, 34⟩) ⟨63, 11, 63, 34⟩) (.int 2 ⟨63, 37, 63, 38⟩) ⟨63, 11, 63, 38⟩) [
      .for_ "_law_j" (.bltn "range" [.bin .Add (.int 1 ⟨64, 32, 64, 33⟩) (.bin .Mult (.int 39 ⟨64, 36, 64, 38⟩) (.bltn "int" [.cmp .Eq (.bin .Mod (.bin .FloorDiv (.sub (.loc "_law_script" ⟨64, 45, 64, 56⟩) (.loc "_law_k" ⟨64, 57, 64, 63⟩) ⟨64, 45, 64, 64⟩) (.int 3 ⟨64, 68, 64, 69⟩) ⟨64, 45, 64, 69⟩) (.int 16 ⟨64, 72, 64, 74⟩) ⟨64, 45, 64, 74⟩) (.int 5 ⟨64, 78, 64, 79⟩) ⟨64, 45, 64, 79⟩] ⟨64, 41, 64, 44⟩ ⟨64, 41, 64, 80⟩) ⟨64, 36, 64, 80⟩) ⟨64, 32, 64, 80⟩] ⟨64, 26, 64, 31⟩ ⟨64, 26, 64, 81⟩) [
        .expr (.meth (.loc "_law_rows" ⟨65, 16, 65, 25⟩) "append" [.call "_law_row_by" [.bin .Add (.bin .FloorDiv (.sub (.loc "_law_script" ⟨65, 45, 65, 56⟩) (.loc "_law_k" ⟨65, 57, 65, 63⟩) ⟨65, 45, 65, 64⟩) (.int 48 ⟨65, 68, 65, 70⟩) ⟨65, 45, 65, 70⟩) (.loc "_law_j" ⟨65, 73, 65, 79⟩) ⟨65, 45, 65, 79⟩, .loc "_law_k" ⟨65, 81, 65, 87⟩] ⟨65, 33, 65, 44⟩ ⟨65, 33, 65, 88⟩] ⟨65, 16, 65, 32⟩ ⟨65, 16, 65, 89⟩) ⟨65, 16, 65, 89⟩,
        .ite (.cmp .IsNot (.meth (.loc "_law_post" ⟨66, 19, 66, 28⟩) "put" [.sub (.loc "_law_rows" ⟨66, 33, 66, 42⟩) (.neg (.int 1 ⟨66, 44, 66, 45⟩) ⟨66, 43, 66, 45⟩) ⟨66, 33, 66, 46⟩] ⟨66, 19, 66, 32⟩ ⟨66, 19, 66, 47⟩) (.none ⟨66, 55, 66, 59⟩) ⟨66, 19, 66, 59⟩) [
          .ret (.bool false ⟨67, 27, 67, 32⟩) ⟨67, 20, 67, 32⟩] [] ⟨66, 16, 67, 32⟩] ⟨64, 16, 64, 22⟩ ⟨64, 12, 67, 32⟩] [
      .assign "_law_place" (.call "_law_place_by" [.bin .FloorDiv (.sub (.loc "_law_script" ⟨69, 39, 69, 50⟩) (.loc "_law_k" ⟨69, 51, 69, 57⟩) ⟨69, 39, 69, 58⟩) (.int 3 ⟨69, 62, 69, 63⟩) ⟨69, 39, 69, 63⟩, .bltn "len" [.loc "_law_rows" ⟨69, 69, 69, 78⟩] ⟨69, 65, 69, 68⟩ ⟨69, 65, 69, 79⟩] ⟨69, 25, 69, 38⟩ ⟨69, 25, 69, 80⟩) ⟨69, 12, 69, 22⟩ ⟨69, 12, 69, 80⟩,
      .ite (.or [.cmp .Lt (.loc "_law_place" ⟨70, 15, 70, 25⟩) (.int 0 ⟨70, 28, 70, 29⟩) ⟨70, 15, 70, 29⟩, .cmp .GtE (.loc "_law_place" ⟨70, 33, 70, 43⟩) (.bltn "len" [.loc "_law_rows" ⟨70, 51, 70, 60⟩] ⟨70, 47, 70, 50⟩ ⟨70, 47, 70, 61⟩) ⟨70, 33, 70, 61⟩] ⟨70, 15, 70, 61⟩) [
        .ite (.or [.cmp .IsNot (.call "_law_taken" [.loc "_law_post" ⟨71, 30, 71, 39⟩, .loc "_law_place" ⟨71, 41, 71, 51⟩] ⟨71, 19, 71, 29⟩ ⟨71, 19, 71, 52⟩) (.none ⟨71, 60, 71, 64⟩) ⟨71, 19, 71, 64⟩, .not (.call "_law_class_good" [.loc "_law_post" ⟨71, 88, 71, 97⟩, .loc "_law_place" ⟨71, 99, 71, 109⟩] ⟨71, 72, 71, 87⟩ ⟨71, 72, 71, 110⟩) ⟨71, 68, 71, 110⟩] ⟨71, 19, 71, 110⟩) [
          .ret (.bool false ⟨72, 27, 72, 32⟩) ⟨72, 20, 72, 32⟩] [] ⟨71, 16, 72, 32⟩] [
        .assign "_law_row" (.meth (.loc "_law_rows" ⟨74, 27, 74, 36⟩) "pop" [.loc "_law_place" ⟨74, 41, 74, 51⟩] ⟨74, 27, 74, 40⟩ ⟨74, 27, 74, 52⟩) ⟨74, 16, 74, 24⟩ ⟨74, 16, 74, 52⟩,
        .assign "_law_found" (.call "_law_taken" [.loc "_law_post" ⟨75, 40, 75, 49⟩, .loc "_law_place" ⟨75, 51, 75, 61⟩] ⟨75, 29, 75, 39⟩ ⟨75, 29, 75, 62⟩) ⟨75, 16, 75, 26⟩ ⟨75, 16, 75, 62⟩,
        .ite (.or [.not (.isi (.loc "_law_found" ⟨76, 34, 76, 44⟩) (.ty "tuple") ⟨76, 23, 76, 33⟩ ⟨76, 46, 76, 51⟩ ⟨76, 23, 76, 52⟩) ⟨76, 19, 76, 52⟩, .cmp .NotEq (.loc "_law_found" ⟨76, 56, 76, 66⟩) (.loc "_law_row" ⟨76, 70, 76, 78⟩) ⟨76, 56, 76, 78⟩] ⟨76, 19, 76, 78⟩) [
          .ret (.bool false ⟨77, 27, 77, 32⟩) ⟨77, 20, 77, 32⟩] [] ⟨76, 16, 77, 32⟩] ⟨70, 12, 77, 32⟩] ⟨63, 8, 77, 32⟩,
    .assign "_law_found" (.meth (.loc "_law_post" ⟨78, 21, 78, 30⟩) "under" [] ⟨78, 21, 78, 36⟩ ⟨78, 21, 78, 38⟩) ⟨78, 8, 78, 18⟩ ⟨78, 8, 78, 38⟩,
    .ite (.or [.not (.isi (.loc "_law_found" ⟨79, 26, 79, 36⟩) (.ty "list") ⟨79, 15, 79, 25⟩ ⟨79, 38, 79, 42⟩ ⟨79, 15, 79, 43⟩) ⟨79, 11, 79, 43⟩, .cmp .NotEq (.loc "_law_found" ⟨79, 47, 79, 57⟩) (.loc "_law_rows" ⟨79, 61, 79, 70⟩) ⟨79, 47, 79, 70⟩] ⟨79, 11, 79, 70⟩) [
      .ret (.bool false ⟨80, 19, 80, 24⟩) ⟨80, 12, 80, 24⟩] [] ⟨79, 8, 80, 24⟩,
    .expr (.meth (.loc "_law_held" ⟨81, 8, 81, 17⟩) "append" [.list [.loc "_law_found" ⟨81, 26, 81, 36⟩, .bltn "list" [.loc "_law_found" ⟨81, 43, 81, 53⟩] ⟨81, 38, 81, 42⟩ ⟨81, 38, 81, 54⟩] ⟨81, 25, 81, 55⟩] ⟨81, 8, 81, 24⟩ ⟨81, 8, 81, 56⟩) ⟨81, 8, 81, 56⟩,
    .assign "_law_again" (.meth (.loc "_law_post" ⟨82, 21, 82, 30⟩) "under" [] ⟨82, 21, 82, 36⟩ ⟨82, 21, 82, 38⟩) ⟨82, 8, 82, 18⟩ ⟨82, 8, 82, 38⟩,
    .expr (.meth (.loc "_law_again" ⟨83, 8, 83, 18⟩) "append" [.str "x" ⟨83, 26, 83, 29⟩] ⟨83, 8, 83, 25⟩ ⟨83, 8, 83, 30⟩) ⟨83, 8, 83, 30⟩,
    .expr (.meth (.loc "_law_again" ⟨84, 8, 84, 18⟩) "reverse" [] ⟨84, 8, 84, 26⟩ ⟨84, 8, 84, 28⟩) ⟨84, 8, 84, 28⟩] ⟨62, 8, 62, 14⟩ ⟨62, 4, 84, 28⟩,
  .ret (.and [.cmp .Eq (.meth (.loc "_law_other" ⟨85, 11, 85, 21⟩) "under" [] ⟨85, 11, 85, 27⟩ ⟨85, 11, 85, 29⟩) (.list [] ⟨85, 33, 85, 35⟩) ⟨85, 11, 85, 35⟩, .cmp .Eq (.meth (.loc "_law_post" ⟨85, 40, 85, 49⟩) "under" [] ⟨85, 40, 85, 55⟩ ⟨85, 40, 85, 57⟩) (.loc "_law_rows" ⟨85, 61, 85, 70⟩) ⟨85, 40, 85, 70⟩, .bltn "all" [.comp (.cmp .Eq (.sub (.loc "_law_pair" ⟨85, 80, 85, 89⟩) (.int 0 ⟨85, 90, 85, 91⟩) ⟨85, 80, 85, 92⟩) (.sub (.loc "_law_pair" ⟨85, 96, 85, 105⟩) (.int 1 ⟨85, 106, 85, 107⟩) ⟨85, 96, 85, 108⟩) ⟨85, 80, 85, 108⟩) "_law_pair" (.loc "_law_held" ⟨85, 126, 85, 135⟩) [] ({ kind := .function, names := [(Str.ofString ".0", .local), (Str.ofString "_law_pair", .local)], isGenerator := false, isCoroutine := false, more := [] }) ⟨85, 113, 85, 122⟩ ⟨85, 79, 85, 136⟩] ⟨85, 75, 85, 78⟩ ⟨85, 75, 85, 137⟩] ⟨85, 11, 85, 137⟩) ⟨85, 4, 85, 137⟩]
noncomputable def p_law : List String := ["_law_script"]
noncomputable def sg : Sig := { fns := ["_law_class_good", "_law_place_by", "_law_row_by", "_law_taken", "is_from"], clss := ["Post"], attrs := ["rows"], meths := [("Post", "put"), ("Post", "take"), ("Post", "under")], excs := ["Begun", "DebtError", "NoCompany", "NoHand", "NoPlace", "NoRow", "NoWork"], consts := [] }
noncomputable def clsT : List (String × Addr) := [("Post", 144)]
noncomputable def excT : List (String × Addr) := [("Begun", 85), ("DebtError", 24), ("NoCompany", 37), ("NoHand", 49), ("NoPlace", 73), ("NoRow", 97), ("NoWork", 61)]
noncomputable def fnT : List (String × Addr) := [("Post.__init__", 120), ("Post.put", 127), ("Post.take", 134), ("Post.under", 141), ("is_from", 106), ("_law_row_by", 155), ("_law_place_by", 162), ("_law_taken", 169), ("_law_class_good", 176), ("law", 181)]
noncomputable abbrev ctx (w : World) (base : Heap) : Ctx := ctxOf Challenge.rw_uf040019_01.row.prog w (Kq w.params) base clsT excT fnT
theorem chk (P : Params) : chkGood (Kq P) sg clsT excT fnT = true := by kernel_rfl
section
variable {w : World} {base : Heap} {p : Program} {loose : List Str} {mg mb : Str → Option Value}
theorem good (X : (Kq w.params).In base) (T : TopRead p loose mg mb base) : Good (ctx w base) sg := good_of X T (chk w.params)
theorem d_Post___init__ (X : (Kq w.params).In base) (T : TopRead p loose mg mb base) : Def (ctx w base) sg "Post.__init__" p_Post___init__ b_Post___init__ := def_of (fa := 120) X T.nolimit rfl (by kernel_rfl) (by kernel_rfl) (by kernel_rfl) (len1 fun a0 => by kernel_rfl)
theorem d_Post_put (X : (Kq w.params).In base) (T : TopRead p loose mg mb base) : Def (ctx w base) sg "Post.put" p_Post_put b_Post_put := def_of (fa := 127) X T.nolimit rfl (by kernel_rfl) (by kernel_rfl) (by kernel_rfl) (len2 fun a0 a1 => by kernel_rfl)
theorem d_Post_take (X : (Kq w.params).In base) (T : TopRead p loose mg mb base) : Def (ctx w base) sg "Post.take" p_Post_take b_Post_take := def_of (fa := 134) X T.nolimit rfl (by kernel_rfl) (by kernel_rfl) (by kernel_rfl) (len2 fun a0 a1 => by kernel_rfl)
theorem d_Post_under (X : (Kq w.params).In base) (T : TopRead p loose mg mb base) : Def (ctx w base) sg "Post.under" p_Post_under b_Post_under := def_of (fa := 141) X T.nolimit rfl (by kernel_rfl) (by kernel_rfl) (by kernel_rfl) (len1 fun a0 => by kernel_rfl)
theorem d_is_from (X : (Kq w.params).In base) (T : TopRead p loose mg mb base) : Def (ctx w base) sg "is_from" p_is_from b_is_from := def_of (fa := 106) X T.nolimit rfl (by kernel_rfl) (by kernel_rfl) (by kernel_rfl) (len3 fun a0 a1 a2 => by kernel_rfl)
theorem d__law_row_by (X : (Kq w.params).In base) (T : TopRead p loose mg mb base) : Def (ctx w base) sg "_law_row_by" p__law_row_by b__law_row_by := def_of (fa := 155) X T.nolimit rfl (by kernel_rfl) (by kernel_rfl) (by kernel_rfl) (len2 fun a0 a1 => by kernel_rfl)
theorem d__law_place_by (X : (Kq w.params).In base) (T : TopRead p loose mg mb base) : Def (ctx w base) sg "_law_place_by" p__law_place_by b__law_place_by := def_of (fa := 162) X T.nolimit rfl (by kernel_rfl) (by kernel_rfl) (by kernel_rfl) (len2 fun a0 a1 => by kernel_rfl)
theorem d__law_taken (X : (Kq w.params).In base) (T : TopRead p loose mg mb base) : Def (ctx w base) sg "_law_taken" p__law_taken b__law_taken := def_of (fa := 169) X T.nolimit rfl (by kernel_rfl) (by kernel_rfl) (by kernel_rfl) (len2 fun a0 a1 => by kernel_rfl)
theorem d__law_class_good (X : (Kq w.params).In base) (T : TopRead p loose mg mb base) : Def (ctx w base) sg "_law_class_good" p__law_class_good b__law_class_good := def_of (fa := 176) X T.nolimit rfl (by kernel_rfl) (by kernel_rfl) (by kernel_rfl) (len2 fun a0 a1 => by kernel_rfl)
theorem d_law (X : (Kq w.params).In base) (T : TopRead p loose mg mb base) : Def (ctx w base) sg "law" p_law b_law := def_of (fa := 181) X T.nolimit rfl (by kernel_rfl) (by kernel_rfl) (by kernel_rfl) (len1 fun a0 => by kernel_rfl)
end
end Mine

namespace Mine
open PySem
set_option autoImplicit false

set_option linter.unusedVariables false
set_option linter.unusedSimpArgs false
open PySem

noncomputable def Ext (μ μ' : Mem) : Prop := ∀ b o, μ b = some o → μ' b = some o
theorem Ext.refl (μ : Mem) : Ext μ μ := fun _ _ h => h
theorem Ext.trans {μ₁ μ₂ μ₃ : Mem} (x : Ext μ₁ μ₂) (y : Ext μ₂ μ₃) : Ext μ₁ μ₃ := fun b o h => y b o (x b o h)
theorem Ext.new {μ : Mem} {n : Addr} (h : μ n = none) (o : O) : Ext μ (updM μ n o) := fun b o' hb => by
  rw [updM_ne fun q => by rw [q, h] at hb; cases hb]; exact hb
noncomputable def But (d : Addr) (μ μ' : Mem) : Prop := ∀ b o, μ b = some o → b ≠ d → μ' b = some o
theorem Ext.but {d : Addr} {μ₁ μ₂ μ₃ : Mem} (x : Ext μ₁ μ₂) (y : But d μ₂ μ₃) : But d μ₁ μ₃ := fun b o h n => y b o (x b o h) n
theorem But.upd (d : Addr) (μ : Mem) (o : O) : But d μ (updM μ d o) := fun b o' hb n => by rw [updM_ne n]; exact hb
theorem sub_f {ns : List Int} {i : Int} {μ : Mem} {Q : V → Mem → Prop} (h0 : 0 ≤ i) (h1 : i < ns.length) (h : ∀ k : Int, Q (.int k) μ) : optW (subO μ (.frz ns) (.int i)) μ Q := by
  unfold subO
  simp only [h0, if_true]
  rw [List.getElem?_eq_getElem (by omega)]
  exact h _
theorem isi_list {x : Addr} {l : List V} {μ : Mem} {n : String} {b : Bool} {Q : V → Mem → Prop} (hx : μ x = some (.list l)) (hn : n = "int" ∨ n = "bool" ∨ n = "str" ∨ n = "tuple" ∨ n = "list") (e : (("list" == n) || (("list" == "bool") && n == "int")) = b) (h : Q (.bool b) μ) : isiW (.ty n) (.ref x) μ Q := by
  refine isi_in (b := b) ?_ h
  unfold isiO tyO
  simp only [hx, hn, if_true, Option.map_some, e]

noncomputable def isRow (v : V) : Prop := ∃ s a b e, v = .tup [.str (Str.ofString s), .int a, .int b, .int e] ∧ (s = "letter" ∨ s = "answer")
theorem rd_row {μ : Mem} {v : V} (h : isRow v) (n : Nat) : ∃ d, rd μ (n + 2) v = some d ∧ PyData.eqv d d = true := by
  obtain ⟨s, a, b, e, rfl, hs⟩ := h
  have ok : PyData.strOk (Str.ofString s) = true := by rcases hs with rfl | rfl <;> decide +kernel
  refine ⟨.tuple [.str (Str.ofString s), .int a, .int b, .int e], by simp only [rd, rdAll, ok, if_true, Option.map_some], by simp [PyData.eqv, PyData.eqvAll]⟩
theorem rd_rows {μ : Mem} : ∀ {l : List V}, (∀ v ∈ l, isRow v) → ∀ n, ∃ ds, rdAll (rd μ (n + 2)) l = some ds ∧ PyData.eqvAll ds ds = true
  | [], _, n => ⟨[], rfl, by simp [PyData.eqvAll]⟩
  | v :: l, h, n => by
    obtain ⟨d, h1, h2⟩ := rd_row (μ := μ) (h v (.head _)) n
    obtain ⟨ds, h3, h4⟩ := rd_rows (μ := μ) (l := l) (fun w hw => h w (.tail _ hw)) n
    exact ⟨d :: ds, by simp only [rdAll, h1, h3], by simp only [PyData.eqvAll, h2, h4, Bool.and_self]⟩
theorem deq_row {μ : Mem} {v : V} (h : isRow v) : deq μ v v = some true := by
  obtain ⟨d, h1, h2⟩ := rd_row (μ := μ) h 6
  obtain ⟨s, a, b, e, rfl, _⟩ := h
  simp only [deq, h1, h2]
theorem deq_rows {μ : Mem} {x y : Addr} {l : List V} (h : ∀ v ∈ l, isRow v) (hx : μ x = some (.list l)) (hy : μ y = some (.list l)) : deq μ (.ref x) (.ref y) = some true := by
  obtain ⟨ds, h1, h2⟩ := rd_rows (μ := μ) h 5
  have e : ∀ z, μ z = some (.list l) → rd μ 8 (.ref z) = some (.list ds) := fun z hz => by
    show (match μ z with | some (.list l) => (rdAll (rd μ 7) l).map PyData.list | _ => none) = _
    rw [hz]
    show (rdAll (rd μ 7) l).map PyData.list = _
    rw [h1]; rfl
  simp only [deq, e x hx, e y hy, PyData.eqv, h2]

section
variable {c : Ctx} (G : Good c sg)
include G
variable {hd : Bool} {μ : Mem} {Q : V → Mem → Prop} {X : String → Mem → Prop}

theorem is_from_spec (D : Def c sg "is_from" p_is_from b_is_from) {i a b : Int} (h : Q (.bool (decide (a ≤ i ∧ i ≤ b))) μ) : SC c 1 hd "is_from" [.int i, .int a, .int b] μ Q X := by
  refine call_in G D rfl ?_
  unfold b_is_from
  (repeat (first | (with_reducible refine e_here ?_) | (refine e_skip (by decide) ?_) | (refine isi_in (b := true) (by rfl) ?_) | (refine isi_in (b := false) (by rfl) ?_) | (refine e_glob (by rfl) ?_) | (with_reducible first | refine e_int ?_ | refine e_bool ?_ | refine e_none ?_ | refine e_str ?_ | refine e_bin ?_ | refine e_neg ?_ | refine e_not ?_ | refine e_and ?_ | refine e_or ?_ | refine a_one ?_ | refine a_cons ?_ | refine o_one ?_ | refine o_cons ?_ | refine e_cmp ?_ | refine e_cmp2 ?_ | refine e_attr ?_ | refine e_sub ?_ | refine e_sliceL ?_ | refine e_sliceU ?_ | refine e_tup ?_ | refine e_list ?_ | refine e_call ?_ | refine e_new ?_ | refine e_bltn ?_ | refine e_isi ?_ | refine e_meth ?_ | refine es_nil ?_ | refine es_cons ?_ | refine tr_in ?_ | refine br_t ?_ | refine br_f ?_ | refine br_nt ?_ | refine br_nf ?_ | refine int_in ?_ | refine add_i ?_ | refine sub_i ?_ | refine eq_i ?_ | refine ne_i ?_ | refine lt_i ?_ | refine le_i ?_ | refine gt_i ?_ | refine ge_i ?_ | refine len_t ?_ | refine len_f ?_ | refine int_b ?_ | refine s_nil ?_ | refine s_expr ?_ | refine s_assign ?_ | refine s_setattr ?_ | refine s_setitem ?_ | refine s_if ?_ | refine s_ite ?_ | refine s_ret ?_ | refine fq_ret ?_ | refine fq_next ?_ | refine sq_next ?_ | refine sq_ret ?_) | (with_reducible refine e_loc (by assumption) ?_) | (with_reducible refine br_dt (by assumption) ?_) | (with_reducible refine br_df (by assumption) ?_) | (with_reducible refine br_ndt (by assumption) ?_) | (with_reducible refine br_ndf (by assumption) ?_) | (refine getA_in (by assumption) (by assumption) (by rfl) ?_) | (refine len_l (by assumption) ?_) | (refine list_l (by assumption) ?_)))
  refine br_d (fun h1 => ?_) (fun h1 => ?_)
  · (repeat (first | (with_reducible refine e_here ?_) | (refine e_skip (by decide) ?_) | (refine isi_in (b := true) (by rfl) ?_) | (refine isi_in (b := false) (by rfl) ?_) | (refine e_glob (by rfl) ?_) | (with_reducible first | refine e_int ?_ | refine e_bool ?_ | refine e_none ?_ | refine e_str ?_ | refine e_bin ?_ | refine e_neg ?_ | refine e_not ?_ | refine e_and ?_ | refine e_or ?_ | refine a_one ?_ | refine a_cons ?_ | refine o_one ?_ | refine o_cons ?_ | refine e_cmp ?_ | refine e_cmp2 ?_ | refine e_attr ?_ | refine e_sub ?_ | refine e_sliceL ?_ | refine e_sliceU ?_ | refine e_tup ?_ | refine e_list ?_ | refine e_call ?_ | refine e_new ?_ | refine e_bltn ?_ | refine e_isi ?_ | refine e_meth ?_ | refine es_nil ?_ | refine es_cons ?_ | refine tr_in ?_ | refine br_t ?_ | refine br_f ?_ | refine br_nt ?_ | refine br_nf ?_ | refine int_in ?_ | refine add_i ?_ | refine sub_i ?_ | refine eq_i ?_ | refine ne_i ?_ | refine lt_i ?_ | refine le_i ?_ | refine gt_i ?_ | refine ge_i ?_ | refine len_t ?_ | refine len_f ?_ | refine int_b ?_ | refine s_nil ?_ | refine s_expr ?_ | refine s_assign ?_ | refine s_setattr ?_ | refine s_setitem ?_ | refine s_if ?_ | refine s_ite ?_ | refine s_ret ?_ | refine fq_ret ?_ | refine fq_next ?_ | refine sq_next ?_ | refine sq_ret ?_) | (with_reducible refine e_loc (by assumption) ?_) | (with_reducible refine br_dt (by assumption) ?_) | (with_reducible refine br_df (by assumption) ?_) | (with_reducible refine br_ndt (by assumption) ?_) | (with_reducible refine br_ndf (by assumption) ?_) | (refine getA_in (by assumption) (by assumption) (by rfl) ?_) | (refine len_l (by assumption) ?_) | (refine list_l (by assumption) ?_)))
    simpa [h1] using h
  · (repeat (first | (with_reducible refine e_here ?_) | (refine e_skip (by decide) ?_) | (refine isi_in (b := true) (by rfl) ?_) | (refine isi_in (b := false) (by rfl) ?_) | (refine e_glob (by rfl) ?_) | (with_reducible first | refine e_int ?_ | refine e_bool ?_ | refine e_none ?_ | refine e_str ?_ | refine e_bin ?_ | refine e_neg ?_ | refine e_not ?_ | refine e_and ?_ | refine e_or ?_ | refine a_one ?_ | refine a_cons ?_ | refine o_one ?_ | refine o_cons ?_ | refine e_cmp ?_ | refine e_cmp2 ?_ | refine e_attr ?_ | refine e_sub ?_ | refine e_sliceL ?_ | refine e_sliceU ?_ | refine e_tup ?_ | refine e_list ?_ | refine e_call ?_ | refine e_new ?_ | refine e_bltn ?_ | refine e_isi ?_ | refine e_meth ?_ | refine es_nil ?_ | refine es_cons ?_ | refine tr_in ?_ | refine br_t ?_ | refine br_f ?_ | refine br_nt ?_ | refine br_nf ?_ | refine int_in ?_ | refine add_i ?_ | refine sub_i ?_ | refine eq_i ?_ | refine ne_i ?_ | refine lt_i ?_ | refine le_i ?_ | refine gt_i ?_ | refine ge_i ?_ | refine len_t ?_ | refine len_f ?_ | refine int_b ?_ | refine s_nil ?_ | refine s_expr ?_ | refine s_assign ?_ | refine s_setattr ?_ | refine s_setitem ?_ | refine s_if ?_ | refine s_ite ?_ | refine s_ret ?_ | refine fq_ret ?_ | refine fq_next ?_ | refine sq_next ?_ | refine sq_ret ?_) | (with_reducible refine e_loc (by assumption) ?_) | (with_reducible refine br_dt (by assumption) ?_) | (with_reducible refine br_df (by assumption) ?_) | (with_reducible refine br_ndt (by assumption) ?_) | (with_reducible refine br_ndf (by assumption) ?_) | (refine getA_in (by assumption) (by assumption) (by rfl) ?_) | (refine len_l (by assumption) ?_) | (refine list_l (by assumption) ?_)))
    simpa [h1] using h

theorem init_spec (D : Def c sg "Post.__init__" p_Post___init__ b_Post___init__) {a d : Addr} (ha : μ a = some (.inst "Post" d)) (hd' : μ d = some (.attrs [])) (h : ∀ n, μ n = none → Q .none (updM (updM μ n (.list [])) d (.attrs [("rows", .ref n)]))) : SC c 1 hd "Post.__init__" [.ref a] μ Q X := by
  refine call_in G D rfl ?_
  unfold b_Post___init__
  (repeat (first | (with_reducible refine e_here ?_) | (refine e_skip (by decide) ?_) | (refine isi_in (b := true) (by rfl) ?_) | (refine isi_in (b := false) (by rfl) ?_) | (refine e_glob (by rfl) ?_) | (with_reducible first | refine e_int ?_ | refine e_bool ?_ | refine e_none ?_ | refine e_str ?_ | refine e_bin ?_ | refine e_neg ?_ | refine e_not ?_ | refine e_and ?_ | refine e_or ?_ | refine a_one ?_ | refine a_cons ?_ | refine o_one ?_ | refine o_cons ?_ | refine e_cmp ?_ | refine e_cmp2 ?_ | refine e_attr ?_ | refine e_sub ?_ | refine e_sliceL ?_ | refine e_sliceU ?_ | refine e_tup ?_ | refine e_list ?_ | refine e_call ?_ | refine e_new ?_ | refine e_bltn ?_ | refine e_isi ?_ | refine e_meth ?_ | refine es_nil ?_ | refine es_cons ?_ | refine tr_in ?_ | refine br_t ?_ | refine br_f ?_ | refine br_nt ?_ | refine br_nf ?_ | refine int_in ?_ | refine add_i ?_ | refine sub_i ?_ | refine eq_i ?_ | refine ne_i ?_ | refine lt_i ?_ | refine le_i ?_ | refine gt_i ?_ | refine ge_i ?_ | refine len_t ?_ | refine len_f ?_ | refine int_b ?_ | refine s_nil ?_ | refine s_expr ?_ | refine s_assign ?_ | refine s_setattr ?_ | refine s_setitem ?_ | refine s_if ?_ | refine s_ite ?_ | refine s_ret ?_ | refine fq_ret ?_ | refine fq_next ?_ | refine sq_next ?_ | refine sq_ret ?_) | (with_reducible refine e_loc (by assumption) ?_) | (with_reducible refine br_dt (by assumption) ?_) | (with_reducible refine br_df (by assumption) ?_) | (with_reducible refine br_ndt (by assumption) ?_) | (with_reducible refine br_ndf (by assumption) ?_) | (refine getA_in (by assumption) (by assumption) (by rfl) ?_) | (refine len_l (by assumption) ?_) | (refine list_l (by assumption) ?_)))
  refine newL_in (Nat.zero_le _) fun n hn => ?_
  (repeat (first | (with_reducible refine e_here ?_) | (refine e_skip (by decide) ?_) | (refine isi_in (b := true) (by rfl) ?_) | (refine isi_in (b := false) (by rfl) ?_) | (refine e_glob (by rfl) ?_) | (with_reducible first | refine e_int ?_ | refine e_bool ?_ | refine e_none ?_ | refine e_str ?_ | refine e_bin ?_ | refine e_neg ?_ | refine e_not ?_ | refine e_and ?_ | refine e_or ?_ | refine a_one ?_ | refine a_cons ?_ | refine o_one ?_ | refine o_cons ?_ | refine e_cmp ?_ | refine e_cmp2 ?_ | refine e_attr ?_ | refine e_sub ?_ | refine e_sliceL ?_ | refine e_sliceU ?_ | refine e_tup ?_ | refine e_list ?_ | refine e_call ?_ | refine e_new ?_ | refine e_bltn ?_ | refine e_isi ?_ | refine e_meth ?_ | refine es_nil ?_ | refine es_cons ?_ | refine tr_in ?_ | refine br_t ?_ | refine br_f ?_ | refine br_nt ?_ | refine br_nf ?_ | refine int_in ?_ | refine add_i ?_ | refine sub_i ?_ | refine eq_i ?_ | refine ne_i ?_ | refine lt_i ?_ | refine le_i ?_ | refine gt_i ?_ | refine ge_i ?_ | refine len_t ?_ | refine len_f ?_ | refine int_b ?_ | refine s_nil ?_ | refine s_expr ?_ | refine s_assign ?_ | refine s_setattr ?_ | refine s_setitem ?_ | refine s_if ?_ | refine s_ite ?_ | refine s_ret ?_ | refine fq_ret ?_ | refine fq_next ?_ | refine sq_next ?_ | refine sq_ret ?_) | (with_reducible refine e_loc (by assumption) ?_) | (with_reducible refine br_dt (by assumption) ?_) | (with_reducible refine br_df (by assumption) ?_) | (with_reducible refine br_ndt (by assumption) ?_) | (with_reducible refine br_ndf (by assumption) ?_) | (refine getA_in (by assumption) (by assumption) (by rfl) ?_) | (refine len_l (by assumption) ?_) | (refine list_l (by assumption) ?_)))
  refine setA_in (Ext.new hn _ _ _ ha) (Ext.new hn _ _ _ hd') (by decide) ?_
  (repeat (first | (with_reducible refine e_here ?_) | (refine e_skip (by decide) ?_) | (refine isi_in (b := true) (by rfl) ?_) | (refine isi_in (b := false) (by rfl) ?_) | (refine e_glob (by rfl) ?_) | (with_reducible first | refine e_int ?_ | refine e_bool ?_ | refine e_none ?_ | refine e_str ?_ | refine e_bin ?_ | refine e_neg ?_ | refine e_not ?_ | refine e_and ?_ | refine e_or ?_ | refine a_one ?_ | refine a_cons ?_ | refine o_one ?_ | refine o_cons ?_ | refine e_cmp ?_ | refine e_cmp2 ?_ | refine e_attr ?_ | refine e_sub ?_ | refine e_sliceL ?_ | refine e_sliceU ?_ | refine e_tup ?_ | refine e_list ?_ | refine e_call ?_ | refine e_new ?_ | refine e_bltn ?_ | refine e_isi ?_ | refine e_meth ?_ | refine es_nil ?_ | refine es_cons ?_ | refine tr_in ?_ | refine br_t ?_ | refine br_f ?_ | refine br_nt ?_ | refine br_nf ?_ | refine int_in ?_ | refine add_i ?_ | refine sub_i ?_ | refine eq_i ?_ | refine ne_i ?_ | refine lt_i ?_ | refine le_i ?_ | refine gt_i ?_ | refine ge_i ?_ | refine len_t ?_ | refine len_f ?_ | refine int_b ?_ | refine s_nil ?_ | refine s_expr ?_ | refine s_assign ?_ | refine s_setattr ?_ | refine s_setitem ?_ | refine s_if ?_ | refine s_ite ?_ | refine s_ret ?_ | refine fq_ret ?_ | refine fq_next ?_ | refine sq_next ?_ | refine sq_ret ?_) | (with_reducible refine e_loc (by assumption) ?_) | (with_reducible refine br_dt (by assumption) ?_) | (with_reducible refine br_df (by assumption) ?_) | (with_reducible refine br_ndt (by assumption) ?_) | (with_reducible refine br_ndf (by assumption) ?_) | (refine getA_in (by assumption) (by assumption) (by rfl) ?_) | (refine len_l (by assumption) ?_) | (refine list_l (by assumption) ?_)))
  exact h n hn

variable {p pd rl : Addr} {P : List V} (hp : μ p = some (.inst "Post" pd)) (hpd : μ pd = some (.attrs [("rows", .ref rl)])) (hrl : μ rl = some (.list P))
include hp hpd hrl

theorem put_spec (D : Def c sg "Post.put" p_Post_put b_Post_put) {row : V} (hz : P.length < lim) (h : Q .none (updM μ rl (.list (P ++ [row])))) : SC c 1 hd "Post.put" [.ref p, row] μ Q X := by
  refine call_in G D rfl ?_
  unfold b_Post_put
  (repeat (first | (with_reducible refine e_here ?_) | (refine e_skip (by decide) ?_) | (refine isi_in (b := true) (by rfl) ?_) | (refine isi_in (b := false) (by rfl) ?_) | (refine e_glob (by rfl) ?_) | (with_reducible first | refine e_int ?_ | refine e_bool ?_ | refine e_none ?_ | refine e_str ?_ | refine e_bin ?_ | refine e_neg ?_ | refine e_not ?_ | refine e_and ?_ | refine e_or ?_ | refine a_one ?_ | refine a_cons ?_ | refine o_one ?_ | refine o_cons ?_ | refine e_cmp ?_ | refine e_cmp2 ?_ | refine e_attr ?_ | refine e_sub ?_ | refine e_sliceL ?_ | refine e_sliceU ?_ | refine e_tup ?_ | refine e_list ?_ | refine e_call ?_ | refine e_new ?_ | refine e_bltn ?_ | refine e_isi ?_ | refine e_meth ?_ | refine es_nil ?_ | refine es_cons ?_ | refine tr_in ?_ | refine br_t ?_ | refine br_f ?_ | refine br_nt ?_ | refine br_nf ?_ | refine int_in ?_ | refine add_i ?_ | refine sub_i ?_ | refine eq_i ?_ | refine ne_i ?_ | refine lt_i ?_ | refine le_i ?_ | refine gt_i ?_ | refine ge_i ?_ | refine len_t ?_ | refine len_f ?_ | refine int_b ?_ | refine s_nil ?_ | refine s_expr ?_ | refine s_assign ?_ | refine s_setattr ?_ | refine s_setitem ?_ | refine s_if ?_ | refine s_ite ?_ | refine s_ret ?_ | refine fq_ret ?_ | refine fq_next ?_ | refine sq_next ?_ | refine sq_ret ?_) | (with_reducible refine e_loc (by assumption) ?_) | (with_reducible refine br_dt (by assumption) ?_) | (with_reducible refine br_df (by assumption) ?_) | (with_reducible refine br_ndt (by assumption) ?_) | (with_reducible refine br_ndf (by assumption) ?_) | (refine getA_in (by assumption) (by assumption) (by rfl) ?_) | (refine len_l (by assumption) ?_) | (refine list_l (by assumption) ?_)))
  refine meth_lst hrl (by simp) ?_
  (repeat (first | (with_reducible refine e_here ?_) | (refine e_skip (by decide) ?_) | (refine isi_in (b := true) (by rfl) ?_) | (refine isi_in (b := false) (by rfl) ?_) | (refine e_glob (by rfl) ?_) | (with_reducible first | refine e_int ?_ | refine e_bool ?_ | refine e_none ?_ | refine e_str ?_ | refine e_bin ?_ | refine e_neg ?_ | refine e_not ?_ | refine e_and ?_ | refine e_or ?_ | refine a_one ?_ | refine a_cons ?_ | refine o_one ?_ | refine o_cons ?_ | refine e_cmp ?_ | refine e_cmp2 ?_ | refine e_attr ?_ | refine e_sub ?_ | refine e_sliceL ?_ | refine e_sliceU ?_ | refine e_tup ?_ | refine e_list ?_ | refine e_call ?_ | refine e_new ?_ | refine e_bltn ?_ | refine e_isi ?_ | refine e_meth ?_ | refine es_nil ?_ | refine es_cons ?_ | refine tr_in ?_ | refine br_t ?_ | refine br_f ?_ | refine br_nt ?_ | refine br_nf ?_ | refine int_in ?_ | refine add_i ?_ | refine sub_i ?_ | refine eq_i ?_ | refine ne_i ?_ | refine lt_i ?_ | refine le_i ?_ | refine gt_i ?_ | refine ge_i ?_ | refine len_t ?_ | refine len_f ?_ | refine int_b ?_ | refine s_nil ?_ | refine s_expr ?_ | refine s_assign ?_ | refine s_setattr ?_ | refine s_setitem ?_ | refine s_if ?_ | refine s_ite ?_ | refine s_ret ?_ | refine fq_ret ?_ | refine fq_next ?_ | refine sq_next ?_ | refine sq_ret ?_) | (with_reducible refine e_loc (by assumption) ?_) | (with_reducible refine br_dt (by assumption) ?_) | (with_reducible refine br_df (by assumption) ?_) | (with_reducible refine br_ndt (by assumption) ?_) | (with_reducible refine br_ndf (by assumption) ?_) | (refine getA_in (by assumption) (by assumption) (by rfl) ?_) | (refine len_l (by assumption) ?_) | (refine list_l (by assumption) ?_)))
  refine app_l hrl hz ?_
  (repeat (first | (with_reducible refine e_here ?_) | (refine e_skip (by decide) ?_) | (refine isi_in (b := true) (by rfl) ?_) | (refine isi_in (b := false) (by rfl) ?_) | (refine e_glob (by rfl) ?_) | (with_reducible first | refine e_int ?_ | refine e_bool ?_ | refine e_none ?_ | refine e_str ?_ | refine e_bin ?_ | refine e_neg ?_ | refine e_not ?_ | refine e_and ?_ | refine e_or ?_ | refine a_one ?_ | refine a_cons ?_ | refine o_one ?_ | refine o_cons ?_ | refine e_cmp ?_ | refine e_cmp2 ?_ | refine e_attr ?_ | refine e_sub ?_ | refine e_sliceL ?_ | refine e_sliceU ?_ | refine e_tup ?_ | refine e_list ?_ | refine e_call ?_ | refine e_new ?_ | refine e_bltn ?_ | refine e_isi ?_ | refine e_meth ?_ | refine es_nil ?_ | refine es_cons ?_ | refine tr_in ?_ | refine br_t ?_ | refine br_f ?_ | refine br_nt ?_ | refine br_nf ?_ | refine int_in ?_ | refine add_i ?_ | refine sub_i ?_ | refine eq_i ?_ | refine ne_i ?_ | refine lt_i ?_ | refine le_i ?_ | refine gt_i ?_ | refine ge_i ?_ | refine len_t ?_ | refine len_f ?_ | refine int_b ?_ | refine s_nil ?_ | refine s_expr ?_ | refine s_assign ?_ | refine s_setattr ?_ | refine s_setitem ?_ | refine s_if ?_ | refine s_ite ?_ | refine s_ret ?_ | refine fq_ret ?_ | refine fq_next ?_ | refine sq_next ?_ | refine sq_ret ?_) | (with_reducible refine e_loc (by assumption) ?_) | (with_reducible refine br_dt (by assumption) ?_) | (with_reducible refine br_df (by assumption) ?_) | (with_reducible refine br_ndt (by assumption) ?_) | (with_reducible refine br_ndf (by assumption) ?_) | (refine getA_in (by assumption) (by assumption) (by rfl) ?_) | (refine len_l (by assumption) ?_) | (refine list_l (by assumption) ?_)))
  exact h

theorem under_spec (D : Def c sg "Post.under" p_Post_under b_Post_under) (hz : P.length ≤ lim) (h : ∀ n, μ n = none → Q (.ref n) (updM μ n (.list P))) : SC c 1 hd "Post.under" [.ref p] μ Q X := by
  refine call_in G D rfl ?_
  unfold b_Post_under
  (repeat (first | (with_reducible refine e_here ?_) | (refine e_skip (by decide) ?_) | (refine isi_in (b := true) (by rfl) ?_) | (refine isi_in (b := false) (by rfl) ?_) | (refine e_glob (by rfl) ?_) | (with_reducible first | refine e_int ?_ | refine e_bool ?_ | refine e_none ?_ | refine e_str ?_ | refine e_bin ?_ | refine e_neg ?_ | refine e_not ?_ | refine e_and ?_ | refine e_or ?_ | refine a_one ?_ | refine a_cons ?_ | refine o_one ?_ | refine o_cons ?_ | refine e_cmp ?_ | refine e_cmp2 ?_ | refine e_attr ?_ | refine e_sub ?_ | refine e_sliceL ?_ | refine e_sliceU ?_ | refine e_tup ?_ | refine e_list ?_ | refine e_call ?_ | refine e_new ?_ | refine e_bltn ?_ | refine e_isi ?_ | refine e_meth ?_ | refine es_nil ?_ | refine es_cons ?_ | refine tr_in ?_ | refine br_t ?_ | refine br_f ?_ | refine br_nt ?_ | refine br_nf ?_ | refine int_in ?_ | refine add_i ?_ | refine sub_i ?_ | refine eq_i ?_ | refine ne_i ?_ | refine lt_i ?_ | refine le_i ?_ | refine gt_i ?_ | refine ge_i ?_ | refine len_t ?_ | refine len_f ?_ | refine int_b ?_ | refine s_nil ?_ | refine s_expr ?_ | refine s_assign ?_ | refine s_setattr ?_ | refine s_setitem ?_ | refine s_if ?_ | refine s_ite ?_ | refine s_ret ?_ | refine fq_ret ?_ | refine fq_next ?_ | refine sq_next ?_ | refine sq_ret ?_) | (with_reducible refine e_loc (by assumption) ?_) | (with_reducible refine br_dt (by assumption) ?_) | (with_reducible refine br_df (by assumption) ?_) | (with_reducible refine br_ndt (by assumption) ?_) | (with_reducible refine br_ndf (by assumption) ?_) | (refine getA_in (by assumption) (by assumption) (by rfl) ?_) | (refine len_l (by assumption) ?_) | (refine list_l (by assumption) ?_)))
  exact newL_in hz h

theorem take_spec (D1 : Def c sg "is_from" p_is_from b_is_from) (D : Def c sg "Post.take" p_Post_take b_Post_take) (hz : P.length ≤ lim) {i : Int}
    (hy : ∀ v, 0 ≤ i → i < P.length → P[i.toNat]? = some v → ∀ μ' n, μ n = none → μ' pd = some (.attrs [("rows", .ref n)]) → μ' n = some (.list (P.eraseIdx i.toNat)) → But pd μ μ' → Q v μ')
    (hn : ¬ (0 ≤ i ∧ i < P.length) → hd = false ∧ X "NoPlace" μ) : SC c 2 hd "Post.take" [.ref p, .int i] μ Q X := by
  refine call_in G D rfl ?_
  unfold b_Post_take
  (repeat (first | (with_reducible refine e_here ?_) | (refine e_skip (by decide) ?_) | (refine isi_in (b := true) (by rfl) ?_) | (refine isi_in (b := false) (by rfl) ?_) | (refine e_glob (by rfl) ?_) | (with_reducible first | refine e_int ?_ | refine e_bool ?_ | refine e_none ?_ | refine e_str ?_ | refine e_bin ?_ | refine e_neg ?_ | refine e_not ?_ | refine e_and ?_ | refine e_or ?_ | refine a_one ?_ | refine a_cons ?_ | refine o_one ?_ | refine o_cons ?_ | refine e_cmp ?_ | refine e_cmp2 ?_ | refine e_attr ?_ | refine e_sub ?_ | refine e_sliceL ?_ | refine e_sliceU ?_ | refine e_tup ?_ | refine e_list ?_ | refine e_call ?_ | refine e_new ?_ | refine e_bltn ?_ | refine e_isi ?_ | refine e_meth ?_ | refine es_nil ?_ | refine es_cons ?_ | refine tr_in ?_ | refine br_t ?_ | refine br_f ?_ | refine br_nt ?_ | refine br_nf ?_ | refine int_in ?_ | refine add_i ?_ | refine sub_i ?_ | refine eq_i ?_ | refine ne_i ?_ | refine lt_i ?_ | refine le_i ?_ | refine gt_i ?_ | refine ge_i ?_ | refine len_t ?_ | refine len_f ?_ | refine int_b ?_ | refine s_nil ?_ | refine s_expr ?_ | refine s_assign ?_ | refine s_setattr ?_ | refine s_setitem ?_ | refine s_if ?_ | refine s_ite ?_ | refine s_ret ?_ | refine fq_ret ?_ | refine fq_next ?_ | refine sq_next ?_ | refine sq_ret ?_) | (with_reducible refine e_loc (by assumption) ?_) | (with_reducible refine br_dt (by assumption) ?_) | (with_reducible refine br_df (by assumption) ?_) | (with_reducible refine br_ndt (by assumption) ?_) | (with_reducible refine br_ndf (by assumption) ?_) | (refine getA_in (by assumption) (by assumption) (by rfl) ?_) | (refine len_l (by assumption) ?_) | (refine list_l (by assumption) ?_)))
  refine is_from_spec G D1 ?_
  (repeat (first | (with_reducible refine e_here ?_) | (refine e_skip (by decide) ?_) | (refine isi_in (b := true) (by rfl) ?_) | (refine isi_in (b := false) (by rfl) ?_) | (refine e_glob (by rfl) ?_) | (with_reducible first | refine e_int ?_ | refine e_bool ?_ | refine e_none ?_ | refine e_str ?_ | refine e_bin ?_ | refine e_neg ?_ | refine e_not ?_ | refine e_and ?_ | refine e_or ?_ | refine a_one ?_ | refine a_cons ?_ | refine o_one ?_ | refine o_cons ?_ | refine e_cmp ?_ | refine e_cmp2 ?_ | refine e_attr ?_ | refine e_sub ?_ | refine e_sliceL ?_ | refine e_sliceU ?_ | refine e_tup ?_ | refine e_list ?_ | refine e_call ?_ | refine e_new ?_ | refine e_bltn ?_ | refine e_isi ?_ | refine e_meth ?_ | refine es_nil ?_ | refine es_cons ?_ | refine tr_in ?_ | refine br_t ?_ | refine br_f ?_ | refine br_nt ?_ | refine br_nf ?_ | refine int_in ?_ | refine add_i ?_ | refine sub_i ?_ | refine eq_i ?_ | refine ne_i ?_ | refine lt_i ?_ | refine le_i ?_ | refine gt_i ?_ | refine ge_i ?_ | refine len_t ?_ | refine len_f ?_ | refine int_b ?_ | refine s_nil ?_ | refine s_expr ?_ | refine s_assign ?_ | refine s_setattr ?_ | refine s_setitem ?_ | refine s_if ?_ | refine s_ite ?_ | refine s_ret ?_ | refine fq_ret ?_ | refine fq_next ?_ | refine sq_next ?_ | refine sq_ret ?_) | (with_reducible refine e_loc (by assumption) ?_) | (with_reducible refine br_dt (by assumption) ?_) | (with_reducible refine br_df (by assumption) ?_) | (with_reducible refine br_ndt (by assumption) ?_) | (with_reducible refine br_ndf (by assumption) ?_) | (refine getA_in (by assumption) (by assumption) (by rfl) ?_) | (refine len_l (by assumption) ?_) | (refine list_l (by assumption) ?_)))
  refine br_nd (fun h => ?_) (fun h => ?_)
  · have h0 : 0 ≤ i := by omega
    have h1 : i < P.length := by omega
    have hv : P[i.toNat]? = some (P[i.toNat]'(by omega)) := List.getElem?_eq_getElem _
    (repeat (first | (with_reducible refine e_here ?_) | (refine e_skip (by decide) ?_) | (refine isi_in (b := true) (by rfl) ?_) | (refine isi_in (b := false) (by rfl) ?_) | (refine e_glob (by rfl) ?_) | (with_reducible first | refine e_int ?_ | refine e_bool ?_ | refine e_none ?_ | refine e_str ?_ | refine e_bin ?_ | refine e_neg ?_ | refine e_not ?_ | refine e_and ?_ | refine e_or ?_ | refine a_one ?_ | refine a_cons ?_ | refine o_one ?_ | refine o_cons ?_ | refine e_cmp ?_ | refine e_cmp2 ?_ | refine e_attr ?_ | refine e_sub ?_ | refine e_sliceL ?_ | refine e_sliceU ?_ | refine e_tup ?_ | refine e_list ?_ | refine e_call ?_ | refine e_new ?_ | refine e_bltn ?_ | refine e_isi ?_ | refine e_meth ?_ | refine es_nil ?_ | refine es_cons ?_ | refine tr_in ?_ | refine br_t ?_ | refine br_f ?_ | refine br_nt ?_ | refine br_nf ?_ | refine int_in ?_ | refine add_i ?_ | refine sub_i ?_ | refine eq_i ?_ | refine ne_i ?_ | refine lt_i ?_ | refine le_i ?_ | refine gt_i ?_ | refine ge_i ?_ | refine len_t ?_ | refine len_f ?_ | refine int_b ?_ | refine s_nil ?_ | refine s_expr ?_ | refine s_assign ?_ | refine s_setattr ?_ | refine s_setitem ?_ | refine s_if ?_ | refine s_ite ?_ | refine s_ret ?_ | refine fq_ret ?_ | refine fq_next ?_ | refine sq_next ?_ | refine sq_ret ?_) | (with_reducible refine e_loc (by assumption) ?_) | (with_reducible refine br_dt (by assumption) ?_) | (with_reducible refine br_df (by assumption) ?_) | (with_reducible refine br_ndt (by assumption) ?_) | (with_reducible refine br_ndf (by assumption) ?_) | (refine getA_in (by assumption) (by assumption) (by rfl) ?_) | (refine len_l (by assumption) ?_) | (refine list_l (by assumption) ?_)))
    refine sub_l hrl (v := P[i.toNat]'(by omega)) (by unfold idx; rw [if_pos h0]; exact hv) ?_
    (repeat (first | (with_reducible refine e_here ?_) | (refine e_skip (by decide) ?_) | (refine isi_in (b := true) (by rfl) ?_) | (refine isi_in (b := false) (by rfl) ?_) | (refine e_glob (by rfl) ?_) | (with_reducible first | refine e_int ?_ | refine e_bool ?_ | refine e_none ?_ | refine e_str ?_ | refine e_bin ?_ | refine e_neg ?_ | refine e_not ?_ | refine e_and ?_ | refine e_or ?_ | refine a_one ?_ | refine a_cons ?_ | refine o_one ?_ | refine o_cons ?_ | refine e_cmp ?_ | refine e_cmp2 ?_ | refine e_attr ?_ | refine e_sub ?_ | refine e_sliceL ?_ | refine e_sliceU ?_ | refine e_tup ?_ | refine e_list ?_ | refine e_call ?_ | refine e_new ?_ | refine e_bltn ?_ | refine e_isi ?_ | refine e_meth ?_ | refine es_nil ?_ | refine es_cons ?_ | refine tr_in ?_ | refine br_t ?_ | refine br_f ?_ | refine br_nt ?_ | refine br_nf ?_ | refine int_in ?_ | refine add_i ?_ | refine sub_i ?_ | refine eq_i ?_ | refine ne_i ?_ | refine lt_i ?_ | refine le_i ?_ | refine gt_i ?_ | refine ge_i ?_ | refine len_t ?_ | refine len_f ?_ | refine int_b ?_ | refine s_nil ?_ | refine s_expr ?_ | refine s_assign ?_ | refine s_setattr ?_ | refine s_setitem ?_ | refine s_if ?_ | refine s_ite ?_ | refine s_ret ?_ | refine fq_ret ?_ | refine fq_next ?_ | refine sq_next ?_ | refine sq_ret ?_) | (with_reducible refine e_loc (by assumption) ?_) | (with_reducible refine br_dt (by assumption) ?_) | (with_reducible refine br_df (by assumption) ?_) | (with_reducible refine br_ndt (by assumption) ?_) | (with_reducible refine br_ndf (by assumption) ?_) | (refine getA_in (by assumption) (by assumption) (by rfl) ?_) | (refine len_l (by assumption) ?_) | (refine list_l (by assumption) ?_)))
    refine slice_in hrl trivial h0 (newL_in (by simp only [cut, List.length_take]; omega) fun n1 hn1 => ?_)
    have e1 := Ext.new hn1 (.list (cut none (some i) P))
    have hp1 := e1 _ _ hp
    have hpd1 := e1 _ _ hpd
    have hrl1 := e1 _ _ hrl
    (repeat (first | (with_reducible refine e_here ?_) | (refine e_skip (by decide) ?_) | (refine isi_in (b := true) (by rfl) ?_) | (refine isi_in (b := false) (by rfl) ?_) | (refine e_glob (by rfl) ?_) | (with_reducible first | refine e_int ?_ | refine e_bool ?_ | refine e_none ?_ | refine e_str ?_ | refine e_bin ?_ | refine e_neg ?_ | refine e_not ?_ | refine e_and ?_ | refine e_or ?_ | refine a_one ?_ | refine a_cons ?_ | refine o_one ?_ | refine o_cons ?_ | refine e_cmp ?_ | refine e_cmp2 ?_ | refine e_attr ?_ | refine e_sub ?_ | refine e_sliceL ?_ | refine e_sliceU ?_ | refine e_tup ?_ | refine e_list ?_ | refine e_call ?_ | refine e_new ?_ | refine e_bltn ?_ | refine e_isi ?_ | refine e_meth ?_ | refine es_nil ?_ | refine es_cons ?_ | refine tr_in ?_ | refine br_t ?_ | refine br_f ?_ | refine br_nt ?_ | refine br_nf ?_ | refine int_in ?_ | refine add_i ?_ | refine sub_i ?_ | refine eq_i ?_ | refine ne_i ?_ | refine lt_i ?_ | refine le_i ?_ | refine gt_i ?_ | refine ge_i ?_ | refine len_t ?_ | refine len_f ?_ | refine int_b ?_ | refine s_nil ?_ | refine s_expr ?_ | refine s_assign ?_ | refine s_setattr ?_ | refine s_setitem ?_ | refine s_if ?_ | refine s_ite ?_ | refine s_ret ?_ | refine fq_ret ?_ | refine fq_next ?_ | refine sq_next ?_ | refine sq_ret ?_) | (with_reducible refine e_loc (by assumption) ?_) | (with_reducible refine br_dt (by assumption) ?_) | (with_reducible refine br_df (by assumption) ?_) | (with_reducible refine br_ndt (by assumption) ?_) | (with_reducible refine br_ndf (by assumption) ?_) | (refine getA_in (by assumption) (by assumption) (by rfl) ?_) | (refine len_l (by assumption) ?_) | (refine list_l (by assumption) ?_)))
    refine slice_in hrl1 (show 0 ≤ i + 1 by omega) trivial (newL_in (by simp only [cut, List.length_drop]; omega) fun n2 hn2 => ?_)
    have e2 := Ext.new hn2 (.list (cut (some (i + 1)) none P))
    refine cat_l (e2 _ _ mem_here) mem_here (newL_in ?_ fun n3 hn3 => ?_)
    · simp only [cut, List.length_append, List.length_take, List.length_drop]; omega
    have e3 := Ext.new hn3 (.list (cut none (some i) P ++ cut (some (i + 1)) none P))
    have e := e1.trans (e2.trans e3)
    (repeat (first | (with_reducible refine e_here ?_) | (refine e_skip (by decide) ?_) | (refine isi_in (b := true) (by rfl) ?_) | (refine isi_in (b := false) (by rfl) ?_) | (refine e_glob (by rfl) ?_) | (with_reducible first | refine e_int ?_ | refine e_bool ?_ | refine e_none ?_ | refine e_str ?_ | refine e_bin ?_ | refine e_neg ?_ | refine e_not ?_ | refine e_and ?_ | refine e_or ?_ | refine a_one ?_ | refine a_cons ?_ | refine o_one ?_ | refine o_cons ?_ | refine e_cmp ?_ | refine e_cmp2 ?_ | refine e_attr ?_ | refine e_sub ?_ | refine e_sliceL ?_ | refine e_sliceU ?_ | refine e_tup ?_ | refine e_list ?_ | refine e_call ?_ | refine e_new ?_ | refine e_bltn ?_ | refine e_isi ?_ | refine e_meth ?_ | refine es_nil ?_ | refine es_cons ?_ | refine tr_in ?_ | refine br_t ?_ | refine br_f ?_ | refine br_nt ?_ | refine br_nf ?_ | refine int_in ?_ | refine add_i ?_ | refine sub_i ?_ | refine eq_i ?_ | refine ne_i ?_ | refine lt_i ?_ | refine le_i ?_ | refine gt_i ?_ | refine ge_i ?_ | refine len_t ?_ | refine len_f ?_ | refine int_b ?_ | refine s_nil ?_ | refine s_expr ?_ | refine s_assign ?_ | refine s_setattr ?_ | refine s_setitem ?_ | refine s_if ?_ | refine s_ite ?_ | refine s_ret ?_ | refine fq_ret ?_ | refine fq_next ?_ | refine sq_next ?_ | refine sq_ret ?_) | (with_reducible refine e_loc (by assumption) ?_) | (with_reducible refine br_dt (by assumption) ?_) | (with_reducible refine br_df (by assumption) ?_) | (with_reducible refine br_ndt (by assumption) ?_) | (with_reducible refine br_ndf (by assumption) ?_) | (refine getA_in (by assumption) (by assumption) (by rfl) ?_) | (refine len_l (by assumption) ?_) | (refine list_l (by assumption) ?_)))
    refine setA_in (e _ _ hp) (e _ _ hpd) (show 1 < 900 by decide) ?_
    (repeat (first | (with_reducible refine e_here ?_) | (refine e_skip (by decide) ?_) | (refine isi_in (b := true) (by rfl) ?_) | (refine isi_in (b := false) (by rfl) ?_) | (refine e_glob (by rfl) ?_) | (with_reducible first | refine e_int ?_ | refine e_bool ?_ | refine e_none ?_ | refine e_str ?_ | refine e_bin ?_ | refine e_neg ?_ | refine e_not ?_ | refine e_and ?_ | refine e_or ?_ | refine a_one ?_ | refine a_cons ?_ | refine o_one ?_ | refine o_cons ?_ | refine e_cmp ?_ | refine e_cmp2 ?_ | refine e_attr ?_ | refine e_sub ?_ | refine e_sliceL ?_ | refine e_sliceU ?_ | refine e_tup ?_ | refine e_list ?_ | refine e_call ?_ | refine e_new ?_ | refine e_bltn ?_ | refine e_isi ?_ | refine e_meth ?_ | refine es_nil ?_ | refine es_cons ?_ | refine tr_in ?_ | refine br_t ?_ | refine br_f ?_ | refine br_nt ?_ | refine br_nf ?_ | refine int_in ?_ | refine add_i ?_ | refine sub_i ?_ | refine eq_i ?_ | refine ne_i ?_ | refine lt_i ?_ | refine le_i ?_ | refine gt_i ?_ | refine ge_i ?_ | refine len_t ?_ | refine len_f ?_ | refine int_b ?_ | refine s_nil ?_ | refine s_expr ?_ | refine s_assign ?_ | refine s_setattr ?_ | refine s_setitem ?_ | refine s_if ?_ | refine s_ite ?_ | refine s_ret ?_ | refine fq_ret ?_ | refine fq_next ?_ | refine sq_next ?_ | refine sq_ret ?_) | (with_reducible refine e_loc (by assumption) ?_) | (with_reducible refine br_dt (by assumption) ?_) | (with_reducible refine br_df (by assumption) ?_) | (with_reducible refine br_ndt (by assumption) ?_) | (with_reducible refine br_ndf (by assumption) ?_) | (refine getA_in (by assumption) (by assumption) (by rfl) ?_) | (refine len_l (by assumption) ?_) | (refine list_l (by assumption) ?_)))
    have fresh : μ n3 = none := by
      cases q : μ n3 with
      | none => rfl
      | some o => have := (e1.trans e2) _ _ q; rw [hn3] at this; cases this
    refine hy _ h0 h1 hv _ n3 fresh mem_here ?_ (e.but (But.upd _ _ _))
    have hne : n3 ≠ pd := fun q => by rw [q, hpd] at fresh; cases fresh
    rw [updM_ne hne, updM_self]
    simp only [cut]
    rw [List.eraseIdx_eq_take_drop_succ, show (i + 1).toNat = i.toNat + 1 by omega]
  · obtain ⟨q1, q2⟩ := hn (by omega)
    exact s_raise q1 q2

theorem taken_spec (D1 : Def c sg "is_from" p_is_from b_is_from) (D2 : Def c sg "Post.take" p_Post_take b_Post_take) (D : Def c sg "_law_taken" p__law_taken b__law_taken) (hz : P.length ≤ lim) {i : Int}
    (hy : ∀ v, 0 ≤ i → i < P.length → P[i.toNat]? = some v → ∀ μ' n, μ n = none → μ' pd = some (.attrs [("rows", .ref n)]) → μ' n = some (.list (P.eraseIdx i.toNat)) → But pd μ μ' → Q v μ')
    (hn : ¬ (0 ≤ i ∧ i < P.length) → Q .none μ) : SC c 3 false "_law_taken" [.ref p, .int i] μ Q X := by
  refine call_in G D rfl ?_
  unfold b__law_taken
  refine s_try rfl ?_
  (repeat (first | (with_reducible refine e_here ?_) | (refine e_skip (by decide) ?_) | (refine isi_in (b := true) (by rfl) ?_) | (refine isi_in (b := false) (by rfl) ?_) | (refine e_glob (by rfl) ?_) | (with_reducible first | refine e_int ?_ | refine e_bool ?_ | refine e_none ?_ | refine e_str ?_ | refine e_bin ?_ | refine e_neg ?_ | refine e_not ?_ | refine e_and ?_ | refine e_or ?_ | refine a_one ?_ | refine a_cons ?_ | refine o_one ?_ | refine o_cons ?_ | refine e_cmp ?_ | refine e_cmp2 ?_ | refine e_attr ?_ | refine e_sub ?_ | refine e_sliceL ?_ | refine e_sliceU ?_ | refine e_tup ?_ | refine e_list ?_ | refine e_call ?_ | refine e_new ?_ | refine e_bltn ?_ | refine e_isi ?_ | refine e_meth ?_ | refine es_nil ?_ | refine es_cons ?_ | refine tr_in ?_ | refine br_t ?_ | refine br_f ?_ | refine br_nt ?_ | refine br_nf ?_ | refine int_in ?_ | refine add_i ?_ | refine sub_i ?_ | refine eq_i ?_ | refine ne_i ?_ | refine lt_i ?_ | refine le_i ?_ | refine gt_i ?_ | refine ge_i ?_ | refine len_t ?_ | refine len_f ?_ | refine int_b ?_ | refine s_nil ?_ | refine s_expr ?_ | refine s_assign ?_ | refine s_setattr ?_ | refine s_setitem ?_ | refine s_if ?_ | refine s_ite ?_ | refine s_ret ?_ | refine fq_ret ?_ | refine fq_next ?_ | refine sq_next ?_ | refine sq_ret ?_) | (with_reducible refine e_loc (by assumption) ?_) | (with_reducible refine br_dt (by assumption) ?_) | (with_reducible refine br_df (by assumption) ?_) | (with_reducible refine br_ndt (by assumption) ?_) | (with_reducible refine br_ndf (by assumption) ?_) | (refine getA_in (by assumption) (by assumption) (by rfl) ?_) | (refine len_l (by assumption) ?_) | (refine list_l (by assumption) ?_)))
  refine meth_own "Post.take" hp hpd (by rfl) (by rfl) (by rfl) ?_
  (repeat (first | (with_reducible refine e_here ?_) | (refine e_skip (by decide) ?_) | (refine isi_in (b := true) (by rfl) ?_) | (refine isi_in (b := false) (by rfl) ?_) | (refine e_glob (by rfl) ?_) | (with_reducible first | refine e_int ?_ | refine e_bool ?_ | refine e_none ?_ | refine e_str ?_ | refine e_bin ?_ | refine e_neg ?_ | refine e_not ?_ | refine e_and ?_ | refine e_or ?_ | refine a_one ?_ | refine a_cons ?_ | refine o_one ?_ | refine o_cons ?_ | refine e_cmp ?_ | refine e_cmp2 ?_ | refine e_attr ?_ | refine e_sub ?_ | refine e_sliceL ?_ | refine e_sliceU ?_ | refine e_tup ?_ | refine e_list ?_ | refine e_call ?_ | refine e_new ?_ | refine e_bltn ?_ | refine e_isi ?_ | refine e_meth ?_ | refine es_nil ?_ | refine es_cons ?_ | refine tr_in ?_ | refine br_t ?_ | refine br_f ?_ | refine br_nt ?_ | refine br_nf ?_ | refine int_in ?_ | refine add_i ?_ | refine sub_i ?_ | refine eq_i ?_ | refine ne_i ?_ | refine lt_i ?_ | refine le_i ?_ | refine gt_i ?_ | refine ge_i ?_ | refine len_t ?_ | refine len_f ?_ | refine int_b ?_ | refine s_nil ?_ | refine s_expr ?_ | refine s_assign ?_ | refine s_setattr ?_ | refine s_setitem ?_ | refine s_if ?_ | refine s_ite ?_ | refine s_ret ?_ | refine fq_ret ?_ | refine fq_next ?_ | refine sq_next ?_ | refine sq_ret ?_) | (with_reducible refine e_loc (by assumption) ?_) | (with_reducible refine br_dt (by assumption) ?_) | (with_reducible refine br_df (by assumption) ?_) | (with_reducible refine br_ndt (by assumption) ?_) | (with_reducible refine br_ndf (by assumption) ?_) | (refine getA_in (by assumption) (by assumption) (by rfl) ?_) | (refine len_l (by assumption) ?_) | (refine list_l (by assumption) ?_)))
  refine take_spec G hp hpd hrl D1 D2 hz (fun v h0 h1 hv μ' n a1 a2 a3 a4 => ?_) (fun h => ⟨rfl, ?_⟩)
  · (repeat (first | (with_reducible refine e_here ?_) | (refine e_skip (by decide) ?_) | (refine isi_in (b := true) (by rfl) ?_) | (refine isi_in (b := false) (by rfl) ?_) | (refine e_glob (by rfl) ?_) | (with_reducible first | refine e_int ?_ | refine e_bool ?_ | refine e_none ?_ | refine e_str ?_ | refine e_bin ?_ | refine e_neg ?_ | refine e_not ?_ | refine e_and ?_ | refine e_or ?_ | refine a_one ?_ | refine a_cons ?_ | refine o_one ?_ | refine o_cons ?_ | refine e_cmp ?_ | refine e_cmp2 ?_ | refine e_attr ?_ | refine e_sub ?_ | refine e_sliceL ?_ | refine e_sliceU ?_ | refine e_tup ?_ | refine e_list ?_ | refine e_call ?_ | refine e_new ?_ | refine e_bltn ?_ | refine e_isi ?_ | refine e_meth ?_ | refine es_nil ?_ | refine es_cons ?_ | refine tr_in ?_ | refine br_t ?_ | refine br_f ?_ | refine br_nt ?_ | refine br_nf ?_ | refine int_in ?_ | refine add_i ?_ | refine sub_i ?_ | refine eq_i ?_ | refine ne_i ?_ | refine lt_i ?_ | refine le_i ?_ | refine gt_i ?_ | refine ge_i ?_ | refine len_t ?_ | refine len_f ?_ | refine int_b ?_ | refine s_nil ?_ | refine s_expr ?_ | refine s_assign ?_ | refine s_setattr ?_ | refine s_setitem ?_ | refine s_if ?_ | refine s_ite ?_ | refine s_ret ?_ | refine fq_ret ?_ | refine fq_next ?_ | refine sq_next ?_ | refine sq_ret ?_) | (with_reducible refine e_loc (by assumption) ?_) | (with_reducible refine br_dt (by assumption) ?_) | (with_reducible refine br_df (by assumption) ?_) | (with_reducible refine br_ndt (by assumption) ?_) | (with_reducible refine br_ndf (by assumption) ?_) | (refine getA_in (by assumption) (by assumption) (by rfl) ?_) | (refine len_l (by assumption) ?_) | (refine list_l (by assumption) ?_)))
    exact hy v h0 h1 hv μ' n a1 a2 a3 a4
  · refine try_y (by rfl) ?_
    (repeat (first | (with_reducible refine e_here ?_) | (refine e_skip (by decide) ?_) | (refine isi_in (b := true) (by rfl) ?_) | (refine isi_in (b := false) (by rfl) ?_) | (refine e_glob (by rfl) ?_) | (with_reducible first | refine e_int ?_ | refine e_bool ?_ | refine e_none ?_ | refine e_str ?_ | refine e_bin ?_ | refine e_neg ?_ | refine e_not ?_ | refine e_and ?_ | refine e_or ?_ | refine a_one ?_ | refine a_cons ?_ | refine o_one ?_ | refine o_cons ?_ | refine e_cmp ?_ | refine e_cmp2 ?_ | refine e_attr ?_ | refine e_sub ?_ | refine e_sliceL ?_ | refine e_sliceU ?_ | refine e_tup ?_ | refine e_list ?_ | refine e_call ?_ | refine e_new ?_ | refine e_bltn ?_ | refine e_isi ?_ | refine e_meth ?_ | refine es_nil ?_ | refine es_cons ?_ | refine tr_in ?_ | refine br_t ?_ | refine br_f ?_ | refine br_nt ?_ | refine br_nf ?_ | refine int_in ?_ | refine add_i ?_ | refine sub_i ?_ | refine eq_i ?_ | refine ne_i ?_ | refine lt_i ?_ | refine le_i ?_ | refine gt_i ?_ | refine ge_i ?_ | refine len_t ?_ | refine len_f ?_ | refine int_b ?_ | refine s_nil ?_ | refine s_expr ?_ | refine s_assign ?_ | refine s_setattr ?_ | refine s_setitem ?_ | refine s_if ?_ | refine s_ite ?_ | refine s_ret ?_ | refine fq_ret ?_ | refine fq_next ?_ | refine sq_next ?_ | refine sq_ret ?_) | (with_reducible refine e_loc (by assumption) ?_) | (with_reducible refine br_dt (by assumption) ?_) | (with_reducible refine br_df (by assumption) ?_) | (with_reducible refine br_ndt (by assumption) ?_) | (with_reducible refine br_ndf (by assumption) ?_) | (refine getA_in (by assumption) (by assumption) (by rfl) ?_) | (refine len_l (by assumption) ?_) | (refine list_l (by assumption) ?_)))
    exact hn h

theorem good_spec (D1 : Def c sg "is_from" p_is_from b_is_from) (D2 : Def c sg "Post.take" p_Post_take b_Post_take) (D : Def c sg "_law_class_good" p__law_class_good b__law_class_good) (hz : P.length ≤ lim) {i : Int}
    (hi : ¬ (0 ≤ i ∧ i < P.length)) (h : Q (.bool true) μ) : SC c 3 false "_law_class_good" [.ref p, .int i] μ Q X := by
  refine call_in G D rfl ?_
  unfold b__law_class_good
  refine s_try rfl ?_
  (repeat (first | (with_reducible refine e_here ?_) | (refine e_skip (by decide) ?_) | (refine isi_in (b := true) (by rfl) ?_) | (refine isi_in (b := false) (by rfl) ?_) | (refine e_glob (by rfl) ?_) | (with_reducible first | refine e_int ?_ | refine e_bool ?_ | refine e_none ?_ | refine e_str ?_ | refine e_bin ?_ | refine e_neg ?_ | refine e_not ?_ | refine e_and ?_ | refine e_or ?_ | refine a_one ?_ | refine a_cons ?_ | refine o_one ?_ | refine o_cons ?_ | refine e_cmp ?_ | refine e_cmp2 ?_ | refine e_attr ?_ | refine e_sub ?_ | refine e_sliceL ?_ | refine e_sliceU ?_ | refine e_tup ?_ | refine e_list ?_ | refine e_call ?_ | refine e_new ?_ | refine e_bltn ?_ | refine e_isi ?_ | refine e_meth ?_ | refine es_nil ?_ | refine es_cons ?_ | refine tr_in ?_ | refine br_t ?_ | refine br_f ?_ | refine br_nt ?_ | refine br_nf ?_ | refine int_in ?_ | refine add_i ?_ | refine sub_i ?_ | refine eq_i ?_ | refine ne_i ?_ | refine lt_i ?_ | refine le_i ?_ | refine gt_i ?_ | refine ge_i ?_ | refine len_t ?_ | refine len_f ?_ | refine int_b ?_ | refine s_nil ?_ | refine s_expr ?_ | refine s_assign ?_ | refine s_setattr ?_ | refine s_setitem ?_ | refine s_if ?_ | refine s_ite ?_ | refine s_ret ?_ | refine fq_ret ?_ | refine fq_next ?_ | refine sq_next ?_ | refine sq_ret ?_) | (with_reducible refine e_loc (by assumption) ?_) | (with_reducible refine br_dt (by assumption) ?_) | (with_reducible refine br_df (by assumption) ?_) | (with_reducible refine br_ndt (by assumption) ?_) | (with_reducible refine br_ndf (by assumption) ?_) | (refine getA_in (by assumption) (by assumption) (by rfl) ?_) | (refine len_l (by assumption) ?_) | (refine list_l (by assumption) ?_)))
  refine meth_own "Post.take" hp hpd (by rfl) (by rfl) (by rfl) ?_
  (repeat (first | (with_reducible refine e_here ?_) | (refine e_skip (by decide) ?_) | (refine isi_in (b := true) (by rfl) ?_) | (refine isi_in (b := false) (by rfl) ?_) | (refine e_glob (by rfl) ?_) | (with_reducible first | refine e_int ?_ | refine e_bool ?_ | refine e_none ?_ | refine e_str ?_ | refine e_bin ?_ | refine e_neg ?_ | refine e_not ?_ | refine e_and ?_ | refine e_or ?_ | refine a_one ?_ | refine a_cons ?_ | refine o_one ?_ | refine o_cons ?_ | refine e_cmp ?_ | refine e_cmp2 ?_ | refine e_attr ?_ | refine e_sub ?_ | refine e_sliceL ?_ | refine e_sliceU ?_ | refine e_tup ?_ | refine e_list ?_ | refine e_call ?_ | refine e_new ?_ | refine e_bltn ?_ | refine e_isi ?_ | refine e_meth ?_ | refine es_nil ?_ | refine es_cons ?_ | refine tr_in ?_ | refine br_t ?_ | refine br_f ?_ | refine br_nt ?_ | refine br_nf ?_ | refine int_in ?_ | refine add_i ?_ | refine sub_i ?_ | refine eq_i ?_ | refine ne_i ?_ | refine lt_i ?_ | refine le_i ?_ | refine gt_i ?_ | refine ge_i ?_ | refine len_t ?_ | refine len_f ?_ | refine int_b ?_ | refine s_nil ?_ | refine s_expr ?_ | refine s_assign ?_ | refine s_setattr ?_ | refine s_setitem ?_ | refine s_if ?_ | refine s_ite ?_ | refine s_ret ?_ | refine fq_ret ?_ | refine fq_next ?_ | refine sq_next ?_ | refine sq_ret ?_) | (with_reducible refine e_loc (by assumption) ?_) | (with_reducible refine br_dt (by assumption) ?_) | (with_reducible refine br_df (by assumption) ?_) | (with_reducible refine br_ndt (by assumption) ?_) | (with_reducible refine br_ndf (by assumption) ?_) | (refine getA_in (by assumption) (by assumption) (by rfl) ?_) | (refine len_l (by assumption) ?_) | (refine list_l (by assumption) ?_)))
  refine take_spec G hp hpd hrl D1 D2 hz (fun v h0 h1 => absurd ⟨h0, h1⟩ hi) (fun _ => ⟨rfl, ?_⟩)
  refine try_as (by rfl) ?_
  (repeat (first | (with_reducible refine e_here ?_) | (refine e_skip (by decide) ?_) | (refine isi_in (b := true) (by rfl) ?_) | (refine isi_in (b := false) (by rfl) ?_) | (refine e_glob (by rfl) ?_) | (with_reducible first | refine e_int ?_ | refine e_bool ?_ | refine e_none ?_ | refine e_str ?_ | refine e_bin ?_ | refine e_neg ?_ | refine e_not ?_ | refine e_and ?_ | refine e_or ?_ | refine a_one ?_ | refine a_cons ?_ | refine o_one ?_ | refine o_cons ?_ | refine e_cmp ?_ | refine e_cmp2 ?_ | refine e_attr ?_ | refine e_sub ?_ | refine e_sliceL ?_ | refine e_sliceU ?_ | refine e_tup ?_ | refine e_list ?_ | refine e_call ?_ | refine e_new ?_ | refine e_bltn ?_ | refine e_isi ?_ | refine e_meth ?_ | refine es_nil ?_ | refine es_cons ?_ | refine tr_in ?_ | refine br_t ?_ | refine br_f ?_ | refine br_nt ?_ | refine br_nf ?_ | refine int_in ?_ | refine add_i ?_ | refine sub_i ?_ | refine eq_i ?_ | refine ne_i ?_ | refine lt_i ?_ | refine le_i ?_ | refine gt_i ?_ | refine ge_i ?_ | refine len_t ?_ | refine len_f ?_ | refine int_b ?_ | refine s_nil ?_ | refine s_expr ?_ | refine s_assign ?_ | refine s_setattr ?_ | refine s_setitem ?_ | refine s_if ?_ | refine s_ite ?_ | refine s_ret ?_ | refine fq_ret ?_ | refine fq_next ?_ | refine sq_next ?_ | refine sq_ret ?_) | (with_reducible refine e_loc (by assumption) ?_) | (with_reducible refine br_dt (by assumption) ?_) | (with_reducible refine br_df (by assumption) ?_) | (with_reducible refine br_ndt (by assumption) ?_) | (with_reducible refine br_ndf (by assumption) ?_) | (refine getA_in (by assumption) (by assumption) (by rfl) ?_) | (refine len_l (by assumption) ?_) | (refine list_l (by assumption) ?_)))
  exact h

omit hp hpd hrl
theorem row_by_spec (D : Def c sg "_law_row_by" p__law_row_by b__law_row_by) {i k : Int} (h : ∀ r μ', isRow r → Ext μ μ' → Q r μ') : SC c 1 hd "_law_row_by" [.int i, .int k] μ Q X := by
  refine call_in G D rfl ?_
  unfold b__law_row_by
  (repeat (first | (with_reducible refine e_here ?_) | (refine e_skip (by decide) ?_) | (refine isi_in (b := true) (by rfl) ?_) | (refine isi_in (b := false) (by rfl) ?_) | (refine e_glob (by rfl) ?_) | (with_reducible first | refine e_int ?_ | refine e_bool ?_ | refine e_none ?_ | refine e_str ?_ | refine e_bin ?_ | refine e_neg ?_ | refine e_not ?_ | refine e_and ?_ | refine e_or ?_ | refine a_one ?_ | refine a_cons ?_ | refine o_one ?_ | refine o_cons ?_ | refine e_cmp ?_ | refine e_cmp2 ?_ | refine e_attr ?_ | refine e_sub ?_ | refine e_sliceL ?_ | refine e_sliceU ?_ | refine e_tup ?_ | refine e_list ?_ | refine e_call ?_ | refine e_new ?_ | refine e_bltn ?_ | refine e_isi ?_ | refine e_meth ?_ | refine es_nil ?_ | refine es_cons ?_ | refine tr_in ?_ | refine br_t ?_ | refine br_f ?_ | refine br_nt ?_ | refine br_nf ?_ | refine int_in ?_ | refine add_i ?_ | refine sub_i ?_ | refine eq_i ?_ | refine ne_i ?_ | refine lt_i ?_ | refine le_i ?_ | refine gt_i ?_ | refine ge_i ?_ | refine len_t ?_ | refine len_f ?_ | refine int_b ?_ | refine s_nil ?_ | refine s_expr ?_ | refine s_assign ?_ | refine s_setattr ?_ | refine s_setitem ?_ | refine s_if ?_ | refine s_ite ?_ | refine s_ret ?_ | refine fq_ret ?_ | refine fq_next ?_ | refine sq_next ?_ | refine sq_ret ?_) | (with_reducible refine e_loc (by assumption) ?_) | (with_reducible refine br_dt (by assumption) ?_) | (with_reducible refine br_df (by assumption) ?_) | (with_reducible refine br_ndt (by assumption) ?_) | (with_reducible refine br_ndf (by assumption) ?_) | (refine getA_in (by assumption) (by assumption) (by rfl) ?_) | (refine len_l (by assumption) ?_) | (refine list_l (by assumption) ?_)))
  refine newL_in (by decide) fun n hn => ?_
  (repeat (first | (with_reducible refine e_here ?_) | (refine e_skip (by decide) ?_) | (refine isi_in (b := true) (by rfl) ?_) | (refine isi_in (b := false) (by rfl) ?_) | (refine e_glob (by rfl) ?_) | (with_reducible first | refine e_int ?_ | refine e_bool ?_ | refine e_none ?_ | refine e_str ?_ | refine e_bin ?_ | refine e_neg ?_ | refine e_not ?_ | refine e_and ?_ | refine e_or ?_ | refine a_one ?_ | refine a_cons ?_ | refine o_one ?_ | refine o_cons ?_ | refine e_cmp ?_ | refine e_cmp2 ?_ | refine e_attr ?_ | refine e_sub ?_ | refine e_sliceL ?_ | refine e_sliceU ?_ | refine e_tup ?_ | refine e_list ?_ | refine e_call ?_ | refine e_new ?_ | refine e_bltn ?_ | refine e_isi ?_ | refine e_meth ?_ | refine es_nil ?_ | refine es_cons ?_ | refine tr_in ?_ | refine br_t ?_ | refine br_f ?_ | refine br_nt ?_ | refine br_nf ?_ | refine int_in ?_ | refine add_i ?_ | refine sub_i ?_ | refine eq_i ?_ | refine ne_i ?_ | refine lt_i ?_ | refine le_i ?_ | refine gt_i ?_ | refine ge_i ?_ | refine len_t ?_ | refine len_f ?_ | refine int_b ?_ | refine s_nil ?_ | refine s_expr ?_ | refine s_assign ?_ | refine s_setattr ?_ | refine s_setitem ?_ | refine s_if ?_ | refine s_ite ?_ | refine s_ret ?_ | refine fq_ret ?_ | refine fq_next ?_ | refine sq_next ?_ | refine sq_ret ?_) | (with_reducible refine e_loc (by assumption) ?_) | (with_reducible refine br_dt (by assumption) ?_) | (with_reducible refine br_df (by assumption) ?_) | (with_reducible refine br_ndt (by assumption) ?_) | (with_reducible refine br_ndf (by assumption) ?_) | (refine getA_in (by assumption) (by assumption) (by rfl) ?_) | (refine len_l (by assumption) ?_) | (refine list_l (by assumption) ?_)))
  refine mod_i (by decide) ?_
  have hs : ∃ s, idx [V.str (Str.ofString "letter"), V.str (Str.ofString "answer")] (i % 2) = some (.str (Str.ofString s)) ∧ (s = "letter" ∨ s = "answer") := by
    have : i % 2 = 0 ∨ i % 2 = 1 := by omega
    rcases this with q | q <;> rw [q]
    · exact ⟨_, rfl, .inl rfl⟩
    · exact ⟨_, rfl, .inr rfl⟩
  obtain ⟨s, e1, e2⟩ := hs
  refine sub_l mem_here e1 ?_
  (repeat (first | (with_reducible refine e_here ?_) | (refine e_skip (by decide) ?_) | (refine isi_in (b := true) (by rfl) ?_) | (refine isi_in (b := false) (by rfl) ?_) | (refine e_glob (by rfl) ?_) | (with_reducible first | refine e_int ?_ | refine e_bool ?_ | refine e_none ?_ | refine e_str ?_ | refine e_bin ?_ | refine e_neg ?_ | refine e_not ?_ | refine e_and ?_ | refine e_or ?_ | refine a_one ?_ | refine a_cons ?_ | refine o_one ?_ | refine o_cons ?_ | refine e_cmp ?_ | refine e_cmp2 ?_ | refine e_attr ?_ | refine e_sub ?_ | refine e_sliceL ?_ | refine e_sliceU ?_ | refine e_tup ?_ | refine e_list ?_ | refine e_call ?_ | refine e_new ?_ | refine e_bltn ?_ | refine e_isi ?_ | refine e_meth ?_ | refine es_nil ?_ | refine es_cons ?_ | refine tr_in ?_ | refine br_t ?_ | refine br_f ?_ | refine br_nt ?_ | refine br_nf ?_ | refine int_in ?_ | refine add_i ?_ | refine sub_i ?_ | refine eq_i ?_ | refine ne_i ?_ | refine lt_i ?_ | refine le_i ?_ | refine gt_i ?_ | refine ge_i ?_ | refine len_t ?_ | refine len_f ?_ | refine int_b ?_ | refine s_nil ?_ | refine s_expr ?_ | refine s_assign ?_ | refine s_setattr ?_ | refine s_setitem ?_ | refine s_if ?_ | refine s_ite ?_ | refine s_ret ?_ | refine fq_ret ?_ | refine fq_next ?_ | refine sq_next ?_ | refine sq_ret ?_) | (with_reducible refine e_loc (by assumption) ?_) | (with_reducible refine br_dt (by assumption) ?_) | (with_reducible refine br_df (by assumption) ?_) | (with_reducible refine br_ndt (by assumption) ?_) | (with_reducible refine br_ndf (by assumption) ?_) | (refine getA_in (by assumption) (by assumption) (by rfl) ?_) | (refine len_l (by assumption) ?_) | (refine list_l (by assumption) ?_)))
  refine div_i (by decide) (by decide) ?_
  (repeat (first | (with_reducible refine e_here ?_) | (refine e_skip (by decide) ?_) | (refine isi_in (b := true) (by rfl) ?_) | (refine isi_in (b := false) (by rfl) ?_) | (refine e_glob (by rfl) ?_) | (with_reducible first | refine e_int ?_ | refine e_bool ?_ | refine e_none ?_ | refine e_str ?_ | refine e_bin ?_ | refine e_neg ?_ | refine e_not ?_ | refine e_and ?_ | refine e_or ?_ | refine a_one ?_ | refine a_cons ?_ | refine o_one ?_ | refine o_cons ?_ | refine e_cmp ?_ | refine e_cmp2 ?_ | refine e_attr ?_ | refine e_sub ?_ | refine e_sliceL ?_ | refine e_sliceU ?_ | refine e_tup ?_ | refine e_list ?_ | refine e_call ?_ | refine e_new ?_ | refine e_bltn ?_ | refine e_isi ?_ | refine e_meth ?_ | refine es_nil ?_ | refine es_cons ?_ | refine tr_in ?_ | refine br_t ?_ | refine br_f ?_ | refine br_nt ?_ | refine br_nf ?_ | refine int_in ?_ | refine add_i ?_ | refine sub_i ?_ | refine eq_i ?_ | refine ne_i ?_ | refine lt_i ?_ | refine le_i ?_ | refine gt_i ?_ | refine ge_i ?_ | refine len_t ?_ | refine len_f ?_ | refine int_b ?_ | refine s_nil ?_ | refine s_expr ?_ | refine s_assign ?_ | refine s_setattr ?_ | refine s_setitem ?_ | refine s_if ?_ | refine s_ite ?_ | refine s_ret ?_ | refine fq_ret ?_ | refine fq_next ?_ | refine sq_next ?_ | refine sq_ret ?_) | (with_reducible refine e_loc (by assumption) ?_) | (with_reducible refine br_dt (by assumption) ?_) | (with_reducible refine br_df (by assumption) ?_) | (with_reducible refine br_ndt (by assumption) ?_) | (with_reducible refine br_ndf (by assumption) ?_) | (refine getA_in (by assumption) (by assumption) (by rfl) ?_) | (refine len_l (by assumption) ?_) | (refine list_l (by assumption) ?_)))
  refine mod_i (by decide) ?_
  (repeat (first | (with_reducible refine e_here ?_) | (refine e_skip (by decide) ?_) | (refine isi_in (b := true) (by rfl) ?_) | (refine isi_in (b := false) (by rfl) ?_) | (refine e_glob (by rfl) ?_) | (with_reducible first | refine e_int ?_ | refine e_bool ?_ | refine e_none ?_ | refine e_str ?_ | refine e_bin ?_ | refine e_neg ?_ | refine e_not ?_ | refine e_and ?_ | refine e_or ?_ | refine a_one ?_ | refine a_cons ?_ | refine o_one ?_ | refine o_cons ?_ | refine e_cmp ?_ | refine e_cmp2 ?_ | refine e_attr ?_ | refine e_sub ?_ | refine e_sliceL ?_ | refine e_sliceU ?_ | refine e_tup ?_ | refine e_list ?_ | refine e_call ?_ | refine e_new ?_ | refine e_bltn ?_ | refine e_isi ?_ | refine e_meth ?_ | refine es_nil ?_ | refine es_cons ?_ | refine tr_in ?_ | refine br_t ?_ | refine br_f ?_ | refine br_nt ?_ | refine br_nf ?_ | refine int_in ?_ | refine add_i ?_ | refine sub_i ?_ | refine eq_i ?_ | refine ne_i ?_ | refine lt_i ?_ | refine le_i ?_ | refine gt_i ?_ | refine ge_i ?_ | refine len_t ?_ | refine len_f ?_ | refine int_b ?_ | refine s_nil ?_ | refine s_expr ?_ | refine s_assign ?_ | refine s_setattr ?_ | refine s_setitem ?_ | refine s_if ?_ | refine s_ite ?_ | refine s_ret ?_ | refine fq_ret ?_ | refine fq_next ?_ | refine sq_next ?_ | refine sq_ret ?_) | (with_reducible refine e_loc (by assumption) ?_) | (with_reducible refine br_dt (by assumption) ?_) | (with_reducible refine br_df (by assumption) ?_) | (with_reducible refine br_ndt (by assumption) ?_) | (with_reducible refine br_ndf (by assumption) ?_) | (refine getA_in (by assumption) (by assumption) (by rfl) ?_) | (refine len_l (by assumption) ?_) | (refine list_l (by assumption) ?_)))
  refine div_i (by decide) (by decide) ?_
  (repeat (first | (with_reducible refine e_here ?_) | (refine e_skip (by decide) ?_) | (refine isi_in (b := true) (by rfl) ?_) | (refine isi_in (b := false) (by rfl) ?_) | (refine e_glob (by rfl) ?_) | (with_reducible first | refine e_int ?_ | refine e_bool ?_ | refine e_none ?_ | refine e_str ?_ | refine e_bin ?_ | refine e_neg ?_ | refine e_not ?_ | refine e_and ?_ | refine e_or ?_ | refine a_one ?_ | refine a_cons ?_ | refine o_one ?_ | refine o_cons ?_ | refine e_cmp ?_ | refine e_cmp2 ?_ | refine e_attr ?_ | refine e_sub ?_ | refine e_sliceL ?_ | refine e_sliceU ?_ | refine e_tup ?_ | refine e_list ?_ | refine e_call ?_ | refine e_new ?_ | refine e_bltn ?_ | refine e_isi ?_ | refine e_meth ?_ | refine es_nil ?_ | refine es_cons ?_ | refine tr_in ?_ | refine br_t ?_ | refine br_f ?_ | refine br_nt ?_ | refine br_nf ?_ | refine int_in ?_ | refine add_i ?_ | refine sub_i ?_ | refine eq_i ?_ | refine ne_i ?_ | refine lt_i ?_ | refine le_i ?_ | refine gt_i ?_ | refine ge_i ?_ | refine len_t ?_ | refine len_f ?_ | refine int_b ?_ | refine s_nil ?_ | refine s_expr ?_ | refine s_assign ?_ | refine s_setattr ?_ | refine s_setitem ?_ | refine s_if ?_ | refine s_ite ?_ | refine s_ret ?_ | refine fq_ret ?_ | refine fq_next ?_ | refine sq_next ?_ | refine sq_ret ?_) | (with_reducible refine e_loc (by assumption) ?_) | (with_reducible refine br_dt (by assumption) ?_) | (with_reducible refine br_df (by assumption) ?_) | (with_reducible refine br_ndt (by assumption) ?_) | (with_reducible refine br_ndf (by assumption) ?_) | (refine getA_in (by assumption) (by assumption) (by rfl) ?_) | (refine len_l (by assumption) ?_) | (refine list_l (by assumption) ?_)))
  refine mod_i (by decide) ?_
  (repeat (first | (with_reducible refine e_here ?_) | (refine e_skip (by decide) ?_) | (refine isi_in (b := true) (by rfl) ?_) | (refine isi_in (b := false) (by rfl) ?_) | (refine e_glob (by rfl) ?_) | (with_reducible first | refine e_int ?_ | refine e_bool ?_ | refine e_none ?_ | refine e_str ?_ | refine e_bin ?_ | refine e_neg ?_ | refine e_not ?_ | refine e_and ?_ | refine e_or ?_ | refine a_one ?_ | refine a_cons ?_ | refine o_one ?_ | refine o_cons ?_ | refine e_cmp ?_ | refine e_cmp2 ?_ | refine e_attr ?_ | refine e_sub ?_ | refine e_sliceL ?_ | refine e_sliceU ?_ | refine e_tup ?_ | refine e_list ?_ | refine e_call ?_ | refine e_new ?_ | refine e_bltn ?_ | refine e_isi ?_ | refine e_meth ?_ | refine es_nil ?_ | refine es_cons ?_ | refine tr_in ?_ | refine br_t ?_ | refine br_f ?_ | refine br_nt ?_ | refine br_nf ?_ | refine int_in ?_ | refine add_i ?_ | refine sub_i ?_ | refine eq_i ?_ | refine ne_i ?_ | refine lt_i ?_ | refine le_i ?_ | refine gt_i ?_ | refine ge_i ?_ | refine len_t ?_ | refine len_f ?_ | refine int_b ?_ | refine s_nil ?_ | refine s_expr ?_ | refine s_assign ?_ | refine s_setattr ?_ | refine s_setitem ?_ | refine s_if ?_ | refine s_ite ?_ | refine s_ret ?_ | refine fq_ret ?_ | refine fq_next ?_ | refine sq_next ?_ | refine sq_ret ?_) | (with_reducible refine e_loc (by assumption) ?_) | (with_reducible refine br_dt (by assumption) ?_) | (with_reducible refine br_df (by assumption) ?_) | (with_reducible refine br_ndt (by assumption) ?_) | (with_reducible refine br_ndf (by assumption) ?_) | (refine getA_in (by assumption) (by assumption) (by rfl) ?_) | (refine len_l (by assumption) ?_) | (refine list_l (by assumption) ?_)))
  refine div_i (by decide) (by decide) ?_
  (repeat (first | (with_reducible refine e_here ?_) | (refine e_skip (by decide) ?_) | (refine isi_in (b := true) (by rfl) ?_) | (refine isi_in (b := false) (by rfl) ?_) | (refine e_glob (by rfl) ?_) | (with_reducible first | refine e_int ?_ | refine e_bool ?_ | refine e_none ?_ | refine e_str ?_ | refine e_bin ?_ | refine e_neg ?_ | refine e_not ?_ | refine e_and ?_ | refine e_or ?_ | refine a_one ?_ | refine a_cons ?_ | refine o_one ?_ | refine o_cons ?_ | refine e_cmp ?_ | refine e_cmp2 ?_ | refine e_attr ?_ | refine e_sub ?_ | refine e_sliceL ?_ | refine e_sliceU ?_ | refine e_tup ?_ | refine e_list ?_ | refine e_call ?_ | refine e_new ?_ | refine e_bltn ?_ | refine e_isi ?_ | refine e_meth ?_ | refine es_nil ?_ | refine es_cons ?_ | refine tr_in ?_ | refine br_t ?_ | refine br_f ?_ | refine br_nt ?_ | refine br_nf ?_ | refine int_in ?_ | refine add_i ?_ | refine sub_i ?_ | refine eq_i ?_ | refine ne_i ?_ | refine lt_i ?_ | refine le_i ?_ | refine gt_i ?_ | refine ge_i ?_ | refine len_t ?_ | refine len_f ?_ | refine int_b ?_ | refine s_nil ?_ | refine s_expr ?_ | refine s_assign ?_ | refine s_setattr ?_ | refine s_setitem ?_ | refine s_if ?_ | refine s_ite ?_ | refine s_ret ?_ | refine fq_ret ?_ | refine fq_next ?_ | refine sq_next ?_ | refine sq_ret ?_) | (with_reducible refine e_loc (by assumption) ?_) | (with_reducible refine br_dt (by assumption) ?_) | (with_reducible refine br_df (by assumption) ?_) | (with_reducible refine br_ndt (by assumption) ?_) | (with_reducible refine br_ndf (by assumption) ?_) | (refine getA_in (by assumption) (by assumption) (by rfl) ?_) | (refine len_l (by assumption) ?_) | (refine list_l (by assumption) ?_)))
  refine mod_i (by decide) ?_
  (repeat (first | (with_reducible refine e_here ?_) | (refine e_skip (by decide) ?_) | (refine isi_in (b := true) (by rfl) ?_) | (refine isi_in (b := false) (by rfl) ?_) | (refine e_glob (by rfl) ?_) | (with_reducible first | refine e_int ?_ | refine e_bool ?_ | refine e_none ?_ | refine e_str ?_ | refine e_bin ?_ | refine e_neg ?_ | refine e_not ?_ | refine e_and ?_ | refine e_or ?_ | refine a_one ?_ | refine a_cons ?_ | refine o_one ?_ | refine o_cons ?_ | refine e_cmp ?_ | refine e_cmp2 ?_ | refine e_attr ?_ | refine e_sub ?_ | refine e_sliceL ?_ | refine e_sliceU ?_ | refine e_tup ?_ | refine e_list ?_ | refine e_call ?_ | refine e_new ?_ | refine e_bltn ?_ | refine e_isi ?_ | refine e_meth ?_ | refine es_nil ?_ | refine es_cons ?_ | refine tr_in ?_ | refine br_t ?_ | refine br_f ?_ | refine br_nt ?_ | refine br_nf ?_ | refine int_in ?_ | refine add_i ?_ | refine sub_i ?_ | refine eq_i ?_ | refine ne_i ?_ | refine lt_i ?_ | refine le_i ?_ | refine gt_i ?_ | refine ge_i ?_ | refine len_t ?_ | refine len_f ?_ | refine int_b ?_ | refine s_nil ?_ | refine s_expr ?_ | refine s_assign ?_ | refine s_setattr ?_ | refine s_setitem ?_ | refine s_if ?_ | refine s_ite ?_ | refine s_ret ?_ | refine fq_ret ?_ | refine fq_next ?_ | refine sq_next ?_ | refine sq_ret ?_) | (with_reducible refine e_loc (by assumption) ?_) | (with_reducible refine br_dt (by assumption) ?_) | (with_reducible refine br_df (by assumption) ?_) | (with_reducible refine br_ndt (by assumption) ?_) | (with_reducible refine br_ndf (by assumption) ?_) | (refine getA_in (by assumption) (by assumption) (by rfl) ?_) | (refine len_l (by assumption) ?_) | (refine list_l (by assumption) ?_)))
  exact h _ _ ⟨s, _, _, _, rfl, e2⟩ (Ext.new hn _)

theorem place_by_spec (D : Def c sg "_law_place_by" p__law_place_by b__law_place_by) {i m : Int} (hm : 0 ≤ m) (h : ∀ r μ', Ext μ μ' → Q (.int r) μ') : SC c 1 hd "_law_place_by" [.int i, .int m] μ Q X := by
  refine call_in G D rfl ?_
  unfold b__law_place_by
  (repeat (first | (with_reducible refine e_here ?_) | (refine e_skip (by decide) ?_) | (refine isi_in (b := true) (by rfl) ?_) | (refine isi_in (b := false) (by rfl) ?_) | (refine e_glob (by rfl) ?_) | (with_reducible first | refine e_int ?_ | refine e_bool ?_ | refine e_none ?_ | refine e_str ?_ | refine e_bin ?_ | refine e_neg ?_ | refine e_not ?_ | refine e_and ?_ | refine e_or ?_ | refine a_one ?_ | refine a_cons ?_ | refine o_one ?_ | refine o_cons ?_ | refine e_cmp ?_ | refine e_cmp2 ?_ | refine e_attr ?_ | refine e_sub ?_ | refine e_sliceL ?_ | refine e_sliceU ?_ | refine e_tup ?_ | refine e_list ?_ | refine e_call ?_ | refine e_new ?_ | refine e_bltn ?_ | refine e_isi ?_ | refine e_meth ?_ | refine es_nil ?_ | refine es_cons ?_ | refine tr_in ?_ | refine br_t ?_ | refine br_f ?_ | refine br_nt ?_ | refine br_nf ?_ | refine int_in ?_ | refine add_i ?_ | refine sub_i ?_ | refine eq_i ?_ | refine ne_i ?_ | refine lt_i ?_ | refine le_i ?_ | refine gt_i ?_ | refine ge_i ?_ | refine len_t ?_ | refine len_f ?_ | refine int_b ?_ | refine s_nil ?_ | refine s_expr ?_ | refine s_assign ?_ | refine s_setattr ?_ | refine s_setitem ?_ | refine s_if ?_ | refine s_ite ?_ | refine s_ret ?_ | refine fq_ret ?_ | refine fq_next ?_ | refine sq_next ?_ | refine sq_ret ?_) | (with_reducible refine e_loc (by assumption) ?_) | (with_reducible refine br_dt (by assumption) ?_) | (with_reducible refine br_df (by assumption) ?_) | (with_reducible refine br_ndt (by assumption) ?_) | (with_reducible refine br_ndf (by assumption) ?_) | (refine getA_in (by assumption) (by assumption) (by rfl) ?_) | (refine len_l (by assumption) ?_) | (refine list_l (by assumption) ?_)))
  refine mod_i (by decide) ?_
  (repeat (first | (with_reducible refine e_here ?_) | (refine e_skip (by decide) ?_) | (refine isi_in (b := true) (by rfl) ?_) | (refine isi_in (b := false) (by rfl) ?_) | (refine e_glob (by rfl) ?_) | (with_reducible first | refine e_int ?_ | refine e_bool ?_ | refine e_none ?_ | refine e_str ?_ | refine e_bin ?_ | refine e_neg ?_ | refine e_not ?_ | refine e_and ?_ | refine e_or ?_ | refine a_one ?_ | refine a_cons ?_ | refine o_one ?_ | refine o_cons ?_ | refine e_cmp ?_ | refine e_cmp2 ?_ | refine e_attr ?_ | refine e_sub ?_ | refine e_sliceL ?_ | refine e_sliceU ?_ | refine e_tup ?_ | refine e_list ?_ | refine e_call ?_ | refine e_new ?_ | refine e_bltn ?_ | refine e_isi ?_ | refine e_meth ?_ | refine es_nil ?_ | refine es_cons ?_ | refine tr_in ?_ | refine br_t ?_ | refine br_f ?_ | refine br_nt ?_ | refine br_nf ?_ | refine int_in ?_ | refine add_i ?_ | refine sub_i ?_ | refine eq_i ?_ | refine ne_i ?_ | refine lt_i ?_ | refine le_i ?_ | refine gt_i ?_ | refine ge_i ?_ | refine len_t ?_ | refine len_f ?_ | refine int_b ?_ | refine s_nil ?_ | refine s_expr ?_ | refine s_assign ?_ | refine s_setattr ?_ | refine s_setitem ?_ | refine s_if ?_ | refine s_ite ?_ | refine s_ret ?_ | refine fq_ret ?_ | refine fq_next ?_ | refine sq_next ?_ | refine sq_ret ?_) | (with_reducible refine e_loc (by assumption) ?_) | (with_reducible refine br_dt (by assumption) ?_) | (with_reducible refine br_df (by assumption) ?_) | (with_reducible refine br_ndt (by assumption) ?_) | (with_reducible refine br_ndf (by assumption) ?_) | (refine getA_in (by assumption) (by assumption) (by rfl) ?_) | (refine len_l (by assumption) ?_) | (refine list_l (by assumption) ?_)))
  refine br_d (fun h1 => ?_) (fun h1 => ?_)
  · (repeat (first | (with_reducible refine e_here ?_) | (refine e_skip (by decide) ?_) | (refine isi_in (b := true) (by rfl) ?_) | (refine isi_in (b := false) (by rfl) ?_) | (refine e_glob (by rfl) ?_) | (with_reducible first | refine e_int ?_ | refine e_bool ?_ | refine e_none ?_ | refine e_str ?_ | refine e_bin ?_ | refine e_neg ?_ | refine e_not ?_ | refine e_and ?_ | refine e_or ?_ | refine a_one ?_ | refine a_cons ?_ | refine o_one ?_ | refine o_cons ?_ | refine e_cmp ?_ | refine e_cmp2 ?_ | refine e_attr ?_ | refine e_sub ?_ | refine e_sliceL ?_ | refine e_sliceU ?_ | refine e_tup ?_ | refine e_list ?_ | refine e_call ?_ | refine e_new ?_ | refine e_bltn ?_ | refine e_isi ?_ | refine e_meth ?_ | refine es_nil ?_ | refine es_cons ?_ | refine tr_in ?_ | refine br_t ?_ | refine br_f ?_ | refine br_nt ?_ | refine br_nf ?_ | refine int_in ?_ | refine add_i ?_ | refine sub_i ?_ | refine eq_i ?_ | refine ne_i ?_ | refine lt_i ?_ | refine le_i ?_ | refine gt_i ?_ | refine ge_i ?_ | refine len_t ?_ | refine len_f ?_ | refine int_b ?_ | refine s_nil ?_ | refine s_expr ?_ | refine s_assign ?_ | refine s_setattr ?_ | refine s_setitem ?_ | refine s_if ?_ | refine s_ite ?_ | refine s_ret ?_ | refine fq_ret ?_ | refine fq_next ?_ | refine sq_next ?_ | refine sq_ret ?_) | (with_reducible refine e_loc (by assumption) ?_) | (with_reducible refine br_dt (by assumption) ?_) | (with_reducible refine br_df (by assumption) ?_) | (with_reducible refine br_ndt (by assumption) ?_) | (with_reducible refine br_ndf (by assumption) ?_) | (refine getA_in (by assumption) (by assumption) (by rfl) ?_) | (refine len_l (by assumption) ?_) | (refine list_l (by assumption) ?_)))
    refine div_i (by decide) (by decide) ?_
    (repeat (first | (with_reducible refine e_here ?_) | (refine e_skip (by decide) ?_) | (refine isi_in (b := true) (by rfl) ?_) | (refine isi_in (b := false) (by rfl) ?_) | (refine e_glob (by rfl) ?_) | (with_reducible first | refine e_int ?_ | refine e_bool ?_ | refine e_none ?_ | refine e_str ?_ | refine e_bin ?_ | refine e_neg ?_ | refine e_not ?_ | refine e_and ?_ | refine e_or ?_ | refine a_one ?_ | refine a_cons ?_ | refine o_one ?_ | refine o_cons ?_ | refine e_cmp ?_ | refine e_cmp2 ?_ | refine e_attr ?_ | refine e_sub ?_ | refine e_sliceL ?_ | refine e_sliceU ?_ | refine e_tup ?_ | refine e_list ?_ | refine e_call ?_ | refine e_new ?_ | refine e_bltn ?_ | refine e_isi ?_ | refine e_meth ?_ | refine es_nil ?_ | refine es_cons ?_ | refine tr_in ?_ | refine br_t ?_ | refine br_f ?_ | refine br_nt ?_ | refine br_nf ?_ | refine int_in ?_ | refine add_i ?_ | refine sub_i ?_ | refine eq_i ?_ | refine ne_i ?_ | refine lt_i ?_ | refine le_i ?_ | refine gt_i ?_ | refine ge_i ?_ | refine len_t ?_ | refine len_f ?_ | refine int_b ?_ | refine s_nil ?_ | refine s_expr ?_ | refine s_assign ?_ | refine s_setattr ?_ | refine s_setitem ?_ | refine s_if ?_ | refine s_ite ?_ | refine s_ret ?_ | refine fq_ret ?_ | refine fq_next ?_ | refine sq_next ?_ | refine sq_ret ?_) | (with_reducible refine e_loc (by assumption) ?_) | (with_reducible refine br_dt (by assumption) ?_) | (with_reducible refine br_df (by assumption) ?_) | (with_reducible refine br_ndt (by assumption) ?_) | (with_reducible refine br_ndf (by assumption) ?_) | (refine getA_in (by assumption) (by assumption) (by rfl) ?_) | (refine len_l (by assumption) ?_) | (refine list_l (by assumption) ?_)))
    refine pow_i (by decide) (by decide) (by decide) ?_
    refine mod_i (by decide) ?_
    (repeat (first | (with_reducible refine e_here ?_) | (refine e_skip (by decide) ?_) | (refine isi_in (b := true) (by rfl) ?_) | (refine isi_in (b := false) (by rfl) ?_) | (refine e_glob (by rfl) ?_) | (with_reducible first | refine e_int ?_ | refine e_bool ?_ | refine e_none ?_ | refine e_str ?_ | refine e_bin ?_ | refine e_neg ?_ | refine e_not ?_ | refine e_and ?_ | refine e_or ?_ | refine a_one ?_ | refine a_cons ?_ | refine o_one ?_ | refine o_cons ?_ | refine e_cmp ?_ | refine e_cmp2 ?_ | refine e_attr ?_ | refine e_sub ?_ | refine e_sliceL ?_ | refine e_sliceU ?_ | refine e_tup ?_ | refine e_list ?_ | refine e_call ?_ | refine e_new ?_ | refine e_bltn ?_ | refine e_isi ?_ | refine e_meth ?_ | refine es_nil ?_ | refine es_cons ?_ | refine tr_in ?_ | refine br_t ?_ | refine br_f ?_ | refine br_nt ?_ | refine br_nf ?_ | refine int_in ?_ | refine add_i ?_ | refine sub_i ?_ | refine eq_i ?_ | refine ne_i ?_ | refine lt_i ?_ | refine le_i ?_ | refine gt_i ?_ | refine ge_i ?_ | refine len_t ?_ | refine len_f ?_ | refine int_b ?_ | refine s_nil ?_ | refine s_expr ?_ | refine s_assign ?_ | refine s_setattr ?_ | refine s_setitem ?_ | refine s_if ?_ | refine s_ite ?_ | refine s_ret ?_ | refine fq_ret ?_ | refine fq_next ?_ | refine sq_next ?_ | refine sq_ret ?_) | (with_reducible refine e_loc (by assumption) ?_) | (with_reducible refine br_dt (by assumption) ?_) | (with_reducible refine br_df (by assumption) ?_) | (with_reducible refine br_ndt (by assumption) ?_) | (with_reducible refine br_ndf (by assumption) ?_) | (refine getA_in (by assumption) (by assumption) (by rfl) ?_) | (refine len_l (by assumption) ?_) | (refine list_l (by assumption) ?_)))
    refine newL_in (by decide) fun n hn => ?_
    (repeat (first | (with_reducible refine e_here ?_) | (refine e_skip (by decide) ?_) | (refine isi_in (b := true) (by rfl) ?_) | (refine isi_in (b := false) (by rfl) ?_) | (refine e_glob (by rfl) ?_) | (with_reducible first | refine e_int ?_ | refine e_bool ?_ | refine e_none ?_ | refine e_str ?_ | refine e_bin ?_ | refine e_neg ?_ | refine e_not ?_ | refine e_and ?_ | refine e_or ?_ | refine a_one ?_ | refine a_cons ?_ | refine o_one ?_ | refine o_cons ?_ | refine e_cmp ?_ | refine e_cmp2 ?_ | refine e_attr ?_ | refine e_sub ?_ | refine e_sliceL ?_ | refine e_sliceU ?_ | refine e_tup ?_ | refine e_list ?_ | refine e_call ?_ | refine e_new ?_ | refine e_bltn ?_ | refine e_isi ?_ | refine e_meth ?_ | refine es_nil ?_ | refine es_cons ?_ | refine tr_in ?_ | refine br_t ?_ | refine br_f ?_ | refine br_nt ?_ | refine br_nf ?_ | refine int_in ?_ | refine add_i ?_ | refine sub_i ?_ | refine eq_i ?_ | refine ne_i ?_ | refine lt_i ?_ | refine le_i ?_ | refine gt_i ?_ | refine ge_i ?_ | refine len_t ?_ | refine len_f ?_ | refine int_b ?_ | refine s_nil ?_ | refine s_expr ?_ | refine s_assign ?_ | refine s_setattr ?_ | refine s_setitem ?_ | refine s_if ?_ | refine s_ite ?_ | refine s_ret ?_ | refine fq_ret ?_ | refine fq_next ?_ | refine sq_next ?_ | refine sq_ret ?_) | (with_reducible refine e_loc (by assumption) ?_) | (with_reducible refine br_dt (by assumption) ?_) | (with_reducible refine br_df (by assumption) ?_) | (with_reducible refine br_ndt (by assumption) ?_) | (with_reducible refine br_ndf (by assumption) ?_) | (refine getA_in (by assumption) (by assumption) (by rfl) ?_) | (refine len_l (by assumption) ?_) | (refine list_l (by assumption) ?_)))
    refine div_i (by decide) (by decide) ?_
    (repeat (first | (with_reducible refine e_here ?_) | (refine e_skip (by decide) ?_) | (refine isi_in (b := true) (by rfl) ?_) | (refine isi_in (b := false) (by rfl) ?_) | (refine e_glob (by rfl) ?_) | (with_reducible first | refine e_int ?_ | refine e_bool ?_ | refine e_none ?_ | refine e_str ?_ | refine e_bin ?_ | refine e_neg ?_ | refine e_not ?_ | refine e_and ?_ | refine e_or ?_ | refine a_one ?_ | refine a_cons ?_ | refine o_one ?_ | refine o_cons ?_ | refine e_cmp ?_ | refine e_cmp2 ?_ | refine e_attr ?_ | refine e_sub ?_ | refine e_sliceL ?_ | refine e_sliceU ?_ | refine e_tup ?_ | refine e_list ?_ | refine e_call ?_ | refine e_new ?_ | refine e_bltn ?_ | refine e_isi ?_ | refine e_meth ?_ | refine es_nil ?_ | refine es_cons ?_ | refine tr_in ?_ | refine br_t ?_ | refine br_f ?_ | refine br_nt ?_ | refine br_nf ?_ | refine int_in ?_ | refine add_i ?_ | refine sub_i ?_ | refine eq_i ?_ | refine ne_i ?_ | refine lt_i ?_ | refine le_i ?_ | refine gt_i ?_ | refine ge_i ?_ | refine len_t ?_ | refine len_f ?_ | refine int_b ?_ | refine s_nil ?_ | refine s_expr ?_ | refine s_assign ?_ | refine s_setattr ?_ | refine s_setitem ?_ | refine s_if ?_ | refine s_ite ?_ | refine s_ret ?_ | refine fq_ret ?_ | refine fq_next ?_ | refine sq_next ?_ | refine sq_ret ?_) | (with_reducible refine e_loc (by assumption) ?_) | (with_reducible refine br_dt (by assumption) ?_) | (with_reducible refine br_df (by assumption) ?_) | (with_reducible refine br_ndt (by assumption) ?_) | (with_reducible refine br_ndf (by assumption) ?_) | (refine getA_in (by assumption) (by assumption) (by rfl) ?_) | (refine len_l (by assumption) ?_) | (refine list_l (by assumption) ?_)))
    refine mod_i (by decide) ?_
    have hs : ∃ s : Int, idx [V.int 1, V.int (-1)] (i / 16 % 2) = some (.int s) ∧ (s = 1 ∨ s = -1) := by
      have : i / 16 % 2 = 0 ∨ i / 16 % 2 = 1 := by omega
      rcases this with q | q <;> rw [q]
      · exact ⟨_, rfl, .inl rfl⟩
      · exact ⟨_, rfl, .inr rfl⟩
    obtain ⟨s, e1, e2⟩ := hs
    refine sub_l mem_here e1 ?_
    refine mul_i (.inr (by rcases e2 with rfl | rfl <;> decide)) ?_
    (repeat (first | (with_reducible refine e_here ?_) | (refine e_skip (by decide) ?_) | (refine isi_in (b := true) (by rfl) ?_) | (refine isi_in (b := false) (by rfl) ?_) | (refine e_glob (by rfl) ?_) | (with_reducible first | refine e_int ?_ | refine e_bool ?_ | refine e_none ?_ | refine e_str ?_ | refine e_bin ?_ | refine e_neg ?_ | refine e_not ?_ | refine e_and ?_ | refine e_or ?_ | refine a_one ?_ | refine a_cons ?_ | refine o_one ?_ | refine o_cons ?_ | refine e_cmp ?_ | refine e_cmp2 ?_ | refine e_attr ?_ | refine e_sub ?_ | refine e_sliceL ?_ | refine e_sliceU ?_ | refine e_tup ?_ | refine e_list ?_ | refine e_call ?_ | refine e_new ?_ | refine e_bltn ?_ | refine e_isi ?_ | refine e_meth ?_ | refine es_nil ?_ | refine es_cons ?_ | refine tr_in ?_ | refine br_t ?_ | refine br_f ?_ | refine br_nt ?_ | refine br_nf ?_ | refine int_in ?_ | refine add_i ?_ | refine sub_i ?_ | refine eq_i ?_ | refine ne_i ?_ | refine lt_i ?_ | refine le_i ?_ | refine gt_i ?_ | refine ge_i ?_ | refine len_t ?_ | refine len_f ?_ | refine int_b ?_ | refine s_nil ?_ | refine s_expr ?_ | refine s_assign ?_ | refine s_setattr ?_ | refine s_setitem ?_ | refine s_if ?_ | refine s_ite ?_ | refine s_ret ?_ | refine fq_ret ?_ | refine fq_next ?_ | refine sq_next ?_ | refine sq_ret ?_) | (with_reducible refine e_loc (by assumption) ?_) | (with_reducible refine br_dt (by assumption) ?_) | (with_reducible refine br_df (by assumption) ?_) | (with_reducible refine br_ndt (by assumption) ?_) | (with_reducible refine br_ndf (by assumption) ?_) | (refine getA_in (by assumption) (by assumption) (by rfl) ?_) | (refine len_l (by assumption) ?_) | (refine list_l (by assumption) ?_)))
    refine pow_i (by decide) (by decide) (by decide) ?_
    (repeat (first | (with_reducible refine e_here ?_) | (refine e_skip (by decide) ?_) | (refine isi_in (b := true) (by rfl) ?_) | (refine isi_in (b := false) (by rfl) ?_) | (refine e_glob (by rfl) ?_) | (with_reducible first | refine e_int ?_ | refine e_bool ?_ | refine e_none ?_ | refine e_str ?_ | refine e_bin ?_ | refine e_neg ?_ | refine e_not ?_ | refine e_and ?_ | refine e_or ?_ | refine a_one ?_ | refine a_cons ?_ | refine o_one ?_ | refine o_cons ?_ | refine e_cmp ?_ | refine e_cmp2 ?_ | refine e_attr ?_ | refine e_sub ?_ | refine e_sliceL ?_ | refine e_sliceU ?_ | refine e_tup ?_ | refine e_list ?_ | refine e_call ?_ | refine e_new ?_ | refine e_bltn ?_ | refine e_isi ?_ | refine e_meth ?_ | refine es_nil ?_ | refine es_cons ?_ | refine tr_in ?_ | refine br_t ?_ | refine br_f ?_ | refine br_nt ?_ | refine br_nf ?_ | refine int_in ?_ | refine add_i ?_ | refine sub_i ?_ | refine eq_i ?_ | refine ne_i ?_ | refine lt_i ?_ | refine le_i ?_ | refine gt_i ?_ | refine ge_i ?_ | refine len_t ?_ | refine len_f ?_ | refine int_b ?_ | refine s_nil ?_ | refine s_expr ?_ | refine s_assign ?_ | refine s_setattr ?_ | refine s_setitem ?_ | refine s_if ?_ | refine s_ite ?_ | refine s_ret ?_ | refine fq_ret ?_ | refine fq_next ?_ | refine sq_next ?_ | refine sq_ret ?_) | (with_reducible refine e_loc (by assumption) ?_) | (with_reducible refine br_dt (by assumption) ?_) | (with_reducible refine br_df (by assumption) ?_) | (with_reducible refine br_ndt (by assumption) ?_) | (with_reducible refine br_ndf (by assumption) ?_) | (refine getA_in (by assumption) (by assumption) (by rfl) ?_) | (refine len_l (by assumption) ?_) | (refine list_l (by assumption) ?_)))
    refine div_i (by decide) (by decide) ?_
    (repeat (first | (with_reducible refine e_here ?_) | (refine e_skip (by decide) ?_) | (refine isi_in (b := true) (by rfl) ?_) | (refine isi_in (b := false) (by rfl) ?_) | (refine e_glob (by rfl) ?_) | (with_reducible first | refine e_int ?_ | refine e_bool ?_ | refine e_none ?_ | refine e_str ?_ | refine e_bin ?_ | refine e_neg ?_ | refine e_not ?_ | refine e_and ?_ | refine e_or ?_ | refine a_one ?_ | refine a_cons ?_ | refine o_one ?_ | refine o_cons ?_ | refine e_cmp ?_ | refine e_cmp2 ?_ | refine e_attr ?_ | refine e_sub ?_ | refine e_sliceL ?_ | refine e_sliceU ?_ | refine e_tup ?_ | refine e_list ?_ | refine e_call ?_ | refine e_new ?_ | refine e_bltn ?_ | refine e_isi ?_ | refine e_meth ?_ | refine es_nil ?_ | refine es_cons ?_ | refine tr_in ?_ | refine br_t ?_ | refine br_f ?_ | refine br_nt ?_ | refine br_nf ?_ | refine int_in ?_ | refine add_i ?_ | refine sub_i ?_ | refine eq_i ?_ | refine ne_i ?_ | refine lt_i ?_ | refine le_i ?_ | refine gt_i ?_ | refine ge_i ?_ | refine len_t ?_ | refine len_f ?_ | refine int_b ?_ | refine s_nil ?_ | refine s_expr ?_ | refine s_assign ?_ | refine s_setattr ?_ | refine s_setitem ?_ | refine s_if ?_ | refine s_ite ?_ | refine s_ret ?_ | refine fq_ret ?_ | refine fq_next ?_ | refine sq_next ?_ | refine sq_ret ?_) | (with_reducible refine e_loc (by assumption) ?_) | (with_reducible refine br_dt (by assumption) ?_) | (with_reducible refine br_df (by assumption) ?_) | (with_reducible refine br_ndt (by assumption) ?_) | (with_reducible refine br_ndf (by assumption) ?_) | (refine getA_in (by assumption) (by assumption) (by rfl) ?_) | (refine len_l (by assumption) ?_) | (refine list_l (by assumption) ?_)))
    refine mod_i (by decide) ?_
    have e3 : (i / 16 % 2).natAbs < 2 ^ 63 := by omega
    refine mul_i (.inr e3) ?_
    (repeat (first | (with_reducible refine e_here ?_) | (refine e_skip (by decide) ?_) | (refine isi_in (b := true) (by rfl) ?_) | (refine isi_in (b := false) (by rfl) ?_) | (refine e_glob (by rfl) ?_) | (with_reducible first | refine e_int ?_ | refine e_bool ?_ | refine e_none ?_ | refine e_str ?_ | refine e_bin ?_ | refine e_neg ?_ | refine e_not ?_ | refine e_and ?_ | refine e_or ?_ | refine a_one ?_ | refine a_cons ?_ | refine o_one ?_ | refine o_cons ?_ | refine e_cmp ?_ | refine e_cmp2 ?_ | refine e_attr ?_ | refine e_sub ?_ | refine e_sliceL ?_ | refine e_sliceU ?_ | refine e_tup ?_ | refine e_list ?_ | refine e_call ?_ | refine e_new ?_ | refine e_bltn ?_ | refine e_isi ?_ | refine e_meth ?_ | refine es_nil ?_ | refine es_cons ?_ | refine tr_in ?_ | refine br_t ?_ | refine br_f ?_ | refine br_nt ?_ | refine br_nf ?_ | refine int_in ?_ | refine add_i ?_ | refine sub_i ?_ | refine eq_i ?_ | refine ne_i ?_ | refine lt_i ?_ | refine le_i ?_ | refine gt_i ?_ | refine ge_i ?_ | refine len_t ?_ | refine len_f ?_ | refine int_b ?_ | refine s_nil ?_ | refine s_expr ?_ | refine s_assign ?_ | refine s_setattr ?_ | refine s_setitem ?_ | refine s_if ?_ | refine s_ite ?_ | refine s_ret ?_ | refine fq_ret ?_ | refine fq_next ?_ | refine sq_next ?_ | refine sq_ret ?_) | (with_reducible refine e_loc (by assumption) ?_) | (with_reducible refine br_dt (by assumption) ?_) | (with_reducible refine br_df (by assumption) ?_) | (with_reducible refine br_ndt (by assumption) ?_) | (with_reducible refine br_ndf (by assumption) ?_) | (refine getA_in (by assumption) (by assumption) (by rfl) ?_) | (refine len_l (by assumption) ?_) | (refine list_l (by assumption) ?_)))
    exact h _ _ (Ext.new hn _)
  · (repeat (first | (with_reducible refine e_here ?_) | (refine e_skip (by decide) ?_) | (refine isi_in (b := true) (by rfl) ?_) | (refine isi_in (b := false) (by rfl) ?_) | (refine e_glob (by rfl) ?_) | (with_reducible first | refine e_int ?_ | refine e_bool ?_ | refine e_none ?_ | refine e_str ?_ | refine e_bin ?_ | refine e_neg ?_ | refine e_not ?_ | refine e_and ?_ | refine e_or ?_ | refine a_one ?_ | refine a_cons ?_ | refine o_one ?_ | refine o_cons ?_ | refine e_cmp ?_ | refine e_cmp2 ?_ | refine e_attr ?_ | refine e_sub ?_ | refine e_sliceL ?_ | refine e_sliceU ?_ | refine e_tup ?_ | refine e_list ?_ | refine e_call ?_ | refine e_new ?_ | refine e_bltn ?_ | refine e_isi ?_ | refine e_meth ?_ | refine es_nil ?_ | refine es_cons ?_ | refine tr_in ?_ | refine br_t ?_ | refine br_f ?_ | refine br_nt ?_ | refine br_nf ?_ | refine int_in ?_ | refine add_i ?_ | refine sub_i ?_ | refine eq_i ?_ | refine ne_i ?_ | refine lt_i ?_ | refine le_i ?_ | refine gt_i ?_ | refine ge_i ?_ | refine len_t ?_ | refine len_f ?_ | refine int_b ?_ | refine s_nil ?_ | refine s_expr ?_ | refine s_assign ?_ | refine s_setattr ?_ | refine s_setitem ?_ | refine s_if ?_ | refine s_ite ?_ | refine s_ret ?_ | refine fq_ret ?_ | refine fq_next ?_ | refine sq_next ?_ | refine sq_ret ?_) | (with_reducible refine e_loc (by assumption) ?_) | (with_reducible refine br_dt (by assumption) ?_) | (with_reducible refine br_df (by assumption) ?_) | (with_reducible refine br_ndt (by assumption) ?_) | (with_reducible refine br_ndf (by assumption) ?_) | (refine getA_in (by assumption) (by assumption) (by rfl) ?_) | (refine len_l (by assumption) ?_) | (refine list_l (by assumption) ?_)))
    refine div_i (by decide) (by decide) ?_
    (repeat (first | (with_reducible refine e_here ?_) | (refine e_skip (by decide) ?_) | (refine isi_in (b := true) (by rfl) ?_) | (refine isi_in (b := false) (by rfl) ?_) | (refine e_glob (by rfl) ?_) | (with_reducible first | refine e_int ?_ | refine e_bool ?_ | refine e_none ?_ | refine e_str ?_ | refine e_bin ?_ | refine e_neg ?_ | refine e_not ?_ | refine e_and ?_ | refine e_or ?_ | refine a_one ?_ | refine a_cons ?_ | refine o_one ?_ | refine o_cons ?_ | refine e_cmp ?_ | refine e_cmp2 ?_ | refine e_attr ?_ | refine e_sub ?_ | refine e_sliceL ?_ | refine e_sliceU ?_ | refine e_tup ?_ | refine e_list ?_ | refine e_call ?_ | refine e_new ?_ | refine e_bltn ?_ | refine e_isi ?_ | refine e_meth ?_ | refine es_nil ?_ | refine es_cons ?_ | refine tr_in ?_ | refine br_t ?_ | refine br_f ?_ | refine br_nt ?_ | refine br_nf ?_ | refine int_in ?_ | refine add_i ?_ | refine sub_i ?_ | refine eq_i ?_ | refine ne_i ?_ | refine lt_i ?_ | refine le_i ?_ | refine gt_i ?_ | refine ge_i ?_ | refine len_t ?_ | refine len_f ?_ | refine int_b ?_ | refine s_nil ?_ | refine s_expr ?_ | refine s_assign ?_ | refine s_setattr ?_ | refine s_setitem ?_ | refine s_if ?_ | refine s_ite ?_ | refine s_ret ?_ | refine fq_ret ?_ | refine fq_next ?_ | refine sq_next ?_ | refine sq_ret ?_) | (with_reducible refine e_loc (by assumption) ?_) | (with_reducible refine br_dt (by assumption) ?_) | (with_reducible refine br_df (by assumption) ?_) | (with_reducible refine br_ndt (by assumption) ?_) | (with_reducible refine br_ndf (by assumption) ?_) | (refine getA_in (by assumption) (by assumption) (by rfl) ?_) | (refine len_l (by assumption) ?_) | (refine list_l (by assumption) ?_)))
    refine mod_i (by omega) ?_
    (repeat (first | (with_reducible refine e_here ?_) | (refine e_skip (by decide) ?_) | (refine isi_in (b := true) (by rfl) ?_) | (refine isi_in (b := false) (by rfl) ?_) | (refine e_glob (by rfl) ?_) | (with_reducible first | refine e_int ?_ | refine e_bool ?_ | refine e_none ?_ | refine e_str ?_ | refine e_bin ?_ | refine e_neg ?_ | refine e_not ?_ | refine e_and ?_ | refine e_or ?_ | refine a_one ?_ | refine a_cons ?_ | refine o_one ?_ | refine o_cons ?_ | refine e_cmp ?_ | refine e_cmp2 ?_ | refine e_attr ?_ | refine e_sub ?_ | refine e_sliceL ?_ | refine e_sliceU ?_ | refine e_tup ?_ | refine e_list ?_ | refine e_call ?_ | refine e_new ?_ | refine e_bltn ?_ | refine e_isi ?_ | refine e_meth ?_ | refine es_nil ?_ | refine es_cons ?_ | refine tr_in ?_ | refine br_t ?_ | refine br_f ?_ | refine br_nt ?_ | refine br_nf ?_ | refine int_in ?_ | refine add_i ?_ | refine sub_i ?_ | refine eq_i ?_ | refine ne_i ?_ | refine lt_i ?_ | refine le_i ?_ | refine gt_i ?_ | refine ge_i ?_ | refine len_t ?_ | refine len_f ?_ | refine int_b ?_ | refine s_nil ?_ | refine s_expr ?_ | refine s_assign ?_ | refine s_setattr ?_ | refine s_setitem ?_ | refine s_if ?_ | refine s_ite ?_ | refine s_ret ?_ | refine fq_ret ?_ | refine fq_next ?_ | refine sq_next ?_ | refine sq_ret ?_) | (with_reducible refine e_loc (by assumption) ?_) | (with_reducible refine br_dt (by assumption) ?_) | (with_reducible refine br_df (by assumption) ?_) | (with_reducible refine br_ndt (by assumption) ?_) | (with_reducible refine br_ndf (by assumption) ?_) | (refine getA_in (by assumption) (by assumption) (by rfl) ?_) | (refine len_l (by assumption) ?_) | (refine list_l (by assumption) ?_)))
    exact h _ _ (Ext.refl _)
end

set_option autoImplicit false

set_option linter.unusedVariables false
set_option linter.unusedSimpArgs false
open PySem

structure Pa where
  p : Addr
  pd : Addr
  q : Addr
  qd : Addr
  ql : Addr
  r : Addr
  h : Addr
noncomputable def Pa.mut (a : Pa) (rl : Addr) : List Addr := [a.pd, rl, a.r, a.h]
noncomputable def Held (μ : Mem) (l : List Addr) (v : V) : Prop := ∃ x f g L, v = .ref x ∧ μ x = some (.list [.ref f, .ref g]) ∧ μ f = some (.list L) ∧ μ g = some (.list L) ∧ (∀ w ∈ L, isRow w) ∧ x ∉ l ∧ f ∉ l ∧ g ∉ l
structure WS (μ : Mem) (a : Pa) (rl : Addr) (P R H : List V) : Prop where
  nd : [a.pd, rl, a.r, a.h, a.p, a.q, a.qd, a.ql].Nodup
  p : μ a.p = some (.inst "Post" a.pd)
  pd : μ a.pd = some (.attrs [("rows", .ref rl)])
  ro : μ rl = some (.list P)
  q : μ a.q = some (.inst "Post" a.qd)
  qd : μ a.qd = some (.attrs [("rows", .ref a.ql)])
  ql : μ a.ql = some (.list [])
  r : μ a.r = some (.list R)
  h : μ a.h = some (.list H)
  hl : ∀ v ∈ H, Held μ (a.mut rl) v
theorem Held.mono {μ μ' : Mem} {l : List Addr} {v : V} (x : Held μ l v) (k : ∀ b o, μ b = some o → b ∉ l → μ' b = some o) : Held μ' l v := by
  obtain ⟨x, f, g, L, e, h1, h2, h3, h4, h5, h6, h7⟩ := x
  exact ⟨x, f, g, L, e, k _ _ h1 h5, k _ _ h2 h6, k _ _ h3 h7, h4, h5, h6, h7⟩
section
variable {μ : Mem} {a : Pa} {rl : Addr} {P R H : List V}
theorem WS.ext {μ' : Mem} (w : WS μ a rl P R H) (k : Ext μ μ') : WS μ' a rl P R H :=
  ⟨w.nd, k _ _ w.p, k _ _ w.pd, k _ _ w.ro, k _ _ w.q, k _ _ w.qd, k _ _ w.ql, k _ _ w.r, k _ _ w.h, fun v hv => (w.hl v hv).mono fun b o hb _ => k b o hb⟩
theorem upd_off {l : List Addr} {y : Addr} {o : O} (hy : y ∈ l) : ∀ b o', μ b = some o' → b ∉ l → updM μ y o b = some o' := fun b o' hb hn => by
  rw [updM_ne fun q : b = y => hn (q ▸ hy)]; exact hb
theorem WS.setP (w : WS μ a rl P R H) (P' : List V) : WS (updM μ rl (.list P')) a rl P' R H := by
  obtain ⟨nd, p, pd, ro, q, qd, ql, r, h, hl⟩ := w
  have nd' := nd
  simp only [List.nodup_cons, List.mem_cons, List.not_mem_nil, or_false, not_or] at nd
  constructor <;> first | exact nd' | exact mem_here | exact fun v hv => (hl v hv).mono (upd_off (by simp [Pa.mut])) | (refine mem_skip ?_ (by assumption); intro q; simp_all)
theorem WS.setR (w : WS μ a rl P R H) (R' : List V) : WS (updM μ a.r (.list R')) a rl P R' H := by
  obtain ⟨nd, p, pd, ro, q, qd, ql, r, h, hl⟩ := w
  have nd' := nd
  simp only [List.nodup_cons, List.mem_cons, List.not_mem_nil, or_false, not_or] at nd
  constructor <;> first | exact nd' | exact mem_here | exact fun v hv => (hl v hv).mono (upd_off (by simp [Pa.mut])) | (refine mem_skip ?_ (by assumption); intro q; simp_all)
theorem WS.addH (w : WS μ a rl P R H) {v : V} (hv : Held μ (a.mut rl) v) : WS (updM μ a.h (.list (H ++ [v]))) a rl P R (H ++ [v]) := by
  obtain ⟨nd, p, pd, ro, q, qd, ql, r, h, hl⟩ := w
  have nd' := nd
  simp only [List.nodup_cons, List.mem_cons, List.not_mem_nil, or_false, not_or] at nd
  have hl' : ∀ w ∈ H ++ [v], Held μ (a.mut rl) w := fun w hw => by
    rcases List.mem_append.mp hw with q | q
    · exact hl w q
    · rw [List.mem_singleton.mp q]; exact hv
  constructor <;> first | exact nd' | exact mem_here | exact fun v hv => (hl' v hv).mono (upd_off (by simp [Pa.mut])) | (refine mem_skip ?_ (by assumption); intro q; simp_all)
theorem ne_some {b n : Addr} {o : O} (h : μ n = none) (hb : μ b = some o) : b ≠ n := fun q => by rw [q, h] at hb; cases hb
theorem WS.taken {μ' : Mem} {n : Addr} {P' : List V} (w : WS μ a rl P R H) (h0 : μ n = none) (h1 : μ' a.pd = some (.attrs [("rows", .ref n)])) (h2 : μ' n = some (.list P')) (h3 : But a.pd μ μ') : WS μ' a n P' R H := by
  obtain ⟨nd, p, pd, ro, q, qd, ql, r, h, hl⟩ := w
  simp only [List.nodup_cons, List.mem_cons, List.not_mem_nil, or_false, not_or] at nd
  have e1 := ne_some h0 p
  have e2 := ne_some h0 pd
  have e3 := ne_some h0 q
  have e4 := ne_some h0 qd
  have e5 := ne_some h0 ql
  have e6 := ne_some h0 r
  have e7 := ne_some h0 h
  refine ⟨?_, h3 _ _ p ?_, h1, h2, h3 _ _ q ?_, h3 _ _ qd ?_, h3 _ _ ql ?_, h3 _ _ r ?_, h3 _ _ h ?_, fun v hv => ?_⟩
  · simp only [List.nodup_cons, List.mem_cons, List.not_mem_nil, or_false, not_or]
    exact ⟨⟨e2, nd.1.2⟩, ⟨Ne.symm e6, Ne.symm e7, Ne.symm e1, Ne.symm e3, Ne.symm e4, Ne.symm e5⟩, nd.2.2⟩
  · intro q; simp_all
  · intro q; simp_all
  · intro q; simp_all
  · intro q; simp_all
  · intro q; simp_all
  · intro q; simp_all
  · obtain ⟨x, f, g, L, rfl, a1, a2, a3, a4, a5, a6, a7⟩ := hl v hv
    simp only [Pa.mut, List.mem_cons, List.not_mem_nil, or_false, not_or] at a5 a6 a7
    refine ⟨x, f, g, L, rfl, h3 _ _ a1 a5.1, h3 _ _ a2 a6.1, h3 _ _ a3 a7.1, a4, ?_, ?_, ?_⟩ <;> simp only [Pa.mut, List.mem_cons, List.not_mem_nil, or_false, not_or]
    · exact ⟨a5.1, ne_some h0 a1, a5.2.2⟩
    · exact ⟨a6.1, ne_some h0 a2, a6.2.2⟩
    · exact ⟨a7.1, ne_some h0 a3, a7.2.2⟩
theorem WS.notin (w : WS μ a rl P R H) {n : Addr} (h0 : μ n = none) : n ∉ a.mut rl := by
  simp only [Pa.mut, List.mem_cons, List.not_mem_nil, or_false, not_or]
  exact ⟨(ne_some h0 w.pd).symm, (ne_some h0 w.ro).symm, (ne_some h0 w.r).symm, (ne_some h0 w.h).symm⟩
end
theorem upd_upd (μ : Mem) (n : Addr) (o o' : O) : updM (updM μ n o) n o' = updM μ n o' := by
  funext b
  simp only [updM]
  split <;> rfl
theorem idx_last (l : List V) (v : V) : idx (l ++ [v]) (-1) = some v := by
  have e : (-1 + ((l.length + 1 : Nat) : Int)).toNat = l.length := by omega
  unfold idx
  rw [if_neg (by decide), List.length_append, List.length_singleton, if_pos (by omega), e, List.getElem?_append_right (Nat.le_refl _), Nat.sub_self]
  rfl
theorem allO_rep (n : Nat) : allO (List.replicate n (.bool true)) = some true := by
  induction n with
  | zero => rfl
  | succ n ih => rw [List.replicate_succ, allO, ih]; rfl

structure DD (c : Ctx) : Prop where
  isf : Def c sg "is_from" p_is_from b_is_from
  ini : Def c sg "Post.__init__" p_Post___init__ b_Post___init__
  put : Def c sg "Post.put" p_Post_put b_Post_put
  take : Def c sg "Post.take" p_Post_take b_Post_take
  under : Def c sg "Post.under" p_Post_under b_Post_under
  row : Def c sg "_law_row_by" p__law_row_by b__law_row_by
  place : Def c sg "_law_place_by" p__law_place_by b__law_place_by
  taken : Def c sg "_law_taken" p__law_taken b__law_taken
  good : Def c sg "_law_class_good" p__law_class_good b__law_class_good
  law : Def c sg "law" p_law b_law

noncomputable def Bound (ρ : Loc) (ns : List Int) (a : Pa) : Prop := ρ "_law_script" = some (.frz ns) ∧ ρ "_law_post" = some (.ref a.p) ∧ ρ "_law_other" = some (.ref a.q) ∧ ρ "_law_rows" = some (.ref a.r) ∧ ρ "_law_held" = some (.ref a.h)
noncomputable def Inv (ns : List Int) (a : Pa) (n : Int) (k : Nat) (ρ : Loc) (μ : Mem) : Prop := Bound ρ ns a ∧ ∃ rl R H, WS μ a rl R R H ∧ (∀ v ∈ R, isRow v) ∧ R.length ≤ n ∧ H.length ≤ k

section
variable {c : Ctx} (G : Good c sg) (D : DD c)
include G D

/-- what the turn asks behind its deed -/
theorem law_tail {ns : List Int} {a : Pa} {n : Int} {k : Nat} {ρ : Loc} {μ : Mem} {Q : Fl → Loc → Mem → Prop} {X : String → Loc → Mem → Prop} (hn : n ≤ 10000) (hk : k ≤ 1000) (hI : Inv ns a n k ρ μ)
    (h : ∀ ρ' μ', Inv ns a n (k + 1) ρ' μ' → Q .next ρ' μ') {body : List S} (e : body = (match b_law with | [_, _, _, _, .for_ _ _ (_ :: r) _ _, _] => r | _ => [])) : wpSs sg (SC c 5) false body ρ μ Q X := by
  obtain ⟨⟨r1, r2, r3, r4, r5⟩, rl, R, H, w, hR, hz, hz'⟩ := hI
  subst e
  have lR : R.length ≤ lim := by unfold lim; omega
  simp only [b_law]
  have w1 := w.p
  have w2 := w.pd
  have w3 := w.ro
  (repeat (first | (with_reducible refine e_here ?_) | (refine e_skip (by decide) ?_) | (refine isi_in (b := true) (by rfl) ?_) | (refine isi_in (b := false) (by rfl) ?_) | (refine e_glob (by rfl) ?_) | (with_reducible first | refine e_int ?_ | refine e_bool ?_ | refine e_none ?_ | refine e_str ?_ | refine e_bin ?_ | refine e_neg ?_ | refine e_not ?_ | refine e_and ?_ | refine e_or ?_ | refine a_one ?_ | refine a_cons ?_ | refine o_one ?_ | refine o_cons ?_ | refine e_cmp ?_ | refine e_cmp2 ?_ | refine e_attr ?_ | refine e_sub ?_ | refine e_sliceL ?_ | refine e_sliceU ?_ | refine e_tup ?_ | refine e_list ?_ | refine e_call ?_ | refine e_new ?_ | refine e_bltn ?_ | refine e_isi ?_ | refine e_meth ?_ | refine es_nil ?_ | refine es_cons ?_ | refine tr_in ?_ | refine br_t ?_ | refine br_f ?_ | refine br_nt ?_ | refine br_nf ?_ | refine int_in ?_ | refine add_i ?_ | refine sub_i ?_ | refine eq_i ?_ | refine ne_i ?_ | refine lt_i ?_ | refine le_i ?_ | refine gt_i ?_ | refine ge_i ?_ | refine len_t ?_ | refine len_f ?_ | refine int_b ?_ | refine s_nil ?_ | refine s_expr ?_ | refine s_assign ?_ | refine s_setattr ?_ | refine s_setitem ?_ | refine s_if ?_ | refine s_ite ?_ | refine s_ret ?_ | refine fq_ret ?_ | refine fq_next ?_ | refine sq_next ?_ | refine sq_ret ?_) | (with_reducible refine e_loc (by assumption) ?_) | (with_reducible refine br_dt (by assumption) ?_) | (with_reducible refine br_df (by assumption) ?_) | (with_reducible refine br_ndt (by assumption) ?_) | (with_reducible refine br_ndf (by assumption) ?_) | (refine getA_in (by assumption) (by assumption) (by rfl) ?_) | (refine len_l (by assumption) ?_) | (refine list_l (by assumption) ?_)))
  refine meth_own "Post.under" w1 w2 (by rfl) (by rfl) (by rfl) ?_
  (repeat (first | (with_reducible refine e_here ?_) | (refine e_skip (by decide) ?_) | (refine isi_in (b := true) (by rfl) ?_) | (refine isi_in (b := false) (by rfl) ?_) | (refine e_glob (by rfl) ?_) | (with_reducible first | refine e_int ?_ | refine e_bool ?_ | refine e_none ?_ | refine e_str ?_ | refine e_bin ?_ | refine e_neg ?_ | refine e_not ?_ | refine e_and ?_ | refine e_or ?_ | refine a_one ?_ | refine a_cons ?_ | refine o_one ?_ | refine o_cons ?_ | refine e_cmp ?_ | refine e_cmp2 ?_ | refine e_attr ?_ | refine e_sub ?_ | refine e_sliceL ?_ | refine e_sliceU ?_ | refine e_tup ?_ | refine e_list ?_ | refine e_call ?_ | refine e_new ?_ | refine e_bltn ?_ | refine e_isi ?_ | refine e_meth ?_ | refine es_nil ?_ | refine es_cons ?_ | refine tr_in ?_ | refine br_t ?_ | refine br_f ?_ | refine br_nt ?_ | refine br_nf ?_ | refine int_in ?_ | refine add_i ?_ | refine sub_i ?_ | refine eq_i ?_ | refine ne_i ?_ | refine lt_i ?_ | refine le_i ?_ | refine gt_i ?_ | refine ge_i ?_ | refine len_t ?_ | refine len_f ?_ | refine int_b ?_ | refine s_nil ?_ | refine s_expr ?_ | refine s_assign ?_ | refine s_setattr ?_ | refine s_setitem ?_ | refine s_if ?_ | refine s_ite ?_ | refine s_ret ?_ | refine fq_ret ?_ | refine fq_next ?_ | refine sq_next ?_ | refine sq_ret ?_) | (with_reducible refine e_loc (by assumption) ?_) | (with_reducible refine br_dt (by assumption) ?_) | (with_reducible refine br_df (by assumption) ?_) | (with_reducible refine br_ndt (by assumption) ?_) | (with_reducible refine br_ndf (by assumption) ?_) | (refine getA_in (by assumption) (by assumption) (by rfl) ?_) | (refine len_l (by assumption) ?_) | (refine list_l (by assumption) ?_)))
  refine sc_up (under_spec G w1 w2 w3 D.under lR fun f hf => ?_) (by decide)
  have W1 := w.ext (Ext.new hf (.list R))
  have hff : updM μ f (.list R) f = some (.list R) := mem_here
  have nf := w.notin hf
  generalize hm1 : updM μ f (.list R) = μ₁ at W1 hff ⊢
  (repeat (first | (with_reducible refine e_here ?_) | (refine e_skip (by decide) ?_) | (refine isi_in (b := true) (by rfl) ?_) | (refine isi_in (b := false) (by rfl) ?_) | (refine e_glob (by rfl) ?_) | (with_reducible first | refine e_int ?_ | refine e_bool ?_ | refine e_none ?_ | refine e_str ?_ | refine e_bin ?_ | refine e_neg ?_ | refine e_not ?_ | refine e_and ?_ | refine e_or ?_ | refine a_one ?_ | refine a_cons ?_ | refine o_one ?_ | refine o_cons ?_ | refine e_cmp ?_ | refine e_cmp2 ?_ | refine e_attr ?_ | refine e_sub ?_ | refine e_sliceL ?_ | refine e_sliceU ?_ | refine e_tup ?_ | refine e_list ?_ | refine e_call ?_ | refine e_new ?_ | refine e_bltn ?_ | refine e_isi ?_ | refine e_meth ?_ | refine es_nil ?_ | refine es_cons ?_ | refine tr_in ?_ | refine br_t ?_ | refine br_f ?_ | refine br_nt ?_ | refine br_nf ?_ | refine int_in ?_ | refine add_i ?_ | refine sub_i ?_ | refine eq_i ?_ | refine ne_i ?_ | refine lt_i ?_ | refine le_i ?_ | refine gt_i ?_ | refine ge_i ?_ | refine len_t ?_ | refine len_f ?_ | refine int_b ?_ | refine s_nil ?_ | refine s_expr ?_ | refine s_assign ?_ | refine s_setattr ?_ | refine s_setitem ?_ | refine s_if ?_ | refine s_ite ?_ | refine s_ret ?_ | refine fq_ret ?_ | refine fq_next ?_ | refine sq_next ?_ | refine sq_ret ?_) | (with_reducible refine e_loc (by assumption) ?_) | (with_reducible refine br_dt (by assumption) ?_) | (with_reducible refine br_df (by assumption) ?_) | (with_reducible refine br_ndt (by assumption) ?_) | (with_reducible refine br_ndf (by assumption) ?_) | (refine getA_in (by assumption) (by assumption) (by rfl) ?_) | (refine len_l (by assumption) ?_) | (refine list_l (by assumption) ?_)))
  refine isi_list hff (by simp) (b := true) (by rfl) ?_
  (repeat (first | (with_reducible refine e_here ?_) | (refine e_skip (by decide) ?_) | (refine isi_in (b := true) (by rfl) ?_) | (refine isi_in (b := false) (by rfl) ?_) | (refine e_glob (by rfl) ?_) | (with_reducible first | refine e_int ?_ | refine e_bool ?_ | refine e_none ?_ | refine e_str ?_ | refine e_bin ?_ | refine e_neg ?_ | refine e_not ?_ | refine e_and ?_ | refine e_or ?_ | refine a_one ?_ | refine a_cons ?_ | refine o_one ?_ | refine o_cons ?_ | refine e_cmp ?_ | refine e_cmp2 ?_ | refine e_attr ?_ | refine e_sub ?_ | refine e_sliceL ?_ | refine e_sliceU ?_ | refine e_tup ?_ | refine e_list ?_ | refine e_call ?_ | refine e_new ?_ | refine e_bltn ?_ | refine e_isi ?_ | refine e_meth ?_ | refine es_nil ?_ | refine es_cons ?_ | refine tr_in ?_ | refine br_t ?_ | refine br_f ?_ | refine br_nt ?_ | refine br_nf ?_ | refine int_in ?_ | refine add_i ?_ | refine sub_i ?_ | refine eq_i ?_ | refine ne_i ?_ | refine lt_i ?_ | refine le_i ?_ | refine gt_i ?_ | refine ge_i ?_ | refine len_t ?_ | refine len_f ?_ | refine int_b ?_ | refine s_nil ?_ | refine s_expr ?_ | refine s_assign ?_ | refine s_setattr ?_ | refine s_setitem ?_ | refine s_if ?_ | refine s_ite ?_ | refine s_ret ?_ | refine fq_ret ?_ | refine fq_next ?_ | refine sq_next ?_ | refine sq_ret ?_) | (with_reducible refine e_loc (by assumption) ?_) | (with_reducible refine br_dt (by assumption) ?_) | (with_reducible refine br_df (by assumption) ?_) | (with_reducible refine br_ndt (by assumption) ?_) | (with_reducible refine br_ndf (by assumption) ?_) | (refine getA_in (by assumption) (by assumption) (by rfl) ?_) | (refine len_l (by assumption) ?_) | (refine list_l (by assumption) ?_)))
  refine cmp_in (r := false) (by simp only [cmpO]; rw [deq_rows hR hff W1.r]; rfl) ?_
  (repeat (first | (with_reducible refine e_here ?_) | (refine e_skip (by decide) ?_) | (refine isi_in (b := true) (by rfl) ?_) | (refine isi_in (b := false) (by rfl) ?_) | (refine e_glob (by rfl) ?_) | (with_reducible first | refine e_int ?_ | refine e_bool ?_ | refine e_none ?_ | refine e_str ?_ | refine e_bin ?_ | refine e_neg ?_ | refine e_not ?_ | refine e_and ?_ | refine e_or ?_ | refine a_one ?_ | refine a_cons ?_ | refine o_one ?_ | refine o_cons ?_ | refine e_cmp ?_ | refine e_cmp2 ?_ | refine e_attr ?_ | refine e_sub ?_ | refine e_sliceL ?_ | refine e_sliceU ?_ | refine e_tup ?_ | refine e_list ?_ | refine e_call ?_ | refine e_new ?_ | refine e_bltn ?_ | refine e_isi ?_ | refine e_meth ?_ | refine es_nil ?_ | refine es_cons ?_ | refine tr_in ?_ | refine br_t ?_ | refine br_f ?_ | refine br_nt ?_ | refine br_nf ?_ | refine int_in ?_ | refine add_i ?_ | refine sub_i ?_ | refine eq_i ?_ | refine ne_i ?_ | refine lt_i ?_ | refine le_i ?_ | refine gt_i ?_ | refine ge_i ?_ | refine len_t ?_ | refine len_f ?_ | refine int_b ?_ | refine s_nil ?_ | refine s_expr ?_ | refine s_assign ?_ | refine s_setattr ?_ | refine s_setitem ?_ | refine s_if ?_ | refine s_ite ?_ | refine s_ret ?_ | refine fq_ret ?_ | refine fq_next ?_ | refine sq_next ?_ | refine sq_ret ?_) | (with_reducible refine e_loc (by assumption) ?_) | (with_reducible refine br_dt (by assumption) ?_) | (with_reducible refine br_df (by assumption) ?_) | (with_reducible refine br_ndt (by assumption) ?_) | (with_reducible refine br_ndf (by assumption) ?_) | (refine getA_in (by assumption) (by assumption) (by rfl) ?_) | (refine len_l (by assumption) ?_) | (refine list_l (by assumption) ?_)))
  refine meth_lst W1.h (by simp) ?_
  (repeat (first | (with_reducible refine e_here ?_) | (refine e_skip (by decide) ?_) | (refine isi_in (b := true) (by rfl) ?_) | (refine isi_in (b := false) (by rfl) ?_) | (refine e_glob (by rfl) ?_) | (with_reducible first | refine e_int ?_ | refine e_bool ?_ | refine e_none ?_ | refine e_str ?_ | refine e_bin ?_ | refine e_neg ?_ | refine e_not ?_ | refine e_and ?_ | refine e_or ?_ | refine a_one ?_ | refine a_cons ?_ | refine o_one ?_ | refine o_cons ?_ | refine e_cmp ?_ | refine e_cmp2 ?_ | refine e_attr ?_ | refine e_sub ?_ | refine e_sliceL ?_ | refine e_sliceU ?_ | refine e_tup ?_ | refine e_list ?_ | refine e_call ?_ | refine e_new ?_ | refine e_bltn ?_ | refine e_isi ?_ | refine e_meth ?_ | refine es_nil ?_ | refine es_cons ?_ | refine tr_in ?_ | refine br_t ?_ | refine br_f ?_ | refine br_nt ?_ | refine br_nf ?_ | refine int_in ?_ | refine add_i ?_ | refine sub_i ?_ | refine eq_i ?_ | refine ne_i ?_ | refine lt_i ?_ | refine le_i ?_ | refine gt_i ?_ | refine ge_i ?_ | refine len_t ?_ | refine len_f ?_ | refine int_b ?_ | refine s_nil ?_ | refine s_expr ?_ | refine s_assign ?_ | refine s_setattr ?_ | refine s_setitem ?_ | refine s_if ?_ | refine s_ite ?_ | refine s_ret ?_ | refine fq_ret ?_ | refine fq_next ?_ | refine sq_next ?_ | refine sq_ret ?_) | (with_reducible refine e_loc (by assumption) ?_) | (with_reducible refine br_dt (by assumption) ?_) | (with_reducible refine br_df (by assumption) ?_) | (with_reducible refine br_ndt (by assumption) ?_) | (with_reducible refine br_ndf (by assumption) ?_) | (refine getA_in (by assumption) (by assumption) (by rfl) ?_) | (refine len_l (by assumption) ?_) | (refine list_l (by assumption) ?_)))
  refine newL_in lR fun g hg => ?_
  have W2 := W1.ext (Ext.new hg (.list R))
  have hgg : updM μ₁ g (.list R) g = some (.list R) := mem_here
  have hff2 := Ext.new hg (.list R) _ _ hff
  have ng := W1.notin hg
  generalize hm2 : updM μ₁ g (.list R) = μ₂ at W2 hgg hff2 ⊢
  (repeat (first | (with_reducible refine e_here ?_) | (refine e_skip (by decide) ?_) | (refine isi_in (b := true) (by rfl) ?_) | (refine isi_in (b := false) (by rfl) ?_) | (refine e_glob (by rfl) ?_) | (with_reducible first | refine e_int ?_ | refine e_bool ?_ | refine e_none ?_ | refine e_str ?_ | refine e_bin ?_ | refine e_neg ?_ | refine e_not ?_ | refine e_and ?_ | refine e_or ?_ | refine a_one ?_ | refine a_cons ?_ | refine o_one ?_ | refine o_cons ?_ | refine e_cmp ?_ | refine e_cmp2 ?_ | refine e_attr ?_ | refine e_sub ?_ | refine e_sliceL ?_ | refine e_sliceU ?_ | refine e_tup ?_ | refine e_list ?_ | refine e_call ?_ | refine e_new ?_ | refine e_bltn ?_ | refine e_isi ?_ | refine e_meth ?_ | refine es_nil ?_ | refine es_cons ?_ | refine tr_in ?_ | refine br_t ?_ | refine br_f ?_ | refine br_nt ?_ | refine br_nf ?_ | refine int_in ?_ | refine add_i ?_ | refine sub_i ?_ | refine eq_i ?_ | refine ne_i ?_ | refine lt_i ?_ | refine le_i ?_ | refine gt_i ?_ | refine ge_i ?_ | refine len_t ?_ | refine len_f ?_ | refine int_b ?_ | refine s_nil ?_ | refine s_expr ?_ | refine s_assign ?_ | refine s_setattr ?_ | refine s_setitem ?_ | refine s_if ?_ | refine s_ite ?_ | refine s_ret ?_ | refine fq_ret ?_ | refine fq_next ?_ | refine sq_next ?_ | refine sq_ret ?_) | (with_reducible refine e_loc (by assumption) ?_) | (with_reducible refine br_dt (by assumption) ?_) | (with_reducible refine br_df (by assumption) ?_) | (with_reducible refine br_ndt (by assumption) ?_) | (with_reducible refine br_ndf (by assumption) ?_) | (refine getA_in (by assumption) (by assumption) (by rfl) ?_) | (refine len_l (by assumption) ?_) | (refine list_l (by assumption) ?_)))
  refine newL_in (show 2 ≤ 1048576 by decide) fun x hx => ?_
  have ex := Ext.new hx (.list [.ref f, .ref g])
  have W3 := W2.ext ex
  have nx := W2.notin hx
  have held : Held (updM μ₂ x (.list [.ref f, .ref g])) (a.mut rl) (.ref x) := ⟨x, f, g, R, rfl, mem_here, ex _ _ hff2, ex _ _ hgg, hR, nx, nf, ng⟩
  generalize hm3 : updM μ₂ x (.list [.ref f, .ref g]) = μ₃ at W3 held ⊢
  (repeat (first | (with_reducible refine e_here ?_) | (refine e_skip (by decide) ?_) | (refine isi_in (b := true) (by rfl) ?_) | (refine isi_in (b := false) (by rfl) ?_) | (refine e_glob (by rfl) ?_) | (with_reducible first | refine e_int ?_ | refine e_bool ?_ | refine e_none ?_ | refine e_str ?_ | refine e_bin ?_ | refine e_neg ?_ | refine e_not ?_ | refine e_and ?_ | refine e_or ?_ | refine a_one ?_ | refine a_cons ?_ | refine o_one ?_ | refine o_cons ?_ | refine e_cmp ?_ | refine e_cmp2 ?_ | refine e_attr ?_ | refine e_sub ?_ | refine e_sliceL ?_ | refine e_sliceU ?_ | refine e_tup ?_ | refine e_list ?_ | refine e_call ?_ | refine e_new ?_ | refine e_bltn ?_ | refine e_isi ?_ | refine e_meth ?_ | refine es_nil ?_ | refine es_cons ?_ | refine tr_in ?_ | refine br_t ?_ | refine br_f ?_ | refine br_nt ?_ | refine br_nf ?_ | refine int_in ?_ | refine add_i ?_ | refine sub_i ?_ | refine eq_i ?_ | refine ne_i ?_ | refine lt_i ?_ | refine le_i ?_ | refine gt_i ?_ | refine ge_i ?_ | refine len_t ?_ | refine len_f ?_ | refine int_b ?_ | refine s_nil ?_ | refine s_expr ?_ | refine s_assign ?_ | refine s_setattr ?_ | refine s_setitem ?_ | refine s_if ?_ | refine s_ite ?_ | refine s_ret ?_ | refine fq_ret ?_ | refine fq_next ?_ | refine sq_next ?_ | refine sq_ret ?_) | (with_reducible refine e_loc (by assumption) ?_) | (with_reducible refine br_dt (by assumption) ?_) | (with_reducible refine br_df (by assumption) ?_) | (with_reducible refine br_ndt (by assumption) ?_) | (with_reducible refine br_ndf (by assumption) ?_) | (refine getA_in (by assumption) (by assumption) (by rfl) ?_) | (refine len_l (by assumption) ?_) | (refine list_l (by assumption) ?_)))
  refine app_l W3.h (show H.length < 1048576 by omega) ?_
  have W4 := W3.addH held
  generalize hm4 : updM μ₃ a.h (.list (H ++ [.ref x])) = μ₄ at W4 ⊢
  (repeat (first | (with_reducible refine e_here ?_) | (refine e_skip (by decide) ?_) | (refine isi_in (b := true) (by rfl) ?_) | (refine isi_in (b := false) (by rfl) ?_) | (refine e_glob (by rfl) ?_) | (with_reducible first | refine e_int ?_ | refine e_bool ?_ | refine e_none ?_ | refine e_str ?_ | refine e_bin ?_ | refine e_neg ?_ | refine e_not ?_ | refine e_and ?_ | refine e_or ?_ | refine a_one ?_ | refine a_cons ?_ | refine o_one ?_ | refine o_cons ?_ | refine e_cmp ?_ | refine e_cmp2 ?_ | refine e_attr ?_ | refine e_sub ?_ | refine e_sliceL ?_ | refine e_sliceU ?_ | refine e_tup ?_ | refine e_list ?_ | refine e_call ?_ | refine e_new ?_ | refine e_bltn ?_ | refine e_isi ?_ | refine e_meth ?_ | refine es_nil ?_ | refine es_cons ?_ | refine tr_in ?_ | refine br_t ?_ | refine br_f ?_ | refine br_nt ?_ | refine br_nf ?_ | refine int_in ?_ | refine add_i ?_ | refine sub_i ?_ | refine eq_i ?_ | refine ne_i ?_ | refine lt_i ?_ | refine le_i ?_ | refine gt_i ?_ | refine ge_i ?_ | refine len_t ?_ | refine len_f ?_ | refine int_b ?_ | refine s_nil ?_ | refine s_expr ?_ | refine s_assign ?_ | refine s_setattr ?_ | refine s_setitem ?_ | refine s_if ?_ | refine s_ite ?_ | refine s_ret ?_ | refine fq_ret ?_ | refine fq_next ?_ | refine sq_next ?_ | refine sq_ret ?_) | (with_reducible refine e_loc (by assumption) ?_) | (with_reducible refine br_dt (by assumption) ?_) | (with_reducible refine br_df (by assumption) ?_) | (with_reducible refine br_ndt (by assumption) ?_) | (with_reducible refine br_ndf (by assumption) ?_) | (refine getA_in (by assumption) (by assumption) (by rfl) ?_) | (refine len_l (by assumption) ?_) | (refine list_l (by assumption) ?_)))
  refine meth_own "Post.under" W4.p W4.pd (by rfl) (by rfl) (by rfl) ?_
  (repeat (first | (with_reducible refine e_here ?_) | (refine e_skip (by decide) ?_) | (refine isi_in (b := true) (by rfl) ?_) | (refine isi_in (b := false) (by rfl) ?_) | (refine e_glob (by rfl) ?_) | (with_reducible first | refine e_int ?_ | refine e_bool ?_ | refine e_none ?_ | refine e_str ?_ | refine e_bin ?_ | refine e_neg ?_ | refine e_not ?_ | refine e_and ?_ | refine e_or ?_ | refine a_one ?_ | refine a_cons ?_ | refine o_one ?_ | refine o_cons ?_ | refine e_cmp ?_ | refine e_cmp2 ?_ | refine e_attr ?_ | refine e_sub ?_ | refine e_sliceL ?_ | refine e_sliceU ?_ | refine e_tup ?_ | refine e_list ?_ | refine e_call ?_ | refine e_new ?_ | refine e_bltn ?_ | refine e_isi ?_ | refine e_meth ?_ | refine es_nil ?_ | refine es_cons ?_ | refine tr_in ?_ | refine br_t ?_ | refine br_f ?_ | refine br_nt ?_ | refine br_nf ?_ | refine int_in ?_ | refine add_i ?_ | refine sub_i ?_ | refine eq_i ?_ | refine ne_i ?_ | refine lt_i ?_ | refine le_i ?_ | refine gt_i ?_ | refine ge_i ?_ | refine len_t ?_ | refine len_f ?_ | refine int_b ?_ | refine s_nil ?_ | refine s_expr ?_ | refine s_assign ?_ | refine s_setattr ?_ | refine s_setitem ?_ | refine s_if ?_ | refine s_ite ?_ | refine s_ret ?_ | refine fq_ret ?_ | refine fq_next ?_ | refine sq_next ?_ | refine sq_ret ?_) | (with_reducible refine e_loc (by assumption) ?_) | (with_reducible refine br_dt (by assumption) ?_) | (with_reducible refine br_df (by assumption) ?_) | (with_reducible refine br_ndt (by assumption) ?_) | (with_reducible refine br_ndf (by assumption) ?_) | (refine getA_in (by assumption) (by assumption) (by rfl) ?_) | (refine len_l (by assumption) ?_) | (refine list_l (by assumption) ?_)))
  refine sc_up (under_spec G W4.p W4.pd W4.ro D.under lR fun n' hn' => ?_) (by decide)
  (repeat (first | (with_reducible refine e_here ?_) | (refine e_skip (by decide) ?_) | (refine isi_in (b := true) (by rfl) ?_) | (refine isi_in (b := false) (by rfl) ?_) | (refine e_glob (by rfl) ?_) | (with_reducible first | refine e_int ?_ | refine e_bool ?_ | refine e_none ?_ | refine e_str ?_ | refine e_bin ?_ | refine e_neg ?_ | refine e_not ?_ | refine e_and ?_ | refine e_or ?_ | refine a_one ?_ | refine a_cons ?_ | refine o_one ?_ | refine o_cons ?_ | refine e_cmp ?_ | refine e_cmp2 ?_ | refine e_attr ?_ | refine e_sub ?_ | refine e_sliceL ?_ | refine e_sliceU ?_ | refine e_tup ?_ | refine e_list ?_ | refine e_call ?_ | refine e_new ?_ | refine e_bltn ?_ | refine e_isi ?_ | refine e_meth ?_ | refine es_nil ?_ | refine es_cons ?_ | refine tr_in ?_ | refine br_t ?_ | refine br_f ?_ | refine br_nt ?_ | refine br_nf ?_ | refine int_in ?_ | refine add_i ?_ | refine sub_i ?_ | refine eq_i ?_ | refine ne_i ?_ | refine lt_i ?_ | refine le_i ?_ | refine gt_i ?_ | refine ge_i ?_ | refine len_t ?_ | refine len_f ?_ | refine int_b ?_ | refine s_nil ?_ | refine s_expr ?_ | refine s_assign ?_ | refine s_setattr ?_ | refine s_setitem ?_ | refine s_if ?_ | refine s_ite ?_ | refine s_ret ?_ | refine fq_ret ?_ | refine fq_next ?_ | refine sq_next ?_ | refine sq_ret ?_) | (with_reducible refine e_loc (by assumption) ?_) | (with_reducible refine br_dt (by assumption) ?_) | (with_reducible refine br_df (by assumption) ?_) | (with_reducible refine br_ndt (by assumption) ?_) | (with_reducible refine br_ndf (by assumption) ?_) | (refine getA_in (by assumption) (by assumption) (by rfl) ?_) | (refine len_l (by assumption) ?_) | (refine list_l (by assumption) ?_)))
  refine meth_lst (mem_here (μ := μ₄)) (by simp) ?_
  (repeat (first | (with_reducible refine e_here ?_) | (refine e_skip (by decide) ?_) | (refine isi_in (b := true) (by rfl) ?_) | (refine isi_in (b := false) (by rfl) ?_) | (refine e_glob (by rfl) ?_) | (with_reducible first | refine e_int ?_ | refine e_bool ?_ | refine e_none ?_ | refine e_str ?_ | refine e_bin ?_ | refine e_neg ?_ | refine e_not ?_ | refine e_and ?_ | refine e_or ?_ | refine a_one ?_ | refine a_cons ?_ | refine o_one ?_ | refine o_cons ?_ | refine e_cmp ?_ | refine e_cmp2 ?_ | refine e_attr ?_ | refine e_sub ?_ | refine e_sliceL ?_ | refine e_sliceU ?_ | refine e_tup ?_ | refine e_list ?_ | refine e_call ?_ | refine e_new ?_ | refine e_bltn ?_ | refine e_isi ?_ | refine e_meth ?_ | refine es_nil ?_ | refine es_cons ?_ | refine tr_in ?_ | refine br_t ?_ | refine br_f ?_ | refine br_nt ?_ | refine br_nf ?_ | refine int_in ?_ | refine add_i ?_ | refine sub_i ?_ | refine eq_i ?_ | refine ne_i ?_ | refine lt_i ?_ | refine le_i ?_ | refine gt_i ?_ | refine ge_i ?_ | refine len_t ?_ | refine len_f ?_ | refine int_b ?_ | refine s_nil ?_ | refine s_expr ?_ | refine s_assign ?_ | refine s_setattr ?_ | refine s_setitem ?_ | refine s_if ?_ | refine s_ite ?_ | refine s_ret ?_ | refine fq_ret ?_ | refine fq_next ?_ | refine sq_next ?_ | refine sq_ret ?_) | (with_reducible refine e_loc (by assumption) ?_) | (with_reducible refine br_dt (by assumption) ?_) | (with_reducible refine br_df (by assumption) ?_) | (with_reducible refine br_ndt (by assumption) ?_) | (with_reducible refine br_ndf (by assumption) ?_) | (refine getA_in (by assumption) (by assumption) (by rfl) ?_) | (refine len_l (by assumption) ?_) | (refine list_l (by assumption) ?_)))
  refine app_l (mem_here (μ := μ₄)) (show R.length < 1048576 by omega) ?_
  rw [upd_upd]
  (repeat (first | (with_reducible refine e_here ?_) | (refine e_skip (by decide) ?_) | (refine isi_in (b := true) (by rfl) ?_) | (refine isi_in (b := false) (by rfl) ?_) | (refine e_glob (by rfl) ?_) | (with_reducible first | refine e_int ?_ | refine e_bool ?_ | refine e_none ?_ | refine e_str ?_ | refine e_bin ?_ | refine e_neg ?_ | refine e_not ?_ | refine e_and ?_ | refine e_or ?_ | refine a_one ?_ | refine a_cons ?_ | refine o_one ?_ | refine o_cons ?_ | refine e_cmp ?_ | refine e_cmp2 ?_ | refine e_attr ?_ | refine e_sub ?_ | refine e_sliceL ?_ | refine e_sliceU ?_ | refine e_tup ?_ | refine e_list ?_ | refine e_call ?_ | refine e_new ?_ | refine e_bltn ?_ | refine e_isi ?_ | refine e_meth ?_ | refine es_nil ?_ | refine es_cons ?_ | refine tr_in ?_ | refine br_t ?_ | refine br_f ?_ | refine br_nt ?_ | refine br_nf ?_ | refine int_in ?_ | refine add_i ?_ | refine sub_i ?_ | refine eq_i ?_ | refine ne_i ?_ | refine lt_i ?_ | refine le_i ?_ | refine gt_i ?_ | refine ge_i ?_ | refine len_t ?_ | refine len_f ?_ | refine int_b ?_ | refine s_nil ?_ | refine s_expr ?_ | refine s_assign ?_ | refine s_setattr ?_ | refine s_setitem ?_ | refine s_if ?_ | refine s_ite ?_ | refine s_ret ?_ | refine fq_ret ?_ | refine fq_next ?_ | refine sq_next ?_ | refine sq_ret ?_) | (with_reducible refine e_loc (by assumption) ?_) | (with_reducible refine br_dt (by assumption) ?_) | (with_reducible refine br_df (by assumption) ?_) | (with_reducible refine br_ndt (by assumption) ?_) | (with_reducible refine br_ndf (by assumption) ?_) | (refine getA_in (by assumption) (by assumption) (by rfl) ?_) | (refine len_l (by assumption) ?_) | (refine list_l (by assumption) ?_)))
  refine meth_lst (mem_here (μ := μ₄)) (by simp) ?_
  (repeat (first | (with_reducible refine e_here ?_) | (refine e_skip (by decide) ?_) | (refine isi_in (b := true) (by rfl) ?_) | (refine isi_in (b := false) (by rfl) ?_) | (refine e_glob (by rfl) ?_) | (with_reducible first | refine e_int ?_ | refine e_bool ?_ | refine e_none ?_ | refine e_str ?_ | refine e_bin ?_ | refine e_neg ?_ | refine e_not ?_ | refine e_and ?_ | refine e_or ?_ | refine a_one ?_ | refine a_cons ?_ | refine o_one ?_ | refine o_cons ?_ | refine e_cmp ?_ | refine e_cmp2 ?_ | refine e_attr ?_ | refine e_sub ?_ | refine e_sliceL ?_ | refine e_sliceU ?_ | refine e_tup ?_ | refine e_list ?_ | refine e_call ?_ | refine e_new ?_ | refine e_bltn ?_ | refine e_isi ?_ | refine e_meth ?_ | refine es_nil ?_ | refine es_cons ?_ | refine tr_in ?_ | refine br_t ?_ | refine br_f ?_ | refine br_nt ?_ | refine br_nf ?_ | refine int_in ?_ | refine add_i ?_ | refine sub_i ?_ | refine eq_i ?_ | refine ne_i ?_ | refine lt_i ?_ | refine le_i ?_ | refine gt_i ?_ | refine ge_i ?_ | refine len_t ?_ | refine len_f ?_ | refine int_b ?_ | refine s_nil ?_ | refine s_expr ?_ | refine s_assign ?_ | refine s_setattr ?_ | refine s_setitem ?_ | refine s_if ?_ | refine s_ite ?_ | refine s_ret ?_ | refine fq_ret ?_ | refine fq_next ?_ | refine sq_next ?_ | refine sq_ret ?_) | (with_reducible refine e_loc (by assumption) ?_) | (with_reducible refine br_dt (by assumption) ?_) | (with_reducible refine br_df (by assumption) ?_) | (with_reducible refine br_ndt (by assumption) ?_) | (with_reducible refine br_ndf (by assumption) ?_) | (refine getA_in (by assumption) (by assumption) (by rfl) ?_) | (refine len_l (by assumption) ?_) | (refine list_l (by assumption) ?_)))
  refine rev_l (mem_here (μ := μ₄)) ?_
  rw [upd_upd]
  (repeat (first | (with_reducible refine e_here ?_) | (refine e_skip (by decide) ?_) | (refine isi_in (b := true) (by rfl) ?_) | (refine isi_in (b := false) (by rfl) ?_) | (refine e_glob (by rfl) ?_) | (with_reducible first | refine e_int ?_ | refine e_bool ?_ | refine e_none ?_ | refine e_str ?_ | refine e_bin ?_ | refine e_neg ?_ | refine e_not ?_ | refine e_and ?_ | refine e_or ?_ | refine a_one ?_ | refine a_cons ?_ | refine o_one ?_ | refine o_cons ?_ | refine e_cmp ?_ | refine e_cmp2 ?_ | refine e_attr ?_ | refine e_sub ?_ | refine e_sliceL ?_ | refine e_sliceU ?_ | refine e_tup ?_ | refine e_list ?_ | refine e_call ?_ | refine e_new ?_ | refine e_bltn ?_ | refine e_isi ?_ | refine e_meth ?_ | refine es_nil ?_ | refine es_cons ?_ | refine tr_in ?_ | refine br_t ?_ | refine br_f ?_ | refine br_nt ?_ | refine br_nf ?_ | refine int_in ?_ | refine add_i ?_ | refine sub_i ?_ | refine eq_i ?_ | refine ne_i ?_ | refine lt_i ?_ | refine le_i ?_ | refine gt_i ?_ | refine ge_i ?_ | refine len_t ?_ | refine len_f ?_ | refine int_b ?_ | refine s_nil ?_ | refine s_expr ?_ | refine s_assign ?_ | refine s_setattr ?_ | refine s_setitem ?_ | refine s_if ?_ | refine s_ite ?_ | refine s_ret ?_ | refine fq_ret ?_ | refine fq_next ?_ | refine sq_next ?_ | refine sq_ret ?_) | (with_reducible refine e_loc (by assumption) ?_) | (with_reducible refine br_dt (by assumption) ?_) | (with_reducible refine br_df (by assumption) ?_) | (with_reducible refine br_ndt (by assumption) ?_) | (with_reducible refine br_ndf (by assumption) ?_) | (refine getA_in (by assumption) (by assumption) (by rfl) ?_) | (refine len_l (by assumption) ?_) | (refine list_l (by assumption) ?_)))
  refine h _ _ ⟨⟨by (repeat (first | exact loc_here | assumption | refine loc_skip (by decide) ?_)), by (repeat (first | exact loc_here | assumption | refine loc_skip (by decide) ?_)), by (repeat (first | exact loc_here | assumption | refine loc_skip (by decide) ?_)), by (repeat (first | exact loc_here | assumption | refine loc_skip (by decide) ?_)), by (repeat (first | exact loc_here | assumption | refine loc_skip (by decide) ?_))⟩, rl, R, H ++ [.ref x], W4.ext (Ext.new hn' _), hR, hz, ?_⟩
  rw [List.length_append, List.length_singleton]; omega
end

set_option autoImplicit false

set_option linter.unusedVariables false
set_option linter.unusedSimpArgs false
open PySem

section
variable {c : Ctx} (G : Good c sg) (D : DD c)
include G D

theorem law_put {ns : List Int} {a : Pa} {n : Int} {k : Nat} {ρ : Loc} {μ : Mem} {Q : Fl → Loc → Mem → Prop} {X : String → Loc → Mem → Prop} (hn : n ≤ 9000) (hI : Inv ns a n k ρ μ) (hk : ρ "_law_k" = some (.int k)) (hks : k < ns.length)
    (h : ∀ ρ' μ', Inv ns a (n + 40) k ρ' μ' → ρ' "_law_k" = some (.int k) → Q .next ρ' μ') {body : List S} (e : body = (match b_law with | [_, _, _, _, .for_ _ _ (.ite _ t _ _ :: r) _ _, _] => t | _ => [])) : wpSs sg (SC c 5) false body ρ μ Q X := by
  have r0 := hI
  obtain ⟨⟨r1, r2, r3, r4, r5⟩, -⟩ := r0
  subst e
  simp only [b_law]
  refine s_for rfl ?_
  (repeat (first | (with_reducible refine e_here ?_) | (refine e_skip (by decide) ?_) | (refine isi_in (b := true) (by rfl) ?_) | (refine isi_in (b := false) (by rfl) ?_) | (refine e_glob (by rfl) ?_) | (with_reducible first | refine e_int ?_ | refine e_bool ?_ | refine e_none ?_ | refine e_str ?_ | refine e_bin ?_ | refine e_neg ?_ | refine e_not ?_ | refine e_and ?_ | refine e_or ?_ | refine a_one ?_ | refine a_cons ?_ | refine o_one ?_ | refine o_cons ?_ | refine e_cmp ?_ | refine e_cmp2 ?_ | refine e_attr ?_ | refine e_sub ?_ | refine e_sliceL ?_ | refine e_sliceU ?_ | refine e_tup ?_ | refine e_list ?_ | refine e_call ?_ | refine e_new ?_ | refine e_bltn ?_ | refine e_isi ?_ | refine e_meth ?_ | refine es_nil ?_ | refine es_cons ?_ | refine tr_in ?_ | refine br_t ?_ | refine br_f ?_ | refine br_nt ?_ | refine br_nf ?_ | refine int_in ?_ | refine add_i ?_ | refine sub_i ?_ | refine eq_i ?_ | refine ne_i ?_ | refine lt_i ?_ | refine le_i ?_ | refine gt_i ?_ | refine ge_i ?_ | refine len_t ?_ | refine len_f ?_ | refine int_b ?_ | refine s_nil ?_ | refine s_expr ?_ | refine s_assign ?_ | refine s_setattr ?_ | refine s_setitem ?_ | refine s_if ?_ | refine s_ite ?_ | refine s_ret ?_ | refine fq_ret ?_ | refine fq_next ?_ | refine sq_next ?_ | refine sq_ret ?_) | (with_reducible refine e_loc (by assumption) ?_) | (with_reducible refine br_dt (by assumption) ?_) | (with_reducible refine br_df (by assumption) ?_) | (with_reducible refine br_ndt (by assumption) ?_) | (with_reducible refine br_ndf (by assumption) ?_) | (refine getA_in (by assumption) (by assumption) (by rfl) ?_) | (refine len_l (by assumption) ?_) | (refine list_l (by assumption) ?_)))
  refine sub_f (Int.natCast_nonneg _) (Int.ofNat_lt.mpr hks) fun y => ?_
  (repeat (first | (with_reducible refine e_here ?_) | (refine e_skip (by decide) ?_) | (refine isi_in (b := true) (by rfl) ?_) | (refine isi_in (b := false) (by rfl) ?_) | (refine e_glob (by rfl) ?_) | (with_reducible first | refine e_int ?_ | refine e_bool ?_ | refine e_none ?_ | refine e_str ?_ | refine e_bin ?_ | refine e_neg ?_ | refine e_not ?_ | refine e_and ?_ | refine e_or ?_ | refine a_one ?_ | refine a_cons ?_ | refine o_one ?_ | refine o_cons ?_ | refine e_cmp ?_ | refine e_cmp2 ?_ | refine e_attr ?_ | refine e_sub ?_ | refine e_sliceL ?_ | refine e_sliceU ?_ | refine e_tup ?_ | refine e_list ?_ | refine e_call ?_ | refine e_new ?_ | refine e_bltn ?_ | refine e_isi ?_ | refine e_meth ?_ | refine es_nil ?_ | refine es_cons ?_ | refine tr_in ?_ | refine br_t ?_ | refine br_f ?_ | refine br_nt ?_ | refine br_nf ?_ | refine int_in ?_ | refine add_i ?_ | refine sub_i ?_ | refine eq_i ?_ | refine ne_i ?_ | refine lt_i ?_ | refine le_i ?_ | refine gt_i ?_ | refine ge_i ?_ | refine len_t ?_ | refine len_f ?_ | refine int_b ?_ | refine s_nil ?_ | refine s_expr ?_ | refine s_assign ?_ | refine s_setattr ?_ | refine s_setitem ?_ | refine s_if ?_ | refine s_ite ?_ | refine s_ret ?_ | refine fq_ret ?_ | refine fq_next ?_ | refine sq_next ?_ | refine sq_ret ?_) | (with_reducible refine e_loc (by assumption) ?_) | (with_reducible refine br_dt (by assumption) ?_) | (with_reducible refine br_df (by assumption) ?_) | (with_reducible refine br_ndt (by assumption) ?_) | (with_reducible refine br_ndf (by assumption) ?_) | (refine getA_in (by assumption) (by assumption) (by rfl) ?_) | (refine len_l (by assumption) ?_) | (refine list_l (by assumption) ?_)))
  refine div_i (by decide) (by decide) ?_
  (repeat (first | (with_reducible refine e_here ?_) | (refine e_skip (by decide) ?_) | (refine isi_in (b := true) (by rfl) ?_) | (refine isi_in (b := false) (by rfl) ?_) | (refine e_glob (by rfl) ?_) | (with_reducible first | refine e_int ?_ | refine e_bool ?_ | refine e_none ?_ | refine e_str ?_ | refine e_bin ?_ | refine e_neg ?_ | refine e_not ?_ | refine e_and ?_ | refine e_or ?_ | refine a_one ?_ | refine a_cons ?_ | refine o_one ?_ | refine o_cons ?_ | refine e_cmp ?_ | refine e_cmp2 ?_ | refine e_attr ?_ | refine e_sub ?_ | refine e_sliceL ?_ | refine e_sliceU ?_ | refine e_tup ?_ | refine e_list ?_ | refine e_call ?_ | refine e_new ?_ | refine e_bltn ?_ | refine e_isi ?_ | refine e_meth ?_ | refine es_nil ?_ | refine es_cons ?_ | refine tr_in ?_ | refine br_t ?_ | refine br_f ?_ | refine br_nt ?_ | refine br_nf ?_ | refine int_in ?_ | refine add_i ?_ | refine sub_i ?_ | refine eq_i ?_ | refine ne_i ?_ | refine lt_i ?_ | refine le_i ?_ | refine gt_i ?_ | refine ge_i ?_ | refine len_t ?_ | refine len_f ?_ | refine int_b ?_ | refine s_nil ?_ | refine s_expr ?_ | refine s_assign ?_ | refine s_setattr ?_ | refine s_setitem ?_ | refine s_if ?_ | refine s_ite ?_ | refine s_ret ?_ | refine fq_ret ?_ | refine fq_next ?_ | refine sq_next ?_ | refine sq_ret ?_) | (with_reducible refine e_loc (by assumption) ?_) | (with_reducible refine br_dt (by assumption) ?_) | (with_reducible refine br_df (by assumption) ?_) | (with_reducible refine br_ndt (by assumption) ?_) | (with_reducible refine br_ndf (by assumption) ?_) | (refine getA_in (by assumption) (by assumption) (by rfl) ?_) | (refine len_l (by assumption) ?_) | (refine list_l (by assumption) ?_)))
  refine mod_i (by decide) ?_
  (repeat (first | (with_reducible refine e_here ?_) | (refine e_skip (by decide) ?_) | (refine isi_in (b := true) (by rfl) ?_) | (refine isi_in (b := false) (by rfl) ?_) | (refine e_glob (by rfl) ?_) | (with_reducible first | refine e_int ?_ | refine e_bool ?_ | refine e_none ?_ | refine e_str ?_ | refine e_bin ?_ | refine e_neg ?_ | refine e_not ?_ | refine e_and ?_ | refine e_or ?_ | refine a_one ?_ | refine a_cons ?_ | refine o_one ?_ | refine o_cons ?_ | refine e_cmp ?_ | refine e_cmp2 ?_ | refine e_attr ?_ | refine e_sub ?_ | refine e_sliceL ?_ | refine e_sliceU ?_ | refine e_tup ?_ | refine e_list ?_ | refine e_call ?_ | refine e_new ?_ | refine e_bltn ?_ | refine e_isi ?_ | refine e_meth ?_ | refine es_nil ?_ | refine es_cons ?_ | refine tr_in ?_ | refine br_t ?_ | refine br_f ?_ | refine br_nt ?_ | refine br_nf ?_ | refine int_in ?_ | refine add_i ?_ | refine sub_i ?_ | refine eq_i ?_ | refine ne_i ?_ | refine lt_i ?_ | refine le_i ?_ | refine gt_i ?_ | refine ge_i ?_ | refine len_t ?_ | refine len_f ?_ | refine int_b ?_ | refine s_nil ?_ | refine s_expr ?_ | refine s_assign ?_ | refine s_setattr ?_ | refine s_setitem ?_ | refine s_if ?_ | refine s_ite ?_ | refine s_ret ?_ | refine fq_ret ?_ | refine fq_next ?_ | refine sq_next ?_ | refine sq_ret ?_) | (with_reducible refine e_loc (by assumption) ?_) | (with_reducible refine br_dt (by assumption) ?_) | (with_reducible refine br_df (by assumption) ?_) | (with_reducible refine br_ndt (by assumption) ?_) | (with_reducible refine br_ndf (by assumption) ?_) | (refine getA_in (by assumption) (by assumption) (by rfl) ?_) | (refine len_l (by assumption) ?_) | (refine list_l (by assumption) ?_)))
  have hb : ∃ m : Int, 1 ≤ m ∧ m ≤ 40 ∧ (1 + 39 * (if decide (y / 3 % 16 = 5) then 1 else 0) : Int) = m := by
    by_cases q : y / 3 % 16 = 5
    · exact ⟨40, by decide, by decide, by simp [q]⟩
    · exact ⟨1, by decide, by decide, by simp [q]⟩
  obtain ⟨m, m1, m2, em⟩ := hb
  refine mul_i (.inl (by decide)) ?_
  (repeat (first | (with_reducible refine e_here ?_) | (refine e_skip (by decide) ?_) | (refine isi_in (b := true) (by rfl) ?_) | (refine isi_in (b := false) (by rfl) ?_) | (refine e_glob (by rfl) ?_) | (with_reducible first | refine e_int ?_ | refine e_bool ?_ | refine e_none ?_ | refine e_str ?_ | refine e_bin ?_ | refine e_neg ?_ | refine e_not ?_ | refine e_and ?_ | refine e_or ?_ | refine a_one ?_ | refine a_cons ?_ | refine o_one ?_ | refine o_cons ?_ | refine e_cmp ?_ | refine e_cmp2 ?_ | refine e_attr ?_ | refine e_sub ?_ | refine e_sliceL ?_ | refine e_sliceU ?_ | refine e_tup ?_ | refine e_list ?_ | refine e_call ?_ | refine e_new ?_ | refine e_bltn ?_ | refine e_isi ?_ | refine e_meth ?_ | refine es_nil ?_ | refine es_cons ?_ | refine tr_in ?_ | refine br_t ?_ | refine br_f ?_ | refine br_nt ?_ | refine br_nf ?_ | refine int_in ?_ | refine add_i ?_ | refine sub_i ?_ | refine eq_i ?_ | refine ne_i ?_ | refine lt_i ?_ | refine le_i ?_ | refine gt_i ?_ | refine ge_i ?_ | refine len_t ?_ | refine len_f ?_ | refine int_b ?_ | refine s_nil ?_ | refine s_expr ?_ | refine s_assign ?_ | refine s_setattr ?_ | refine s_setitem ?_ | refine s_if ?_ | refine s_ite ?_ | refine s_ret ?_ | refine fq_ret ?_ | refine fq_next ?_ | refine sq_next ?_ | refine sq_ret ?_) | (with_reducible refine e_loc (by assumption) ?_) | (with_reducible refine br_dt (by assumption) ?_) | (with_reducible refine br_df (by assumption) ?_) | (with_reducible refine br_ndt (by assumption) ?_) | (with_reducible refine br_ndf (by assumption) ?_) | (refine getA_in (by assumption) (by assumption) (by rfl) ?_) | (refine len_l (by assumption) ?_) | (refine list_l (by assumption) ?_)))
  rw [em]
  have lm : (m : Int) ≤ 1048576 := by omega
  refine rng1 lm (by omega) ?_
  refine for_rng (fun j ρ μ => Inv ns a (n + j) k ρ μ ∧ ρ "_law_k" = some (.int k)) ⟨by rw [Int.add_zero]; exact hI, hk⟩ (fun j ρ μ j0 j1 hJ => ?_) (fun ρ μ hJ => ?_)
  · obtain ⟨⟨⟨r1, r2, r3, r4, r5⟩, rl, R, H, w, hR, hz, hz'⟩, r6⟩ := hJ
    (repeat (first | (with_reducible refine e_here ?_) | (refine e_skip (by decide) ?_) | (refine isi_in (b := true) (by rfl) ?_) | (refine isi_in (b := false) (by rfl) ?_) | (refine e_glob (by rfl) ?_) | (with_reducible first | refine e_int ?_ | refine e_bool ?_ | refine e_none ?_ | refine e_str ?_ | refine e_bin ?_ | refine e_neg ?_ | refine e_not ?_ | refine e_and ?_ | refine e_or ?_ | refine a_one ?_ | refine a_cons ?_ | refine o_one ?_ | refine o_cons ?_ | refine e_cmp ?_ | refine e_cmp2 ?_ | refine e_attr ?_ | refine e_sub ?_ | refine e_sliceL ?_ | refine e_sliceU ?_ | refine e_tup ?_ | refine e_list ?_ | refine e_call ?_ | refine e_new ?_ | refine e_bltn ?_ | refine e_isi ?_ | refine e_meth ?_ | refine es_nil ?_ | refine es_cons ?_ | refine tr_in ?_ | refine br_t ?_ | refine br_f ?_ | refine br_nt ?_ | refine br_nf ?_ | refine int_in ?_ | refine add_i ?_ | refine sub_i ?_ | refine eq_i ?_ | refine ne_i ?_ | refine lt_i ?_ | refine le_i ?_ | refine gt_i ?_ | refine ge_i ?_ | refine len_t ?_ | refine len_f ?_ | refine int_b ?_ | refine s_nil ?_ | refine s_expr ?_ | refine s_assign ?_ | refine s_setattr ?_ | refine s_setitem ?_ | refine s_if ?_ | refine s_ite ?_ | refine s_ret ?_ | refine fq_ret ?_ | refine fq_next ?_ | refine sq_next ?_ | refine sq_ret ?_) | (with_reducible refine e_loc (by assumption) ?_) | (with_reducible refine br_dt (by assumption) ?_) | (with_reducible refine br_df (by assumption) ?_) | (with_reducible refine br_ndt (by assumption) ?_) | (with_reducible refine br_ndf (by assumption) ?_) | (refine getA_in (by assumption) (by assumption) (by rfl) ?_) | (refine len_l (by assumption) ?_) | (refine list_l (by assumption) ?_)))
    refine meth_lst w.r (by simp) ?_
    (repeat (first | (with_reducible refine e_here ?_) | (refine e_skip (by decide) ?_) | (refine isi_in (b := true) (by rfl) ?_) | (refine isi_in (b := false) (by rfl) ?_) | (refine e_glob (by rfl) ?_) | (with_reducible first | refine e_int ?_ | refine e_bool ?_ | refine e_none ?_ | refine e_str ?_ | refine e_bin ?_ | refine e_neg ?_ | refine e_not ?_ | refine e_and ?_ | refine e_or ?_ | refine a_one ?_ | refine a_cons ?_ | refine o_one ?_ | refine o_cons ?_ | refine e_cmp ?_ | refine e_cmp2 ?_ | refine e_attr ?_ | refine e_sub ?_ | refine e_sliceL ?_ | refine e_sliceU ?_ | refine e_tup ?_ | refine e_list ?_ | refine e_call ?_ | refine e_new ?_ | refine e_bltn ?_ | refine e_isi ?_ | refine e_meth ?_ | refine es_nil ?_ | refine es_cons ?_ | refine tr_in ?_ | refine br_t ?_ | refine br_f ?_ | refine br_nt ?_ | refine br_nf ?_ | refine int_in ?_ | refine add_i ?_ | refine sub_i ?_ | refine eq_i ?_ | refine ne_i ?_ | refine lt_i ?_ | refine le_i ?_ | refine gt_i ?_ | refine ge_i ?_ | refine len_t ?_ | refine len_f ?_ | refine int_b ?_ | refine s_nil ?_ | refine s_expr ?_ | refine s_assign ?_ | refine s_setattr ?_ | refine s_setitem ?_ | refine s_if ?_ | refine s_ite ?_ | refine s_ret ?_ | refine fq_ret ?_ | refine fq_next ?_ | refine sq_next ?_ | refine sq_ret ?_) | (with_reducible refine e_loc (by assumption) ?_) | (with_reducible refine br_dt (by assumption) ?_) | (with_reducible refine br_df (by assumption) ?_) | (with_reducible refine br_ndt (by assumption) ?_) | (with_reducible refine br_ndf (by assumption) ?_) | (refine getA_in (by assumption) (by assumption) (by rfl) ?_) | (refine len_l (by assumption) ?_) | (refine list_l (by assumption) ?_)))
    refine sub_f (Int.natCast_nonneg _) (Int.ofNat_lt.mpr hks) fun y => ?_
    (repeat (first | (with_reducible refine e_here ?_) | (refine e_skip (by decide) ?_) | (refine isi_in (b := true) (by rfl) ?_) | (refine isi_in (b := false) (by rfl) ?_) | (refine e_glob (by rfl) ?_) | (with_reducible first | refine e_int ?_ | refine e_bool ?_ | refine e_none ?_ | refine e_str ?_ | refine e_bin ?_ | refine e_neg ?_ | refine e_not ?_ | refine e_and ?_ | refine e_or ?_ | refine a_one ?_ | refine a_cons ?_ | refine o_one ?_ | refine o_cons ?_ | refine e_cmp ?_ | refine e_cmp2 ?_ | refine e_attr ?_ | refine e_sub ?_ | refine e_sliceL ?_ | refine e_sliceU ?_ | refine e_tup ?_ | refine e_list ?_ | refine e_call ?_ | refine e_new ?_ | refine e_bltn ?_ | refine e_isi ?_ | refine e_meth ?_ | refine es_nil ?_ | refine es_cons ?_ | refine tr_in ?_ | refine br_t ?_ | refine br_f ?_ | refine br_nt ?_ | refine br_nf ?_ | refine int_in ?_ | refine add_i ?_ | refine sub_i ?_ | refine eq_i ?_ | refine ne_i ?_ | refine lt_i ?_ | refine le_i ?_ | refine gt_i ?_ | refine ge_i ?_ | refine len_t ?_ | refine len_f ?_ | refine int_b ?_ | refine s_nil ?_ | refine s_expr ?_ | refine s_assign ?_ | refine s_setattr ?_ | refine s_setitem ?_ | refine s_if ?_ | refine s_ite ?_ | refine s_ret ?_ | refine fq_ret ?_ | refine fq_next ?_ | refine sq_next ?_ | refine sq_ret ?_) | (with_reducible refine e_loc (by assumption) ?_) | (with_reducible refine br_dt (by assumption) ?_) | (with_reducible refine br_df (by assumption) ?_) | (with_reducible refine br_ndt (by assumption) ?_) | (with_reducible refine br_ndf (by assumption) ?_) | (refine getA_in (by assumption) (by assumption) (by rfl) ?_) | (refine len_l (by assumption) ?_) | (refine list_l (by assumption) ?_)))
    refine div_i (by decide) (by decide) ?_
    (repeat (first | (with_reducible refine e_here ?_) | (refine e_skip (by decide) ?_) | (refine isi_in (b := true) (by rfl) ?_) | (refine isi_in (b := false) (by rfl) ?_) | (refine e_glob (by rfl) ?_) | (with_reducible first | refine e_int ?_ | refine e_bool ?_ | refine e_none ?_ | refine e_str ?_ | refine e_bin ?_ | refine e_neg ?_ | refine e_not ?_ | refine e_and ?_ | refine e_or ?_ | refine a_one ?_ | refine a_cons ?_ | refine o_one ?_ | refine o_cons ?_ | refine e_cmp ?_ | refine e_cmp2 ?_ | refine e_attr ?_ | refine e_sub ?_ | refine e_sliceL ?_ | refine e_sliceU ?_ | refine e_tup ?_ | refine e_list ?_ | refine e_call ?_ | refine e_new ?_ | refine e_bltn ?_ | refine e_isi ?_ | refine e_meth ?_ | refine es_nil ?_ | refine es_cons ?_ | refine tr_in ?_ | refine br_t ?_ | refine br_f ?_ | refine br_nt ?_ | refine br_nf ?_ | refine int_in ?_ | refine add_i ?_ | refine sub_i ?_ | refine eq_i ?_ | refine ne_i ?_ | refine lt_i ?_ | refine le_i ?_ | refine gt_i ?_ | refine ge_i ?_ | refine len_t ?_ | refine len_f ?_ | refine int_b ?_ | refine s_nil ?_ | refine s_expr ?_ | refine s_assign ?_ | refine s_setattr ?_ | refine s_setitem ?_ | refine s_if ?_ | refine s_ite ?_ | refine s_ret ?_ | refine fq_ret ?_ | refine fq_next ?_ | refine sq_next ?_ | refine sq_ret ?_) | (with_reducible refine e_loc (by assumption) ?_) | (with_reducible refine br_dt (by assumption) ?_) | (with_reducible refine br_df (by assumption) ?_) | (with_reducible refine br_ndt (by assumption) ?_) | (with_reducible refine br_ndf (by assumption) ?_) | (refine getA_in (by assumption) (by assumption) (by rfl) ?_) | (refine len_l (by assumption) ?_) | (refine list_l (by assumption) ?_)))
    refine sc_up (row_by_spec G D.row fun row μ₁ hrow ex => ?_) (by decide)
    have W1 := w.ext ex
    (repeat (first | (with_reducible refine e_here ?_) | (refine e_skip (by decide) ?_) | (refine isi_in (b := true) (by rfl) ?_) | (refine isi_in (b := false) (by rfl) ?_) | (refine e_glob (by rfl) ?_) | (with_reducible first | refine e_int ?_ | refine e_bool ?_ | refine e_none ?_ | refine e_str ?_ | refine e_bin ?_ | refine e_neg ?_ | refine e_not ?_ | refine e_and ?_ | refine e_or ?_ | refine a_one ?_ | refine a_cons ?_ | refine o_one ?_ | refine o_cons ?_ | refine e_cmp ?_ | refine e_cmp2 ?_ | refine e_attr ?_ | refine e_sub ?_ | refine e_sliceL ?_ | refine e_sliceU ?_ | refine e_tup ?_ | refine e_list ?_ | refine e_call ?_ | refine e_new ?_ | refine e_bltn ?_ | refine e_isi ?_ | refine e_meth ?_ | refine es_nil ?_ | refine es_cons ?_ | refine tr_in ?_ | refine br_t ?_ | refine br_f ?_ | refine br_nt ?_ | refine br_nf ?_ | refine int_in ?_ | refine add_i ?_ | refine sub_i ?_ | refine eq_i ?_ | refine ne_i ?_ | refine lt_i ?_ | refine le_i ?_ | refine gt_i ?_ | refine ge_i ?_ | refine len_t ?_ | refine len_f ?_ | refine int_b ?_ | refine s_nil ?_ | refine s_expr ?_ | refine s_assign ?_ | refine s_setattr ?_ | refine s_setitem ?_ | refine s_if ?_ | refine s_ite ?_ | refine s_ret ?_ | refine fq_ret ?_ | refine fq_next ?_ | refine sq_next ?_ | refine sq_ret ?_) | (with_reducible refine e_loc (by assumption) ?_) | (with_reducible refine br_dt (by assumption) ?_) | (with_reducible refine br_df (by assumption) ?_) | (with_reducible refine br_ndt (by assumption) ?_) | (with_reducible refine br_ndf (by assumption) ?_) | (refine getA_in (by assumption) (by assumption) (by rfl) ?_) | (refine len_l (by assumption) ?_) | (refine list_l (by assumption) ?_)))
    have lR : R.length < lim := by unfold lim; omega
    refine app_l W1.r lR ?_
    have W2 := W1.setR (R ++ [row])
    generalize updM μ₁ a.r (.list (R ++ [row])) = μ₂ at W2 ⊢
    (repeat (first | (with_reducible refine e_here ?_) | (refine e_skip (by decide) ?_) | (refine isi_in (b := true) (by rfl) ?_) | (refine isi_in (b := false) (by rfl) ?_) | (refine e_glob (by rfl) ?_) | (with_reducible first | refine e_int ?_ | refine e_bool ?_ | refine e_none ?_ | refine e_str ?_ | refine e_bin ?_ | refine e_neg ?_ | refine e_not ?_ | refine e_and ?_ | refine e_or ?_ | refine a_one ?_ | refine a_cons ?_ | refine o_one ?_ | refine o_cons ?_ | refine e_cmp ?_ | refine e_cmp2 ?_ | refine e_attr ?_ | refine e_sub ?_ | refine e_sliceL ?_ | refine e_sliceU ?_ | refine e_tup ?_ | refine e_list ?_ | refine e_call ?_ | refine e_new ?_ | refine e_bltn ?_ | refine e_isi ?_ | refine e_meth ?_ | refine es_nil ?_ | refine es_cons ?_ | refine tr_in ?_ | refine br_t ?_ | refine br_f ?_ | refine br_nt ?_ | refine br_nf ?_ | refine int_in ?_ | refine add_i ?_ | refine sub_i ?_ | refine eq_i ?_ | refine ne_i ?_ | refine lt_i ?_ | refine le_i ?_ | refine gt_i ?_ | refine ge_i ?_ | refine len_t ?_ | refine len_f ?_ | refine int_b ?_ | refine s_nil ?_ | refine s_expr ?_ | refine s_assign ?_ | refine s_setattr ?_ | refine s_setitem ?_ | refine s_if ?_ | refine s_ite ?_ | refine s_ret ?_ | refine fq_ret ?_ | refine fq_next ?_ | refine sq_next ?_ | refine sq_ret ?_) | (with_reducible refine e_loc (by assumption) ?_) | (with_reducible refine br_dt (by assumption) ?_) | (with_reducible refine br_df (by assumption) ?_) | (with_reducible refine br_ndt (by assumption) ?_) | (with_reducible refine br_ndf (by assumption) ?_) | (refine getA_in (by assumption) (by assumption) (by rfl) ?_) | (refine len_l (by assumption) ?_) | (refine list_l (by assumption) ?_)))
    refine meth_own "Post.put" W2.p W2.pd (by rfl) (by rfl) (by rfl) ?_
    (repeat (first | (with_reducible refine e_here ?_) | (refine e_skip (by decide) ?_) | (refine isi_in (b := true) (by rfl) ?_) | (refine isi_in (b := false) (by rfl) ?_) | (refine e_glob (by rfl) ?_) | (with_reducible first | refine e_int ?_ | refine e_bool ?_ | refine e_none ?_ | refine e_str ?_ | refine e_bin ?_ | refine e_neg ?_ | refine e_not ?_ | refine e_and ?_ | refine e_or ?_ | refine a_one ?_ | refine a_cons ?_ | refine o_one ?_ | refine o_cons ?_ | refine e_cmp ?_ | refine e_cmp2 ?_ | refine e_attr ?_ | refine e_sub ?_ | refine e_sliceL ?_ | refine e_sliceU ?_ | refine e_tup ?_ | refine e_list ?_ | refine e_call ?_ | refine e_new ?_ | refine e_bltn ?_ | refine e_isi ?_ | refine e_meth ?_ | refine es_nil ?_ | refine es_cons ?_ | refine tr_in ?_ | refine br_t ?_ | refine br_f ?_ | refine br_nt ?_ | refine br_nf ?_ | refine int_in ?_ | refine add_i ?_ | refine sub_i ?_ | refine eq_i ?_ | refine ne_i ?_ | refine lt_i ?_ | refine le_i ?_ | refine gt_i ?_ | refine ge_i ?_ | refine len_t ?_ | refine len_f ?_ | refine int_b ?_ | refine s_nil ?_ | refine s_expr ?_ | refine s_assign ?_ | refine s_setattr ?_ | refine s_setitem ?_ | refine s_if ?_ | refine s_ite ?_ | refine s_ret ?_ | refine fq_ret ?_ | refine fq_next ?_ | refine sq_next ?_ | refine sq_ret ?_) | (with_reducible refine e_loc (by assumption) ?_) | (with_reducible refine br_dt (by assumption) ?_) | (with_reducible refine br_df (by assumption) ?_) | (with_reducible refine br_ndt (by assumption) ?_) | (with_reducible refine br_ndf (by assumption) ?_) | (refine getA_in (by assumption) (by assumption) (by rfl) ?_) | (refine len_l (by assumption) ?_) | (refine list_l (by assumption) ?_)))
    refine sub_l W2.r (idx_last R row) ?_
    (repeat (first | (with_reducible refine e_here ?_) | (refine e_skip (by decide) ?_) | (refine isi_in (b := true) (by rfl) ?_) | (refine isi_in (b := false) (by rfl) ?_) | (refine e_glob (by rfl) ?_) | (with_reducible first | refine e_int ?_ | refine e_bool ?_ | refine e_none ?_ | refine e_str ?_ | refine e_bin ?_ | refine e_neg ?_ | refine e_not ?_ | refine e_and ?_ | refine e_or ?_ | refine a_one ?_ | refine a_cons ?_ | refine o_one ?_ | refine o_cons ?_ | refine e_cmp ?_ | refine e_cmp2 ?_ | refine e_attr ?_ | refine e_sub ?_ | refine e_sliceL ?_ | refine e_sliceU ?_ | refine e_tup ?_ | refine e_list ?_ | refine e_call ?_ | refine e_new ?_ | refine e_bltn ?_ | refine e_isi ?_ | refine e_meth ?_ | refine es_nil ?_ | refine es_cons ?_ | refine tr_in ?_ | refine br_t ?_ | refine br_f ?_ | refine br_nt ?_ | refine br_nf ?_ | refine int_in ?_ | refine add_i ?_ | refine sub_i ?_ | refine eq_i ?_ | refine ne_i ?_ | refine lt_i ?_ | refine le_i ?_ | refine gt_i ?_ | refine ge_i ?_ | refine len_t ?_ | refine len_f ?_ | refine int_b ?_ | refine s_nil ?_ | refine s_expr ?_ | refine s_assign ?_ | refine s_setattr ?_ | refine s_setitem ?_ | refine s_if ?_ | refine s_ite ?_ | refine s_ret ?_ | refine fq_ret ?_ | refine fq_next ?_ | refine sq_next ?_ | refine sq_ret ?_) | (with_reducible refine e_loc (by assumption) ?_) | (with_reducible refine br_dt (by assumption) ?_) | (with_reducible refine br_df (by assumption) ?_) | (with_reducible refine br_ndt (by assumption) ?_) | (with_reducible refine br_ndf (by assumption) ?_) | (refine getA_in (by assumption) (by assumption) (by rfl) ?_) | (refine len_l (by assumption) ?_) | (refine list_l (by assumption) ?_)))
    refine sc_up (put_spec G W2.p W2.pd W2.ro D.put lR ?_) (by decide)
    (repeat (first | (with_reducible refine e_here ?_) | (refine e_skip (by decide) ?_) | (refine isi_in (b := true) (by rfl) ?_) | (refine isi_in (b := false) (by rfl) ?_) | (refine e_glob (by rfl) ?_) | (with_reducible first | refine e_int ?_ | refine e_bool ?_ | refine e_none ?_ | refine e_str ?_ | refine e_bin ?_ | refine e_neg ?_ | refine e_not ?_ | refine e_and ?_ | refine e_or ?_ | refine a_one ?_ | refine a_cons ?_ | refine o_one ?_ | refine o_cons ?_ | refine e_cmp ?_ | refine e_cmp2 ?_ | refine e_attr ?_ | refine e_sub ?_ | refine e_sliceL ?_ | refine e_sliceU ?_ | refine e_tup ?_ | refine e_list ?_ | refine e_call ?_ | refine e_new ?_ | refine e_bltn ?_ | refine e_isi ?_ | refine e_meth ?_ | refine es_nil ?_ | refine es_cons ?_ | refine tr_in ?_ | refine br_t ?_ | refine br_f ?_ | refine br_nt ?_ | refine br_nf ?_ | refine int_in ?_ | refine add_i ?_ | refine sub_i ?_ | refine eq_i ?_ | refine ne_i ?_ | refine lt_i ?_ | refine le_i ?_ | refine gt_i ?_ | refine ge_i ?_ | refine len_t ?_ | refine len_f ?_ | refine int_b ?_ | refine s_nil ?_ | refine s_expr ?_ | refine s_assign ?_ | refine s_setattr ?_ | refine s_setitem ?_ | refine s_if ?_ | refine s_ite ?_ | refine s_ret ?_ | refine fq_ret ?_ | refine fq_next ?_ | refine sq_next ?_ | refine sq_ret ?_) | (with_reducible refine e_loc (by assumption) ?_) | (with_reducible refine br_dt (by assumption) ?_) | (with_reducible refine br_df (by assumption) ?_) | (with_reducible refine br_ndt (by assumption) ?_) | (with_reducible refine br_ndf (by assumption) ?_) | (refine getA_in (by assumption) (by assumption) (by rfl) ?_) | (refine len_l (by assumption) ?_) | (refine list_l (by assumption) ?_)))
    refine cmp_in (r := false) (by rfl) ?_
    (repeat (first | (with_reducible refine e_here ?_) | (refine e_skip (by decide) ?_) | (refine isi_in (b := true) (by rfl) ?_) | (refine isi_in (b := false) (by rfl) ?_) | (refine e_glob (by rfl) ?_) | (with_reducible first | refine e_int ?_ | refine e_bool ?_ | refine e_none ?_ | refine e_str ?_ | refine e_bin ?_ | refine e_neg ?_ | refine e_not ?_ | refine e_and ?_ | refine e_or ?_ | refine a_one ?_ | refine a_cons ?_ | refine o_one ?_ | refine o_cons ?_ | refine e_cmp ?_ | refine e_cmp2 ?_ | refine e_attr ?_ | refine e_sub ?_ | refine e_sliceL ?_ | refine e_sliceU ?_ | refine e_tup ?_ | refine e_list ?_ | refine e_call ?_ | refine e_new ?_ | refine e_bltn ?_ | refine e_isi ?_ | refine e_meth ?_ | refine es_nil ?_ | refine es_cons ?_ | refine tr_in ?_ | refine br_t ?_ | refine br_f ?_ | refine br_nt ?_ | refine br_nf ?_ | refine int_in ?_ | refine add_i ?_ | refine sub_i ?_ | refine eq_i ?_ | refine ne_i ?_ | refine lt_i ?_ | refine le_i ?_ | refine gt_i ?_ | refine ge_i ?_ | refine len_t ?_ | refine len_f ?_ | refine int_b ?_ | refine s_nil ?_ | refine s_expr ?_ | refine s_assign ?_ | refine s_setattr ?_ | refine s_setitem ?_ | refine s_if ?_ | refine s_ite ?_ | refine s_ret ?_ | refine fq_ret ?_ | refine fq_next ?_ | refine sq_next ?_ | refine sq_ret ?_) | (with_reducible refine e_loc (by assumption) ?_) | (with_reducible refine br_dt (by assumption) ?_) | (with_reducible refine br_df (by assumption) ?_) | (with_reducible refine br_ndt (by assumption) ?_) | (with_reducible refine br_ndf (by assumption) ?_) | (refine getA_in (by assumption) (by assumption) (by rfl) ?_) | (refine len_l (by assumption) ?_) | (refine list_l (by assumption) ?_)))
    refine ⟨⟨⟨by (repeat (first | exact loc_here | assumption | refine loc_skip (by decide) ?_)), by (repeat (first | exact loc_here | assumption | refine loc_skip (by decide) ?_)), by (repeat (first | exact loc_here | assumption | refine loc_skip (by decide) ?_)), by (repeat (first | exact loc_here | assumption | refine loc_skip (by decide) ?_)), by (repeat (first | exact loc_here | assumption | refine loc_skip (by decide) ?_))⟩, rl, R ++ [row], H, W2.setP _, fun v hv => ?_, ?_, hz'⟩, by (repeat (first | exact loc_here | assumption | refine loc_skip (by decide) ?_))⟩
    · rcases List.mem_append.mp hv with q | q
      · exact hR v q
      · rw [List.mem_singleton.mp q]; exact hrow
    · rw [List.length_append, List.length_singleton]; omega
  · (repeat (first | (with_reducible refine e_here ?_) | (refine e_skip (by decide) ?_) | (refine isi_in (b := true) (by rfl) ?_) | (refine isi_in (b := false) (by rfl) ?_) | (refine e_glob (by rfl) ?_) | (with_reducible first | refine e_int ?_ | refine e_bool ?_ | refine e_none ?_ | refine e_str ?_ | refine e_bin ?_ | refine e_neg ?_ | refine e_not ?_ | refine e_and ?_ | refine e_or ?_ | refine a_one ?_ | refine a_cons ?_ | refine o_one ?_ | refine o_cons ?_ | refine e_cmp ?_ | refine e_cmp2 ?_ | refine e_attr ?_ | refine e_sub ?_ | refine e_sliceL ?_ | refine e_sliceU ?_ | refine e_tup ?_ | refine e_list ?_ | refine e_call ?_ | refine e_new ?_ | refine e_bltn ?_ | refine e_isi ?_ | refine e_meth ?_ | refine es_nil ?_ | refine es_cons ?_ | refine tr_in ?_ | refine br_t ?_ | refine br_f ?_ | refine br_nt ?_ | refine br_nf ?_ | refine int_in ?_ | refine add_i ?_ | refine sub_i ?_ | refine eq_i ?_ | refine ne_i ?_ | refine lt_i ?_ | refine le_i ?_ | refine gt_i ?_ | refine ge_i ?_ | refine len_t ?_ | refine len_f ?_ | refine int_b ?_ | refine s_nil ?_ | refine s_expr ?_ | refine s_assign ?_ | refine s_setattr ?_ | refine s_setitem ?_ | refine s_if ?_ | refine s_ite ?_ | refine s_ret ?_ | refine fq_ret ?_ | refine fq_next ?_ | refine sq_next ?_ | refine sq_ret ?_) | (with_reducible refine e_loc (by assumption) ?_) | (with_reducible refine br_dt (by assumption) ?_) | (with_reducible refine br_df (by assumption) ?_) | (with_reducible refine br_ndt (by assumption) ?_) | (with_reducible refine br_ndf (by assumption) ?_) | (refine getA_in (by assumption) (by assumption) (by rfl) ?_) | (refine len_l (by assumption) ?_) | (refine list_l (by assumption) ?_)))
    obtain ⟨⟨b, rl, R, H, w, hR, hz, hz'⟩, r6⟩ := hJ
    exact h _ _ ⟨b, rl, R, H, w, hR, by omega, hz'⟩ r6

theorem law_take {ns : List Int} {a : Pa} {n : Int} {k : Nat} {ρ : Loc} {μ : Mem} {Q : Fl → Loc → Mem → Prop} {X : String → Loc → Mem → Prop} (hn : n ≤ 9000) (hI : Inv ns a n k ρ μ) (hk : ρ "_law_k" = some (.int k)) (hks : k < ns.length)
    (h : ∀ ρ' μ', Inv ns a n k ρ' μ' → ρ' "_law_k" = some (.int k) → Q .next ρ' μ') {body : List S} (e : body = (match b_law with | [_, _, _, _, .for_ _ _ (.ite _ _ f _ :: r) _ _, _] => f | _ => [])) : wpSs sg (SC c 5) false body ρ μ Q X := by
  obtain ⟨⟨r1, r2, r3, r4, r5⟩, rl, R, H, w, hR, hz, hz'⟩ := hI
  subst e
  simp only [b_law]
  have lR : R.length ≤ lim := by unfold lim; omega
  (repeat (first | (with_reducible refine e_here ?_) | (refine e_skip (by decide) ?_) | (refine isi_in (b := true) (by rfl) ?_) | (refine isi_in (b := false) (by rfl) ?_) | (refine e_glob (by rfl) ?_) | (with_reducible first | refine e_int ?_ | refine e_bool ?_ | refine e_none ?_ | refine e_str ?_ | refine e_bin ?_ | refine e_neg ?_ | refine e_not ?_ | refine e_and ?_ | refine e_or ?_ | refine a_one ?_ | refine a_cons ?_ | refine o_one ?_ | refine o_cons ?_ | refine e_cmp ?_ | refine e_cmp2 ?_ | refine e_attr ?_ | refine e_sub ?_ | refine e_sliceL ?_ | refine e_sliceU ?_ | refine e_tup ?_ | refine e_list ?_ | refine e_call ?_ | refine e_new ?_ | refine e_bltn ?_ | refine e_isi ?_ | refine e_meth ?_ | refine es_nil ?_ | refine es_cons ?_ | refine tr_in ?_ | refine br_t ?_ | refine br_f ?_ | refine br_nt ?_ | refine br_nf ?_ | refine int_in ?_ | refine add_i ?_ | refine sub_i ?_ | refine eq_i ?_ | refine ne_i ?_ | refine lt_i ?_ | refine le_i ?_ | refine gt_i ?_ | refine ge_i ?_ | refine len_t ?_ | refine len_f ?_ | refine int_b ?_ | refine s_nil ?_ | refine s_expr ?_ | refine s_assign ?_ | refine s_setattr ?_ | refine s_setitem ?_ | refine s_if ?_ | refine s_ite ?_ | refine s_ret ?_ | refine fq_ret ?_ | refine fq_next ?_ | refine sq_next ?_ | refine sq_ret ?_) | (with_reducible refine e_loc (by assumption) ?_) | (with_reducible refine br_dt (by assumption) ?_) | (with_reducible refine br_df (by assumption) ?_) | (with_reducible refine br_ndt (by assumption) ?_) | (with_reducible refine br_ndf (by assumption) ?_) | (refine getA_in (by assumption) (by assumption) (by rfl) ?_) | (refine len_l (by assumption) ?_) | (refine list_l (by assumption) ?_)))
  refine sub_f (Int.natCast_nonneg _) (Int.ofNat_lt.mpr hks) fun y => ?_
  (repeat (first | (with_reducible refine e_here ?_) | (refine e_skip (by decide) ?_) | (refine isi_in (b := true) (by rfl) ?_) | (refine isi_in (b := false) (by rfl) ?_) | (refine e_glob (by rfl) ?_) | (with_reducible first | refine e_int ?_ | refine e_bool ?_ | refine e_none ?_ | refine e_str ?_ | refine e_bin ?_ | refine e_neg ?_ | refine e_not ?_ | refine e_and ?_ | refine e_or ?_ | refine a_one ?_ | refine a_cons ?_ | refine o_one ?_ | refine o_cons ?_ | refine e_cmp ?_ | refine e_cmp2 ?_ | refine e_attr ?_ | refine e_sub ?_ | refine e_sliceL ?_ | refine e_sliceU ?_ | refine e_tup ?_ | refine e_list ?_ | refine e_call ?_ | refine e_new ?_ | refine e_bltn ?_ | refine e_isi ?_ | refine e_meth ?_ | refine es_nil ?_ | refine es_cons ?_ | refine tr_in ?_ | refine br_t ?_ | refine br_f ?_ | refine br_nt ?_ | refine br_nf ?_ | refine int_in ?_ | refine add_i ?_ | refine sub_i ?_ | refine eq_i ?_ | refine ne_i ?_ | refine lt_i ?_ | refine le_i ?_ | refine gt_i ?_ | refine ge_i ?_ | refine len_t ?_ | refine len_f ?_ | refine int_b ?_ | refine s_nil ?_ | refine s_expr ?_ | refine s_assign ?_ | refine s_setattr ?_ | refine s_setitem ?_ | refine s_if ?_ | refine s_ite ?_ | refine s_ret ?_ | refine fq_ret ?_ | refine fq_next ?_ | refine sq_next ?_ | refine sq_ret ?_) | (with_reducible refine e_loc (by assumption) ?_) | (with_reducible refine br_dt (by assumption) ?_) | (with_reducible refine br_df (by assumption) ?_) | (with_reducible refine br_ndt (by assumption) ?_) | (with_reducible refine br_ndf (by assumption) ?_) | (refine getA_in (by assumption) (by assumption) (by rfl) ?_) | (refine len_l (by assumption) ?_) | (refine list_l (by assumption) ?_)))
  refine div_i (by decide) (by decide) ?_
  (repeat (first | (with_reducible refine e_here ?_) | (refine e_skip (by decide) ?_) | (refine isi_in (b := true) (by rfl) ?_) | (refine isi_in (b := false) (by rfl) ?_) | (refine e_glob (by rfl) ?_) | (with_reducible first | refine e_int ?_ | refine e_bool ?_ | refine e_none ?_ | refine e_str ?_ | refine e_bin ?_ | refine e_neg ?_ | refine e_not ?_ | refine e_and ?_ | refine e_or ?_ | refine a_one ?_ | refine a_cons ?_ | refine o_one ?_ | refine o_cons ?_ | refine e_cmp ?_ | refine e_cmp2 ?_ | refine e_attr ?_ | refine e_sub ?_ | refine e_sliceL ?_ | refine e_sliceU ?_ | refine e_tup ?_ | refine e_list ?_ | refine e_call ?_ | refine e_new ?_ | refine e_bltn ?_ | refine e_isi ?_ | refine e_meth ?_ | refine es_nil ?_ | refine es_cons ?_ | refine tr_in ?_ | refine br_t ?_ | refine br_f ?_ | refine br_nt ?_ | refine br_nf ?_ | refine int_in ?_ | refine add_i ?_ | refine sub_i ?_ | refine eq_i ?_ | refine ne_i ?_ | refine lt_i ?_ | refine le_i ?_ | refine gt_i ?_ | refine ge_i ?_ | refine len_t ?_ | refine len_f ?_ | refine int_b ?_ | refine s_nil ?_ | refine s_expr ?_ | refine s_assign ?_ | refine s_setattr ?_ | refine s_setitem ?_ | refine s_if ?_ | refine s_ite ?_ | refine s_ret ?_ | refine fq_ret ?_ | refine fq_next ?_ | refine sq_next ?_ | refine sq_ret ?_) | (with_reducible refine e_loc (by assumption) ?_) | (with_reducible refine br_dt (by assumption) ?_) | (with_reducible refine br_df (by assumption) ?_) | (with_reducible refine br_ndt (by assumption) ?_) | (with_reducible refine br_ndf (by assumption) ?_) | (refine getA_in (by assumption) (by assumption) (by rfl) ?_) | (refine len_l (by assumption) ?_) | (refine list_l (by assumption) ?_)))
  refine len_l w.r ?_
  (repeat (first | (with_reducible refine e_here ?_) | (refine e_skip (by decide) ?_) | (refine isi_in (b := true) (by rfl) ?_) | (refine isi_in (b := false) (by rfl) ?_) | (refine e_glob (by rfl) ?_) | (with_reducible first | refine e_int ?_ | refine e_bool ?_ | refine e_none ?_ | refine e_str ?_ | refine e_bin ?_ | refine e_neg ?_ | refine e_not ?_ | refine e_and ?_ | refine e_or ?_ | refine a_one ?_ | refine a_cons ?_ | refine o_one ?_ | refine o_cons ?_ | refine e_cmp ?_ | refine e_cmp2 ?_ | refine e_attr ?_ | refine e_sub ?_ | refine e_sliceL ?_ | refine e_sliceU ?_ | refine e_tup ?_ | refine e_list ?_ | refine e_call ?_ | refine e_new ?_ | refine e_bltn ?_ | refine e_isi ?_ | refine e_meth ?_ | refine es_nil ?_ | refine es_cons ?_ | refine tr_in ?_ | refine br_t ?_ | refine br_f ?_ | refine br_nt ?_ | refine br_nf ?_ | refine int_in ?_ | refine add_i ?_ | refine sub_i ?_ | refine eq_i ?_ | refine ne_i ?_ | refine lt_i ?_ | refine le_i ?_ | refine gt_i ?_ | refine ge_i ?_ | refine len_t ?_ | refine len_f ?_ | refine int_b ?_ | refine s_nil ?_ | refine s_expr ?_ | refine s_assign ?_ | refine s_setattr ?_ | refine s_setitem ?_ | refine s_if ?_ | refine s_ite ?_ | refine s_ret ?_ | refine fq_ret ?_ | refine fq_next ?_ | refine sq_next ?_ | refine sq_ret ?_) | (with_reducible refine e_loc (by assumption) ?_) | (with_reducible refine br_dt (by assumption) ?_) | (with_reducible refine br_df (by assumption) ?_) | (with_reducible refine br_ndt (by assumption) ?_) | (with_reducible refine br_ndf (by assumption) ?_) | (refine getA_in (by assumption) (by assumption) (by rfl) ?_) | (refine len_l (by assumption) ?_) | (refine list_l (by assumption) ?_)))
  refine sc_up (place_by_spec G D.place (Int.natCast_nonneg _) fun i μ₁ ex => ?_) (by decide)
  have W1 := w.ext ex
  clear ex w
  have out : ¬ (0 ≤ i ∧ i < R.length) → wpSs sg (SC c 5) false (match b_law with | [_, _, _, _, .for_ _ _ (.ite _ _ [_, .ite _ t _ _] _ :: r) _ _, _] => t | _ => []) (updL ρ "_law_place" (.int i)) μ₁ (sq (fun ρ₁ μ₁ => wpSs sg (SC c 5) false [] ρ₁ μ₁ Q X) Q) X := fun hi => by
    simp only [b_law]
    (repeat (first | (with_reducible refine e_here ?_) | (refine e_skip (by decide) ?_) | (refine isi_in (b := true) (by rfl) ?_) | (refine isi_in (b := false) (by rfl) ?_) | (refine e_glob (by rfl) ?_) | (with_reducible first | refine e_int ?_ | refine e_bool ?_ | refine e_none ?_ | refine e_str ?_ | refine e_bin ?_ | refine e_neg ?_ | refine e_not ?_ | refine e_and ?_ | refine e_or ?_ | refine a_one ?_ | refine a_cons ?_ | refine o_one ?_ | refine o_cons ?_ | refine e_cmp ?_ | refine e_cmp2 ?_ | refine e_attr ?_ | refine e_sub ?_ | refine e_sliceL ?_ | refine e_sliceU ?_ | refine e_tup ?_ | refine e_list ?_ | refine e_call ?_ | refine e_new ?_ | refine e_bltn ?_ | refine e_isi ?_ | refine e_meth ?_ | refine es_nil ?_ | refine es_cons ?_ | refine tr_in ?_ | refine br_t ?_ | refine br_f ?_ | refine br_nt ?_ | refine br_nf ?_ | refine int_in ?_ | refine add_i ?_ | refine sub_i ?_ | refine eq_i ?_ | refine ne_i ?_ | refine lt_i ?_ | refine le_i ?_ | refine gt_i ?_ | refine ge_i ?_ | refine len_t ?_ | refine len_f ?_ | refine int_b ?_ | refine s_nil ?_ | refine s_expr ?_ | refine s_assign ?_ | refine s_setattr ?_ | refine s_setitem ?_ | refine s_if ?_ | refine s_ite ?_ | refine s_ret ?_ | refine fq_ret ?_ | refine fq_next ?_ | refine sq_next ?_ | refine sq_ret ?_) | (with_reducible refine e_loc (by assumption) ?_) | (with_reducible refine br_dt (by assumption) ?_) | (with_reducible refine br_df (by assumption) ?_) | (with_reducible refine br_ndt (by assumption) ?_) | (with_reducible refine br_ndf (by assumption) ?_) | (refine getA_in (by assumption) (by assumption) (by rfl) ?_) | (refine len_l (by assumption) ?_) | (refine list_l (by assumption) ?_)))
    refine sc_up (taken_spec G W1.p W1.pd W1.ro D.isf D.take D.taken lR (fun v h0 h1 => absurd ⟨h0, h1⟩ hi) fun _ => ?_) (by decide)
    (repeat (first | (with_reducible refine e_here ?_) | (refine e_skip (by decide) ?_) | (refine isi_in (b := true) (by rfl) ?_) | (refine isi_in (b := false) (by rfl) ?_) | (refine e_glob (by rfl) ?_) | (with_reducible first | refine e_int ?_ | refine e_bool ?_ | refine e_none ?_ | refine e_str ?_ | refine e_bin ?_ | refine e_neg ?_ | refine e_not ?_ | refine e_and ?_ | refine e_or ?_ | refine a_one ?_ | refine a_cons ?_ | refine o_one ?_ | refine o_cons ?_ | refine e_cmp ?_ | refine e_cmp2 ?_ | refine e_attr ?_ | refine e_sub ?_ | refine e_sliceL ?_ | refine e_sliceU ?_ | refine e_tup ?_ | refine e_list ?_ | refine e_call ?_ | refine e_new ?_ | refine e_bltn ?_ | refine e_isi ?_ | refine e_meth ?_ | refine es_nil ?_ | refine es_cons ?_ | refine tr_in ?_ | refine br_t ?_ | refine br_f ?_ | refine br_nt ?_ | refine br_nf ?_ | refine int_in ?_ | refine add_i ?_ | refine sub_i ?_ | refine eq_i ?_ | refine ne_i ?_ | refine lt_i ?_ | refine le_i ?_ | refine gt_i ?_ | refine ge_i ?_ | refine len_t ?_ | refine len_f ?_ | refine int_b ?_ | refine s_nil ?_ | refine s_expr ?_ | refine s_assign ?_ | refine s_setattr ?_ | refine s_setitem ?_ | refine s_if ?_ | refine s_ite ?_ | refine s_ret ?_ | refine fq_ret ?_ | refine fq_next ?_ | refine sq_next ?_ | refine sq_ret ?_) | (with_reducible refine e_loc (by assumption) ?_) | (with_reducible refine br_dt (by assumption) ?_) | (with_reducible refine br_df (by assumption) ?_) | (with_reducible refine br_ndt (by assumption) ?_) | (with_reducible refine br_ndf (by assumption) ?_) | (refine getA_in (by assumption) (by assumption) (by rfl) ?_) | (refine len_l (by assumption) ?_) | (refine list_l (by assumption) ?_)))
    refine cmp_in (r := false) (by rfl) ?_
    (repeat (first | (with_reducible refine e_here ?_) | (refine e_skip (by decide) ?_) | (refine isi_in (b := true) (by rfl) ?_) | (refine isi_in (b := false) (by rfl) ?_) | (refine e_glob (by rfl) ?_) | (with_reducible first | refine e_int ?_ | refine e_bool ?_ | refine e_none ?_ | refine e_str ?_ | refine e_bin ?_ | refine e_neg ?_ | refine e_not ?_ | refine e_and ?_ | refine e_or ?_ | refine a_one ?_ | refine a_cons ?_ | refine o_one ?_ | refine o_cons ?_ | refine e_cmp ?_ | refine e_cmp2 ?_ | refine e_attr ?_ | refine e_sub ?_ | refine e_sliceL ?_ | refine e_sliceU ?_ | refine e_tup ?_ | refine e_list ?_ | refine e_call ?_ | refine e_new ?_ | refine e_bltn ?_ | refine e_isi ?_ | refine e_meth ?_ | refine es_nil ?_ | refine es_cons ?_ | refine tr_in ?_ | refine br_t ?_ | refine br_f ?_ | refine br_nt ?_ | refine br_nf ?_ | refine int_in ?_ | refine add_i ?_ | refine sub_i ?_ | refine eq_i ?_ | refine ne_i ?_ | refine lt_i ?_ | refine le_i ?_ | refine gt_i ?_ | refine ge_i ?_ | refine len_t ?_ | refine len_f ?_ | refine int_b ?_ | refine s_nil ?_ | refine s_expr ?_ | refine s_assign ?_ | refine s_setattr ?_ | refine s_setitem ?_ | refine s_if ?_ | refine s_ite ?_ | refine s_ret ?_ | refine fq_ret ?_ | refine fq_next ?_ | refine sq_next ?_ | refine sq_ret ?_) | (with_reducible refine e_loc (by assumption) ?_) | (with_reducible refine br_dt (by assumption) ?_) | (with_reducible refine br_df (by assumption) ?_) | (with_reducible refine br_ndt (by assumption) ?_) | (with_reducible refine br_ndf (by assumption) ?_) | (refine getA_in (by assumption) (by assumption) (by rfl) ?_) | (refine len_l (by assumption) ?_) | (refine list_l (by assumption) ?_)))
    refine sc_up (good_spec G W1.p W1.pd W1.ro D.isf D.take D.good lR hi ?_) (by decide)
    (repeat (first | (with_reducible refine e_here ?_) | (refine e_skip (by decide) ?_) | (refine isi_in (b := true) (by rfl) ?_) | (refine isi_in (b := false) (by rfl) ?_) | (refine e_glob (by rfl) ?_) | (with_reducible first | refine e_int ?_ | refine e_bool ?_ | refine e_none ?_ | refine e_str ?_ | refine e_bin ?_ | refine e_neg ?_ | refine e_not ?_ | refine e_and ?_ | refine e_or ?_ | refine a_one ?_ | refine a_cons ?_ | refine o_one ?_ | refine o_cons ?_ | refine e_cmp ?_ | refine e_cmp2 ?_ | refine e_attr ?_ | refine e_sub ?_ | refine e_sliceL ?_ | refine e_sliceU ?_ | refine e_tup ?_ | refine e_list ?_ | refine e_call ?_ | refine e_new ?_ | refine e_bltn ?_ | refine e_isi ?_ | refine e_meth ?_ | refine es_nil ?_ | refine es_cons ?_ | refine tr_in ?_ | refine br_t ?_ | refine br_f ?_ | refine br_nt ?_ | refine br_nf ?_ | refine int_in ?_ | refine add_i ?_ | refine sub_i ?_ | refine eq_i ?_ | refine ne_i ?_ | refine lt_i ?_ | refine le_i ?_ | refine gt_i ?_ | refine ge_i ?_ | refine len_t ?_ | refine len_f ?_ | refine int_b ?_ | refine s_nil ?_ | refine s_expr ?_ | refine s_assign ?_ | refine s_setattr ?_ | refine s_setitem ?_ | refine s_if ?_ | refine s_ite ?_ | refine s_ret ?_ | refine fq_ret ?_ | refine fq_next ?_ | refine sq_next ?_ | refine sq_ret ?_) | (with_reducible refine e_loc (by assumption) ?_) | (with_reducible refine br_dt (by assumption) ?_) | (with_reducible refine br_df (by assumption) ?_) | (with_reducible refine br_ndt (by assumption) ?_) | (with_reducible refine br_ndf (by assumption) ?_) | (refine getA_in (by assumption) (by assumption) (by rfl) ?_) | (refine len_l (by assumption) ?_) | (refine list_l (by assumption) ?_)))
    exact h _ _ ⟨⟨by (repeat (first | exact loc_here | assumption | refine loc_skip (by decide) ?_)), by (repeat (first | exact loc_here | assumption | refine loc_skip (by decide) ?_)), by (repeat (first | exact loc_here | assumption | refine loc_skip (by decide) ?_)), by (repeat (first | exact loc_here | assumption | refine loc_skip (by decide) ?_)), by (repeat (first | exact loc_here | assumption | refine loc_skip (by decide) ?_))⟩, rl, R, H, W1, hR, hz, hz'⟩ (by (repeat (first | exact loc_here | assumption | refine loc_skip (by decide) ?_)))
  (repeat (first | (with_reducible refine e_here ?_) | (refine e_skip (by decide) ?_) | (refine isi_in (b := true) (by rfl) ?_) | (refine isi_in (b := false) (by rfl) ?_) | (refine e_glob (by rfl) ?_) | (with_reducible first | refine e_int ?_ | refine e_bool ?_ | refine e_none ?_ | refine e_str ?_ | refine e_bin ?_ | refine e_neg ?_ | refine e_not ?_ | refine e_and ?_ | refine e_or ?_ | refine a_one ?_ | refine a_cons ?_ | refine o_one ?_ | refine o_cons ?_ | refine e_cmp ?_ | refine e_cmp2 ?_ | refine e_attr ?_ | refine e_sub ?_ | refine e_sliceL ?_ | refine e_sliceU ?_ | refine e_tup ?_ | refine e_list ?_ | refine e_call ?_ | refine e_new ?_ | refine e_bltn ?_ | refine e_isi ?_ | refine e_meth ?_ | refine es_nil ?_ | refine es_cons ?_ | refine tr_in ?_ | refine br_t ?_ | refine br_f ?_ | refine br_nt ?_ | refine br_nf ?_ | refine int_in ?_ | refine add_i ?_ | refine sub_i ?_ | refine eq_i ?_ | refine ne_i ?_ | refine lt_i ?_ | refine le_i ?_ | refine gt_i ?_ | refine ge_i ?_ | refine len_t ?_ | refine len_f ?_ | refine int_b ?_ | refine s_nil ?_ | refine s_expr ?_ | refine s_assign ?_ | refine s_setattr ?_ | refine s_setitem ?_ | refine s_if ?_ | refine s_ite ?_ | refine s_ret ?_ | refine fq_ret ?_ | refine fq_next ?_ | refine sq_next ?_ | refine sq_ret ?_) | (with_reducible refine e_loc (by assumption) ?_) | (with_reducible refine br_dt (by assumption) ?_) | (with_reducible refine br_df (by assumption) ?_) | (with_reducible refine br_ndt (by assumption) ?_) | (with_reducible refine br_ndf (by assumption) ?_) | (refine getA_in (by assumption) (by assumption) (by rfl) ?_) | (refine len_l (by assumption) ?_) | (refine list_l (by assumption) ?_)))
  refine br_d (fun h1 => ?_) (fun h1 => ?_)
  · refine tr_in (br_dt h1 ?_)
    exact out (by omega)
  · (repeat (first | (with_reducible refine e_here ?_) | (refine e_skip (by decide) ?_) | (refine isi_in (b := true) (by rfl) ?_) | (refine isi_in (b := false) (by rfl) ?_) | (refine e_glob (by rfl) ?_) | (with_reducible first | refine e_int ?_ | refine e_bool ?_ | refine e_none ?_ | refine e_str ?_ | refine e_bin ?_ | refine e_neg ?_ | refine e_not ?_ | refine e_and ?_ | refine e_or ?_ | refine a_one ?_ | refine a_cons ?_ | refine o_one ?_ | refine o_cons ?_ | refine e_cmp ?_ | refine e_cmp2 ?_ | refine e_attr ?_ | refine e_sub ?_ | refine e_sliceL ?_ | refine e_sliceU ?_ | refine e_tup ?_ | refine e_list ?_ | refine e_call ?_ | refine e_new ?_ | refine e_bltn ?_ | refine e_isi ?_ | refine e_meth ?_ | refine es_nil ?_ | refine es_cons ?_ | refine tr_in ?_ | refine br_t ?_ | refine br_f ?_ | refine br_nt ?_ | refine br_nf ?_ | refine int_in ?_ | refine add_i ?_ | refine sub_i ?_ | refine eq_i ?_ | refine ne_i ?_ | refine lt_i ?_ | refine le_i ?_ | refine gt_i ?_ | refine ge_i ?_ | refine len_t ?_ | refine len_f ?_ | refine int_b ?_ | refine s_nil ?_ | refine s_expr ?_ | refine s_assign ?_ | refine s_setattr ?_ | refine s_setitem ?_ | refine s_if ?_ | refine s_ite ?_ | refine s_ret ?_ | refine fq_ret ?_ | refine fq_next ?_ | refine sq_next ?_ | refine sq_ret ?_) | (with_reducible refine e_loc (by assumption) ?_) | (with_reducible refine br_dt (by assumption) ?_) | (with_reducible refine br_df (by assumption) ?_) | (with_reducible refine br_ndt (by assumption) ?_) | (with_reducible refine br_ndf (by assumption) ?_) | (refine getA_in (by assumption) (by assumption) (by rfl) ?_) | (refine len_l (by assumption) ?_) | (refine list_l (by assumption) ?_)))
    refine len_l W1.r ?_
    (repeat (first | (with_reducible refine e_here ?_) | (refine e_skip (by decide) ?_) | (refine isi_in (b := true) (by rfl) ?_) | (refine isi_in (b := false) (by rfl) ?_) | (refine e_glob (by rfl) ?_) | (with_reducible first | refine e_int ?_ | refine e_bool ?_ | refine e_none ?_ | refine e_str ?_ | refine e_bin ?_ | refine e_neg ?_ | refine e_not ?_ | refine e_and ?_ | refine e_or ?_ | refine a_one ?_ | refine a_cons ?_ | refine o_one ?_ | refine o_cons ?_ | refine e_cmp ?_ | refine e_cmp2 ?_ | refine e_attr ?_ | refine e_sub ?_ | refine e_sliceL ?_ | refine e_sliceU ?_ | refine e_tup ?_ | refine e_list ?_ | refine e_call ?_ | refine e_new ?_ | refine e_bltn ?_ | refine e_isi ?_ | refine e_meth ?_ | refine es_nil ?_ | refine es_cons ?_ | refine tr_in ?_ | refine br_t ?_ | refine br_f ?_ | refine br_nt ?_ | refine br_nf ?_ | refine int_in ?_ | refine add_i ?_ | refine sub_i ?_ | refine eq_i ?_ | refine ne_i ?_ | refine lt_i ?_ | refine le_i ?_ | refine gt_i ?_ | refine ge_i ?_ | refine len_t ?_ | refine len_f ?_ | refine int_b ?_ | refine s_nil ?_ | refine s_expr ?_ | refine s_assign ?_ | refine s_setattr ?_ | refine s_setitem ?_ | refine s_if ?_ | refine s_ite ?_ | refine s_ret ?_ | refine fq_ret ?_ | refine fq_next ?_ | refine sq_next ?_ | refine sq_ret ?_) | (with_reducible refine e_loc (by assumption) ?_) | (with_reducible refine br_dt (by assumption) ?_) | (with_reducible refine br_df (by assumption) ?_) | (with_reducible refine br_ndt (by assumption) ?_) | (with_reducible refine br_ndf (by assumption) ?_) | (refine getA_in (by assumption) (by assumption) (by rfl) ?_) | (refine len_l (by assumption) ?_) | (refine list_l (by assumption) ?_)))
    refine br_d (fun h2 => ?_) (fun h2 => ?_)
    · exact out (by omega)
    · have i0 : 0 ≤ i := by omega
      have hi : i.toNat < R.length := by omega
      have hv : R[i.toNat]? = some (R[i.toNat]'hi) := List.getElem?_eq_getElem hi
      have hrow := hR _ (List.getElem_mem hi)
      generalize R[i.toNat]'hi = row at hv hrow
      (repeat (first | (with_reducible refine e_here ?_) | (refine e_skip (by decide) ?_) | (refine isi_in (b := true) (by rfl) ?_) | (refine isi_in (b := false) (by rfl) ?_) | (refine e_glob (by rfl) ?_) | (with_reducible first | refine e_int ?_ | refine e_bool ?_ | refine e_none ?_ | refine e_str ?_ | refine e_bin ?_ | refine e_neg ?_ | refine e_not ?_ | refine e_and ?_ | refine e_or ?_ | refine a_one ?_ | refine a_cons ?_ | refine o_one ?_ | refine o_cons ?_ | refine e_cmp ?_ | refine e_cmp2 ?_ | refine e_attr ?_ | refine e_sub ?_ | refine e_sliceL ?_ | refine e_sliceU ?_ | refine e_tup ?_ | refine e_list ?_ | refine e_call ?_ | refine e_new ?_ | refine e_bltn ?_ | refine e_isi ?_ | refine e_meth ?_ | refine es_nil ?_ | refine es_cons ?_ | refine tr_in ?_ | refine br_t ?_ | refine br_f ?_ | refine br_nt ?_ | refine br_nf ?_ | refine int_in ?_ | refine add_i ?_ | refine sub_i ?_ | refine eq_i ?_ | refine ne_i ?_ | refine lt_i ?_ | refine le_i ?_ | refine gt_i ?_ | refine ge_i ?_ | refine len_t ?_ | refine len_f ?_ | refine int_b ?_ | refine s_nil ?_ | refine s_expr ?_ | refine s_assign ?_ | refine s_setattr ?_ | refine s_setitem ?_ | refine s_if ?_ | refine s_ite ?_ | refine s_ret ?_ | refine fq_ret ?_ | refine fq_next ?_ | refine sq_next ?_ | refine sq_ret ?_) | (with_reducible refine e_loc (by assumption) ?_) | (with_reducible refine br_dt (by assumption) ?_) | (with_reducible refine br_df (by assumption) ?_) | (with_reducible refine br_ndt (by assumption) ?_) | (with_reducible refine br_ndf (by assumption) ?_) | (refine getA_in (by assumption) (by assumption) (by rfl) ?_) | (refine len_l (by assumption) ?_) | (refine list_l (by assumption) ?_)))
      refine meth_lst W1.r (by simp) ?_
      (repeat (first | (with_reducible refine e_here ?_) | (refine e_skip (by decide) ?_) | (refine isi_in (b := true) (by rfl) ?_) | (refine isi_in (b := false) (by rfl) ?_) | (refine e_glob (by rfl) ?_) | (with_reducible first | refine e_int ?_ | refine e_bool ?_ | refine e_none ?_ | refine e_str ?_ | refine e_bin ?_ | refine e_neg ?_ | refine e_not ?_ | refine e_and ?_ | refine e_or ?_ | refine a_one ?_ | refine a_cons ?_ | refine o_one ?_ | refine o_cons ?_ | refine e_cmp ?_ | refine e_cmp2 ?_ | refine e_attr ?_ | refine e_sub ?_ | refine e_sliceL ?_ | refine e_sliceU ?_ | refine e_tup ?_ | refine e_list ?_ | refine e_call ?_ | refine e_new ?_ | refine e_bltn ?_ | refine e_isi ?_ | refine e_meth ?_ | refine es_nil ?_ | refine es_cons ?_ | refine tr_in ?_ | refine br_t ?_ | refine br_f ?_ | refine br_nt ?_ | refine br_nf ?_ | refine int_in ?_ | refine add_i ?_ | refine sub_i ?_ | refine eq_i ?_ | refine ne_i ?_ | refine lt_i ?_ | refine le_i ?_ | refine gt_i ?_ | refine ge_i ?_ | refine len_t ?_ | refine len_f ?_ | refine int_b ?_ | refine s_nil ?_ | refine s_expr ?_ | refine s_assign ?_ | refine s_setattr ?_ | refine s_setitem ?_ | refine s_if ?_ | refine s_ite ?_ | refine s_ret ?_ | refine fq_ret ?_ | refine fq_next ?_ | refine sq_next ?_ | refine sq_ret ?_) | (with_reducible refine e_loc (by assumption) ?_) | (with_reducible refine br_dt (by assumption) ?_) | (with_reducible refine br_df (by assumption) ?_) | (with_reducible refine br_ndt (by assumption) ?_) | (with_reducible refine br_ndf (by assumption) ?_) | (refine getA_in (by assumption) (by assumption) (by rfl) ?_) | (refine len_l (by assumption) ?_) | (refine list_l (by assumption) ?_)))
      refine pop_l W1.r i0 hv ?_
      have W2 := W1.setR (R.eraseIdx i.toNat)
      generalize updM μ₁ a.r (.list (R.eraseIdx i.toNat)) = μ₂ at W2 ⊢
      (repeat (first | (with_reducible refine e_here ?_) | (refine e_skip (by decide) ?_) | (refine isi_in (b := true) (by rfl) ?_) | (refine isi_in (b := false) (by rfl) ?_) | (refine e_glob (by rfl) ?_) | (with_reducible first | refine e_int ?_ | refine e_bool ?_ | refine e_none ?_ | refine e_str ?_ | refine e_bin ?_ | refine e_neg ?_ | refine e_not ?_ | refine e_and ?_ | refine e_or ?_ | refine a_one ?_ | refine a_cons ?_ | refine o_one ?_ | refine o_cons ?_ | refine e_cmp ?_ | refine e_cmp2 ?_ | refine e_attr ?_ | refine e_sub ?_ | refine e_sliceL ?_ | refine e_sliceU ?_ | refine e_tup ?_ | refine e_list ?_ | refine e_call ?_ | refine e_new ?_ | refine e_bltn ?_ | refine e_isi ?_ | refine e_meth ?_ | refine es_nil ?_ | refine es_cons ?_ | refine tr_in ?_ | refine br_t ?_ | refine br_f ?_ | refine br_nt ?_ | refine br_nf ?_ | refine int_in ?_ | refine add_i ?_ | refine sub_i ?_ | refine eq_i ?_ | refine ne_i ?_ | refine lt_i ?_ | refine le_i ?_ | refine gt_i ?_ | refine ge_i ?_ | refine len_t ?_ | refine len_f ?_ | refine int_b ?_ | refine s_nil ?_ | refine s_expr ?_ | refine s_assign ?_ | refine s_setattr ?_ | refine s_setitem ?_ | refine s_if ?_ | refine s_ite ?_ | refine s_ret ?_ | refine fq_ret ?_ | refine fq_next ?_ | refine sq_next ?_ | refine sq_ret ?_) | (with_reducible refine e_loc (by assumption) ?_) | (with_reducible refine br_dt (by assumption) ?_) | (with_reducible refine br_df (by assumption) ?_) | (with_reducible refine br_ndt (by assumption) ?_) | (with_reducible refine br_ndf (by assumption) ?_) | (refine getA_in (by assumption) (by assumption) (by rfl) ?_) | (refine len_l (by assumption) ?_) | (refine list_l (by assumption) ?_)))
      refine sc_up (taken_spec G W2.p W2.pd W2.ro D.isf D.take D.taken lR (fun v _ _ hv' μ₃ n' a1 a2 a3 a4 => ?_) fun hi' => absurd ⟨i0, by omega⟩ hi') (by decide)
      have ev : v = row := by rw [hv] at hv'; exact (Option.some.inj hv').symm
      subst ev
      have W3 := W2.taken a1 a2 a3 a4
      have dr := deq_row (μ := μ₃) hrow
      have er : isiO μ₃ v (.ty "tuple") = some true := by obtain ⟨s, _, _, _, rfl, _⟩ := hrow; rfl
      (repeat (first | (with_reducible refine e_here ?_) | (refine e_skip (by decide) ?_) | (refine isi_in (b := true) (by rfl) ?_) | (refine isi_in (b := false) (by rfl) ?_) | (refine e_glob (by rfl) ?_) | (with_reducible first | refine e_int ?_ | refine e_bool ?_ | refine e_none ?_ | refine e_str ?_ | refine e_bin ?_ | refine e_neg ?_ | refine e_not ?_ | refine e_and ?_ | refine e_or ?_ | refine a_one ?_ | refine a_cons ?_ | refine o_one ?_ | refine o_cons ?_ | refine e_cmp ?_ | refine e_cmp2 ?_ | refine e_attr ?_ | refine e_sub ?_ | refine e_sliceL ?_ | refine e_sliceU ?_ | refine e_tup ?_ | refine e_list ?_ | refine e_call ?_ | refine e_new ?_ | refine e_bltn ?_ | refine e_isi ?_ | refine e_meth ?_ | refine es_nil ?_ | refine es_cons ?_ | refine tr_in ?_ | refine br_t ?_ | refine br_f ?_ | refine br_nt ?_ | refine br_nf ?_ | refine int_in ?_ | refine add_i ?_ | refine sub_i ?_ | refine eq_i ?_ | refine ne_i ?_ | refine lt_i ?_ | refine le_i ?_ | refine gt_i ?_ | refine ge_i ?_ | refine len_t ?_ | refine len_f ?_ | refine int_b ?_ | refine s_nil ?_ | refine s_expr ?_ | refine s_assign ?_ | refine s_setattr ?_ | refine s_setitem ?_ | refine s_if ?_ | refine s_ite ?_ | refine s_ret ?_ | refine fq_ret ?_ | refine fq_next ?_ | refine sq_next ?_ | refine sq_ret ?_) | (with_reducible refine e_loc (by assumption) ?_) | (with_reducible refine br_dt (by assumption) ?_) | (with_reducible refine br_df (by assumption) ?_) | (with_reducible refine br_ndt (by assumption) ?_) | (with_reducible refine br_ndf (by assumption) ?_) | (refine getA_in (by assumption) (by assumption) (by rfl) ?_) | (refine len_l (by assumption) ?_) | (refine list_l (by assumption) ?_)))
      refine isi_in er ?_
      (repeat (first | (with_reducible refine e_here ?_) | (refine e_skip (by decide) ?_) | (refine isi_in (b := true) (by rfl) ?_) | (refine isi_in (b := false) (by rfl) ?_) | (refine e_glob (by rfl) ?_) | (with_reducible first | refine e_int ?_ | refine e_bool ?_ | refine e_none ?_ | refine e_str ?_ | refine e_bin ?_ | refine e_neg ?_ | refine e_not ?_ | refine e_and ?_ | refine e_or ?_ | refine a_one ?_ | refine a_cons ?_ | refine o_one ?_ | refine o_cons ?_ | refine e_cmp ?_ | refine e_cmp2 ?_ | refine e_attr ?_ | refine e_sub ?_ | refine e_sliceL ?_ | refine e_sliceU ?_ | refine e_tup ?_ | refine e_list ?_ | refine e_call ?_ | refine e_new ?_ | refine e_bltn ?_ | refine e_isi ?_ | refine e_meth ?_ | refine es_nil ?_ | refine es_cons ?_ | refine tr_in ?_ | refine br_t ?_ | refine br_f ?_ | refine br_nt ?_ | refine br_nf ?_ | refine int_in ?_ | refine add_i ?_ | refine sub_i ?_ | refine eq_i ?_ | refine ne_i ?_ | refine lt_i ?_ | refine le_i ?_ | refine gt_i ?_ | refine ge_i ?_ | refine len_t ?_ | refine len_f ?_ | refine int_b ?_ | refine s_nil ?_ | refine s_expr ?_ | refine s_assign ?_ | refine s_setattr ?_ | refine s_setitem ?_ | refine s_if ?_ | refine s_ite ?_ | refine s_ret ?_ | refine fq_ret ?_ | refine fq_next ?_ | refine sq_next ?_ | refine sq_ret ?_) | (with_reducible refine e_loc (by assumption) ?_) | (with_reducible refine br_dt (by assumption) ?_) | (with_reducible refine br_df (by assumption) ?_) | (with_reducible refine br_ndt (by assumption) ?_) | (with_reducible refine br_ndf (by assumption) ?_) | (refine getA_in (by assumption) (by assumption) (by rfl) ?_) | (refine len_l (by assumption) ?_) | (refine list_l (by assumption) ?_)))
      refine cmp_in (r := false) (by simp only [cmpO]; rw [dr]; rfl) ?_
      (repeat (first | (with_reducible refine e_here ?_) | (refine e_skip (by decide) ?_) | (refine isi_in (b := true) (by rfl) ?_) | (refine isi_in (b := false) (by rfl) ?_) | (refine e_glob (by rfl) ?_) | (with_reducible first | refine e_int ?_ | refine e_bool ?_ | refine e_none ?_ | refine e_str ?_ | refine e_bin ?_ | refine e_neg ?_ | refine e_not ?_ | refine e_and ?_ | refine e_or ?_ | refine a_one ?_ | refine a_cons ?_ | refine o_one ?_ | refine o_cons ?_ | refine e_cmp ?_ | refine e_cmp2 ?_ | refine e_attr ?_ | refine e_sub ?_ | refine e_sliceL ?_ | refine e_sliceU ?_ | refine e_tup ?_ | refine e_list ?_ | refine e_call ?_ | refine e_new ?_ | refine e_bltn ?_ | refine e_isi ?_ | refine e_meth ?_ | refine es_nil ?_ | refine es_cons ?_ | refine tr_in ?_ | refine br_t ?_ | refine br_f ?_ | refine br_nt ?_ | refine br_nf ?_ | refine int_in ?_ | refine add_i ?_ | refine sub_i ?_ | refine eq_i ?_ | refine ne_i ?_ | refine lt_i ?_ | refine le_i ?_ | refine gt_i ?_ | refine ge_i ?_ | refine len_t ?_ | refine len_f ?_ | refine int_b ?_ | refine s_nil ?_ | refine s_expr ?_ | refine s_assign ?_ | refine s_setattr ?_ | refine s_setitem ?_ | refine s_if ?_ | refine s_ite ?_ | refine s_ret ?_ | refine fq_ret ?_ | refine fq_next ?_ | refine sq_next ?_ | refine sq_ret ?_) | (with_reducible refine e_loc (by assumption) ?_) | (with_reducible refine br_dt (by assumption) ?_) | (with_reducible refine br_df (by assumption) ?_) | (with_reducible refine br_ndt (by assumption) ?_) | (with_reducible refine br_ndf (by assumption) ?_) | (refine getA_in (by assumption) (by assumption) (by rfl) ?_) | (refine len_l (by assumption) ?_) | (refine list_l (by assumption) ?_)))
      refine h _ _ ⟨⟨by (repeat (first | exact loc_here | assumption | refine loc_skip (by decide) ?_)), by (repeat (first | exact loc_here | assumption | refine loc_skip (by decide) ?_)), by (repeat (first | exact loc_here | assumption | refine loc_skip (by decide) ?_)), by (repeat (first | exact loc_here | assumption | refine loc_skip (by decide) ?_)), by (repeat (first | exact loc_here | assumption | refine loc_skip (by decide) ?_))⟩, n', R.eraseIdx i.toNat, H, W3, fun v hv => hR v (List.mem_of_mem_eraseIdx hv), ?_, hz'⟩ (by (repeat (first | exact loc_here | assumption | refine loc_skip (by decide) ?_)))
      have := List.length_eraseIdx_le R i.toNat
      omega

theorem law_end {ns : List Int} {a : Pa} {n : Int} {k : Nat} {ρ : Loc} {μ : Mem} {Q : V → Mem → Prop} {X : String → Loc → Mem → Prop} (hn : n ≤ 10000) (hk : k ≤ 1000) (hI : Inv ns a n k ρ μ) (h : ∀ μ', Q (.bool true) μ')
    {body : List S} (e : body = (match b_law with | [_, _, _, _, _, r] => [r] | _ => [])) : wpSs sg (SC c 5) false body ρ μ (fq Q) X := by
  obtain ⟨⟨r1, r2, r3, r4, r5⟩, rl, R, H, w, hR, hz, hz'⟩ := hI
  subst e
  have lR : R.length ≤ lim := by unfold lim; omega
  simp only [b_law]
  (repeat (first | (with_reducible refine e_here ?_) | (refine e_skip (by decide) ?_) | (refine isi_in (b := true) (by rfl) ?_) | (refine isi_in (b := false) (by rfl) ?_) | (refine e_glob (by rfl) ?_) | (with_reducible first | refine e_int ?_ | refine e_bool ?_ | refine e_none ?_ | refine e_str ?_ | refine e_bin ?_ | refine e_neg ?_ | refine e_not ?_ | refine e_and ?_ | refine e_or ?_ | refine a_one ?_ | refine a_cons ?_ | refine o_one ?_ | refine o_cons ?_ | refine e_cmp ?_ | refine e_cmp2 ?_ | refine e_attr ?_ | refine e_sub ?_ | refine e_sliceL ?_ | refine e_sliceU ?_ | refine e_tup ?_ | refine e_list ?_ | refine e_call ?_ | refine e_new ?_ | refine e_bltn ?_ | refine e_isi ?_ | refine e_meth ?_ | refine es_nil ?_ | refine es_cons ?_ | refine tr_in ?_ | refine br_t ?_ | refine br_f ?_ | refine br_nt ?_ | refine br_nf ?_ | refine int_in ?_ | refine add_i ?_ | refine sub_i ?_ | refine eq_i ?_ | refine ne_i ?_ | refine lt_i ?_ | refine le_i ?_ | refine gt_i ?_ | refine ge_i ?_ | refine len_t ?_ | refine len_f ?_ | refine int_b ?_ | refine s_nil ?_ | refine s_expr ?_ | refine s_assign ?_ | refine s_setattr ?_ | refine s_setitem ?_ | refine s_if ?_ | refine s_ite ?_ | refine s_ret ?_ | refine fq_ret ?_ | refine fq_next ?_ | refine sq_next ?_ | refine sq_ret ?_) | (with_reducible refine e_loc (by assumption) ?_) | (with_reducible refine br_dt (by assumption) ?_) | (with_reducible refine br_df (by assumption) ?_) | (with_reducible refine br_ndt (by assumption) ?_) | (with_reducible refine br_ndf (by assumption) ?_) | (refine getA_in (by assumption) (by assumption) (by rfl) ?_) | (refine len_l (by assumption) ?_) | (refine list_l (by assumption) ?_)))
  refine meth_own "Post.under" w.q w.qd (by rfl) (by rfl) (by rfl) ?_
  (repeat (first | (with_reducible refine e_here ?_) | (refine e_skip (by decide) ?_) | (refine isi_in (b := true) (by rfl) ?_) | (refine isi_in (b := false) (by rfl) ?_) | (refine e_glob (by rfl) ?_) | (with_reducible first | refine e_int ?_ | refine e_bool ?_ | refine e_none ?_ | refine e_str ?_ | refine e_bin ?_ | refine e_neg ?_ | refine e_not ?_ | refine e_and ?_ | refine e_or ?_ | refine a_one ?_ | refine a_cons ?_ | refine o_one ?_ | refine o_cons ?_ | refine e_cmp ?_ | refine e_cmp2 ?_ | refine e_attr ?_ | refine e_sub ?_ | refine e_sliceL ?_ | refine e_sliceU ?_ | refine e_tup ?_ | refine e_list ?_ | refine e_call ?_ | refine e_new ?_ | refine e_bltn ?_ | refine e_isi ?_ | refine e_meth ?_ | refine es_nil ?_ | refine es_cons ?_ | refine tr_in ?_ | refine br_t ?_ | refine br_f ?_ | refine br_nt ?_ | refine br_nf ?_ | refine int_in ?_ | refine add_i ?_ | refine sub_i ?_ | refine eq_i ?_ | refine ne_i ?_ | refine lt_i ?_ | refine le_i ?_ | refine gt_i ?_ | refine ge_i ?_ | refine len_t ?_ | refine len_f ?_ | refine int_b ?_ | refine s_nil ?_ | refine s_expr ?_ | refine s_assign ?_ | refine s_setattr ?_ | refine s_setitem ?_ | refine s_if ?_ | refine s_ite ?_ | refine s_ret ?_ | refine fq_ret ?_ | refine fq_next ?_ | refine sq_next ?_ | refine sq_ret ?_) | (with_reducible refine e_loc (by assumption) ?_) | (with_reducible refine br_dt (by assumption) ?_) | (with_reducible refine br_df (by assumption) ?_) | (with_reducible refine br_ndt (by assumption) ?_) | (with_reducible refine br_ndf (by assumption) ?_) | (refine getA_in (by assumption) (by assumption) (by rfl) ?_) | (refine len_l (by assumption) ?_) | (refine list_l (by assumption) ?_)))
  refine sc_up (under_spec G w.q w.qd w.ql D.under (Nat.zero_le _) fun x hx => ?_) (by decide)
  have W1 := w.ext (Ext.new hx (.list []))
  have hxx : updM μ x (.list []) x = some (.list []) := mem_here
  generalize updM μ x (.list []) = μ₁ at W1 hxx ⊢
  (repeat (first | (with_reducible refine e_here ?_) | (refine e_skip (by decide) ?_) | (refine isi_in (b := true) (by rfl) ?_) | (refine isi_in (b := false) (by rfl) ?_) | (refine e_glob (by rfl) ?_) | (with_reducible first | refine e_int ?_ | refine e_bool ?_ | refine e_none ?_ | refine e_str ?_ | refine e_bin ?_ | refine e_neg ?_ | refine e_not ?_ | refine e_and ?_ | refine e_or ?_ | refine a_one ?_ | refine a_cons ?_ | refine o_one ?_ | refine o_cons ?_ | refine e_cmp ?_ | refine e_cmp2 ?_ | refine e_attr ?_ | refine e_sub ?_ | refine e_sliceL ?_ | refine e_sliceU ?_ | refine e_tup ?_ | refine e_list ?_ | refine e_call ?_ | refine e_new ?_ | refine e_bltn ?_ | refine e_isi ?_ | refine e_meth ?_ | refine es_nil ?_ | refine es_cons ?_ | refine tr_in ?_ | refine br_t ?_ | refine br_f ?_ | refine br_nt ?_ | refine br_nf ?_ | refine int_in ?_ | refine add_i ?_ | refine sub_i ?_ | refine eq_i ?_ | refine ne_i ?_ | refine lt_i ?_ | refine le_i ?_ | refine gt_i ?_ | refine ge_i ?_ | refine len_t ?_ | refine len_f ?_ | refine int_b ?_ | refine s_nil ?_ | refine s_expr ?_ | refine s_assign ?_ | refine s_setattr ?_ | refine s_setitem ?_ | refine s_if ?_ | refine s_ite ?_ | refine s_ret ?_ | refine fq_ret ?_ | refine fq_next ?_ | refine sq_next ?_ | refine sq_ret ?_) | (with_reducible refine e_loc (by assumption) ?_) | (with_reducible refine br_dt (by assumption) ?_) | (with_reducible refine br_df (by assumption) ?_) | (with_reducible refine br_ndt (by assumption) ?_) | (with_reducible refine br_ndf (by assumption) ?_) | (refine getA_in (by assumption) (by assumption) (by rfl) ?_) | (refine len_l (by assumption) ?_) | (refine list_l (by assumption) ?_)))
  refine newL_in (Nat.zero_le _) fun y hy => ?_
  have W2 := W1.ext (Ext.new hy (.list []))
  have hyy : updM μ₁ y (.list []) y = some (.list []) := mem_here
  have hxx2 := Ext.new hy (.list []) _ _ hxx
  generalize updM μ₁ y (.list []) = μ₂ at W2 hyy hxx2 ⊢
  refine cmp_in (r := true) (by simp only [cmpO]; exact deq_rows (List.forall_mem_nil _) hxx2 hyy) ?_
  (repeat (first | (with_reducible refine e_here ?_) | (refine e_skip (by decide) ?_) | (refine isi_in (b := true) (by rfl) ?_) | (refine isi_in (b := false) (by rfl) ?_) | (refine e_glob (by rfl) ?_) | (with_reducible first | refine e_int ?_ | refine e_bool ?_ | refine e_none ?_ | refine e_str ?_ | refine e_bin ?_ | refine e_neg ?_ | refine e_not ?_ | refine e_and ?_ | refine e_or ?_ | refine a_one ?_ | refine a_cons ?_ | refine o_one ?_ | refine o_cons ?_ | refine e_cmp ?_ | refine e_cmp2 ?_ | refine e_attr ?_ | refine e_sub ?_ | refine e_sliceL ?_ | refine e_sliceU ?_ | refine e_tup ?_ | refine e_list ?_ | refine e_call ?_ | refine e_new ?_ | refine e_bltn ?_ | refine e_isi ?_ | refine e_meth ?_ | refine es_nil ?_ | refine es_cons ?_ | refine tr_in ?_ | refine br_t ?_ | refine br_f ?_ | refine br_nt ?_ | refine br_nf ?_ | refine int_in ?_ | refine add_i ?_ | refine sub_i ?_ | refine eq_i ?_ | refine ne_i ?_ | refine lt_i ?_ | refine le_i ?_ | refine gt_i ?_ | refine ge_i ?_ | refine len_t ?_ | refine len_f ?_ | refine int_b ?_ | refine s_nil ?_ | refine s_expr ?_ | refine s_assign ?_ | refine s_setattr ?_ | refine s_setitem ?_ | refine s_if ?_ | refine s_ite ?_ | refine s_ret ?_ | refine fq_ret ?_ | refine fq_next ?_ | refine sq_next ?_ | refine sq_ret ?_) | (with_reducible refine e_loc (by assumption) ?_) | (with_reducible refine br_dt (by assumption) ?_) | (with_reducible refine br_df (by assumption) ?_) | (with_reducible refine br_ndt (by assumption) ?_) | (with_reducible refine br_ndf (by assumption) ?_) | (refine getA_in (by assumption) (by assumption) (by rfl) ?_) | (refine len_l (by assumption) ?_) | (refine list_l (by assumption) ?_)))
  refine meth_own "Post.under" W2.p W2.pd (by rfl) (by rfl) (by rfl) ?_
  (repeat (first | (with_reducible refine e_here ?_) | (refine e_skip (by decide) ?_) | (refine isi_in (b := true) (by rfl) ?_) | (refine isi_in (b := false) (by rfl) ?_) | (refine e_glob (by rfl) ?_) | (with_reducible first | refine e_int ?_ | refine e_bool ?_ | refine e_none ?_ | refine e_str ?_ | refine e_bin ?_ | refine e_neg ?_ | refine e_not ?_ | refine e_and ?_ | refine e_or ?_ | refine a_one ?_ | refine a_cons ?_ | refine o_one ?_ | refine o_cons ?_ | refine e_cmp ?_ | refine e_cmp2 ?_ | refine e_attr ?_ | refine e_sub ?_ | refine e_sliceL ?_ | refine e_sliceU ?_ | refine e_tup ?_ | refine e_list ?_ | refine e_call ?_ | refine e_new ?_ | refine e_bltn ?_ | refine e_isi ?_ | refine e_meth ?_ | refine es_nil ?_ | refine es_cons ?_ | refine tr_in ?_ | refine br_t ?_ | refine br_f ?_ | refine br_nt ?_ | refine br_nf ?_ | refine int_in ?_ | refine add_i ?_ | refine sub_i ?_ | refine eq_i ?_ | refine ne_i ?_ | refine lt_i ?_ | refine le_i ?_ | refine gt_i ?_ | refine ge_i ?_ | refine len_t ?_ | refine len_f ?_ | refine int_b ?_ | refine s_nil ?_ | refine s_expr ?_ | refine s_assign ?_ | refine s_setattr ?_ | refine s_setitem ?_ | refine s_if ?_ | refine s_ite ?_ | refine s_ret ?_ | refine fq_ret ?_ | refine fq_next ?_ | refine sq_next ?_ | refine sq_ret ?_) | (with_reducible refine e_loc (by assumption) ?_) | (with_reducible refine br_dt (by assumption) ?_) | (with_reducible refine br_df (by assumption) ?_) | (with_reducible refine br_ndt (by assumption) ?_) | (with_reducible refine br_ndf (by assumption) ?_) | (refine getA_in (by assumption) (by assumption) (by rfl) ?_) | (refine len_l (by assumption) ?_) | (refine list_l (by assumption) ?_)))
  refine sc_up (under_spec G W2.p W2.pd W2.ro D.under lR fun z hz => ?_) (by decide)
  have W3 := W2.ext (Ext.new hz (.list R))
  have hzz : updM μ₂ z (.list R) z = some (.list R) := mem_here
  generalize updM μ₂ z (.list R) = μ₃ at W3 hzz ⊢
  (repeat (first | (with_reducible refine e_here ?_) | (refine e_skip (by decide) ?_) | (refine isi_in (b := true) (by rfl) ?_) | (refine isi_in (b := false) (by rfl) ?_) | (refine e_glob (by rfl) ?_) | (with_reducible first | refine e_int ?_ | refine e_bool ?_ | refine e_none ?_ | refine e_str ?_ | refine e_bin ?_ | refine e_neg ?_ | refine e_not ?_ | refine e_and ?_ | refine e_or ?_ | refine a_one ?_ | refine a_cons ?_ | refine o_one ?_ | refine o_cons ?_ | refine e_cmp ?_ | refine e_cmp2 ?_ | refine e_attr ?_ | refine e_sub ?_ | refine e_sliceL ?_ | refine e_sliceU ?_ | refine e_tup ?_ | refine e_list ?_ | refine e_call ?_ | refine e_new ?_ | refine e_bltn ?_ | refine e_isi ?_ | refine e_meth ?_ | refine es_nil ?_ | refine es_cons ?_ | refine tr_in ?_ | refine br_t ?_ | refine br_f ?_ | refine br_nt ?_ | refine br_nf ?_ | refine int_in ?_ | refine add_i ?_ | refine sub_i ?_ | refine eq_i ?_ | refine ne_i ?_ | refine lt_i ?_ | refine le_i ?_ | refine gt_i ?_ | refine ge_i ?_ | refine len_t ?_ | refine len_f ?_ | refine int_b ?_ | refine s_nil ?_ | refine s_expr ?_ | refine s_assign ?_ | refine s_setattr ?_ | refine s_setitem ?_ | refine s_if ?_ | refine s_ite ?_ | refine s_ret ?_ | refine fq_ret ?_ | refine fq_next ?_ | refine sq_next ?_ | refine sq_ret ?_) | (with_reducible refine e_loc (by assumption) ?_) | (with_reducible refine br_dt (by assumption) ?_) | (with_reducible refine br_df (by assumption) ?_) | (with_reducible refine br_ndt (by assumption) ?_) | (with_reducible refine br_ndf (by assumption) ?_) | (refine getA_in (by assumption) (by assumption) (by rfl) ?_) | (refine len_l (by assumption) ?_) | (refine list_l (by assumption) ?_)))
  refine cmp_in (r := true) (by simp only [cmpO]; exact deq_rows hR hzz W3.r) ?_
  (repeat (first | (with_reducible refine e_here ?_) | (refine e_skip (by decide) ?_) | (refine isi_in (b := true) (by rfl) ?_) | (refine isi_in (b := false) (by rfl) ?_) | (refine e_glob (by rfl) ?_) | (with_reducible first | refine e_int ?_ | refine e_bool ?_ | refine e_none ?_ | refine e_str ?_ | refine e_bin ?_ | refine e_neg ?_ | refine e_not ?_ | refine e_and ?_ | refine e_or ?_ | refine a_one ?_ | refine a_cons ?_ | refine o_one ?_ | refine o_cons ?_ | refine e_cmp ?_ | refine e_cmp2 ?_ | refine e_attr ?_ | refine e_sub ?_ | refine e_sliceL ?_ | refine e_sliceU ?_ | refine e_tup ?_ | refine e_list ?_ | refine e_call ?_ | refine e_new ?_ | refine e_bltn ?_ | refine e_isi ?_ | refine e_meth ?_ | refine es_nil ?_ | refine es_cons ?_ | refine tr_in ?_ | refine br_t ?_ | refine br_f ?_ | refine br_nt ?_ | refine br_nf ?_ | refine int_in ?_ | refine add_i ?_ | refine sub_i ?_ | refine eq_i ?_ | refine ne_i ?_ | refine lt_i ?_ | refine le_i ?_ | refine gt_i ?_ | refine ge_i ?_ | refine len_t ?_ | refine len_f ?_ | refine int_b ?_ | refine s_nil ?_ | refine s_expr ?_ | refine s_assign ?_ | refine s_setattr ?_ | refine s_setitem ?_ | refine s_if ?_ | refine s_ite ?_ | refine s_ret ?_ | refine fq_ret ?_ | refine fq_next ?_ | refine sq_next ?_ | refine sq_ret ?_) | (with_reducible refine e_loc (by assumption) ?_) | (with_reducible refine br_dt (by assumption) ?_) | (with_reducible refine br_df (by assumption) ?_) | (with_reducible refine br_ndt (by assumption) ?_) | (with_reducible refine br_ndf (by assumption) ?_) | (refine getA_in (by assumption) (by assumption) (by rfl) ?_) | (refine len_l (by assumption) ?_) | (refine list_l (by assumption) ?_)))
  refine e_comp rfl ?_
  (repeat (first | (with_reducible refine e_here ?_) | (refine e_skip (by decide) ?_) | (refine isi_in (b := true) (by rfl) ?_) | (refine isi_in (b := false) (by rfl) ?_) | (refine e_glob (by rfl) ?_) | (with_reducible first | refine e_int ?_ | refine e_bool ?_ | refine e_none ?_ | refine e_str ?_ | refine e_bin ?_ | refine e_neg ?_ | refine e_not ?_ | refine e_and ?_ | refine e_or ?_ | refine a_one ?_ | refine a_cons ?_ | refine o_one ?_ | refine o_cons ?_ | refine e_cmp ?_ | refine e_cmp2 ?_ | refine e_attr ?_ | refine e_sub ?_ | refine e_sliceL ?_ | refine e_sliceU ?_ | refine e_tup ?_ | refine e_list ?_ | refine e_call ?_ | refine e_new ?_ | refine e_bltn ?_ | refine e_isi ?_ | refine e_meth ?_ | refine es_nil ?_ | refine es_cons ?_ | refine tr_in ?_ | refine br_t ?_ | refine br_f ?_ | refine br_nt ?_ | refine br_nf ?_ | refine int_in ?_ | refine add_i ?_ | refine sub_i ?_ | refine eq_i ?_ | refine ne_i ?_ | refine lt_i ?_ | refine le_i ?_ | refine gt_i ?_ | refine ge_i ?_ | refine len_t ?_ | refine len_f ?_ | refine int_b ?_ | refine s_nil ?_ | refine s_expr ?_ | refine s_assign ?_ | refine s_setattr ?_ | refine s_setitem ?_ | refine s_if ?_ | refine s_ite ?_ | refine s_ret ?_ | refine fq_ret ?_ | refine fq_next ?_ | refine sq_next ?_ | refine sq_ret ?_) | (with_reducible refine e_loc (by assumption) ?_) | (with_reducible refine br_dt (by assumption) ?_) | (with_reducible refine br_df (by assumption) ?_) | (with_reducible refine br_ndt (by assumption) ?_) | (with_reducible refine br_ndf (by assumption) ?_) | (refine getA_in (by assumption) (by assumption) (by rfl) ?_) | (refine len_l (by assumption) ?_) | (refine list_l (by assumption) ?_)))
  refine comp_in W3.h fun y hy => ⟨fun k μ' => k ≤ H.length ∧ μ' = updM μ₃ y (.list (List.replicate k (.bool true))), ⟨Nat.zero_le _, rfl⟩, fun k μ' q => ?_, fun k v μ' hv q => ?_, fun μ' q => ?_⟩
  · rw [q.2]; exact Ext.new hy _ _ _ W3.h
  · obtain ⟨hk', rfl⟩ := q
    have hlt : k < H.length := (List.getElem?_eq_some_iff.mp hv).1
    have ex := Ext.new hy (.list (List.replicate k (.bool true)))
    obtain ⟨x, f, g, L, rfl, h1, h2, h3, h4, -⟩ := W3.hl v (List.mem_of_getElem? hv)
    (repeat (first | (with_reducible refine e_here ?_) | (refine e_skip (by decide) ?_) | (refine isi_in (b := true) (by rfl) ?_) | (refine isi_in (b := false) (by rfl) ?_) | (refine e_glob (by rfl) ?_) | (with_reducible first | refine e_int ?_ | refine e_bool ?_ | refine e_none ?_ | refine e_str ?_ | refine e_bin ?_ | refine e_neg ?_ | refine e_not ?_ | refine e_and ?_ | refine e_or ?_ | refine a_one ?_ | refine a_cons ?_ | refine o_one ?_ | refine o_cons ?_ | refine e_cmp ?_ | refine e_cmp2 ?_ | refine e_attr ?_ | refine e_sub ?_ | refine e_sliceL ?_ | refine e_sliceU ?_ | refine e_tup ?_ | refine e_list ?_ | refine e_call ?_ | refine e_new ?_ | refine e_bltn ?_ | refine e_isi ?_ | refine e_meth ?_ | refine es_nil ?_ | refine es_cons ?_ | refine tr_in ?_ | refine br_t ?_ | refine br_f ?_ | refine br_nt ?_ | refine br_nf ?_ | refine int_in ?_ | refine add_i ?_ | refine sub_i ?_ | refine eq_i ?_ | refine ne_i ?_ | refine lt_i ?_ | refine le_i ?_ | refine gt_i ?_ | refine ge_i ?_ | refine len_t ?_ | refine len_f ?_ | refine int_b ?_ | refine s_nil ?_ | refine s_expr ?_ | refine s_assign ?_ | refine s_setattr ?_ | refine s_setitem ?_ | refine s_if ?_ | refine s_ite ?_ | refine s_ret ?_ | refine fq_ret ?_ | refine fq_next ?_ | refine sq_next ?_ | refine sq_ret ?_) | (with_reducible refine e_loc (by assumption) ?_) | (with_reducible refine br_dt (by assumption) ?_) | (with_reducible refine br_df (by assumption) ?_) | (with_reducible refine br_ndt (by assumption) ?_) | (with_reducible refine br_ndf (by assumption) ?_) | (refine getA_in (by assumption) (by assumption) (by rfl) ?_) | (refine len_l (by assumption) ?_) | (refine list_l (by assumption) ?_)))
    refine sub_l (ex _ _ h1) (v := .ref f) rfl ?_
    (repeat (first | (with_reducible refine e_here ?_) | (refine e_skip (by decide) ?_) | (refine isi_in (b := true) (by rfl) ?_) | (refine isi_in (b := false) (by rfl) ?_) | (refine e_glob (by rfl) ?_) | (with_reducible first | refine e_int ?_ | refine e_bool ?_ | refine e_none ?_ | refine e_str ?_ | refine e_bin ?_ | refine e_neg ?_ | refine e_not ?_ | refine e_and ?_ | refine e_or ?_ | refine a_one ?_ | refine a_cons ?_ | refine o_one ?_ | refine o_cons ?_ | refine e_cmp ?_ | refine e_cmp2 ?_ | refine e_attr ?_ | refine e_sub ?_ | refine e_sliceL ?_ | refine e_sliceU ?_ | refine e_tup ?_ | refine e_list ?_ | refine e_call ?_ | refine e_new ?_ | refine e_bltn ?_ | refine e_isi ?_ | refine e_meth ?_ | refine es_nil ?_ | refine es_cons ?_ | refine tr_in ?_ | refine br_t ?_ | refine br_f ?_ | refine br_nt ?_ | refine br_nf ?_ | refine int_in ?_ | refine add_i ?_ | refine sub_i ?_ | refine eq_i ?_ | refine ne_i ?_ | refine lt_i ?_ | refine le_i ?_ | refine gt_i ?_ | refine ge_i ?_ | refine len_t ?_ | refine len_f ?_ | refine int_b ?_ | refine s_nil ?_ | refine s_expr ?_ | refine s_assign ?_ | refine s_setattr ?_ | refine s_setitem ?_ | refine s_if ?_ | refine s_ite ?_ | refine s_ret ?_ | refine fq_ret ?_ | refine fq_next ?_ | refine sq_next ?_ | refine sq_ret ?_) | (with_reducible refine e_loc (by assumption) ?_) | (with_reducible refine br_dt (by assumption) ?_) | (with_reducible refine br_df (by assumption) ?_) | (with_reducible refine br_ndt (by assumption) ?_) | (with_reducible refine br_ndf (by assumption) ?_) | (refine getA_in (by assumption) (by assumption) (by rfl) ?_) | (refine len_l (by assumption) ?_) | (refine list_l (by assumption) ?_)))
    refine sub_l (ex _ _ h1) (v := .ref g) rfl ?_
    refine cmp_in (r := true) (by simp only [cmpO]; exact deq_rows h4 (ex _ _ h2) (ex _ _ h3)) ?_
    refine ⟨_, mem_here, by rw [List.length_replicate]; unfold lim; omega, hlt, ?_⟩
    rw [upd_upd, List.replicate_succ']
  · obtain ⟨_, rfl⟩ := q
    (repeat (first | (with_reducible refine e_here ?_) | (refine e_skip (by decide) ?_) | (refine isi_in (b := true) (by rfl) ?_) | (refine isi_in (b := false) (by rfl) ?_) | (refine e_glob (by rfl) ?_) | (with_reducible first | refine e_int ?_ | refine e_bool ?_ | refine e_none ?_ | refine e_str ?_ | refine e_bin ?_ | refine e_neg ?_ | refine e_not ?_ | refine e_and ?_ | refine e_or ?_ | refine a_one ?_ | refine a_cons ?_ | refine o_one ?_ | refine o_cons ?_ | refine e_cmp ?_ | refine e_cmp2 ?_ | refine e_attr ?_ | refine e_sub ?_ | refine e_sliceL ?_ | refine e_sliceU ?_ | refine e_tup ?_ | refine e_list ?_ | refine e_call ?_ | refine e_new ?_ | refine e_bltn ?_ | refine e_isi ?_ | refine e_meth ?_ | refine es_nil ?_ | refine es_cons ?_ | refine tr_in ?_ | refine br_t ?_ | refine br_f ?_ | refine br_nt ?_ | refine br_nf ?_ | refine int_in ?_ | refine add_i ?_ | refine sub_i ?_ | refine eq_i ?_ | refine ne_i ?_ | refine lt_i ?_ | refine le_i ?_ | refine gt_i ?_ | refine ge_i ?_ | refine len_t ?_ | refine len_f ?_ | refine int_b ?_ | refine s_nil ?_ | refine s_expr ?_ | refine s_assign ?_ | refine s_setattr ?_ | refine s_setitem ?_ | refine s_if ?_ | refine s_ite ?_ | refine s_ret ?_ | refine fq_ret ?_ | refine fq_next ?_ | refine sq_next ?_ | refine sq_ret ?_) | (with_reducible refine e_loc (by assumption) ?_) | (with_reducible refine br_dt (by assumption) ?_) | (with_reducible refine br_df (by assumption) ?_) | (with_reducible refine br_ndt (by assumption) ?_) | (with_reducible refine br_ndf (by assumption) ?_) | (refine getA_in (by assumption) (by assumption) (by rfl) ?_) | (refine len_l (by assumption) ?_) | (refine list_l (by assumption) ?_)))
    refine all_l rfl mem_here (allO_rep _) ?_
    (repeat (first | (with_reducible refine e_here ?_) | (refine e_skip (by decide) ?_) | (refine isi_in (b := true) (by rfl) ?_) | (refine isi_in (b := false) (by rfl) ?_) | (refine e_glob (by rfl) ?_) | (with_reducible first | refine e_int ?_ | refine e_bool ?_ | refine e_none ?_ | refine e_str ?_ | refine e_bin ?_ | refine e_neg ?_ | refine e_not ?_ | refine e_and ?_ | refine e_or ?_ | refine a_one ?_ | refine a_cons ?_ | refine o_one ?_ | refine o_cons ?_ | refine e_cmp ?_ | refine e_cmp2 ?_ | refine e_attr ?_ | refine e_sub ?_ | refine e_sliceL ?_ | refine e_sliceU ?_ | refine e_tup ?_ | refine e_list ?_ | refine e_call ?_ | refine e_new ?_ | refine e_bltn ?_ | refine e_isi ?_ | refine e_meth ?_ | refine es_nil ?_ | refine es_cons ?_ | refine tr_in ?_ | refine br_t ?_ | refine br_f ?_ | refine br_nt ?_ | refine br_nf ?_ | refine int_in ?_ | refine add_i ?_ | refine sub_i ?_ | refine eq_i ?_ | refine ne_i ?_ | refine lt_i ?_ | refine le_i ?_ | refine gt_i ?_ | refine ge_i ?_ | refine len_t ?_ | refine len_f ?_ | refine int_b ?_ | refine s_nil ?_ | refine s_expr ?_ | refine s_assign ?_ | refine s_setattr ?_ | refine s_setitem ?_ | refine s_if ?_ | refine s_ite ?_ | refine s_ret ?_ | refine fq_ret ?_ | refine fq_next ?_ | refine sq_next ?_ | refine sq_ret ?_) | (with_reducible refine e_loc (by assumption) ?_) | (with_reducible refine br_dt (by assumption) ?_) | (with_reducible refine br_df (by assumption) ?_) | (with_reducible refine br_ndt (by assumption) ?_) | (with_reducible refine br_ndf (by assumption) ?_) | (refine getA_in (by assumption) (by assumption) (by rfl) ?_) | (refine len_l (by assumption) ?_) | (refine list_l (by assumption) ?_)))
    exact h _

omit D in
theorem new_spec (Di : Def c sg "Post.__init__" p_Post___init__ b_Post___init__) {μ : Mem} {Q : V → Mem → Prop} {X : String → Mem → Prop} (h : ∀ p pd rl μ', Ext μ μ' → μ p = none → μ pd = none → μ rl = none → p ≠ pd → p ≠ rl → pd ≠ rl → μ' p = some (.inst "Post" pd) → μ' pd = some (.attrs [("rows", .ref rl)]) → μ' rl = some (.list []) → Q (.ref p) μ') :
    newW (SC c 5) false "Post" [] μ Q X := by
  intro p pd hp hpd hne
  show SC c 5 false "Post.__init__" [.ref p] (updM (updM μ pd (.attrs [])) p (.inst "Post" pd)) _ _
  refine sc_up (init_spec G Di mem_here (by rw [updM_ne hne]; exact mem_here) fun rl hrl => ⟨trivial, ?_⟩) (by decide)
  have n1 : rl ≠ p := fun q => by rw [q, updM_self] at hrl; cases hrl
  rw [updM_ne n1] at hrl
  have n2 : rl ≠ pd := fun q => by rw [q, updM_self] at hrl; cases hrl
  rw [updM_ne n2] at hrl
  refine h p pd rl _ (fun b o hb => ?_) hp hpd hrl (Ne.symm hne) (Ne.symm n1) (Ne.symm n2) ?_ mem_here ?_
  · rw [updM_ne (ne_some hpd hb), updM_ne (ne_some hrl hb), updM_ne (ne_some hp hb), updM_ne (ne_some hpd hb)]; exact hb
  · rw [updM_ne (Ne.symm hne), updM_ne (Ne.symm n1)]; exact mem_here
  · rw [updM_ne n2]; exact mem_here

theorem law_mini {ns : List Int} (hl : ns.length ≤ 1000) : SC c 6 false "law" [.frz ns] (fun _ => none) (fun v _ => v = .bool true) (fun _ _ => False) := by
  refine call_in G D.law rfl ?_
  unfold b_law
  (repeat (first | (with_reducible refine e_here ?_) | (refine e_skip (by decide) ?_) | (refine isi_in (b := true) (by rfl) ?_) | (refine isi_in (b := false) (by rfl) ?_) | (refine e_glob (by rfl) ?_) | (with_reducible first | refine e_int ?_ | refine e_bool ?_ | refine e_none ?_ | refine e_str ?_ | refine e_bin ?_ | refine e_neg ?_ | refine e_not ?_ | refine e_and ?_ | refine e_or ?_ | refine a_one ?_ | refine a_cons ?_ | refine o_one ?_ | refine o_cons ?_ | refine e_cmp ?_ | refine e_cmp2 ?_ | refine e_attr ?_ | refine e_sub ?_ | refine e_sliceL ?_ | refine e_sliceU ?_ | refine e_tup ?_ | refine e_list ?_ | refine e_call ?_ | refine e_new ?_ | refine e_bltn ?_ | refine e_isi ?_ | refine e_meth ?_ | refine es_nil ?_ | refine es_cons ?_ | refine tr_in ?_ | refine br_t ?_ | refine br_f ?_ | refine br_nt ?_ | refine br_nf ?_ | refine int_in ?_ | refine add_i ?_ | refine sub_i ?_ | refine eq_i ?_ | refine ne_i ?_ | refine lt_i ?_ | refine le_i ?_ | refine gt_i ?_ | refine ge_i ?_ | refine len_t ?_ | refine len_f ?_ | refine int_b ?_ | refine s_nil ?_ | refine s_expr ?_ | refine s_assign ?_ | refine s_setattr ?_ | refine s_setitem ?_ | refine s_if ?_ | refine s_ite ?_ | refine s_ret ?_ | refine fq_ret ?_ | refine fq_next ?_ | refine sq_next ?_ | refine sq_ret ?_) | (with_reducible refine e_loc (by assumption) ?_) | (with_reducible refine br_dt (by assumption) ?_) | (with_reducible refine br_df (by assumption) ?_) | (with_reducible refine br_ndt (by assumption) ?_) | (with_reducible refine br_ndf (by assumption) ?_) | (refine getA_in (by assumption) (by assumption) (by rfl) ?_) | (refine len_l (by assumption) ?_) | (refine list_l (by assumption) ?_)))
  refine new_spec G D.ini fun p pd rl μ₁ _ _ _ _ a1 a2 a3 p1 p2 p3 => ?_
  (repeat (first | (with_reducible refine e_here ?_) | (refine e_skip (by decide) ?_) | (refine isi_in (b := true) (by rfl) ?_) | (refine isi_in (b := false) (by rfl) ?_) | (refine e_glob (by rfl) ?_) | (with_reducible first | refine e_int ?_ | refine e_bool ?_ | refine e_none ?_ | refine e_str ?_ | refine e_bin ?_ | refine e_neg ?_ | refine e_not ?_ | refine e_and ?_ | refine e_or ?_ | refine a_one ?_ | refine a_cons ?_ | refine o_one ?_ | refine o_cons ?_ | refine e_cmp ?_ | refine e_cmp2 ?_ | refine e_attr ?_ | refine e_sub ?_ | refine e_sliceL ?_ | refine e_sliceU ?_ | refine e_tup ?_ | refine e_list ?_ | refine e_call ?_ | refine e_new ?_ | refine e_bltn ?_ | refine e_isi ?_ | refine e_meth ?_ | refine es_nil ?_ | refine es_cons ?_ | refine tr_in ?_ | refine br_t ?_ | refine br_f ?_ | refine br_nt ?_ | refine br_nf ?_ | refine int_in ?_ | refine add_i ?_ | refine sub_i ?_ | refine eq_i ?_ | refine ne_i ?_ | refine lt_i ?_ | refine le_i ?_ | refine gt_i ?_ | refine ge_i ?_ | refine len_t ?_ | refine len_f ?_ | refine int_b ?_ | refine s_nil ?_ | refine s_expr ?_ | refine s_assign ?_ | refine s_setattr ?_ | refine s_setitem ?_ | refine s_if ?_ | refine s_ite ?_ | refine s_ret ?_ | refine fq_ret ?_ | refine fq_next ?_ | refine sq_next ?_ | refine sq_ret ?_) | (with_reducible refine e_loc (by assumption) ?_) | (with_reducible refine br_dt (by assumption) ?_) | (with_reducible refine br_df (by assumption) ?_) | (with_reducible refine br_ndt (by assumption) ?_) | (with_reducible refine br_ndf (by assumption) ?_) | (refine getA_in (by assumption) (by assumption) (by rfl) ?_) | (refine len_l (by assumption) ?_) | (refine list_l (by assumption) ?_)))
  refine new_spec G D.ini fun q qd ql μ₂ ex2 b1 b2 b3 b4 b5 b6 q1 q2 q3 => ?_
  (repeat (first | (with_reducible refine e_here ?_) | (refine e_skip (by decide) ?_) | (refine isi_in (b := true) (by rfl) ?_) | (refine isi_in (b := false) (by rfl) ?_) | (refine e_glob (by rfl) ?_) | (with_reducible first | refine e_int ?_ | refine e_bool ?_ | refine e_none ?_ | refine e_str ?_ | refine e_bin ?_ | refine e_neg ?_ | refine e_not ?_ | refine e_and ?_ | refine e_or ?_ | refine a_one ?_ | refine a_cons ?_ | refine o_one ?_ | refine o_cons ?_ | refine e_cmp ?_ | refine e_cmp2 ?_ | refine e_attr ?_ | refine e_sub ?_ | refine e_sliceL ?_ | refine e_sliceU ?_ | refine e_tup ?_ | refine e_list ?_ | refine e_call ?_ | refine e_new ?_ | refine e_bltn ?_ | refine e_isi ?_ | refine e_meth ?_ | refine es_nil ?_ | refine es_cons ?_ | refine tr_in ?_ | refine br_t ?_ | refine br_f ?_ | refine br_nt ?_ | refine br_nf ?_ | refine int_in ?_ | refine add_i ?_ | refine sub_i ?_ | refine eq_i ?_ | refine ne_i ?_ | refine lt_i ?_ | refine le_i ?_ | refine gt_i ?_ | refine ge_i ?_ | refine len_t ?_ | refine len_f ?_ | refine int_b ?_ | refine s_nil ?_ | refine s_expr ?_ | refine s_assign ?_ | refine s_setattr ?_ | refine s_setitem ?_ | refine s_if ?_ | refine s_ite ?_ | refine s_ret ?_ | refine fq_ret ?_ | refine fq_next ?_ | refine sq_next ?_ | refine sq_ret ?_) | (with_reducible refine e_loc (by assumption) ?_) | (with_reducible refine br_dt (by assumption) ?_) | (with_reducible refine br_df (by assumption) ?_) | (with_reducible refine br_ndt (by assumption) ?_) | (with_reducible refine br_ndf (by assumption) ?_) | (refine getA_in (by assumption) (by assumption) (by rfl) ?_) | (refine len_l (by assumption) ?_) | (refine list_l (by assumption) ?_)))
  refine newL_in (Nat.zero_le _) fun r hr => ?_
  have ex3 := Ext.new hr (.list [])
  have r1 : updM μ₂ r (.list []) r = some (.list []) := mem_here
  generalize updM μ₂ r (.list []) = μ₃ at ex3 r1 ⊢
  (repeat (first | (with_reducible refine e_here ?_) | (refine e_skip (by decide) ?_) | (refine isi_in (b := true) (by rfl) ?_) | (refine isi_in (b := false) (by rfl) ?_) | (refine e_glob (by rfl) ?_) | (with_reducible first | refine e_int ?_ | refine e_bool ?_ | refine e_none ?_ | refine e_str ?_ | refine e_bin ?_ | refine e_neg ?_ | refine e_not ?_ | refine e_and ?_ | refine e_or ?_ | refine a_one ?_ | refine a_cons ?_ | refine o_one ?_ | refine o_cons ?_ | refine e_cmp ?_ | refine e_cmp2 ?_ | refine e_attr ?_ | refine e_sub ?_ | refine e_sliceL ?_ | refine e_sliceU ?_ | refine e_tup ?_ | refine e_list ?_ | refine e_call ?_ | refine e_new ?_ | refine e_bltn ?_ | refine e_isi ?_ | refine e_meth ?_ | refine es_nil ?_ | refine es_cons ?_ | refine tr_in ?_ | refine br_t ?_ | refine br_f ?_ | refine br_nt ?_ | refine br_nf ?_ | refine int_in ?_ | refine add_i ?_ | refine sub_i ?_ | refine eq_i ?_ | refine ne_i ?_ | refine lt_i ?_ | refine le_i ?_ | refine gt_i ?_ | refine ge_i ?_ | refine len_t ?_ | refine len_f ?_ | refine int_b ?_ | refine s_nil ?_ | refine s_expr ?_ | refine s_assign ?_ | refine s_setattr ?_ | refine s_setitem ?_ | refine s_if ?_ | refine s_ite ?_ | refine s_ret ?_ | refine fq_ret ?_ | refine fq_next ?_ | refine sq_next ?_ | refine sq_ret ?_) | (with_reducible refine e_loc (by assumption) ?_) | (with_reducible refine br_dt (by assumption) ?_) | (with_reducible refine br_df (by assumption) ?_) | (with_reducible refine br_ndt (by assumption) ?_) | (with_reducible refine br_ndf (by assumption) ?_) | (refine getA_in (by assumption) (by assumption) (by rfl) ?_) | (refine len_l (by assumption) ?_) | (refine list_l (by assumption) ?_)))
  refine newL_in (Nat.zero_le _) fun h hh => ?_
  have ex4 := Ext.new hh (.list [])
  have h1 : updM μ₃ h (.list []) h = some (.list []) := mem_here
  generalize updM μ₃ h (.list []) = μ₄ at ex4 h1 ⊢
  have ex24 := ex3.trans ex4
  have ex14 := ex2.trans ex24
  have ex13 := ex2.trans ex3
  have w : WS μ₄ ⟨p, pd, q, qd, ql, r, h⟩ rl [] [] [] := by
    refine ⟨?_, ex14 _ _ p1, ex14 _ _ p2, ex14 _ _ p3, ex24 _ _ q1, ex24 _ _ q2, ex24 _ _ q3, ex4 _ _ r1, h1, fun v hv => nomatch hv⟩
    simp only [List.nodup_cons, List.mem_cons, List.not_mem_nil, or_false, not_or]
    exact ⟨⟨a3, ne_some hr (ex2 _ _ p2), ne_some hh (ex13 _ _ p2), Ne.symm a1, ne_some b1 p2, ne_some b2 p2, ne_some b3 p2⟩,
      ⟨ne_some hr (ex2 _ _ p3), ne_some hh (ex13 _ _ p3), Ne.symm a2, ne_some b1 p3, ne_some b2 p3, ne_some b3 p3⟩,
      ⟨ne_some hh r1, Ne.symm (ne_some hr (ex2 _ _ p1)), Ne.symm (ne_some hr q1), Ne.symm (ne_some hr q2), Ne.symm (ne_some hr q3)⟩,
      ⟨Ne.symm (ne_some hh (ex13 _ _ p1)), Ne.symm (ne_some hh (ex3 _ _ q1)), Ne.symm (ne_some hh (ex3 _ _ q2)), Ne.symm (ne_some hh (ex3 _ _ q3))⟩,
      ⟨ne_some b1 p1, ne_some b2 p1, ne_some b3 p1⟩, ⟨b4, b5⟩, b6, id, List.nodup_nil⟩
  generalize ea : (⟨p, pd, q, qd, ql, r, h⟩ : Pa) = a at w
  have e1 : a.p = p := by rw [← ea]
  have e2 : a.q = q := by rw [← ea]
  have e3 : a.r = r := by rw [← ea]
  have e4 : a.h = h := by rw [← ea]
  rw [← e1, ← e2, ← e3, ← e4]
  (repeat (first | (with_reducible refine e_here ?_) | (refine e_skip (by decide) ?_) | (refine isi_in (b := true) (by rfl) ?_) | (refine isi_in (b := false) (by rfl) ?_) | (refine e_glob (by rfl) ?_) | (with_reducible first | refine e_int ?_ | refine e_bool ?_ | refine e_none ?_ | refine e_str ?_ | refine e_bin ?_ | refine e_neg ?_ | refine e_not ?_ | refine e_and ?_ | refine e_or ?_ | refine a_one ?_ | refine a_cons ?_ | refine o_one ?_ | refine o_cons ?_ | refine e_cmp ?_ | refine e_cmp2 ?_ | refine e_attr ?_ | refine e_sub ?_ | refine e_sliceL ?_ | refine e_sliceU ?_ | refine e_tup ?_ | refine e_list ?_ | refine e_call ?_ | refine e_new ?_ | refine e_bltn ?_ | refine e_isi ?_ | refine e_meth ?_ | refine es_nil ?_ | refine es_cons ?_ | refine tr_in ?_ | refine br_t ?_ | refine br_f ?_ | refine br_nt ?_ | refine br_nf ?_ | refine int_in ?_ | refine add_i ?_ | refine sub_i ?_ | refine eq_i ?_ | refine ne_i ?_ | refine lt_i ?_ | refine le_i ?_ | refine gt_i ?_ | refine ge_i ?_ | refine len_t ?_ | refine len_f ?_ | refine int_b ?_ | refine s_nil ?_ | refine s_expr ?_ | refine s_assign ?_ | refine s_setattr ?_ | refine s_setitem ?_ | refine s_if ?_ | refine s_ite ?_ | refine s_ret ?_ | refine fq_ret ?_ | refine fq_next ?_ | refine sq_next ?_ | refine sq_ret ?_) | (with_reducible refine e_loc (by assumption) ?_) | (with_reducible refine br_dt (by assumption) ?_) | (with_reducible refine br_df (by assumption) ?_) | (with_reducible refine br_ndt (by assumption) ?_) | (with_reducible refine br_ndf (by assumption) ?_) | (refine getA_in (by assumption) (by assumption) (by rfl) ?_) | (refine len_l (by assumption) ?_) | (refine list_l (by assumption) ?_)))
  refine s_for rfl ?_
  (repeat (first | (with_reducible refine e_here ?_) | (refine e_skip (by decide) ?_) | (refine isi_in (b := true) (by rfl) ?_) | (refine isi_in (b := false) (by rfl) ?_) | (refine e_glob (by rfl) ?_) | (with_reducible first | refine e_int ?_ | refine e_bool ?_ | refine e_none ?_ | refine e_str ?_ | refine e_bin ?_ | refine e_neg ?_ | refine e_not ?_ | refine e_and ?_ | refine e_or ?_ | refine a_one ?_ | refine a_cons ?_ | refine o_one ?_ | refine o_cons ?_ | refine e_cmp ?_ | refine e_cmp2 ?_ | refine e_attr ?_ | refine e_sub ?_ | refine e_sliceL ?_ | refine e_sliceU ?_ | refine e_tup ?_ | refine e_list ?_ | refine e_call ?_ | refine e_new ?_ | refine e_bltn ?_ | refine e_isi ?_ | refine e_meth ?_ | refine es_nil ?_ | refine es_cons ?_ | refine tr_in ?_ | refine br_t ?_ | refine br_f ?_ | refine br_nt ?_ | refine br_nf ?_ | refine int_in ?_ | refine add_i ?_ | refine sub_i ?_ | refine eq_i ?_ | refine ne_i ?_ | refine lt_i ?_ | refine le_i ?_ | refine gt_i ?_ | refine ge_i ?_ | refine len_t ?_ | refine len_f ?_ | refine int_b ?_ | refine s_nil ?_ | refine s_expr ?_ | refine s_assign ?_ | refine s_setattr ?_ | refine s_setitem ?_ | refine s_if ?_ | refine s_ite ?_ | refine s_ret ?_ | refine fq_ret ?_ | refine fq_next ?_ | refine sq_next ?_ | refine sq_ret ?_) | (with_reducible refine e_loc (by assumption) ?_) | (with_reducible refine br_dt (by assumption) ?_) | (with_reducible refine br_df (by assumption) ?_) | (with_reducible refine br_ndt (by assumption) ?_) | (with_reducible refine br_ndf (by assumption) ?_) | (refine getA_in (by assumption) (by assumption) (by rfl) ?_) | (refine len_l (by assumption) ?_) | (refine list_l (by assumption) ?_)))
  refine min_i rfl ?_
  (repeat (first | (with_reducible refine e_here ?_) | (refine e_skip (by decide) ?_) | (refine isi_in (b := true) (by rfl) ?_) | (refine isi_in (b := false) (by rfl) ?_) | (refine e_glob (by rfl) ?_) | (with_reducible first | refine e_int ?_ | refine e_bool ?_ | refine e_none ?_ | refine e_str ?_ | refine e_bin ?_ | refine e_neg ?_ | refine e_not ?_ | refine e_and ?_ | refine e_or ?_ | refine a_one ?_ | refine a_cons ?_ | refine o_one ?_ | refine o_cons ?_ | refine e_cmp ?_ | refine e_cmp2 ?_ | refine e_attr ?_ | refine e_sub ?_ | refine e_sliceL ?_ | refine e_sliceU ?_ | refine e_tup ?_ | refine e_list ?_ | refine e_call ?_ | refine e_new ?_ | refine e_bltn ?_ | refine e_isi ?_ | refine e_meth ?_ | refine es_nil ?_ | refine es_cons ?_ | refine tr_in ?_ | refine br_t ?_ | refine br_f ?_ | refine br_nt ?_ | refine br_nf ?_ | refine int_in ?_ | refine add_i ?_ | refine sub_i ?_ | refine eq_i ?_ | refine ne_i ?_ | refine lt_i ?_ | refine le_i ?_ | refine gt_i ?_ | refine ge_i ?_ | refine len_t ?_ | refine len_f ?_ | refine int_b ?_ | refine s_nil ?_ | refine s_expr ?_ | refine s_assign ?_ | refine s_setattr ?_ | refine s_setitem ?_ | refine s_if ?_ | refine s_ite ?_ | refine s_ret ?_ | refine fq_ret ?_ | refine fq_next ?_ | refine sq_next ?_ | refine sq_ret ?_) | (with_reducible refine e_loc (by assumption) ?_) | (with_reducible refine br_dt (by assumption) ?_) | (with_reducible refine br_df (by assumption) ?_) | (with_reducible refine br_ndt (by assumption) ?_) | (with_reducible refine br_ndf (by assumption) ?_) | (refine getA_in (by assumption) (by assumption) (by rfl) ?_) | (refine len_l (by assumption) ?_) | (refine list_l (by assumption) ?_)))
  have lm : min (ns.length : Int) 200 ≤ 1048576 := by omega
  refine rng1 lm (by omega) ?_
  refine for_rng (fun i ρ μ => ∃ k : Nat, i = k ∧ Inv ns a (40 * k) k ρ μ) ⟨0, rfl, ⟨by rfl, by rfl, by rfl, by rfl, by rfl⟩, rl, [], [], w, List.forall_mem_nil _, by decide, by decide⟩ (fun i ρ μ i0 i1 hJ => ?_) (fun ρ μ hJ => ?_)
  · obtain ⟨k, rfl, hI⟩ := hJ
    have hks : k < ns.length := by omega
    have hI' : Inv ns a (40 * k) k (updL ρ "_law_k" (.int k)) μ := by
      obtain ⟨⟨r1, r2, r3, r4, r5⟩, rest⟩ := hI
      exact ⟨⟨by (repeat (first | exact loc_here | assumption | refine loc_skip (by decide) ?_)), by (repeat (first | exact loc_here | assumption | refine loc_skip (by decide) ?_)), by (repeat (first | exact loc_here | assumption | refine loc_skip (by decide) ?_)), by (repeat (first | exact loc_here | assumption | refine loc_skip (by decide) ?_)), by (repeat (first | exact loc_here | assumption | refine loc_skip (by decide) ?_))⟩, rest⟩
    have fin : ∀ ρ' μ', Inv ns a (40 * k + 40) k ρ' μ' → sq (fun ρ₁ μ₁ => wpSs sg (SC c 5) false (match b_law with | [_, _, _, _, .for_ _ _ (_ :: r) _ _, _] => r | _ => []) ρ₁ μ₁ (sq (fun ρ μ => ∃ k' : Nat, (k : Int) + 1 = k' ∧ Inv ns a (40 * k') k' ρ μ) (sq (fun ρ₁ μ₁ => wpSs sg (SC c 5) false (match b_law with | [_, _, _, _, _, r] => [r] | _ => []) ρ₁ μ₁ (fq fun v x => v = V.bool true) fun x x μ' => False) (fq fun v x => v = V.bool true))) (fun _ _ _ => False)) (sq (fun ρ μ => ∃ k' : Nat, (k : Int) + 1 = k' ∧ Inv ns a (40 * k') k' ρ μ) (sq (fun ρ₁ μ₁ => wpSs sg (SC c 5) false (match b_law with | [_, _, _, _, _, r] => [r] | _ => []) ρ₁ μ₁ (fq fun v x => v = V.bool true) fun x x μ' => False) (fq fun v x => v = V.bool true))) .next ρ' μ' := fun ρ' μ' hI => by
      refine sq_next (law_tail G D (by omega) (by omega) hI (fun ρ'' μ'' hI2 => sq_next ⟨k + 1, rfl, ?_⟩) rfl)
      have : (40 * ((k + 1 : Nat) : Int)) = 40 * k + 40 := by omega
      rw [this]; exact hI2
    obtain ⟨⟨r1, r2, r3, r4, r5⟩, -⟩ := id hI
    (repeat (first | (with_reducible refine e_here ?_) | (refine e_skip (by decide) ?_) | (refine isi_in (b := true) (by rfl) ?_) | (refine isi_in (b := false) (by rfl) ?_) | (refine e_glob (by rfl) ?_) | (with_reducible first | refine e_int ?_ | refine e_bool ?_ | refine e_none ?_ | refine e_str ?_ | refine e_bin ?_ | refine e_neg ?_ | refine e_not ?_ | refine e_and ?_ | refine e_or ?_ | refine a_one ?_ | refine a_cons ?_ | refine o_one ?_ | refine o_cons ?_ | refine e_cmp ?_ | refine e_cmp2 ?_ | refine e_attr ?_ | refine e_sub ?_ | refine e_sliceL ?_ | refine e_sliceU ?_ | refine e_tup ?_ | refine e_list ?_ | refine e_call ?_ | refine e_new ?_ | refine e_bltn ?_ | refine e_isi ?_ | refine e_meth ?_ | refine es_nil ?_ | refine es_cons ?_ | refine tr_in ?_ | refine br_t ?_ | refine br_f ?_ | refine br_nt ?_ | refine br_nf ?_ | refine int_in ?_ | refine add_i ?_ | refine sub_i ?_ | refine eq_i ?_ | refine ne_i ?_ | refine lt_i ?_ | refine le_i ?_ | refine gt_i ?_ | refine ge_i ?_ | refine len_t ?_ | refine len_f ?_ | refine int_b ?_ | refine s_nil ?_ | refine s_expr ?_ | refine s_assign ?_ | refine s_setattr ?_ | refine s_setitem ?_ | refine s_if ?_ | refine s_ite ?_ | refine s_ret ?_ | refine fq_ret ?_ | refine fq_next ?_ | refine sq_next ?_ | refine sq_ret ?_) | (with_reducible refine e_loc (by assumption) ?_) | (with_reducible refine br_dt (by assumption) ?_) | (with_reducible refine br_df (by assumption) ?_) | (with_reducible refine br_ndt (by assumption) ?_) | (with_reducible refine br_ndf (by assumption) ?_) | (refine getA_in (by assumption) (by assumption) (by rfl) ?_) | (refine len_l (by assumption) ?_) | (refine list_l (by assumption) ?_)))
    refine sub_f (Int.natCast_nonneg _) (Int.ofNat_lt.mpr hks) fun y => ?_
    (repeat (first | (with_reducible refine e_here ?_) | (refine e_skip (by decide) ?_) | (refine isi_in (b := true) (by rfl) ?_) | (refine isi_in (b := false) (by rfl) ?_) | (refine e_glob (by rfl) ?_) | (with_reducible first | refine e_int ?_ | refine e_bool ?_ | refine e_none ?_ | refine e_str ?_ | refine e_bin ?_ | refine e_neg ?_ | refine e_not ?_ | refine e_and ?_ | refine e_or ?_ | refine a_one ?_ | refine a_cons ?_ | refine o_one ?_ | refine o_cons ?_ | refine e_cmp ?_ | refine e_cmp2 ?_ | refine e_attr ?_ | refine e_sub ?_ | refine e_sliceL ?_ | refine e_sliceU ?_ | refine e_tup ?_ | refine e_list ?_ | refine e_call ?_ | refine e_new ?_ | refine e_bltn ?_ | refine e_isi ?_ | refine e_meth ?_ | refine es_nil ?_ | refine es_cons ?_ | refine tr_in ?_ | refine br_t ?_ | refine br_f ?_ | refine br_nt ?_ | refine br_nf ?_ | refine int_in ?_ | refine add_i ?_ | refine sub_i ?_ | refine eq_i ?_ | refine ne_i ?_ | refine lt_i ?_ | refine le_i ?_ | refine gt_i ?_ | refine ge_i ?_ | refine len_t ?_ | refine len_f ?_ | refine int_b ?_ | refine s_nil ?_ | refine s_expr ?_ | refine s_assign ?_ | refine s_setattr ?_ | refine s_setitem ?_ | refine s_if ?_ | refine s_ite ?_ | refine s_ret ?_ | refine fq_ret ?_ | refine fq_next ?_ | refine sq_next ?_ | refine sq_ret ?_) | (with_reducible refine e_loc (by assumption) ?_) | (with_reducible refine br_dt (by assumption) ?_) | (with_reducible refine br_df (by assumption) ?_) | (with_reducible refine br_ndt (by assumption) ?_) | (with_reducible refine br_ndf (by assumption) ?_) | (refine getA_in (by assumption) (by assumption) (by rfl) ?_) | (refine len_l (by assumption) ?_) | (refine list_l (by assumption) ?_)))
    refine mod_i (by decide) ?_
    (repeat (first | (with_reducible refine e_here ?_) | (refine e_skip (by decide) ?_) | (refine isi_in (b := true) (by rfl) ?_) | (refine isi_in (b := false) (by rfl) ?_) | (refine e_glob (by rfl) ?_) | (with_reducible first | refine e_int ?_ | refine e_bool ?_ | refine e_none ?_ | refine e_str ?_ | refine e_bin ?_ | refine e_neg ?_ | refine e_not ?_ | refine e_and ?_ | refine e_or ?_ | refine a_one ?_ | refine a_cons ?_ | refine o_one ?_ | refine o_cons ?_ | refine e_cmp ?_ | refine e_cmp2 ?_ | refine e_attr ?_ | refine e_sub ?_ | refine e_sliceL ?_ | refine e_sliceU ?_ | refine e_tup ?_ | refine e_list ?_ | refine e_call ?_ | refine e_new ?_ | refine e_bltn ?_ | refine e_isi ?_ | refine e_meth ?_ | refine es_nil ?_ | refine es_cons ?_ | refine tr_in ?_ | refine br_t ?_ | refine br_f ?_ | refine br_nt ?_ | refine br_nf ?_ | refine int_in ?_ | refine add_i ?_ | refine sub_i ?_ | refine eq_i ?_ | refine ne_i ?_ | refine lt_i ?_ | refine le_i ?_ | refine gt_i ?_ | refine ge_i ?_ | refine len_t ?_ | refine len_f ?_ | refine int_b ?_ | refine s_nil ?_ | refine s_expr ?_ | refine s_assign ?_ | refine s_setattr ?_ | refine s_setitem ?_ | refine s_if ?_ | refine s_ite ?_ | refine s_ret ?_ | refine fq_ret ?_ | refine fq_next ?_ | refine sq_next ?_ | refine sq_ret ?_) | (with_reducible refine e_loc (by assumption) ?_) | (with_reducible refine br_dt (by assumption) ?_) | (with_reducible refine br_df (by assumption) ?_) | (with_reducible refine br_ndt (by assumption) ?_) | (with_reducible refine br_ndf (by assumption) ?_) | (refine getA_in (by assumption) (by assumption) (by rfl) ?_) | (refine len_l (by assumption) ?_) | (refine list_l (by assumption) ?_)))
    refine br_d (fun h1 => ?_) (fun h1 => ?_)
    · exact law_put G D (by omega) hI' loc_here hks (fun ρ' μ' x _ => fin ρ' μ' x) rfl
    · refine law_take G D (by omega) hI' loc_here hks (fun ρ' μ' x _ => fin ρ' μ' ?_) rfl
      obtain ⟨b, rl, R, H, w, hR, hz, hz'⟩ := x
      exact ⟨b, rl, R, H, w, hR, by omega, hz'⟩
  · obtain ⟨k, ek, hI⟩ := hJ
    exact law_end G D (n := 40 * k) (k := k) (by omega) (by omega) hI (fun _ => rfl) rfl
end

end Mine

namespace Mine
open PySem PySem.W PySem.Calls PyProof.Rows
theorem all_defs {w : World} {base : Heap} {p : Program} {loose : List Str} {mg mb : Str → Option Value} (X : (Kq w.params).In base) (T : TopRead p loose mg mb base) : DD (ctx w base) :=
  ⟨d_is_from X T, d_Post___init__ X T, d_Post_put X T, d_Post_take X T, d_Post_under X T, d__law_row_by X T, d__law_place_by X T, d__law_taken X T, d__law_class_good X T, d_law X T⟩
end Mine
open PySem PySem.W PyProof.Rows Mine
set_option maxRecDepth 100000 in
set_option maxHeartbeats 8000000 in
theorem PySem.Challenge.cw_uf040019_01_holds : PySem.Challenge.rw_uf040019_01.Holds := by
  w_on
  o_law
  refine own_head (by assumption) ?hw ?hc
  case hw => w_witness2
  case hc =>
  intro w s₀ s₁ mg mb G Y fa o pm cd doc dV kV ho hd hcd hD hmg hg args vals as hpre hlay hrd hwl hlo
  clear ho hd hcd hD
  have KX := kq_of Y
  clear Y
  refine Ground.open G ?_
  intro T B D TE TW
  have TR := topRead_of T
  clear B D TE TW
  have hfa' : fa = 181 := Value.ref.inj (Option.some.inj (hmg.symm.trans (law_at KX TR)))
  clear hmg
  subst hfa'
  wrow_args hpre hlay hrd hwl hlo
  all_goals refine enter_call ?_
  with_reducible rename IntsAre _ _ => hI
  with_reducible rename Heap.IsList _ _ _ => hL
  with_reducible rename ¬ _ < _ => hlen
  have hn : ((_ : List Int).length) ≤ 63 := Int.ofNat_le.mp (Int.not_lt.mp hlen)
  exact top_sound (c := ctx w s₁.heap) rfl (by decide) rfl hL hI (Nat.le_trans hn (by decide)) (law_mini (good KX TR) (all_defs KX TR) (Nat.le_trans hn (by decide))) fun s' hk hos hgens => GoodW.toG ⟨.inl ⟨_, _, _, rfl, fun _ => rfl, .bool true, postW_of (X := true) rfl (by first | rfl | kernel_rfl | (simp; done)) rfl, fun _ => ⟨List.nodup_nil, nofun⟩⟩, hk, hos, hgens.trans hg⟩

