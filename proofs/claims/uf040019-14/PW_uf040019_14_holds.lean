import PyProof.Rows.All
import Wide.All
import OpenK.AllK
import Wide.FinOn
import PyProof.StrCalls2
import PyProof.StrBlock2
import PyProof.StrCaseBound
import PyProof.StrCalls6
import KE.IntText
import PyProof.StrLawsReplace
import PyProof.StrLawsIdx
import PyProof.StrBlock
import OpenK.KMore
import PyProof.StationsW
import PyProof.Rows.Catch
import PyProof.Rows.TupIter
import PyProof.SliceMore
import PyProof.Rows.TupMore
import KE.LcSums
import KE.KIntText
import PyProof.TupleOfSeq
import KE.KTryMore
import KE.KItem
import KE.IntTextLaws
import PyProof.FitsReplace
import PySem.Challenge.RW_uf040019_14
set_option Elab.async false
set_option autoImplicit false
namespace Mine
open PySem


theorem ns {α : Type} {x : α} {P : Prop} (h : none = some x) : P := by cases h
theorem fb {P : Prop} (h : false = true) : P := by cases h

set_option genSizeOf false in
inductive V where
  | none
  | bool (b : Bool)
  | int (i : Int)
  | str (s : Str)
  | tup (l : List V)
  | ref (a : Addr)
  | rng (lo hi step : Int)
  | exc (cls : String)
  | frz (ns : List Int)
  | gd (kvs : List (String × Int))

set_option genSizeOf false in
set_option genInjectivity false in
inductive O where
  | list (l : List V)
  | inst (cls : String) (d : Addr)
  | attrs (fs : List (String × V))

noncomputable abbrev Mem := Addr → Option O
noncomputable abbrev Loc := String → Option V

noncomputable def updM (μ : Mem) (a : Addr) (o : O) : Mem := fun x => if x = a then some o else μ x
noncomputable def updL (ρ : Loc) (a : String) (v : V) : Loc := fun x => if x = a then some v else ρ x
noncomputable def delL (ρ : Loc) (a : String) : Loc := fun x => if x = a then none else ρ x

theorem updM_self (μ : Mem) (a : Addr) (o : O) : updM μ a o a = some o := by simp [updM]
theorem updM_ne {μ : Mem} {a b : Addr} {o : O} (h : b ≠ a) : updM μ a o b = μ b := by simp [updM, h]
theorem updL_at (ρ : Loc) (a b : String) (v : V) : updL ρ a v b = if b = a then some v else ρ b := rfl
set_option genSizeOf false in
set_option genInjectivity false in
inductive Cl where
  | ty (n : String)

set_option genSizeOf false in
set_option genInjectivity false in
inductive E where
  | none (p : Pos)
  | bool (b : Bool) (p : Pos)
  | int (i : Int) (p : Pos)
  | str (s : String) (p : Pos)
  | loc (x : String) (p : Pos)
  | glob (x : String) (p : Pos)
  | bin (op : Operator) (l r : E) (p : Pos)
  | neg (e : E) (p : Pos)
  | not (e : E) (p : Pos)
  | and (es : List E) (p : Pos)
  | or (es : List E) (p : Pos)
  | cmp (op : CmpOp) (l r : E) (p : Pos)
  | cmp2 (op₁ op₂ : CmpOp) (a b c : E) (p : Pos)
  | attr (o : E) (a : String) (p : Pos)
  | sub (o i : E) (p : Pos)
  | sliceL (o l : E) (ps p : Pos)
  | sliceU (o u : E) (ps p : Pos)
  | sliceLU (o l u : E) (ps p : Pos)
  | tup (es : List E) (k : Nat) (p : Pos)
  | list (es : List E) (p : Pos)
  | call (f : String) (args : List E) (pf p : Pos)
  | new (c : String) (args : List E) (pf p : Pos)
  | bltn (f : String) (args : List E) (pf p : Pos)
  | isi (e : E) (c : Cl) (pf pc p : Pos)
  | meth (o : E) (m : String) (args : List E) (pa p : Pos)
  | comp (elt : E) (x : String) (cs : List String) (it : E) (ifs : List E) (sc : Scope) (px p : Pos)
  | repl (o : E) (y z : String) (py pz pa p : Pos)

set_option genSizeOf false in
set_option genInjectivity false in
inductive S where
  | expr (e : E) (p : Pos)
  | assign (x : String) (e : E) (px p : Pos)
  | setattr (o : E) (a : String) (e : E) (pa p : Pos)
  | setitem (o i e : E) (ps p : Pos)
  | unpack (xs : List (String × Pos)) (e : E) (k : Nat) (pt p : Pos)
  | ite (c : E) (t f : List S) (p : Pos)
  | for_ (x : String) (it : E) (body : List S) (px p : Pos)
  | ret (e : E) (p : Pos)
  | raise (cls msg : String) (pf pm pc p : Pos)
  | try_ (body : List S) (more : List (String × Pos × E × Pos × Pos)) (p : Pos)
  | pass (p : Pos)

end Mine

set_option autoImplicit false
namespace Mine
open PySem

noncomputable abbrev Sc := String → List V → Mem → (V → Mem → Prop) → (String → Mem → Prop) → Prop

noncomputable def lim : Nat := 1048576

noncomputable def truth : V → Option Bool
  | .bool b => some b
  | _ => none
noncomputable def tr (v : V) (k : Bool → Prop) : Prop := match truth v with
  | some b => k b
  | none => False
noncomputable def br (b : Bool) (A B : Prop) : Prop := (b = true → A) ∧ (b = false → B)

noncomputable def rdAll (f : V → Option PyData) : List V → Option (List PyData)
  | [] => some []
  | v :: r => match f v, rdAll f r with
    | some d, some ds => some (d :: ds)
    | _, _ => none
noncomputable def rd (μ : Mem) : Nat → V → Option PyData
  | 0, _ => none
  | n + 1, v => match v with
    | .none => some .none
    | .bool b => some (.bool b)
    | .int i => some (.int i)
    | .str s => if PyData.strOk s then some (.str s) else none
    | .tup l => (rdAll (rd μ n) l).map .tuple
    | .ref a => match μ a with
      | some (.list l) => (rdAll (rd μ n) l).map .list
      | _ => none
    | _ => none
noncomputable def deqD (a b : Option PyData) : Option Bool := match a with
  | some x => b.map fun y => PyData.eqv x y
  | none => none
noncomputable def deq (μ : Mem) (a b : V) : Option Bool := deqD (rd μ 8 a) (rd μ 8 b)

noncomputable def isO (v w : V) : Option Bool := match w with
  | .none => some (match v with | .none => true | _ => false)
  | _ => none

noncomputable def sIn (kvs : List (String × Int)) (x : Str) : Bool := kvs.any fun k => Str.ofString k.1 == x
noncomputable def sGet (kvs : List (String × Int)) (x : Str) : Option Int := (kvs.find? fun k => Str.ofString k.1 == x).map (·.2)
noncomputable def asSd (w : V) : Option (List (String × Int)) := match w with
  | .gd kvs => some kvs
  | _ => none
noncomputable def inO (v w : V) : Option Bool := match v with
  | .str x => match w with
    | .str y => some (Txt.contains y x)
    | w => (asSd w).map fun kvs => sIn kvs x
  | _ => none

noncomputable def intsO (a b : V) (k : Int → Int → Bool) : Option Bool := match a with
  | .int i => match b with
    | .int j => some (k i j)
    | _ => none
  | _ => none
noncomputable def cmpO (op : CmpOp) (μ : Mem) (a b : V) : Option Bool := match op with
  | .Eq => deq μ a b
  | .NotEq => (deq μ a b).map (!·)
  | .Lt => intsO a b fun i j => decide (i < j)
  | .LtE => intsO a b fun i j => decide (i ≤ j)
  | .Gt => intsO a b fun i j => decide (j < i)
  | .GtE => intsO a b fun i j => decide (j ≤ i)
  | .Is => isO a b
  | .IsNot => (isO a b).map (!·)
  | .In => inO a b
  | .NotIn => (inO a b).map (!·)
noncomputable def cmpW (op : CmpOp) (μ : Mem) (a b : V) (Q : V → Mem → Prop) : Prop := match cmpO op μ a b with
  | some c => Q (.bool c) μ
  | none => False

noncomputable def newL (μ : Mem) (l : List V) (Q : V → Mem → Prop) : Prop := l.length ≤ lim ∧ ∀ n, μ n = none → Q (.ref n) (updM μ n (.list l))

noncomputable def asInt (v : V) (k : Int → Prop) : Prop := match v with | .int i => k i | _ => False
noncomputable def asL (μ : Mem) (v : V) (k : Addr → List V → Prop) : Prop := match v with
  | .ref x => (match μ x with | some (.list l) => k x l | _ => False)
  | _ => False
noncomputable def asS (v : V) (k : Str → Prop) : Prop := match v with | .str x => k x | _ => False
noncomputable def asT (v : V) (k : List V → Prop) : Prop := match v with | .tup l => k l | _ => False
noncomputable def one (vs : List V) (k : V → Prop) : Prop := match vs with | [v] => k v | _ => False
noncomputable def two (vs : List V) (k : V → V → Prop) : Prop := match vs with | [v, w] => k v w | _ => False
noncomputable def ints2 (a b : V) (k : Int → Int → Prop) : Prop := asInt a fun i => asInt b fun j => k i j

noncomputable def binW (op : Operator) (a b : V) (μ : Mem) (Q : V → Mem → Prop) : Prop := match op with
  | .Add => (match a with
    | .int i => asInt b fun j => Q (.int (i + j)) μ
    | .str x => asS b fun y => x.length + y.length ≤ lim ∧ Q (.str (x ++ y)) μ
    | .tup l => asT b fun k => l ≠ [] ∧ k ≠ [] ∧ (l ++ k).length ≤ lim ∧ Q (.tup (l ++ k)) μ
    | a => asL μ a fun _ l => asL μ b fun _ k => newL μ (l ++ k) Q)
  | .Sub => ints2 a b fun i j => Q (.int (i - j)) μ
  | .Mult => (match a with
    | .int i => asInt b fun j => (i.natAbs < 2 ^ 63 ∨ j.natAbs < 2 ^ 63) ∧ Q (.int (i * j)) μ
    | .str x => asInt b fun n => MulOk x n ∧ Q (.str (Txt.mul x n)) μ
    | a => asL μ a fun _ l => asInt b fun n => 0 ≤ n ∧ n ≤ 1000000 ∧ n.toNat * l.length ≤ lim ∧ newL μ (List.replicate n.toNat l).flatten Q)
  | .FloorDiv => ints2 a b fun i j => 0 < j ∧ j < 1000000000 ∧ Q (.int (i / j)) μ
  | .Mod => ints2 a b fun i j => 0 < j ∧ Q (.int (i % j)) μ
  | .Pow => ints2 a b fun i j => 0 ≤ j ∧ j ≤ 1000 ∧ i.natAbs < 2 ^ 63 ∧ Q (.int (i ^ j.toNat)) μ
  | _ => False

noncomputable def getA (μ : Mem) (v : V) (a : String) : Option V := match v with
  | .ref x => match μ x with
    | some (.inst _ d) => match μ d with
      | some (.attrs fs) => fs.lookup a
      | _ => none
    | _ => none
  | _ => none

noncomputable def putA (a : String) (v : V) : List (String × V) → List (String × V)
  | [] => [(a, v)]
  | (b, w) :: r => if b = a then (b, v) :: r else (b, w) :: putA a v r

noncomputable def idx (l : List V) (i : Int) : Option V := if 0 ≤ i then l[i.toNat]? else if 0 ≤ i + l.length then l[(i + l.length).toNat]? else none
noncomputable def subI (μ : Mem) (o : V) (i : Int) : Option V := match o with
  | .ref x => match μ x with
    | some (.list l) => idx l i
    | _ => none
  | .tup l => idx l i
  | .frz ns => if 0 ≤ i then (ns[i.toNat]?).map .int else none
  | .str x => if 0 ≤ i ∧ i < x.length ∧ x.length ≤ lim then some (.str (Txt.item x i)) else none
  | _ => none
noncomputable def subO (μ : Mem) (o i : V) : Option V := match i with
  | .int i => subI μ o i
  | .str x => (asSd o).bind fun kvs => (sGet kvs x).map .int
  | _ => none
noncomputable def optW (r : Option V) (μ : Mem) (Q : V → Mem → Prop) : Prop := match r with
  | some v => Q v μ
  | none => False

noncomputable def cut (lo : Option Int) (hi : Option Int) (l : List V) : List V :=
  let k := match hi with | some u => l.take u.toNat | none => l
  match lo with | some i => k.drop i.toNat | none => k
noncomputable def nn (i : Option Int) : Prop := match i with | some i => 0 ≤ i | none => True
noncomputable def sliceW (μ : Mem) (o : V) (lo hi : Option Int) (Q : V → Mem → Prop) : Prop := match o with
  | .ref x => match μ x with
    | some (.list l) => nn lo ∧ nn hi ∧ (lo = none ∨ hi = none) ∧ newL μ (cut lo hi l) Q
    | _ => False
  | .tup l => match lo with
    | some i => 1 ≤ i ∧ i ≤ l.length ∧ nn hi ∧ Q (.tup (cut lo hi l)) μ
    | none => False
  | .str x => x.length ≤ lim ∧ Q (.str (Txt.slice x lo hi)) μ
  | _ => False

noncomputable def rngItems (lo hi step : Int) : List V :=
  if step = 1 then (List.range (hi - lo).toNat).map fun (i : Nat) => V.int (lo + i)
  else []
noncomputable def itemsOf (μ : Mem) (v : V) : Option (List V) := match v with
  | .rng lo hi step => some (rngItems lo hi step)
  | .tup l => some l
  | .str x => if x.cps.all (· < 128) then some (x.cps.toList.map fun c => V.str ⟨#[c]⟩) else none
  | .ref x => match μ x with
    | some (.list l) => some l
    | _ => none
  | _ => none

noncomputable def tyO (μ : Mem) (v : V) : Option String := match v with
  | .none => some "NoneType"
  | .bool _ => some "bool"
  | .int _ => some "int"
  | .str _ => some "str"
  | .tup _ => some "tuple"
  | .ref x => match μ x with
    | some (.list _) => some "list"
    | _ => none
  | _ => none
noncomputable def isSub (x c : String) : Bool := x == c || c == "DebtError"
noncomputable def isiO (μ : Mem) (v : V) (c : Cl) : Option Bool := match c with
  | .ty n => if n = "int" ∨ n = "bool" ∨ n = "str" ∨ n = "tuple" ∨ n = "list" then (tyO μ v).map fun t => t == n || (t == "bool" && n == "int") else none

noncomputable def lenW (v : V) (μ : Mem) (Q : V → Mem → Prop) : Prop := match v with
  | .tup l => Q (.int l.length) μ
  | .frz ns => Q (.int ns.length) μ
  | .str x => x.length ≤ lim ∧ Q (.int x.length) μ
  | v => asL μ v fun _ l => Q (.int l.length) μ
noncomputable def mid (b : Int) : Prop := -2 ^ 62 < b ∧ b < 2 ^ 62
noncomputable def rngW (vs : List V) (μ : Mem) (Q : V → Mem → Prop) : Prop := one vs fun a => asInt a fun b => b ≤ lim ∧ -2 ^ 62 < b ∧ Q (.rng 0 b 1) μ
noncomputable def strOfW (v : V) (μ : Mem) (Q : V → Mem → Prop) : Prop := match v with
  | .int i => i.natAbs.log2 < 1920 ∧ Q (.str (Str.ofString (toString i))) μ
  | .str x => Q (.str x) μ
  | _ => False
noncomputable def bltnW (hd : Bool) (f : String) (vs : List V) (μ : Mem) (Q : V → Mem → Prop) : Prop :=
  if f = "len" then one vs fun v => lenW v μ Q
  else if f = "int" then one vs fun v => asS v fun x => x.length ≤ 640 ∧ optW ((intText? x).map .int) μ Q
  else if f = "str" then one vs fun v => strOfW v μ Q
  else if f = "tuple" then one vs fun v => asL μ v fun _ l => Q (.tup l) μ
  else if f = "min" then hd = false ∧ two vs fun a b => ints2 a b fun a b => Q (.int (min a b)) μ
  else if f = "max" then hd = false ∧ two vs fun a b => ints2 a b fun a b => Q (.int (max a b)) μ
  else if f = "range" then rngW vs μ Q
  else False

structure Sig where
  fns : List String
  clss : List String
  attrs : List String
  meths : List (String × String)
  excs : List String
  consts : List (String × V)

inductive Cal where
  | own (f : String) (self : Addr)
  | lst (m : String) (a : Addr)
  | str (m : String) (x : Str)
noncomputable def calO (sg : Sig) (μ : Mem) (v : V) (m : String) : Option Cal := match v with
  | .ref x => match μ x with
    | some (.inst c d) => match μ d with
      | some (.attrs fs) => if (fs.lookup m).isNone && sg.meths.contains (c, m) then some (.own (c ++ "." ++ m) x) else none
      | _ => none
    | some (.list _) => if m = "append" ∨ m = "extend" ∨ m = "pop" then some (.lst m x) else none
    | _ => none
  | .str x => if m = "split" ∨ m = "upper" ∨ m = "join" then some (.str m x) else none
  | _ => none
noncomputable def txts : List V → Option (List Str)
  | [] => some []
  | .str x :: r => (txts r).map (x :: ·)
  | _ => none
noncomputable def txtsW (l : List V) (k : List Str → Prop) : Prop := match txts l with | some ts => k ts | none => False
noncomputable def strW (m : String) (x : Str) (vs : List V) (μ : Mem) (Q : V → Mem → Prop) : Prop :=
  if m = "upper" then vs = [] ∧ x.length ≤ lim ∧ Q (.str (Txt.upper x)) μ
  else one vs fun v => if m = "split" then asS v fun y => y.length ≠ 0 ∧ x.length ≤ lim ∧ newL μ ((Txt.split x y).map V.str) Q
  else if m = "join" then asL μ v fun _ l => txtsW l fun ts => JoinOk x ts = true ∧ Q (.str (Txt.join x ts)) μ
  else False
noncomputable def lstW (m : String) (a : Addr) (vs : List V) (μ : Mem) (Q : V → Mem → Prop) : Prop := asL μ (.ref a) fun _ l =>
  if m = "append" then one vs fun v => l.length < lim ∧ Q .none (updM μ a (.list (l ++ [v])))
  else if m = "extend" then one vs fun v => asL μ v fun b k => b ≠ a ∧ l.length + k.length ≤ lim ∧ Q .none (updM μ a (.list (l ++ k)))
  else if m = "pop" then one vs fun v => asInt v fun i => 0 ≤ i ∧ (match l[i.toNat]? with | some v => Q v (updM μ a (.list (l.eraseIdx i.toNat))) | none => False)
  else False

inductive Fl where
  | next
  | ret (v : V)
noncomputable def sq (R : Loc → Mem → Prop) (Q : Fl → Loc → Mem → Prop) : Fl → Loc → Mem → Prop := fun fl ρ μ => match fl with | .next => R ρ μ | .ret v => Q (.ret v) ρ μ
noncomputable def capL (cs : List String) (ρ : Loc) : Loc := fun y => if cs.contains y then ρ y else none
noncomputable def compT (n : Addr) (J : Mem → Prop) (r : Option V) (μ' : Mem) : Prop := match r with
  | some r => ∃ acc, μ' n = some (.list acc) ∧ acc.length < lim ∧ J (updM μ' n (.list (acc ++ [r])))
  | none => J μ'
noncomputable def compI (n : Addr) (still : Mem → Prop) (B : V → Mem → (Option V → Mem → Prop) → Prop) (items : List V) (μ : Mem) (Q : Mem → Prop) : Prop :=
  ∃ I : Nat → Mem → Prop, I 0 μ ∧ (∀ k μ, I k μ → still μ) ∧ (∀ k v μ, items[k]? = some v → I k μ → B v μ (compT n (I (k + 1)))) ∧ ∀ μ, I items.length μ → Q μ
noncomputable def forI (still : Mem → Prop) (x : String) (B : Loc → Mem → (Fl → Loc → Mem → Prop) → Prop) (items : List V) (ρ : Loc) (μ : Mem) (Q : Fl → Loc → Mem → Prop) : Prop :=
  ∃ I : Nat → Loc → Mem → Prop, I 0 ρ μ ∧ (∀ k ρ μ, I k ρ μ → still μ) ∧ (∀ k v ρ μ, items[k]? = some v → I k ρ μ → B (updL ρ x v) μ (sq (I (k + 1)) Q)) ∧ ∀ ρ μ, I items.length ρ μ → Q .next ρ μ
section
variable (sg : Sig) (sc : Bool → Sc)

mutual
noncomputable def wpE (hd : Bool) : E → Loc → Mem → (V → Mem → Prop) → (String → Mem → Prop) → Prop
  | .none _, _, μ, Q, _ => Q .none μ
  | .bool b _, _, μ, Q, _ => Q (.bool b) μ
  | .int i _, _, μ, Q, _ => Q (.int i) μ
  | .str s _, _, μ, Q, _ => Q (.str (Str.ofString s)) μ
  | .loc x _, ρ, μ, Q, _ => optW (ρ x) μ Q
  | .glob x _, _, μ, Q, _ => optW (sg.consts.lookup x) μ Q
  | .bin op l r _, ρ, μ, Q, X => wpE hd l ρ μ (fun a μ₁ => wpE hd r ρ μ₁ (fun b μ₂ => binW op a b μ₂ Q) X) X
  | .neg e _, ρ, μ, Q, X => wpE hd e ρ μ (fun v μ₁ => asInt v fun i => Q (.int (-i)) μ₁) X
  | .not e _, ρ, μ, Q, X => wpE hd e ρ μ (fun v μ₁ => tr v fun b => Q (.bool (!b)) μ₁) X
  | .and es _, ρ, μ, Q, X => wpAnd hd es ρ μ Q X
  | .or es _, ρ, μ, Q, X => wpOr hd es ρ μ Q X
  | .cmp op l r _, ρ, μ, Q, X => wpE hd l ρ μ (fun a μ₁ => wpE hd r ρ μ₁ (fun b μ₂ => cmpW op μ₂ a b Q) X) X
  | .cmp2 op₁ op₂ a b c _, ρ, μ, Q, X => wpE hd a ρ μ (fun va μ₁ => wpE hd b ρ μ₁ (fun vb μ₂ => cmpW op₁ μ₂ va vb fun t μ₃ => tr t fun y =>
      br y (wpE hd c ρ μ₃ (fun vc μ₄ => cmpW op₂ μ₄ vb vc Q) X) (Q t μ₃)) X) X
  | .attr o a _, ρ, μ, Q, X => wpE hd o ρ μ (fun v μ₁ => optW (getA μ₁ v a) μ₁ Q) X
  | .sub o i _, ρ, μ, Q, X => wpE hd o ρ μ (fun v μ₁ => wpE hd i ρ μ₁ (fun j μ₂ => optW (subO μ₂ v j) μ₂ Q) X) X
  | .sliceL o l _ _, ρ, μ, Q, X => wpE hd o ρ μ (fun v μ₁ => wpE hd l ρ μ₁ (fun i μ₂ => asInt i fun i => sliceW μ₂ v (some i) none Q) X) X
  | .sliceU o u _ _, ρ, μ, Q, X => wpE hd o ρ μ (fun v μ₁ => wpE hd u ρ μ₁ (fun i μ₂ => asInt i fun i => sliceW μ₂ v none (some i) Q) X) X
  | .sliceLU o l u _ _, ρ, μ, Q, X => wpE hd o ρ μ (fun v μ₁ => wpE hd l ρ μ₁ (fun i μ₂ => wpE hd u ρ μ₂ (fun j μ₃ => asInt i fun i => asInt j fun j => sliceW μ₃ v (some i) (some j) Q) X) X) X
  | .tup es _ _, ρ, μ, Q, X => wpEs hd es ρ μ (fun vs μ₁ => Q (.tup vs) μ₁) X
  | .list es _, ρ, μ, Q, X => wpEs hd es ρ μ (fun vs μ₁ => newL μ₁ vs Q) X
  | .call f es _ _, ρ, μ, Q, X => wpEs hd es ρ μ (fun vs μ₁ => sc hd f vs μ₁ Q X) X
  | .new c es _ _, ρ, μ, Q, X => wpEs hd es ρ μ (fun vs μ₁ => ∀ a d, μ₁ a = none → μ₁ d = none → d ≠ a →
      sc hd (c ++ ".__init__") (.ref a :: vs) (updM (updM μ₁ d (.attrs [])) a (.inst c d)) (fun v μ₂ => (match v with | .none => True | _ => False) ∧ Q (.ref a) μ₂) X) X
  | .bltn f es _ _, ρ, μ, Q, X => wpEs hd es ρ μ (fun vs μ₁ => bltnW hd f vs μ₁ Q) X
  | .isi e c _ _ _, ρ, μ, Q, X => wpE hd e ρ μ (fun v μ₁ => match isiO μ₁ v c with | some b => Q (.bool b) μ₁ | none => False) X
  | .meth o m es _ _, ρ, μ, Q, X => wpE hd o ρ μ (fun v μ₁ => match calO sg μ₁ v m with
      | some (.own f a) => wpEs hd es ρ μ₁ (fun vs μ₂ => sc hd f (.ref a :: vs) μ₂ Q X) X
      | some (.lst m a) => wpEs hd es ρ μ₁ (fun vs μ₂ => lstW m a vs μ₂ Q) X
      | some (.str m x) => wpEs hd es ρ μ₁ (fun vs μ₂ => strW m x vs μ₂ Q) X
      | none => False) X
  | .comp elt x cs it ifs _ _ _, ρ, μ, Q, X => hd = false ∧ wpE hd it ρ μ (fun v μ₁ => match itemsOf μ₁ v with
      | some items => ∀ n, μ₁ n = none → compI n (fun μ' => itemsOf μ' v = some items) (fun w μ₂ k => wpIf hd ifs (updL (capL cs ρ) x w) μ₂ fun b μ₃ =>
          br b (wpE hd elt (updL (capL cs ρ) x w) μ₃ (fun r μ' => k (some r) μ') X) (k none μ₃)) items (updM μ₁ n (.list [])) (Q (.ref n))
      | none => False) X
  | .repl _ _ _ _ _ _ _, _, _, _, _ => False
noncomputable def wpIf (hd : Bool) : List E → Loc → Mem → (Bool → Mem → Prop) → Prop
  | [], _, μ, k => k true μ
  | e :: _, ρ, μ, k => wpE hd e ρ μ (fun v μ₁ => tr v fun b => k b μ₁) fun _ _ => False
noncomputable def wpEs (hd : Bool) : List E → Loc → Mem → (List V → Mem → Prop) → (String → Mem → Prop) → Prop
  | [], _, μ, Q, _ => Q [] μ
  | e :: es, ρ, μ, Q, X => wpE hd e ρ μ (fun v μ₁ => wpEs hd es ρ μ₁ (fun vs μ₂ => Q (v :: vs) μ₂) X) X
noncomputable def wpAnd (hd : Bool) : List E → Loc → Mem → (V → Mem → Prop) → (String → Mem → Prop) → Prop
  | [], _, _, _, _ => False
  | e :: es, ρ, μ, Q, X => match es with
    | [] => wpE hd e ρ μ Q X
    | _ :: _ => wpE hd e ρ μ (fun v μ₁ => tr v fun b => br b (wpAnd hd es ρ μ₁ Q X) (Q v μ₁)) X
noncomputable def wpOr (hd : Bool) : List E → Loc → Mem → (V → Mem → Prop) → (String → Mem → Prop) → Prop
  | [], _, _, _, _ => False
  | e :: es, ρ, μ, Q, X => match es with
    | [] => wpE hd e ρ μ Q X
    | _ :: _ => wpE hd e ρ μ (fun v μ₁ => tr v fun b => br b (Q v μ₁) (wpOr hd es ρ μ₁ Q X)) X
end

noncomputable def moreW (x : String) (ρ : Loc) (μ : Mem) (Q : Fl → Loc → Mem → Prop) : List (String × Pos × E × Pos × Pos) → Prop
  | [] => False
  | (c, _, e, _, _) :: r => if isSub x c then wpE sg sc true e ρ μ (fun v μ₁ => Q (.ret v) ρ μ₁) (fun _ _ => False) else moreW x ρ μ Q r

noncomputable def bindAll : List String → List V → Loc → Option Loc
  | [], [], ρ => some ρ
  | x :: xs, v :: vs, ρ => bindAll xs vs (updL ρ x v)
  | _, _, _ => none

mutual
noncomputable def wpS (hd : Bool) : S → Loc → Mem → (Fl → Loc → Mem → Prop) → (String → Loc → Mem → Prop) → Prop
  | .expr e _, ρ, μ, Q, X => wpE sg sc hd e ρ μ (fun _ μ₁ => Q .next ρ μ₁) (fun x μ₁ => X x ρ μ₁)
  | .assign x e _ _, ρ, μ, Q, X => wpE sg sc hd e ρ μ (fun v μ₁ => Q .next (updL ρ x v) μ₁) (fun x μ₁ => X x ρ μ₁)
  | .setattr o a e _ _, ρ, μ, Q, X => wpE sg sc hd e ρ μ (fun v μ₁ => wpE sg sc hd o ρ μ₁ (fun w μ₂ => match w with
      | .ref x => (match μ₂ x with
        | some (.inst _ d) => (match μ₂ d with
          | some (.attrs fs) => fs.length < 900 ∧ Q .next ρ (updM μ₂ d (.attrs (putA a v fs)))
          | _ => False)
        | _ => False)
      | _ => False) (fun x μ₁ => X x ρ μ₁)) (fun x μ₁ => X x ρ μ₁)
  | .setitem o i e _ _, ρ, μ, Q, X => wpE sg sc hd e ρ μ (fun v μ₁ => wpE sg sc hd o ρ μ₁ (fun w μ₂ => wpE sg sc hd i ρ μ₂ (fun j μ₃ => match w, j with
      | .ref x, .int k => (match μ₃ x with
        | some (.list l) => 0 ≤ k ∧ k < l.length ∧ Q .next ρ (updM μ₃ x (.list (l.set k.toNat v)))
        | _ => False)
      | _, _ => False) (fun x μ₁ => X x ρ μ₁)) (fun x μ₁ => X x ρ μ₁)) (fun x μ₁ => X x ρ μ₁)
  | .unpack xs e _ _ _, ρ, μ, Q, X => hd = false ∧ wpE sg sc hd e ρ μ (fun v μ₁ => asT v fun l => match bindAll (xs.map (·.1)) l ρ with
        | some ρ' => Q .next ρ' μ₁
        | none => False) (fun x μ₁ => X x ρ μ₁)
  | .ite c t f _, ρ, μ, Q, X => wpE sg sc hd c ρ μ (fun v μ₁ => tr v fun b => br b (wpSs hd t ρ μ₁ Q X) (wpSs hd f ρ μ₁ Q X)) (fun x μ₁ => X x ρ μ₁)
  | .for_ x it body _ _, ρ, μ, Q, X => hd = false ∧ wpE sg sc hd it ρ μ (fun v μ₁ => match itemsOf μ₁ v with
      | some items => forI (fun μ' => itemsOf μ' v = some items) x (fun ρ' μ' k => wpSs hd body ρ' μ' k X) items ρ μ₁ Q
      | none => False) (fun x μ₁ => X x ρ μ₁)
  | .ret e _, ρ, μ, Q, X => wpE sg sc hd e ρ μ (fun v μ₁ => Q (.ret v) ρ μ₁) (fun x μ₁ => X x ρ μ₁)
  | .raise c _ _ _ _ _, ρ, μ, _, X => hd = false ∧ X c ρ μ
  | .try_ body more _, ρ, μ, Q, _ => hd = false ∧ wpSs false body ρ μ Q fun x ρ₁ μ₁ => moreW sg sc x ρ₁ μ₁ Q more
  | .pass _, ρ, μ, Q, _ => Q .next ρ μ
noncomputable def wpSs (hd : Bool) : List S → Loc → Mem → (Fl → Loc → Mem → Prop) → (String → Loc → Mem → Prop) → Prop
  | [], ρ, μ, Q, _ => Q .next ρ μ
  | s :: r, ρ, μ, Q, X => wpS hd s ρ μ (fun fl ρ₁ μ₁ => match fl with
      | .next => wpSs hd r ρ₁ μ₁ Q X
      | .ret v => Q (.ret v) ρ₁ μ₁) X
end
end
end Mine

set_option autoImplicit false
namespace Mine
open PySem

mutual
noncomputable def toE : E → Expr
  | .none p => .Constant .none 0 p
  | .bool b p => .Constant (.bool b) 0 p
  | .int i p => .Constant (.int i) 0 p
  | .str s p => .Constant (.str (Str.ofString s)) 0 p
  | .loc x p => .Name (Str.ofString x) p
  | .glob x p => .Name (Str.ofString x) p
  | .bin op l r p => .BinOp (toE l) op (toE r) p
  | .neg e p => .UnaryOp .USub (toE e) p
  | .not e p => .UnaryOp .Not (toE e) p
  | .and es p => .BoolOp .And (toEs es) p
  | .or es p => .BoolOp .Or (toEs es) p
  | .cmp op l r p => .Compare (toE l) [op] [toE r] p
  | .cmp2 op₁ op₂ a b c p => .Compare (toE a) [op₁, op₂] [toE b, toE c] p
  | .attr o a p => .Attribute (toE o) (Str.ofString a) p
  | .sub o i p => .Subscript (toE o) (toE i) p
  | .sliceL o l ps p => .Subscript (toE o) (.Slice (some (toE l)) none none ps) p
  | .sliceU o u ps p => .Subscript (toE o) (.Slice none (some (toE u)) none ps) p
  | .sliceLU o l u ps p => .Subscript (toE o) (.Slice (some (toE l)) (some (toE u)) none ps) p
  | .tup es k p => .Tuple (toEs es) k p
  | .list es p => .List (toEs es) p
  | .call f es pf p => .Call (.Name (Str.ofString f) pf) (toEs es) [] p
  | .new c es pf p => .Call (.Name (Str.ofString c) pf) (toEs es) [] p
  | .bltn f es pf p => .Call (.Name (Str.ofString f) pf) (toEs es) [] p
  | .isi e c pf pc p => .Call (.Name (Str.ofString "isinstance") pf) [toE e, match c with
      | .ty n => .Name (Str.ofString n) pc] [] p
  | .meth o m es pa p => .Call (.Attribute (toE o) (Str.ofString m) pa) (toEs es) [] p
  | .repl o y z py pz pa p => .Call (.Attribute (toE o) (Str.ofString "replace") pa) [.Constant (.str (Str.ofString y)) 0 py, .Constant (.str (Str.ofString z)) 0 pz] [] p
  | .comp elt x _ it ifs sc px p => .ListComp (toE elt) [⟨.Name (Str.ofString x) px, toE it, toEs ifs, 0⟩] sc p
noncomputable def toEs : List E → List Expr
  | [] => []
  | e :: es => toE e :: toEs es
end

noncomputable def toMore : List (String × Pos × E × Pos × Pos) → List ExceptHandler
  | [] => []
  | (c, pc, e, pr, ph) :: r => .ExceptHandler (some (.Name (Str.ofString c) pc)) none [.Return (some (toE e)) pr] ph :: toMore r

mutual
noncomputable def toS : S → Stmt
  | .expr e p => .Expr (toE e) p
  | .assign x e px p => .Assign [.Name (Str.ofString x) px] (toE e) p
  | .setattr o a e pa p => .Assign [.Attribute (toE o) (Str.ofString a) pa] (toE e) p
  | .setitem o i e ps p => .Assign [.Subscript (toE o) (toE i) ps] (toE e) p
  | .unpack xs e k pt p => .Assign [.Tuple (xs.map fun x => .Name (Str.ofString x.1) x.2) k pt] (toE e) p
  | .ite c t f p => .If (toE c) (toSs t) (toSs f) p
  | .for_ x it body px p => .For (.Name (Str.ofString x) px) (toE it) (toSs body) [] p
  | .ret e p => .Return (some (toE e)) p
  | .raise c m pf pm pc p => .Raise (some (.Call (.Name (Str.ofString c) pf) [.Constant (.str (Str.ofString m)) 0 pm] [] pc)) none p
  | .try_ body more p => .Try (toSs body) (toMore more) [] [] p
  | .pass p => .Pass p
noncomputable def toSs : List S → List Stmt
  | [] => []
  | s :: r => toS s :: toSs r
end
end Mine

set_option autoImplicit false
namespace Mine
set_option linter.unusedVariables false
open PySem

theorem cut_eq {c : Nat} {a : List Nat} : ∀ {a' b b' : List Nat}, c ∉ a → c ∉ a' → (b = [] ∨ ∃ t, b = c :: t) → (b' = [] ∨ ∃ t, b' = c :: t) → a ++ b = a' ++ b' → a = a' ∧ b = b' := by
  induction a with
  | nil =>
    intro a' b b' _ h' hb _ e
    cases a' with
    | nil => exact ⟨rfl, e⟩
    | cons x a' =>
      rcases hb with rfl | ⟨t, rfl⟩
      · cases e
      · injection e with e1 _
        exact absurd (e1 ▸ List.mem_cons_self) h'
  | cons x a ih =>
    intro a' b b' h h' hb hb' e
    cases a' with
    | nil =>
      rcases hb' with rfl | ⟨t, rfl⟩
      · cases e
      · injection e with e1 _
        exact absurd (e1 ▸ List.mem_cons_self) h
    | cons y a' =>
      injection e with e1 e2
      obtain ⟨h1, h2⟩ := ih (fun z => h (.tail _ z)) (fun z => h' (.tail _ z)) hb hb' e2
      exact ⟨by rw [e1, h1], h2⟩
noncomputable def tailOf (c : Nat) (r : List Str) : List Nat := match r with | [] => [] | _ :: _ => c :: (Str.join ⟨#[c]⟩ r).cps.toList
theorem join_list (c : Nat) (p : Str) (r : List Str) : (Str.join ⟨#[c]⟩ (p :: r)).cps.toList = p.cps.toList ++ tailOf c r := by
  cases r with
  | nil => show p.cps.toList = _; exact (List.append_nil _).symm
  | cons q r =>
    show ((p.cps ++ #[c]) ++ (Str.join ⟨#[c]⟩ (q :: r)).cps).toList = _
    rw [Array.toList_append, Array.toList_append]
    show p.cps.toList ++ [c] ++ _ = p.cps.toList ++ c :: _
    rw [List.append_assoc]; rfl
theorem str_ext {x y : Str} (h : x.cps.toList = y.cps.toList) : x = y := by
  obtain ⟨a⟩ := x; obtain ⟨b⟩ := y
  exact congrArg Str.mk (Array.toList_inj.mp h)
theorem join_inj {c : Nat} {ps : List Str} : ∀ {p q : Str} {qs : List Str}, (∀ z ∈ p :: ps, c ∉ z.cps.toList) → (∀ z ∈ q :: qs, c ∉ z.cps.toList) → Str.join ⟨#[c]⟩ (p :: ps) = Str.join ⟨#[c]⟩ (q :: qs) → p = q ∧ ps = qs := by
  induction ps with
  | nil =>
    intro p q qs hp hq e
    have e := congrArg (fun x : Str => x.cps.toList) e
    simp only [join_list] at e
    have ht : ∀ r : List Str, tailOf c r = [] ∨ ∃ t, tailOf c r = c :: t := fun r => by
      cases r with
      | nil => exact .inl rfl
      | cons _ _ => exact .inr ⟨_, rfl⟩
    obtain ⟨h1, h2⟩ := cut_eq (hp p (.head _)) (hq q (.head _)) (ht _) (ht _) e
    refine ⟨str_ext h1, ?_⟩
    cases qs with
    | nil => rfl
    | cons _ _ => cases h2
  | cons p' ps ih =>
    intro p q qs hp hq e
    have e := congrArg (fun x : Str => x.cps.toList) e
    simp only [join_list] at e
    have ht : ∀ r : List Str, tailOf c r = [] ∨ ∃ t, tailOf c r = c :: t := fun r => by
      cases r with
      | nil => exact .inl rfl
      | cons _ _ => exact .inr ⟨_, rfl⟩
    obtain ⟨h1, h2⟩ := cut_eq (hp p (.head _)) (hq q (.head _)) (ht _) (ht _) e
    refine ⟨str_ext h1, ?_⟩
    cases qs with
    | nil => cases h2
    | cons q' qs =>
      injection h2 with _ h2
      obtain ⟨h3, h4⟩ := ih (fun z hz => hp z (.tail _ hz)) (fun z hz => hq z (.tail _ hz)) (str_ext h2)
      rw [h3, h4]
theorem split_ne (x y : Str) : Txt.split x y ≠ [] := by
  unfold Txt.split
  split
  · simp
  · split
    · simp
    · intro q
      have hl := length_partsBetween x (Builtin.Str.occurrences x y 0 x.length (x.length + 1)) y.length
      rw [q] at hl; cases hl
theorem split_of {c : Nat} {p : Str} {ps : List Str} (h : ∀ z ∈ p :: ps, c ∉ z.cps.toList) : Txt.split (Str.join ⟨#[c]⟩ (p :: ps)) ⟨#[c]⟩ = p :: ps := by
  have e := StrLaws.join_split (Str.join ⟨#[c]⟩ (p :: ps)) ⟨#[c]⟩
  have hf := StrLaws.split_free (Str.join ⟨#[c]⟩ (p :: ps)) c
  have hn := split_ne (Str.join ⟨#[c]⟩ (p :: ps)) ⟨#[c]⟩
  generalize Txt.split (Str.join ⟨#[c]⟩ (p :: ps)) ⟨#[c]⟩ = L at e hf hn ⊢
  cases L with
  | nil => exact absurd rfl hn
  | cons q qs =>
    obtain ⟨h1, h2⟩ := join_inj hf h e
    rw [h1, h2]
end Mine

set_option autoImplicit false
namespace Mine
set_option linter.unusedVariables false
open PySem
theorem join_app (s : Str) {q : Str} {qs : List Str} {ps : List Str} : ∀ {p : Str}, Str.join s (p :: (ps ++ q :: qs)) = Str.join s (p :: ps) ++ s ++ Str.join s (q :: qs) := by
  induction ps with
  | nil => intro p; rfl
  | cons p' ps ih =>
    intro p
    show p ++ s ++ Str.join s (p' :: (ps ++ q :: qs)) = p ++ s ++ Str.join s (p' :: ps) ++ s ++ Str.join s (q :: qs)
    simp only [ih, Str.append_assoc]
theorem words_app {c : Nat} (a b : Str) : Txt.split (a ++ ⟨#[c]⟩ ++ b) ⟨#[c]⟩ = Txt.split a ⟨#[c]⟩ ++ Txt.split b ⟨#[c]⟩ := by
  have ea := StrLaws.join_split a ⟨#[c]⟩
  have eb := StrLaws.join_split b ⟨#[c]⟩
  have fa := StrLaws.split_free a c
  have fb := StrLaws.split_free b c
  have na := split_ne a ⟨#[c]⟩
  have nb := split_ne b ⟨#[c]⟩
  generalize Txt.split a ⟨#[c]⟩ = A at *
  generalize Txt.split b ⟨#[c]⟩ = B at *
  cases A with
  | nil => exact absurd rfl na
  | cons p ps => cases B with
    | nil => exact absurd rfl nb
    | cons q qs =>
      rw [← ea, ← eb, ← join_app]
      exact split_of fun z hz => by
        rcases List.mem_append.mp (show z ∈ (p :: ps) ++ (q :: qs) from hz) with h | h
        · exact fa z h
        · exact fb z h
theorem upper_list (x : Str) : (Txt.upper x).cps.toList = x.cps.toList.flatMap Unicode.upperOf := by
  have e : (x.cps.mapIdx fun _ c => (Unicode.upperOf c).toArray) = x.cps.map fun c => (Unicode.upperOf c).toArray := by
    apply Array.ext
    · simp
    · intro i h1 h2; simp
  unfold Txt.upper placed
  rw [e, Array.toList_flatten, Array.toList_map, List.map_map, List.flatMap_def]
  rfl
theorem upper_app (x y : Str) : Txt.upper (x ++ y) = Txt.upper x ++ Txt.upper y := by
  apply str_ext
  have e : ∀ a b : Str, (a ++ b).cps.toList = a.cps.toList ++ b.cps.toList := fun a b => Array.toList_append
  rw [e, upper_list, upper_list, upper_list, e, List.flatMap_append]
noncomputable def lin (x : Str) : Bool := x.cps.toList.all fun c => decide (32 ≤ c ∧ c < 128)
theorem lin_iff {x : Str} : lin x = true ↔ ∀ c ∈ x.cps.toList, 32 ≤ c ∧ c < 128 := by
  unfold lin; rw [List.all_eq_true]; simp only [decide_eq_true_eq]
theorem lin_app {x y : Str} : lin (x ++ y) = (lin x && lin y) := by
  show ((x.cps ++ y.cps).toList.all _) = _
  rw [Array.toList_append, List.all_append]; rfl
theorem up_lin : ∀ c : Fin 128, 32 ≤ c.val → (Unicode.upperOf c).length = 1 ∧ ∀ d ∈ Unicode.upperOf c, 32 ≤ d ∧ d < 128 := by decide +kernel
theorem lin_upper {x : Str} (h : lin x = true) : lin (Txt.upper x) = true := by
  rw [lin_iff] at h ⊢
  rw [upper_list]
  intro d hd
  obtain ⟨c, hc, hd⟩ := List.mem_flatMap.mp hd
  exact (up_lin ⟨c, (h c hc).2⟩ (h c hc).1).2 d hd
theorem upper_len (x : Str) : (Txt.upper x).length ≤ 3 * x.length := StrLaws.placedRaw_le3 _ _ fun _ c => StrLaws.upperOf_le3 c
theorem join_le {s : Str} {n : Nat} (hs : s.length ≤ 2) {ps : List Str} : ∀ {p : Str}, (∀ z ∈ p :: ps, z.length ≤ n) → (Str.join s (p :: ps)).length ≤ (n + 2) * (ps.length + 1) := by
  induction ps with
  | nil => intro p h; show p.length ≤ _; have := h p (.head _); simp; omega
  | cons q ps ih =>
    intro p h
    show (p ++ s ++ Str.join s (q :: ps)).length ≤ _
    have h1 := h p (.head _)
    have h2 := ih (p := q) fun z hz => h z (.tail _ hz)
    rw [Str.length_append, Str.length_append, List.length_cons, Nat.mul_succ]
    omega
theorem lin_join {s : Str} (hs : lin s = true) {ps : List Str} : ∀ {p : Str}, (∀ z ∈ p :: ps, lin z = true) → lin (Str.join s (p :: ps)) = true := by
  induction ps with
  | nil => intro p h; exact h p (.head _)
  | cons q ps ih =>
    intro p h
    show lin (p ++ s ++ Str.join s (q :: ps)) = true
    rw [lin_app, lin_app, h p (.head _), hs, ih fun z hz => h z (.tail _ hz)]; rfl
end Mine

set_option autoImplicit false
namespace Mine
open PySem

theorem runs_toks {M : Model} {Γ : PySem.Ctx} {p : Pos} {t : Sem Fin} {fs : List Frame} {s s' : Shared} {e : End} (h : Runs M Γ p t fs s e s') : s.toks ≤ s'.toks := by
  induction h with
  | done | raise | yield => exact Nat.le_refl _
  | fresh _ ih => exact Nat.le_of_succ_le ih
  | call _ _ a b | resumeFresh _ _ _ _ a b | resumeSuspended _ _ _ _ a b | segRet _ _ a b | segGen _ _ a b | segSuspGen _ _ _ _ a b => exact Nat.le_trans a b
  | _ => assumption
theorem wakes_toks {M : Model} {Γ : PySem.Ctx} {p : Pos} {g : Nat} {r : Resume} {s s' : Shared} {res : GenResult} (h : Wakes M Γ p g r s res s') : s.toks ≤ s'.toks := by
  unfold Wakes at h
  split at h
  · exact h.elim
  · split at h
    · obtain ⟨e, s₁, h, _, _, rfl⟩ := h; have h := runs_toks h; exact h
    · rw [h.2]; exact Nat.le_refl _
    · rw [h.2]; exact Nat.le_refl _
  · obtain ⟨e, s₁, h, _, _, rfl⟩ := h; have h := runs_toks h; exact h
  · rw [h.2]; exact Nat.le_refl _
  · rw [h.2]; exact Nat.le_refl _
theorem wp_toks {α : Type} {M : Model} {Γ : PySem.Ctx} (t : Sem α) {Q : α → Pos → Shared → Prop} {E : Value → Pos → Shared → Prop} {n : Nat} : ∀ (p : Pos) (s : Shared), n ≤ s.toks → Sem.wp M Γ t (fun a p s' => n ≤ s'.toks → Q a p s') (fun a p s' => n ≤ s'.toks → E a p s') p s → Sem.wp M Γ t Q E p s := by
  induction t with
  | pure a | raise a => exact fun p s hn h => h hn
  | unsupported | finish | register | yield | fork | await => exact fun p s hn h => h
  | rule _ _ ih | point _ _ ih | ask _ ih | handled _ _ ih | stack _ ih | thread _ ih | loadIfAlive _ _ ih | «at» _ _ ih | alloc _ _ ih | newGen _ _ ih | os _ _ _ ih => exact fun p s hn h => ih _ _ _ hn h
  | fresh _ ih => exact fun p s hn h => ih _ _ _ (Nat.le_succ_of_le hn) h
  | load _ _ _ ih | genState _ _ ih => intro p s hn h; obtain ⟨o, e, h⟩ := h; exact ⟨o, e, ih _ _ _ hn h⟩
  | update _ _ _ _ ih | choose _ _ _ ih => intro p s hn h; obtain ⟨e, h⟩ := h; exact ⟨e, ih _ _ _ hn h⟩
  | call _ _ _ _ _ ih => intro p s hn h; obtain ⟨r, s', e, h⟩ := h; exact ⟨r, s', e, ih _ _ _ (Nat.le_trans hn (runs_toks e)) h⟩
  | resume _ _ _ _ ih => intro p s hn h; obtain ⟨r, s', e, h⟩ := h; exact ⟨r, s', e, ih _ _ _ (Nat.le_trans hn (wakes_toks e)) h⟩
theorem wpAny_up {α : Type} {M : Model} {A : Around} {t : Sem α} {Q : α → Shared → Prop} {E : Value → Shared → Prop} {s : Shared} (h : wpAny M A t (fun v s' => s.toks ≤ s'.toks → Q v s') (fun e s' => s.toks ≤ s'.toks → E e s') s) : wpAny M A t Q E s :=
  fun Γ p g => wp_toks t p s (Nat.le_refl _) (h Γ p g)
end Mine

set_option autoImplicit false
namespace Mine
set_option linter.unusedVariables false
open PySem PySem.W PySem.Calls PyProof.Rows


structure Ctx where
  prog : Program
  w : World
  K : Frag
  base : Heap
  cls : String → Option Addr
  exc : String → Option Addr
  fn : String → Option Addr

noncomputable def RngOk (lo hi st : Int) : Prop := (-2 ^ 62 < lo ∧ lo < 2 ^ 62) ∧ (-2 ^ 62 < hi ∧ hi < 2 ^ 62) ∧ st = 1

inductive SdAre : List (Str × Value) → List (String × Int) → Prop
  | nil : SdAre [] []
  | cons {k : String} {i : Int} {t : Tok} {rs : List (Str × Value)} {kvs : List (String × Int)} : SdAre rs kvs → SdAre ((Str.ofString k, .int i t) :: rs) ((k, i) :: kvs)

mutual
inductive RV (c : Ctx) (h : Heap) : Value → V → Prop
  | none : RV c h .none .none
  | bool (b : Bool) : RV c h (.bool b) (.bool b)
  | int (i : Int) (t : Tok) : RV c h (.int i t) (.int i)
  | str (x : Str) (t : Tok) : RV c h (.str x t) (.str x)
  | tup {a : Addr} {o : Obj} {vs : Array Value} {n : Nat} {l : List V} : h.get? a = some o → o.cls = .type "tuple" → o.data = .seq vs n → RVs c h vs.toList l → l.length ≤ lim → RV c h (.ref a) (.tup l)
  | ref (a : Addr) : RV c h (.ref a) (.ref a)
  | rng {a : Addr} {lo hi st : Int} {t₁ t₂ t₃ : Tok} : h.get? a = some { cls := .type "range", dict := none, data := .fields #[.int lo t₁, .int hi t₂, .int st t₃], slots := #[] } → RngOk lo hi st → RV c h (.ref a) (.rng lo hi st)
  | exc {a : Addr} {o : Obj} {C : Addr} {x : String} {vs : Array Value} : h.get? a = some o → o.cls = .ref C → o.data = .fields vs → c.exc x = some C → RV c h (.ref a) (.exc x)
  | gd {a : Addr} {rs : List (Str × Value)} {kvs : List (String × Int)} : c.base.DictOf (strKind c.prog c.w) a rs → SdAre rs kvs → (a == sysModules) = false → RV c h (.ref a) (.gd kvs)
  | frz {a : Addr} {o : Obj} {vs : Array Value} {n : Nat} {ns : List Int} : c.base.get? a = some o → o.cls = .type "list" → o.data = .seq vs n → IntsAre vs.toList ns → ns.length ≤ lim → RV c h (.ref a) (.frz ns)
inductive RVs (c : Ctx) (h : Heap) : List Value → List V → Prop
  | nil : RVs c h [] []
  | cons {v : Value} {vs : List Value} {x : V} {xs : List V} : RV c h v x → RVs c h vs xs → RVs c h (v :: vs) (x :: xs)
end

noncomputable def RVI (c : Ctx) (h : Heap) (rv : Value) : V → Prop
  | .none => rv = .none
  | .bool b => rv = .bool b
  | .int i => ∃ t, rv = .int i t
  | .str x => ∃ t, rv = .str x t
  | .tup l => ∃ a o vs n, rv = .ref a ∧ h.get? a = some o ∧ o.cls = .type "tuple" ∧ o.data = .seq vs n ∧ RVs c h vs.toList l ∧ l.length ≤ lim
  | .ref a => rv = .ref a
  | .rng lo hi st => ∃ a t₁ t₂ t₃, rv = .ref a ∧ h.get? a = some { cls := .type "range", dict := none, data := .fields #[.int lo t₁, .int hi t₂, .int st t₃], slots := #[] } ∧ RngOk lo hi st
  | .exc x => ∃ a o C vs, rv = .ref a ∧ h.get? a = some o ∧ o.cls = .ref C ∧ o.data = .fields vs ∧ c.exc x = some C
  | .gd kvs => ∃ a rs, rv = .ref a ∧ c.base.DictOf (strKind c.prog c.w) a rs ∧ SdAre rs kvs ∧ (a == sysModules) = false
  | .frz ns => ∃ a o vs n, rv = .ref a ∧ c.base.get? a = some o ∧ o.cls = .type "list" ∧ o.data = .seq vs n ∧ IntsAre vs.toList ns ∧ ns.length ≤ lim
theorem RV.inv {c : Ctx} {h : Heap} {rv : Value} {v : V} (x : RV c h rv v) : RVI c h rv v := by
  cases x with
  | none | bool | ref => rfl
  | int i t | str i t => exact ⟨t, rfl⟩
  | tup h1 h2 h3 h4 h5 => exact ⟨_, _, _, _, rfl, h1, h2, h3, h4, h5⟩
  | rng h1 h2 => exact ⟨_, _, _, _, rfl, h1, h2⟩
  | exc h1 h2 h3 h4 => exact ⟨_, _, _, _, rfl, h1, h2, h3, h4⟩
  | gd h1 h2 h3 => exact ⟨_, _, rfl, h1, h2, h3⟩
  | frz h1 h2 h3 h4 h5 => exact ⟨_, _, _, _, rfl, h1, h2, h3, h4, h5⟩
noncomputable def RVsI (c : Ctx) (h : Heap) (us : List Value) : List V → Prop
  | [] => us = []
  | x :: xs => ∃ v vs, us = v :: vs ∧ RV c h v x ∧ RVs c h vs xs
theorem RVs.inv {c : Ctx} {h : Heap} {us : List Value} {xs : List V} (x : RVs c h us xs) : RVsI c h us xs := by
  cases x with
  | nil => rfl
  | cons hv hr => exact ⟨_, _, rfl, hv, hr⟩

inductive RFs (c : Ctx) (h : Heap) : List DictEntry → List (String × V) → Prop
  | nil : RFs c h [] []
  | cons {hs : Int} {t : Tok} {rv : Value} {x : String} {v : V} {es : List DictEntry} {fs : List (String × V)} : hs = PyData.keyHash c.w.params (Str.ofString x) → RV c h rv v → RFs c h es fs →
      RFs c h (⟨hs, .str (Str.ofString x) t, rv⟩ :: es) ((x, v) :: fs)

inductive RO (c : Ctx) (h : Heap) : Obj → O → Prop
  | list {vs : Array Value} {n : Nat} {l : List V} : RVs c h vs.toList l → l.length ≤ lim → RO c h { cls := .type "list", data := .seq vs n } (.list l)
  | inst {C d : Addr} {x : String} : c.cls x = some C → RO c h (instObj C d) (.inst x d)
  | attrs {es : List DictEntry} {n : Nat} {fs : List (String × V)} : RFs c h es fs → RO c h (dictOf es n) (.attrs fs)

structure Rel (c : Ctx) (μ : Mem) (h : Heap) : Prop where
  base : c.base.StaysIn h
  mem : ∀ a o, μ a = some o → c.base.get? a = none ∧ ∃ ob, h.get? a = some ob ∧ RO c h ob o

noncomputable def Kept (fr : List Addr) (μ μ' : Mem) (h h' : Heap) : Prop :=
  ∀ b o, h.get? b = some o → μ b = none → μ' b = none ∧ ∃ sl, h'.get? b = some { o with slots := sl } ∧ (b ∉ fr ∨ (∃ vs, o.data = .fields vs) → sl = o.slots)

theorem Kept.refl (fr : List Addr) (μ : Mem) (h : Heap) : Kept fr μ μ h h := fun _ o e hm => ⟨hm, o.slots, e, fun _ => rfl⟩
theorem Kept.trans {fr : List Addr} {μ₁ μ₂ μ₃ : Mem} {h₁ h₂ h₃ : Heap} (x : Kept fr μ₁ μ₂ h₁ h₂) (y : Kept fr μ₂ μ₃ h₂ h₃) : Kept fr μ₁ μ₃ h₁ h₃ := fun b o e hm => by
  obtain ⟨m₂, sl, e₂, n₂⟩ := x b o e hm
  obtain ⟨m₃, sl', e₃, n₃⟩ := y b _ e₂ m₂
  exact ⟨m₃, sl', e₃, fun hb => (n₃ hb).trans (n₂ hb)⟩
theorem Kept.of_keeps {fr : List Addr} {μ μ' : Mem} {h h' : Heap} (k : ∀ b o, h.get? b = some o → μ b = none → h'.get? b = some o) (m : ∀ b o, h.get? b = some o → μ b = none → μ' b = none) : Kept fr μ μ' h h' :=
  fun b o e hm => ⟨m b o e hm, o.slots, k b o e hm, fun _ => rfl⟩
theorem Kept.exact {fr : List Addr} {μ μ' : Mem} {h h' : Heap} (x : Kept fr μ μ' h h') {b : Addr} {o : Obj} (e : h.get? b = some o) (hm : μ b = none) (hb : b ∉ fr) : h'.get? b = some o := by
  obtain ⟨_, sl, e', n⟩ := x b o e hm
  rw [n (.inl hb)] at e'; exact e'

theorem RO.cls_ne {c : Ctx} {h : Heap} {ob : Obj} {o : O} (x : RO c h ob o) {T : String} (e : ob.cls = .type T) : T = "list" ∨ T = "dict" := by
  cases x with
  | list _ _ => exact .inl (by injection e with e; exact e.symm)
  | inst _ => first | exact ns e | exact fb e | cases e
  | attrs _ => exact .inr (by injection e with e; exact e.symm)
theorem RO.fields_ne {c : Ctx} {h : Heap} {ob : Obj} {o : O} (x : RO c h ob o) (vs : Array Value) : ob.data ≠ .fields vs := by
  intro e
  cases x <;> cases e

theorem Rel.none_of_cls {c : Ctx} {μ : Mem} {h : Heap} (r : Rel c μ h) {a : Addr} {ob : Obj} {T : String} (e : h.get? a = some ob) (hc : ob.cls = .type T) (h1 : T ≠ "list") (h2 : T ≠ "dict") : μ a = none := by
  cases q : μ a with
  | none => rfl
  | some o =>
    obtain ⟨_, ob', e', ro⟩ := r.mem a o q
    rw [e] at e'; cases e'
    rcases ro.cls_ne hc with q | q
    · exact absurd q h1
    · exact absurd q h2
theorem Rel.none_of_fields {c : Ctx} {μ : Mem} {h : Heap} (r : Rel c μ h) {a : Addr} {ob : Obj} {vs : Array Value} (e : h.get? a = some ob) (hd : ob.data = .fields vs) : μ a = none := by
  cases q : μ a with
  | none => rfl
  | some o =>
    obtain ⟨_, ob', e', ro⟩ := r.mem a o q
    rw [e] at e'; cases e'
    exact absurd hd (ro.fields_ne vs)
noncomputable def Sees (μ : Mem) (h h' : Heap) : Prop := ∀ b o, h.get? b = some o → μ b = none → ∃ sl, h'.get? b = some { o with slots := sl } ∧ ((∃ vs, o.data = .fields vs) → sl = o.slots)
theorem Kept.sees {fr : List Addr} {μ μ' : Mem} {h h' : Heap} (x : Kept fr μ μ' h h') : Sees μ h h' := fun b o e hm => by obtain ⟨_, sl, e', n⟩ := x b o e hm; exact ⟨sl, e', fun q => n (.inr q)⟩
theorem Sees.of_keeps {μ : Mem} {h h' : Heap} (k : ∀ b o, h.get? b = some o → μ b = none → h'.get? b = some o) : Sees μ h h' := fun b o e hm => ⟨o.slots, k b o e hm, fun _ => rfl⟩

noncomputable def RK (o : Obj) : Prop := (o.cls = .type "tuple" ∧ ∃ vs n, o.data = .seq vs n) ∨ ((o.cls = .type "range" ∨ ∃ C, o.cls = .ref C) ∧ ∃ vs, o.data = .fields vs)
noncomputable def SeesV (h h' : Heap) : Prop := ∀ b o, h.get? b = some o → RK o → ∃ sl, h'.get? b = some { o with slots := sl } ∧ ((∃ vs, o.data = .fields vs) → sl = o.slots)
theorem RV.monoV2 {c : Ctx} {h h' : Heap} (k : SeesV h h') : (∀ {v : Value} {x : V}, RV c h v x → RV c h' v x) ∧ (∀ {vs : List Value} {xs : List V}, RVs c h vs xs → RVs c h' vs xs) := by
  have t : ∀ {a : Addr} {o : Obj} {vs : Array Value} {n : Nat} {l : List V}, h.get? a = some o → o.cls = .type "tuple" → o.data = .seq vs n → l.length ≤ lim → RVs c h' vs.toList l → RV c h' (.ref a) (.tup l) := fun e hc hd hz ih => by
    obtain ⟨sl, e', _⟩ := k _ _ e (.inl ⟨hc, _, _, hd⟩)
    exact .tup e' hc hd ih hz
  have g : ∀ {a : Addr} {lo hi st : Int} {t₁ t₂ t₃ : Tok}, h.get? a = some { cls := .type "range", dict := Option.none, data := .fields #[.int lo t₁, .int hi t₂, .int st t₃], slots := #[] } → RngOk lo hi st → RV c h' (.ref a) (.rng lo hi st) := fun e ok => by
    obtain ⟨sl, e', n⟩ := k _ _ e (.inr ⟨.inl rfl, _, rfl⟩)
    rw [n ⟨_, rfl⟩] at e'
    exact .rng e' ok
  have x' : ∀ {a : Addr} {o : Obj} {C : Addr} {x : String} {vs : Array Value}, h.get? a = some o → o.cls = .ref C → o.data = .fields vs → c.exc x = some C → RV c h' (.ref a) (.exc x) := fun e hc hd hx => by
    obtain ⟨sl, e', _⟩ := k _ _ e (.inr ⟨.inr ⟨_, hc⟩, _, hd⟩)
    exact .exc e' hc hd hx
  constructor
  · intro v x q
    exact RV.rec (motive_1 := fun v x _ => RV c h' v x) (motive_2 := fun vs xs _ => RVs c h' vs xs) .none .bool .int .str (fun e hc hd _ hz ih => t e hc hd hz ih) .ref (fun e ok => g e ok) (fun e hc hd hx => x' e hc hd hx) (fun h1 h2 h3 => .gd h1 h2 h3) (fun e hc hd hi hz => .frz e hc hd hi hz) .nil (fun _ _ a b => .cons a b) q
  · intro vs xs q
    exact RVs.rec (motive_1 := fun v x _ => RV c h' v x) (motive_2 := fun vs xs _ => RVs c h' vs xs) .none .bool .int .str (fun e hc hd _ hz ih => t e hc hd hz ih) .ref (fun e ok => g e ok) (fun e hc hd hx => x' e hc hd hx) (fun h1 h2 h3 => .gd h1 h2 h3) (fun e hc hd hi hz => .frz e hc hd hi hz) .nil (fun _ _ a b => .cons a b) q
theorem RV.monoV {c : Ctx} {h h' : Heap} (k : SeesV h h') {v : Value} {x : V} (q : RV c h v x) : RV c h' v x := (RV.monoV2 k).1 q
theorem RVs.monoV {c : Ctx} {h h' : Heap} (k : SeesV h h') {vs : List Value} {xs : List V} (q : RVs c h vs xs) : RVs c h' vs xs := (RV.monoV2 k).2 q
theorem Sees.v {c : Ctx} {μ : Mem} {h h' : Heap} (r : Rel c μ h) (k : Sees μ h h') : SeesV h h' := fun b o e rk => k b o e (by
  rcases rk with ⟨hc, _⟩ | ⟨_, vs, hd⟩
  · exact r.none_of_cls e hc (by decide) (by decide)
  · exact r.none_of_fields e hd)
theorem RV.mono {c : Ctx} {μ : Mem} {h h' : Heap} (r : Rel c μ h) (k : Sees μ h h') {v : Value} {x : V} (q : RV c h v x) : RV c h' v x := q.monoV (k.v r)
theorem RVs.mono {c : Ctx} {μ : Mem} {h h' : Heap} (r : Rel c μ h) (k : Sees μ h h') {vs : List Value} {xs : List V} (q : RVs c h vs xs) : RVs c h' vs xs := q.monoV (k.v r)
theorem RO.monoV {c : Ctx} {h h' : Heap} (k : SeesV h h') {ob : Obj} {o : O} (x : RO c h ob o) : RO c h' ob o := by
  cases x with
  | list hl hz => exact .list (hl.monoV k) hz
  | inst e => exact .inst e
  | attrs hf =>
    refine .attrs ?_
    induction hf with
    | nil => exact .nil
    | cons e hv _ ih => exact .cons e (hv.monoV k) ih

theorem RO.mono {c : Ctx} {μ : Mem} {h h' : Heap} (r : Rel c μ h) (k : Sees μ h h') {ob : Obj} {o : O} (x : RO c h ob o) : RO c h' ob o := x.monoV (k.v r)

theorem RVs.length {c : Ctx} {h : Heap} {vs : List Value} {xs : List V} (q : RVs c h vs xs) : vs.length = xs.length := by
  induction xs generalizing vs with
  | nil => cases q.inv; rfl
  | cons x xs ih => obtain ⟨_, _, rfl, _, r⟩ := q.inv; rw [List.length_cons, List.length_cons, ih r]
theorem RVs.get {c : Ctx} {h : Heap} {vs : List Value} {xs : List V} (q : RVs c h vs xs) {i : Nat} {x : V} (e : xs[i]? = some x) : ∃ v, vs[i]? = some v ∧ RV c h v x := by
  induction xs generalizing vs i with
  | nil => first | exact ns e | exact fb e | cases e
  | cons y xs ih =>
    obtain ⟨_, _, rfl, hv, hr⟩ := q.inv
    cases i with
    | zero => cases e; exact ⟨_, rfl, hv⟩
    | succ i => exact ih hr (by simpa using e)
theorem RVs.append {c : Ctx} {h : Heap} {vs us : List Value} {xs ys : List V} (q : RVs c h vs xs) (k : RVs c h us ys) : RVs c h (vs ++ us) (xs ++ ys) := by
  induction xs generalizing vs with
  | nil => cases q.inv; exact k
  | cons x xs ih => obtain ⟨_, _, rfl, hv, hr⟩ := q.inv; exact .cons hv (ih hr)
theorem RVs.take {c : Ctx} {h : Heap} (n : Nat) : ∀ {vs : List Value} {xs : List V}, RVs c h vs xs → RVs c h (vs.take n) (xs.take n) := by
  induction n with
  | zero => intro vs xs _; simp; exact .nil
  | succ n ih => intro vs xs hr; cases hr with
    | nil => simp; exact .nil
    | cons hv hr => simp; exact .cons hv (ih hr)
theorem RVs.drop {c : Ctx} {h : Heap} (n : Nat) : ∀ {vs : List Value} {xs : List V}, RVs c h vs xs → RVs c h (vs.drop n) (xs.drop n) := by
  induction n with
  | zero => intro vs xs hr; simpa using hr
  | succ n ih => intro vs xs hr; cases hr with
    | nil => simp; exact .nil
    | cons hv hr => simpa using ih hr
theorem RVs.set {c : Ctx} {h : Heap} {v : Value} {x : V} (hx : RV c h v x) {vs : List Value} {xs : List V} (n : Nat) (q : RVs c h vs xs) : RVs c h (vs.set n v) (xs.set n x) := by
  induction xs generalizing vs n with
  | nil => cases q.inv; exact .nil
  | cons y xs ih =>
    obtain ⟨_, _, rfl, hv, hr⟩ := q.inv
    cases n with
    | zero => exact .cons hx hr
    | succ n => exact .cons hv (ih n hr)
theorem RVs.eraseIdx {c : Ctx} {h : Heap} {vs : List Value} {xs : List V} (n : Nat) (q : RVs c h vs xs) : RVs c h (vs.eraseIdx n) (xs.eraseIdx n) := by
  induction xs generalizing vs n with
  | nil => cases q.inv; exact .nil
  | cons y xs ih =>
    obtain ⟨_, _, rfl, hv, hr⟩ := q.inv
    cases n with
    | zero => exact hr
    | succ n => exact .cons hv (ih n hr)
theorem Rel.keeps {c : Ctx} {μ : Mem} {h h' : Heap} (r : Rel c μ h) (k : ∀ b o, h.get? b = some o → h'.get? b = some o) : Rel c μ h' :=
  ⟨fun b o e => k b o (r.base b o e), fun a o e => by obtain ⟨n, ob, e', ro⟩ := r.mem a o e; exact ⟨n, ob, k _ _ e', ro.mono r (.of_keeps fun b o e _ => k b o e)⟩⟩

theorem Rel.alloc {c : Ctx} {μ : Mem} {h h' : Heap} (r : Rel c μ h) (k : ∀ b o, h.get? b = some o → h'.get? b = some o) {a : Addr} {ob : Obj} {o : O} (hn : h.get? a = none) (ha : h'.get? a = some ob) (ro : RO c h' ob o) : Rel c (updM μ a o) h' := by
  have r' := r.keeps k
  refine ⟨r'.base, fun b q e => ?_⟩
  unfold updM at e
  split at e
  · rename_i hb; subst hb; cases e
    refine ⟨?_, ob, ha, ro⟩
    cases q : c.base.get? b with
    | none => rfl
    | some x => have := r.base b x q; rw [hn] at this; cases this
  · exact r'.mem b q e
theorem Rel.free {c : Ctx} {μ : Mem} {h : Heap} (r : Rel c μ h) {a : Addr} (hn : h.get? a = none) : μ a = none := by
  cases q : μ a with
  | none => rfl
  | some o => obtain ⟨_, ob, e, _⟩ := r.mem a o q; rw [hn] at e; cases e

theorem Rel.store {c : Ctx} {μ : Mem} {h h' : Heap} {a : Addr} {o₀ : O} (r : Rel c μ h) (h0 : μ a = some o₀) (k : ∀ b, b ≠ a → h'.get? b = h.get? b) {ob : Obj} {o : O} (ha : h'.get? a = some ob) (ro : RO c h ob o) : Rel c (updM μ a o) h' := by
  obtain ⟨nb, ob₀, e₀, ro₀⟩ := r.mem a o₀ h0
  have sees : Sees μ h h' := .of_keeps fun b o e hm => (k b fun q => by rw [q, h0] at hm; cases hm).trans e
  refine ⟨fun b x e => (k b fun q => by rw [q, nb] at e; cases e).trans (r.base b x e), fun b q e => ?_⟩
  unfold updM at e
  split at e
  · rename_i hb; subst hb; cases e
    exact ⟨nb, ob, ha, ro.mono r sees⟩
  · rename_i hb
    obtain ⟨n, ob', e', ro'⟩ := r.mem b q e
    exact ⟨n, ob', (k b hb).trans e', ro'.mono r sees⟩

end Mine

set_option autoImplicit false
namespace Mine
open PySem PySem.Calls PyProof.Rows

noncomputable abbrev FlyC := Heap.FlyingW
noncomputable abbrev HeldC := Heap.HeldW

section
variable {M : Model} {A : Around} {E : Value → Shared → Prop} {s : Shared} {base : Heap} {env : Env} {outer l : List Env} {L e : Addr} {oe : Obj} {vs : Array Value} {cls a0 : Value} {h' : Heap} {Q : Unit → Shared → Prop}

theorem landsC (hh : HeldC base l e cls a0 L s.heap) (hQ : ∀ h', FlyC base l e cls a0 h' → s.heap.UpToSlots h' → Q () { s with heap := h' }) : wpAny M A (setFlight (.ref e) none) Q E s := wpAny_landsW hh hQ
theorem lands_againC (hh : FlyC base l e cls a0 s.heap) (hQ : ∀ h', FlyC base l e cls a0 h' → s.heap.UpToSlots h' → Q () { s with heap := h' }) : wpAny M A (setFlight (.ref e) none) Q E s :=
  wpAny_setFlight_noneW hh.1 hh.2.2.1 hh.2.2.2.at fun h' k1 k2 k3 k4 => hQ h' ⟨k1, hh.2.1, k2, k3⟩ fun b o hb hn => ⟨o.slots, k4 b o hb hn⟩
theorem leaves_madeC {h : Heap} {args : List Value} (hfr : A.frames = some (env :: outer)) (hf : env.frame = some L) (hkb : base.StaysIn h) (hl : h.FunFrames base (env :: outer)) (hx : Heap.MadeExcOf h s.heap e cls args)
    (hQ : ∀ h' t, FlyC base outer e cls (.ref t) h' → s.heap.UpToSlots h' → Q () { s with heap := h' }) : wpAny M A (leaving env (.ref e)) Q E s := wpAny_leaves_madeW hfr hf hkb hl hx fun h' t x _ _ up => hQ h' t x up

noncomputable def FlyH (B : Heap) (l : List Env) (e : Addr) (cls a0 : Value) (h : Heap) : Prop := ∃ fl, B.StaysIn h ∧ B.get? e = none ∧ h.FunFrames B l ∧ h.TracedAtW B e cls a0 fl
theorem FlyC.h (x : FlyC base l e cls a0 h') : FlyH base l e cls a0 h' := ⟨.none, x.1, x.2.1, x.2.2.1, x.2.2.2.at⟩
theorem HeldC.h (x : HeldC base l e cls a0 L h') : FlyH base l e cls a0 h' := ⟨rawInt L, x⟩

theorem upTo_refl {h : Heap} : h.UpToSlots h := .refl h
theorem noteFrame_congr {x : Value} {env env' : Env} (h : env.frame = env'.frame) : noteFrame x env = noteFrame x env' := by unfold noteFrame PySem.frameOf; rw [h]
theorem looks_onH (hfr : A.frames = some (env :: outer)) (hf : env.frame = some L) (hfl : FlyH base (env :: outer) e cls a0 s.heap)
    (hQ : ∀ h', HeldC base (env :: outer) e cls a0 L h' → s.heap.UpToSlots h' → Q () { s with heap := h' }) : wpAny M A (noteFrame (.ref e) env) Q E s := by
  obtain ⟨fl, hkb, hen, hl, ⟨oe, vs, T, oT, ts, he, ⟨hc, h0⟩, hd, h1, hnT, hTe, hT, hdT, h3⟩⟩ := hfl
  subst hc
  by_cases q : fl = rawInt L
  · subst q
    have ht : s.heap.TracedAtW base e oe.cls a0 (rawInt L) := ⟨oe, vs, T, oT, ts, he, ⟨rfl, h0⟩, hd, h1, hnT, hTe, hT, hdT, h3⟩
    exact wpAny_noteFrame_againW hf ht (hQ s.heap ⟨hkb, hen, hl, ht⟩ upTo_refl)
  · have other : ∀ b, b ≠ T → (s.heap.update T (Obj.mapFields (·.setIfInBounds 3 Value.none))).get? b = s.heap.get? b := fun b hb => Heap.get?_update_other _ _ (Ne.symm hb)
    have recs : ∀ b o, s.heap.get? b = some o → (∀ vs, o.data ≠ .fields vs) → (s.heap.update T (Obj.mapFields (·.setIfInBounds 3 Value.none))).get? b = some o := fun b o hb hnf =>
      (other b fun q => by rw [q, hT] at hb; cases hb; exact hnf ts hdT).trans hb
    unfold noteFrame
    simp only [hf]
    refine wpAny_bind (wpAny_field he hd h1 ?_)
    rw [if_pos (show (Value.ref T != Value.none) = true from by simp)]
    refine wpAny_bind (wpAny_field hT hdT h3 ?_)
    rw [if_neg (fun z => q (beq_iff_eq.mp z))]
    refine wpAny_bind (wpAny_setField hT hdT (Array.getElem?_eq_some_iff.mp h3).1 ?_)
    refine wpAny_entryW (s := { s with heap := s.heap.update T (Obj.mapFields (·.setIfInBounds 3 Value.none)) }) hfr (hl.of_keeps fun b o hb hnf => ⟨o, recs b o hb hnf, rfl⟩) hf ((other e (Ne.symm hTe)).trans he)
      (fun b o hb => (other b fun q => by rw [q, hnT] at hb; cases hb).trans (hkb b o hb)) hen hd (Array.getElem?_eq_some_iff.mp h1).1 h0 fun h' x => ?_
    obtain ⟨x1, x2, x3, x4⟩ := x
    exact hQ h' ⟨x1, hen, x2, x3⟩ fun b o hb hnf => x4 b o (recs b o hb hnf) hnf
theorem leaves_onH (hfr : A.frames = some (env :: outer)) (hf : env.frame = some L) (hfl : FlyH base (env :: outer) e cls a0 s.heap)
    (hQ : ∀ h', FlyC base outer e cls a0 h' → s.heap.UpToSlots h' → Q () { s with heap := h' }) : wpAny M A (leaving env (.ref e)) Q E s := by
  unfold leaving
  refine wpAny_bind (looks_onH hfr hf hfl fun h₁ hh up₁ => landsC hh fun h₂ x up₂ => hQ h₂ ⟨x.1, x.2.1, x.2.2.1.2.2, x.2.2.2⟩ (up₁.trans up₂))
theorem note_made {h : Heap} {args : List Value} (hfr : A.frames = some (env :: outer)) (hf : env.frame = some L) (hkb : base.StaysIn h) (hl : h.FunFrames base (env :: outer)) (hx : Heap.MadeExcOf h s.heap e cls args)
    (hQ : ∀ h' t, HeldC base (env :: outer) e cls (.ref t) L h' → s.heap.UpToSlots h' → Q () { s with heap := h' }) : wpAny M A (noteFrame (.ref e) env) Q E s := by
  obtain ⟨t, he, htn, ht⟩ := hx.there
  have hen : base.get? e = none := by
    cases q : base.get? e with
    | none => rfl
    | some o => have := hkb e o q; rw [hx.new] at this; cases this
  unfold noteFrame
  simp only [hf]
  refine wpAny_bind (wpAny_field he rfl (x := .none) rfl ?_)
  rw [if_neg (by decide)]
  refine wpAny_entryW (a0 := .ref t) hfr (hl.of_keeps (h' := s.heap) fun b o hb _ => ⟨o, hx.keeps b o hb, rfl⟩) hf he (fun b o hb => hx.keeps b o (hkb b o hb)) hen rfl (show 1 < 6 by decide) rfl fun h₁ x => ?_
  obtain ⟨x1, x2, x3, x4⟩ := x
  exact hQ h₁ t ⟨x1, hen, x2, x3⟩ x4
theorem fly_again {f : Option Addr} {Q : Unit → Shared → Prop} (hh : FlyH base l e cls a0 s.heap)
    (hQ : ∀ h', FlyH base l e cls a0 h' → s.heap.UpToSlots h' → Q () { s with heap := h' }) : wpAny M A (setFlight (.ref e) f) Q E s := by
  obtain ⟨fl, hkb, hen, hl, ⟨oe, vs, T, oT, ts, he, hc, hd, h1, hnT, hTe, hT, hdT, h3⟩⟩ := hh
  have hsz : 3 < ts.size := (Array.getElem?_eq_some_iff.mp h3).1
  have other : ∀ b, b ≠ T → (s.heap.update T (Obj.mapFields (·.setIfInBounds 3 (f.elim Value.none fun f => rawInt f)))).get? b = s.heap.get? b := fun b hb => Heap.get?_update_other _ _ (Ne.symm hb)
  have recs : ∀ b o, s.heap.get? b = some o → (∀ vs, o.data ≠ .fields vs) → (s.heap.update T (Obj.mapFields (·.setIfInBounds 3 (f.elim Value.none fun f => rawInt f)))).get? b = some o := fun b o hb hnf =>
    (other b fun q => by rw [q, hT] at hb; cases hb; exact hnf ts hdT).trans hb
  unfold setFlight
  refine wpAny_bind (wpAny_field he hd h1 ?_)
  rw [if_pos (show (Value.ref T != Value.none) = true from by simp)]
  refine wpAny_setField hT hdT hsz (hQ _ ⟨f.elim Value.none fun f => rawInt f, fun b o hb => (other b fun q => by rw [q, hnT] at hb; cases hb).trans (hkb b o hb), hen, hl.of_keeps fun b o hb hnf => ⟨o, recs b o hb hnf, rfl⟩, ?_⟩ fun b o hb hnf => ⟨o.slots, recs b o hb hnf⟩)
  exact ⟨oe, vs, T, _, _, (other e (Ne.symm hTe)).trans he, hc, hd, h1, hnT, hTe, Heap.get?_update_self _ hT (Obj.isFreed_of_fields (Obj.data_mapFields hdT _)), Obj.data_mapFields hdT _, by simp [hsz]⟩
theorem fly_back {env : Env} {X : Value → Shared → Prop} (hh : FlyH base l e cls a0 s.heap)
    (hQ : ∀ h', FlyH base l e cls a0 h' → s.heap.UpToSlots h' → X (.ref e) { s with heap := h' }) : cameBackBy M A env X (.ref e) s := by
  obtain ⟨fl, hkb, hen, hl, ⟨oe, vs, T, oT, ts, he, hc, hd, h1, rest⟩⟩ := id hh
  unfold cameBackBy
  refine wpAny_bind (wpAny_field he hd h1 ?_)
  rw [if_neg (show ¬ ((Value.ref T == Value.none) = true) from by simp)]
  exact fly_again hh hQ
theorem fly_pass {α : Type} {m : String} {cenv : Env} {Q : α → Shared → Prop} (hh : FlyH base l e cls a0 s.heap)
    (hQ : ∀ h', FlyH base l e cls a0 h' → s.heap.UpToSlots h' → E (.ref e) { s with heap := h' }) : wpAny M A (PySem.passOn m (.ref e) cenv : Sem α) Q E s := by
  obtain ⟨fl, hkb, hen, hl, ⟨oe, vs, T, oT, ts, he, hc, hd, h1, rest⟩⟩ := id hh
  unfold PySem.passOn
  refine wpAny_bind (wpAny_field he hd h1 ?_)
  rw [if_neg (show ¬ ((Value.ref T == Value.none) = true) from by simp)]
  exact wpAny_bind (fly_again hh fun h' x up => wpAny_throw (hQ h' x up))
end
end Mine

set_option autoImplicit false
namespace Mine
set_option linter.unusedVariables false
open PySem PySem.W PySem.Calls PyProof.Rows

noncomputable def frs (fs : List Env) : List Addr := fs.filterMap (·.frame)

structure Step (c : Ctx) (fs : List Env) (μ μ' : Mem) (s s' : Shared) : Prop where
  gens : s'.gens = s.gens
  drawn : s'.drawn = s.drawn
  os : s'.os = s.os
  rel : Rel c μ' s'.heap
  kept : Kept (frs fs) μ μ' s.heap s'.heap

theorem Step.refl {c : Ctx} {fs : List Env} {μ : Mem} {s : Shared} (r : Rel c μ s.heap) : Step c fs μ μ s s := ⟨rfl, rfl, rfl, r, .refl _ _ _⟩
theorem Step.trans {c : Ctx} {fs : List Env} {μ₁ μ₂ μ₃ : Mem} {s₁ s₂ s₃ : Shared} (x : Step c fs μ₁ μ₂ s₁ s₂) (y : Step c fs μ₂ μ₃ s₂ s₃) : Step c fs μ₁ μ₃ s₁ s₃ :=
  ⟨y.gens.trans x.gens, y.drawn.trans x.drawn, y.os.trans x.os, y.rel, x.kept.trans y.kept⟩
theorem Step.toks {c : Ctx} {fs : List Env} {μ : Mem} {s : Shared} {n : Nat} (r : Rel c μ s.heap) : Step c fs μ μ s { s with toks := n } := ⟨rfl, rfl, rfl, r, .refl _ _ _⟩
theorem Step.grows {c : Ctx} {fs : List Env} {μ : Mem} {s : Shared} {h' : Heap} {n : Nat} (r : Rel c μ s.heap) (k : ∀ b o, s.heap.get? b = some o → h'.get? b = some o) : Step c fs μ μ s { s with heap := h', toks := n } :=
  ⟨rfl, rfl, rfl, r.keeps k, .of_keeps (fun b o e _ => k b o e) fun _ _ _ hm => hm⟩
theorem Step.alloc {c : Ctx} {fs : List Env} {μ : Mem} {s : Shared} {h' : Heap} {n : Nat} {a : Addr} {ob : Obj} {o : O} (r : Rel c μ s.heap) (k : ∀ b o, s.heap.get? b = some o → h'.get? b = some o) (hn : s.heap.get? a = none)
    (ha : h'.get? a = some ob) (ro : RO c h' ob o) : Step c fs μ (updM μ a o) s { s with heap := h', toks := n } :=
  ⟨rfl, rfl, rfl, r.alloc k hn ha ro, .of_keeps (fun b o e _ => k b o e) fun b o e hm => by rw [updM_ne (fun q => by rw [q, hn] at e; cases e)]; exact hm⟩
theorem Step.store {c : Ctx} {fs : List Env} {μ : Mem} {s : Shared} {h' : Heap} {n : Nat} {a : Addr} {o₀ : O} (r : Rel c μ s.heap) (h0 : μ a = some o₀) (k : ∀ b, b ≠ a → h'.get? b = s.heap.get? b) {ob : Obj} {o : O}
    (ha : h'.get? a = some ob) (ro : RO c s.heap ob o) : Step c fs μ (updM μ a o) s { s with heap := h', toks := n } :=
  ⟨rfl, rfl, rfl, r.store h0 k ha ro, .of_keeps (fun b o e hm => (k b fun q => by rw [q, h0] at hm; cases hm).trans e) fun b o e hm => by rw [updM_ne (fun q => by rw [q, h0] at hm; cases hm)]; exact hm⟩

theorem RV.step {c : Ctx} {fs : List Env} {μ μ' : Mem} {s s' : Shared} {v : Value} {x : V} (r : Rel c μ s.heap) (y : Step c fs μ μ' s s') (h : RV c s.heap v x) : RV c s'.heap v x := h.mono r y.kept.sees
theorem RVs.step {c : Ctx} {fs : List Env} {μ μ' : Mem} {s s' : Shared} {v : List Value} {x : List V} (r : Rel c μ s.heap) (y : Step c fs μ μ' s s') (h : RVs c s.heap v x) : RVs c s'.heap v x := h.mono r y.kept.sees

structure Fly (c : Ctx) (fs : List Env) (μ μ' : Mem) (s s' : Shared) (e : Addr) (x : String) : Prop where
  gens : s'.gens = s.gens
  drawn : s'.drawn = s.drawn
  os : s'.os = s.os
  there : ∃ B C a0, c.exc x = some C ∧ FlyH B fs e (.ref C) a0 s'.heap ∧ Rel c μ' B ∧ ∀ b o, s.heap.get? b = some o → μ b = none → b ∉ frs fs → B.get? b = some o
  kept : Kept (frs fs) μ μ' s.heap s'.heap

noncomputable def Post (c : Ctx) (fs : List Env) (μ : Mem) (s : Shared) (Q : V → Mem → Prop) (rv : Value) (s' : Shared) : Prop := ∃ v μ', Step c fs μ μ' s s' ∧ RV c s'.heap rv v ∧ Q v μ'
noncomputable def Posts (c : Ctx) (fs : List Env) (μ : Mem) (s : Shared) (Q : List V → Mem → Prop) (rv : List Value) (s' : Shared) : Prop := ∃ v μ', Step c fs μ μ' s s' ∧ RVs c s'.heap rv v ∧ Q v μ'
noncomputable def PostB (c : Ctx) (fs : List Env) (μ : Mem) (s : Shared) (Q : Bool → Mem → Prop) (b : Bool) (s' : Shared) : Prop := ∃ μ', Step c fs μ μ' s s' ∧ Q b μ'
noncomputable def XPost (c : Ctx) (fs : List Env) (μ : Mem) (s : Shared) (X : String → Mem → Prop) (re : Value) (s' : Shared) : Prop := ∃ e x μ', re = .ref e ∧ Fly c fs μ μ' s s' e x ∧ X x μ'

theorem Fly.after {c : Ctx} {fs : List Env} {μ₁ μ₂ μ₃ : Mem} {s₁ s₂ s₃ : Shared} {e : Addr} {x : String} (a : Step c fs μ₁ μ₂ s₁ s₂) (y : Fly c fs μ₂ μ₃ s₂ s₃ e x) : Fly c fs μ₁ μ₃ s₁ s₃ e x := by
  obtain ⟨B, C, a0, h1, h2, h3, h4⟩ := y.there
  refine ⟨y.gens.trans a.gens, y.drawn.trans a.drawn, y.os.trans a.os, ⟨B, C, a0, h1, h2, h3, fun b o e hm hb => ?_⟩, a.kept.trans y.kept⟩
  exact h4 b o (a.kept.exact e hm hb) (a.kept b o e hm).1 hb
theorem Post.after {c : Ctx} {fs : List Env} {μ₁ μ₂ : Mem} {s₁ s₂ s₃ : Shared} {Q : V → Mem → Prop} {rv : Value} (a : Step c fs μ₁ μ₂ s₁ s₂) (y : Post c fs μ₂ s₂ Q rv s₃) : Post c fs μ₁ s₁ Q rv s₃ :=
  by obtain ⟨v, μ', st, r, q⟩ := y; exact ⟨v, μ', a.trans st, r, q⟩
theorem PostB.after {c : Ctx} {fs : List Env} {μ₁ μ₂ : Mem} {s₁ s₂ s₃ : Shared} {Q : Bool → Mem → Prop} {b : Bool} (a : Step c fs μ₁ μ₂ s₁ s₂) (y : PostB c fs μ₂ s₂ Q b s₃) : PostB c fs μ₁ s₁ Q b s₃ :=
  by obtain ⟨μ', st, q⟩ := y; exact ⟨μ', a.trans st, q⟩
theorem XPost.after {c : Ctx} {fs : List Env} {μ₁ μ₂ : Mem} {s₁ s₂ s₃ : Shared} {X : String → Mem → Prop} {re : Value} (a : Step c fs μ₁ μ₂ s₁ s₂) (y : XPost c fs μ₂ s₂ X re s₃) : XPost c fs μ₁ s₁ X re s₃ :=
  by obtain ⟨e, x, μ', he, f, q⟩ := y; exact ⟨e, x, μ', he, f.after a, q⟩

structure AOK (c : Ctx) (d : Nat) (hd : Bool) (A : Around) (fs : List Env) (μ : Mem) (h : Heap) : Prop where
  frames : A.frames = some fs
  room : A.depth + 3 * d < 900
  units : A.units + 100 * d + 200 < cLine
  handled : hd = false → A.handled = none
  fun_ : h.FunFrames c.base fs
  priv : ∀ L ∈ frs fs, μ L = none
  dicts : ∀ L ∈ frs fs, ∃ o es n, h.get? L = some o ∧ o.data = .dict es n

theorem AOK.step {c : Ctx} {d : Nat} {hd : Bool} {A : Around} {fs : List Env} {μ μ' : Mem} {s s' : Shared} (x : AOK c d hd A fs μ s.heap) (y : Step c fs μ μ' s s') : AOK c d hd A fs μ' s'.heap := by
  refine ⟨x.frames, x.room, x.units, x.handled, ?_, fun L hL => ?_, fun L hL => ?_⟩
  · have hp := x.priv
    have hf := x.fun_
    clear x
    induction fs with
    | nil => trivial
    | cons env rest ih =>
      obtain ⟨hk, ⟨L, o, hfr, hn, ho, hd⟩, hr⟩ := hf
      have kept := y.kept
      obtain ⟨_, sl, e', _⟩ := kept L o ho (hp L (by simp [frs, hfr]))
      refine ⟨hk, ⟨L, _, hfr, hn, e', hd⟩, ?_⟩
      have key : ∀ (l : List Env), s.heap.FunFrames c.base l → (∀ L ∈ frs l, μ L = none) → s'.heap.FunFrames c.base l := by
        intro l
        induction l with
        | nil => intros; trivial
        | cons env l ih =>
          rintro ⟨hk, ⟨L, o, hfr, hn, ho, hd⟩, hr⟩ hp
          obtain ⟨_, sl, e', _⟩ := kept L o ho (hp L (by simp [frs, hfr]))
          exact ⟨hk, ⟨L, _, hfr, hn, e', hd⟩, ih hr fun M hM => hp M (by simp only [frs, List.filterMap_cons, hfr]; exact List.mem_cons_of_mem _ hM)⟩
      exact key rest hr fun M hM => hp M (by simp only [frs, List.filterMap_cons, hfr]; exact List.mem_cons_of_mem _ hM)
  · obtain ⟨_, o, ho, _⟩ := x.fun_.mem hL
    exact (y.kept L o ho (x.priv L hL)).1
  · obtain ⟨o, es, n, ho, hd⟩ := x.dicts L hL
    obtain ⟨_, sl, e', _⟩ := y.kept L o ho (x.priv L hL)
    exact ⟨_, es, n, e', hd⟩

noncomputable def NameIs (c : Ctx) (env : Env) (m : Str → Option Value) (μ : Mem) (h : Heap) (x : String) (v : V) : Prop :=
  (env.kindOf (Str.ofString x) = some .local ∧ ∃ rv, m (Str.ofString x) = some rv ∧ RV c h rv v) ∨
  ((env.kindOf (Str.ofString x) = some .cell ∨ env.kindOf (Str.ofString x) = some .free) ∧ ∃ ca rv, env.cells.lookup (Str.ofString x) = some ca ∧ h.IsCell ca (some rv) ∧ RV c h rv v)
structure ER (c : Ctx) (env : Env) (ρ : Loc) (μ : Mem) (h : Heap) : Prop where
  kind : env.scope.kind = .function
  glob : env.globals = mainGlobals
  blt : env.builtins = builtinsNs
  priv : μ env.locals = none
  new : c.base.get? env.locals = none
  cells : ∀ x ca, env.cells.lookup x = some ca → (∃ v, h.IsCell ca v) ∧ μ ca = none ∧ c.base.get? ca = none
  inj : ∀ x y ca, env.cells.lookup x = some ca → env.cells.lookup y = some ca → x = y
  has : ∀ x, env.kindOf x = some .cell → (env.cells.lookup x).isSome = true
  names : ∃ m, h.Ns env.locals m ∧ ∀ x v, ρ x = some v → NameIs c env m μ h x v

theorem IsCell.sees {μ : Mem} {h h' : Heap} (k : Sees μ h h') {ca : Addr} {v : Option Value} (x : h.IsCell ca v) (hm : μ ca = none) : h'.IsCell ca v := by
  obtain ⟨o, ho, hd⟩ := x
  obtain ⟨sl, e, _⟩ := k ca o ho hm
  exact ⟨_, e, hd⟩
theorem Ns.sees {μ : Mem} {h h' : Heap} (k : Sees μ h h') {a : Addr} {m : Str → Option Value} (x : h.Ns a m) (hm : μ a = none) : h'.Ns a m := by
  obtain ⟨o, es, ep, ho, hd, r⟩ := x
  obtain ⟨sl, e, _⟩ := k a o ho hm
  exact ⟨_, es, ep, e, hd, r⟩

theorem ER.step {c : Ctx} {env : Env} {ρ : Loc} {fs : List Env} {μ μ' : Mem} {s s' : Shared} (x : ER c env ρ μ s.heap) (r : Rel c μ s.heap) (y : Step c fs μ μ' s s') : ER c env ρ μ' s'.heap := by
  obtain ⟨m, hns, hm⟩ := x.names
  have k := y.kept.sees
  obtain ⟨oL, esL, epL, hoL, _⟩ := id hns
  refine ⟨x.kind, x.glob, x.blt, (y.kept _ _ hoL x.priv).1, x.new, fun z ca e => ?_, x.inj, x.has, m, Ns.sees k hns x.priv, fun z v e => ?_⟩
  · obtain ⟨⟨v, hv⟩, h1, h2⟩ := x.cells z ca e
    obtain ⟨o, ho, hd⟩ := id hv
    exact ⟨⟨v, IsCell.sees k hv h1⟩, (y.kept _ _ ho h1).1, h2⟩
  · rcases hm z v e with ⟨h1, rv, h2, h3⟩ | ⟨h1, ca, rv, h2, h3, h4⟩
    · exact .inl ⟨h1, rv, h2, h3.step r y⟩
    · exact .inr ⟨h1, ca, rv, h2, IsCell.sees k h3 (x.cells _ ca h2).2.1, h4.step r y⟩

end Mine

set_option autoImplicit false
namespace Mine
set_option linter.unusedVariables false
open PySem PySem.W PySem.Calls PyProof.Rows

theorem lim_le : lim ≤ sizeLine := by decide

section
variable {c : Ctx} {A : Around} {fs : List Env} {μ : Mem} {s : Shared} {E : Value → Shared → Prop}

theorem Rel.lst {l : Addr} {xs : List V} (r : Rel c μ s.heap) (h : μ l = some (.list xs)) : ∃ vs n, IsL s.heap l vs n ∧ RVs c s.heap vs.toList xs ∧ xs.length ≤ lim := by
  obtain ⟨_, ob, e, ro⟩ := r.mem l _ h
  cases ro with
  | list hl hz => exact ⟨_, _, e, hl, hz⟩
theorem Rel.insts {x d : Addr} {cl : String} (r : Rel c μ s.heap) (h : μ x = some (.inst cl d)) : ∃ C, c.cls cl = some C ∧ s.heap.get? x = some (instObj C d) := by
  obtain ⟨_, ob, e, ro⟩ := r.mem x _ h
  cases ro with
  | inst hc => exact ⟨_, hc, e⟩
theorem Rel.attr {d : Addr} {fl : List (String × V)} (r : Rel c μ s.heap) (h : μ d = some (.attrs fl)) : ∃ es n, s.heap.get? d = some (dictOf es n) ∧ RFs c s.heap es fl := by
  obtain ⟨_, ob, e, ro⟩ := r.mem d _ h
  cases ro with
  | attrs hf => exact ⟨_, _, e, hf⟩

theorem newL_size {xs : List V} {vs : Array Value} {h : Heap} (hr : RVs c h vs.toList xs) (hl : xs.length ≤ lim) : vs.size ≤ sizeLine := by
  have := hr.length
  rw [Array.length_toList] at this
  exact this ▸ Nat.le_trans hl lim_le

theorem post_newL {Q : V → Mem → Prop} {xs : List V} {vs : Array Value} (r : Rel c μ s.heap) (hr : RVs c s.heap vs.toList xs) (q : newL μ xs Q) (n : Nat) :
    Post c fs μ s Q (.ref s.heap.objs.size) { s with heap := s.heap.push { cls := .type "list", data := .seq vs }, toks := n } := by
  have hn : s.heap.get? s.heap.objs.size = none := Heap.get?_none_of_le (Nat.le_refl _)
  have k : ∀ b o, s.heap.get? b = some o → (s.heap.push { cls := .type "list", data := .seq vs }).get? b = some o := fun b o e => Heap.get?_push_of_some _ e
  refine ⟨.ref s.heap.objs.size, _, Step.alloc r k hn (Heap.get?_push_size _ rfl) (.list (hr.mono r (.of_keeps fun b o e _ => k b o e)) q.1), .ref _, q.2 _ (r.free hn)⟩

theorem mul_raw {prog : Program} {w : World} {l : Addr} {items : Array Value} {k : Nat} {x : Int} {u : Tok} {Q : Value → Shared → Prop} (hl : IsL s.heap l items k) (hlo : -(2 ^ 63 : Int) ≤ x) (hhi : x < 2 ^ 63) (hsz : items.size * x.toNat ≤ 2 ^ 24)
    (h : Q (.ref s.heap.objs.size) { s with heap := s.heap.push { cls := .type "list", data := .seq (List.replicate x.toNat items.toList).flatten.toArray } }) :
    wpAny (model prog w) A (binaryOp .Mult (.ref l) (.int x u)) Q E s := by
  rw [← listMul_foldl_if] at h
  exact wpAny_binaryOp_repeat_ref (T := "list") (U := "int") (by decide) ⟨_, hl, rfl⟩ (fun s' => typeIs_int s' x u) noFill_list_mul F.fills_int_mul F.slot_int_rmul repeat_list F.slot_int_index.lookup
    (call_meets F.slot_int_rmul (typeIs_int s x u) F.entry_int_rmul (F.args_int_rmul_2 _ _) (int___rmul___int_list x u l items k)
      ⟨hl, rfl, ⟨_, hl, rfl⟩, call_meets F.slot_list_mul ⟨_, hl, rfl⟩ F.entry_list_mul (F.args_list_mul_2 _ _)
        (AutoListH.list___mul___list_int_3 l items k x u (by simp [Builtin.List.listFitsIndex]; omega) (by omega) (by simp [Builtin.List.listTooLong, sizeLine]; omega))
        ⟨hl, h⟩⟩)

omit A fs s E in
theorem asInt_of {v : V} {k : Int → Prop} (h : asInt v k) : ∃ i, v = .int i ∧ k i := by
  unfold asInt at h
  split at h
  · exact ⟨_, rfl, h⟩
  · exact h.elim
theorem asS_of {v : V} {k : Str → Prop} (h : asS v k) : ∃ x, v = .str x ∧ k x := by
  unfold asS at h
  split at h
  · exact ⟨_, rfl, h⟩
  · exact h.elim
theorem asT_of {v : V} {k : List V → Prop} (h : asT v k) : ∃ l, v = .tup l ∧ k l := by
  unfold asT at h
  split at h
  · exact ⟨_, rfl, h⟩
  · exact h.elim
theorem asL_of {v : V} {k : Addr → List V → Prop} (h : asL μ v k) : ∃ x l, v = .ref x ∧ μ x = some (.list l) ∧ k x l := by
  unfold asL at h
  split at h
  · split at h
    · rename_i e; exact ⟨_, _, rfl, e, h⟩
    · exact h.elim
  · exact h.elim
theorem ints2_of {a b : V} {k : Int → Int → Prop} (h : ints2 a b k) : ∃ i j, a = .int i ∧ b = .int j ∧ k i j := by
  obtain ⟨i, e1, h1⟩ := asInt_of h
  obtain ⟨j, e2, h2⟩ := asInt_of h1
  exact ⟨i, j, e1, e2, h2⟩
theorem one_of {vs : List V} {k : V → Prop} (h : one vs k) : ∃ v, vs = [v] ∧ k v := by
  unfold one at h
  split at h
  · exact ⟨_, rfl, h⟩
  · exact h.elim
theorem two_of {vs : List V} {k : V → V → Prop} (h : two vs k) : ∃ v w, vs = [v, w] ∧ k v w := by
  unfold two at h
  split at h
  · exact ⟨_, _, rfl, h⟩
  · exact h.elim
theorem RV.int_of {h : Heap} {rv : Value} {i : Int} (x : RV c h rv (.int i)) : ∃ t, rv = .int i t := x.inv
theorem RV.str_of {h : Heap} {rv : Value} {x : Str} (y : RV c h rv (.str x)) : ∃ t, rv = .str x t := y.inv
theorem RV.ref_of {h : Heap} {rv : Value} {a : Addr} (x : RV c h rv (.ref a)) : rv = .ref a := x.inv
theorem RVs.one {h : Heap} {rvs : List Value} {v : V} (x : RVs c h rvs [v]) : ∃ rv, rvs = [rv] ∧ RV c h rv v := by
  obtain ⟨_, _, rfl, hv, hr⟩ := x.inv; cases hr.inv; exact ⟨_, rfl, hv⟩
theorem RVs.two {h : Heap} {rvs : List Value} {v w : V} (x : RVs c h rvs [v, w]) : ∃ rv rw_, rvs = [rv, rw_] ∧ RV c h rv v ∧ RV c h rw_ w := by
  obtain ⟨_, _, rfl, hv, hr⟩ := x.inv; obtain ⟨_, rfl, hw⟩ := hr.one; exact ⟨_, _, rfl, hv, hw⟩

theorem bin_cat {ra rb : Value} {a b : V} {Q : V → Mem → Prop} (r : Rel c μ s.heap) (ha : RV c s.heap ra a) (hb : RV c s.heap rb b) (q : asL μ a fun _ l => asL μ b fun _ k => newL μ (l ++ k) Q) : wpAny (model c.prog c.w) A (binaryOp .Add ra rb) (Post c fs μ s Q) E s := by
  obtain ⟨x, l, rfl, hx, q⟩ := asL_of q
  obtain ⟨y, k, rfl, hy, q⟩ := asL_of q
  cases ha.ref_of; cases hb.ref_of
  obtain ⟨vs, n, hl, hr, _⟩ := r.lst hx
  obtain ⟨us, n', hl', hr', _⟩ := r.lst hy
  have hr2 : RVs c s.heap (vs ++ us).toList (l ++ k) := by rw [Array.toList_append]; exact hr.append hr'
  refine PySem.P.add_list hl hl' (post_newL r hr2 q s.toks) ?_
  have := newL_size hr2 q.1
  rw [Array.size_append] at this
  exact this
theorem bin_rep {ra rb : Value} {a b : V} {Q : V → Mem → Prop} (r : Rel c μ s.heap) (ha : RV c s.heap ra a) (hb : RV c s.heap rb b) (q : asL μ a fun _ l => asInt b fun n => 0 ≤ n ∧ n ≤ 1000000 ∧ n.toNat * l.length ≤ lim ∧ newL μ (List.replicate n.toNat l).flatten Q) : wpAny (model c.prog c.w) A (binaryOp .Mult ra rb) (Post c fs μ s Q) E s := by
  obtain ⟨x, l, rfl, hx, q⟩ := asL_of q
  obtain ⟨n, rfl, q⟩ := asInt_of q
  cases ha.ref_of
  obtain ⟨t, rfl⟩ := hb.int_of
  obtain ⟨vs, k, hl, hr, _⟩ := r.lst hx
  have h2 := q.2.2.1
  have hrl := hr.length
  rw [Array.length_toList] at hrl
  have hr2 : RVs c s.heap (List.replicate n.toNat vs.toList).flatten.toArray.toList (List.replicate n.toNat l).flatten := by
    show RVs c s.heap (List.replicate n.toNat vs.toList).flatten _
    generalize n.toNat = m
    induction m with
    | zero => exact .nil
    | succ m ih => rw [List.replicate_succ, List.replicate_succ, List.flatten_cons, List.flatten_cons]; exact hr.append ih
  refine mul_raw hl (by have := q.1; omega) ?_ ?_ (post_newL r hr2 q.2.2.2 s.toks)
  · have := q.2.1; omega
  · rw [hrl, Nat.mul_comm]; unfold lim at h2; omega

theorem post_newT {Q : V → Mem → Prop} {xs : List V} {vs : Array Value} (r : Rel c μ s.heap) (hr : RVs c s.heap vs.toList xs) (hz : xs.length ≤ lim) (q : Q (.tup xs) μ) (n : Nat) :
    Post c fs μ s Q (.ref s.heap.objs.size) { s with heap := s.heap.push { cls := .type "tuple", data := .seq vs }, toks := n } := by
  have k : ∀ b o, s.heap.get? b = some o → (s.heap.push { cls := .type "tuple", data := .seq vs }).get? b = some o := fun b o e => Heap.get?_push_of_some _ e
  exact ⟨.tup xs, μ, Step.grows r k, .tup (Heap.get?_push_size _ rfl) rfl rfl (hr.mono r (.of_keeps fun b o e _ => k b o e)) hz, q⟩
theorem bin_tup {ra rb : Value} {l k : List V} {Q : V → Mem → Prop} (r : Rel c μ s.heap) (ha : RV c s.heap ra (.tup l)) (hb : RV c s.heap rb (.tup k)) (q : l ≠ [] ∧ k ≠ [] ∧ (l ++ k).length ≤ lim ∧ Q (.tup (l ++ k)) μ) : wpAny (model c.prog c.w) A (binaryOp .Add ra rb) (Post c fs μ s Q) E s := by
  obtain ⟨t, o, vs, n, rfl, ho, hc, hd, hl, hz⟩ := ha.inv
  obtain ⟨b, o2, ws, n2, rfl, ho2, hc2, hd2, hl2, hz2⟩ := hb.inv
  obtain ⟨cls, dd, data, sl⟩ := o
  obtain ⟨cls2, dd2, data2, sl2⟩ := o2
  simp only at hc hd hc2 hd2
  subst hc hd hc2 hd2
  have hr2 : RVs c s.heap (vs ++ ws).toList (l ++ k) := by rw [Array.toList_append]; exact hl.append hl2
  have hsz := newL_size hr2 q.2.2.1
  rw [Array.size_append] at hsz
  have e1 := hl.length
  have e2 := hl2.length
  have nv : ¬ vs.isEmpty = true := fun h => q.1 (List.eq_nil_of_length_eq_zero (by rw [← e1]; simpa using h))
  have nw : ¬ ws.isEmpty = true := fun h => q.2.1 (List.eq_nil_of_length_eq_zero (by rw [← e2]; simpa using h))
  refine concat_meets ⟨_, ho, rfl⟩ ⟨_, ho2, rfl⟩ noFill_tuple_add seq_tuple_add PySem.F.slot_tuple_add PySem.F.entry_tuple_add (PySem.F.args_tuple_add_2 _ _)
    (tuple_addW2 t b vs ws n n2 dd dd2 sl sl2 nv nw hsz) ⟨ho, ho2, ?_⟩
  exact post_newT r hr2 q.2.2.1 q.2.2.2 s.toks

theorem bin_sound {d : Nat} {hd : Bool} {op : Operator} {ra rb : Value} {a b : V} {Q : V → Mem → Prop} (r : Rel c μ s.heap) (ha : RV c s.heap ra a) (hb : RV c s.heap rb b) (q : binW op a b μ Q)
    (aok : AOK c d hd A fs μ s.heap) : wpAny (model c.prog c.w) A (binaryOp op ra rb) (Post c fs μ s Q) E s := by
  unfold binW at q
  split at q
  · split at q
    · obtain ⟨j, rfl, q⟩ := asInt_of q
      obtain ⟨t, rfl⟩ := ha.int_of
      obtain ⟨u, rfl⟩ := hb.int_of
      exact PyProof.Rows.add_int ⟨_, _, Step.toks r, .int _ _, q⟩
    · obtain ⟨y, rfl, q⟩ := asS_of q
      obtain ⟨t, rfl⟩ := ha.str_of
      obtain ⟨u, rfl⟩ := hb.str_of
      exact SB.add (fun t' k => ⟨_, _, Step.toks r, .str _ _, q.2⟩) (Nat.le_trans q.1 lim_le)
    · obtain ⟨k, rfl, q⟩ := asT_of q
      exact bin_tup r ha hb q
    · exact bin_cat r ha hb q
  · obtain ⟨i, j, rfl, rfl, q⟩ := ints2_of q
    obtain ⟨t, rfl⟩ := ha.int_of
    obtain ⟨u, rfl⟩ := hb.int_of
    exact PyProof.Rows.sub_int ⟨_, _, Step.toks r, .int _ _, q⟩
  · split at q
    · obtain ⟨j, rfl, q⟩ := asInt_of q
      obtain ⟨t, rfl⟩ := ha.int_of
      obtain ⟨u, rfl⟩ := hb.int_of
      refine PyProof.Rows.mul_int ⟨_, _, Step.toks r, .int _ _, q.2⟩ ?_
      rcases q.1 with h | h
      · exact IntMulOk.of_left (intBits_le_64 (by omega) (by omega))
      · exact IntMulOk.of_right (intBits_le_64 (by omega) (by omega))
    · obtain ⟨n, rfl, q⟩ := asInt_of q
      obtain ⟨t, rfl⟩ := ha.str_of
      obtain ⟨u, rfl⟩ := hb.int_of
      exact SB.mul q.1 fun t' k => ⟨_, _, Step.toks r, .str _ _, q.2⟩
    · exact bin_rep r ha hb q
  · obtain ⟨i, j, rfl, rfl, q1, q2, q3⟩ := ints2_of q
    obtain ⟨t, rfl⟩ := ha.int_of
    obtain ⟨u, rfl⟩ := hb.int_of
    refine PyProof.Rows.floordiv_int (Int.ne_of_gt q1) ⟨_, _, Step.toks r, .int _ _, ?_⟩ (.inl (PyProof.noPylong_small (by omega)))
    rw [Int.fdiv_eq_ediv_of_nonneg _ (Int.le_of_lt q1)]; exact q3
  · obtain ⟨i, j, rfl, rfl, q1, q2⟩ := ints2_of q
    obtain ⟨t, rfl⟩ := ha.int_of
    obtain ⟨u, rfl⟩ := hb.int_of
    refine PyProof.Rows.mod_int' (Int.ne_of_gt q1) ⟨_, _, Step.toks r, .int _ _, ?_⟩
    rw [Int.fmod_eq_emod_of_nonneg _ (Int.le_of_lt q1)]; exact q2
  · obtain ⟨i, j, rfl, rfl, q1, q2, q3, q4⟩ := ints2_of q
    obtain ⟨t, rfl⟩ := ha.int_of
    obtain ⟨u, rfl⟩ := hb.int_of
    exact PyProof.Rows.pow_int_small q1 (by omega) (by omega) ⟨_, _, Step.toks r, .int _ _, q4⟩
  · exact q.elim
end
end Mine

set_option autoImplicit false
namespace Mine
set_option linter.unusedVariables false
open PySem PySem.W PySem.Calls PyProof.Rows

section
variable {c : Ctx} {A : Around} {fs : List Env} {μ : Mem} {s : Shared} {E : Value → Shared → Prop}

theorem rd_reads {h : Heap} (r : Rel c μ h) : ∀ (n : Nat) {rv : Value} {v : V} {d : PyData}, RV c h rv v → rd μ n v = some d → (∃ as, Reads h rv d as) ∧ d.canLay0 = true ∧ d.depth ≤ n := by
  intro n
  induction n with
  | zero => intro rv v d _ e; cases e
  | succ n ih =>
    have all : ∀ {xs : List V} {vs : List Value} {ds : List PyData}, RVs c h vs xs → rdAll (rd μ n) xs = some ds → (∃ as, ReadsAll h vs ds as) ∧ PyData.canLayAll0 ds = true ∧ PyData.depthAll ds ≤ n := by
      intro xs
      induction xs with
      | nil => intro vs ds hr e; cases hr.inv; cases e; exact ⟨⟨_, .nil⟩, by simp [PyData.canLayAll0], by simp [PyData.depthAll]⟩
      | cons x xs ihx =>
        intro vs ds hr e
        obtain ⟨_, _, rfl, hv, hr⟩ := hr.inv
        · unfold rdAll at e
          split at e
          · rename_i d ds' e1 e2
            cases e
            obtain ⟨⟨as, h1⟩, h2, h3⟩ := ih hv e1
            obtain ⟨⟨bs, g1⟩, g2, g3⟩ := ihx hr e2
            exact ⟨⟨_, .cons h1 g1⟩, by simp [PyData.canLayAll0, h2, g2], by simp only [PyData.depthAll]; omega⟩
          · first | exact ns e | exact fb e | cases e
    intro rv v d hv e
    cases hv with
    | none => cases e; exact ⟨⟨_, .none⟩, rfl, by simp [PyData.depth]⟩
    | bool b => cases e; exact ⟨⟨_, .bool b⟩, rfl, by simp [PyData.depth]⟩
    | int i t => cases e; exact ⟨⟨_, .int i t⟩, rfl, by simp [PyData.depth]⟩
    | str x t =>
      simp only [rd] at e
      split at e
      · rename_i hs; cases e; exact ⟨⟨_, .str x t⟩, by simpa [PyData.canLay0] using hs, by simp [PyData.depth]⟩
      · first | exact ns e | exact fb e | cases e
    | tup ho hc hd hl _ =>
      simp only [rd, Option.map_eq_some_iff] at e
      obtain ⟨ds, e, rfl⟩ := e
      obtain ⟨⟨as, g1⟩, g2, g3⟩ := all hl e
      exact ⟨⟨_, .tuple ho hc hd g1⟩, by simpa [PyData.canLay0] using g2, by simp only [PyData.depth]; omega⟩
    | ref a =>
      simp only [rd] at e
      split at e
      · rename_i l hl
        simp only [Option.map_eq_some_iff] at e
        obtain ⟨ds, e, rfl⟩ := e
        obtain ⟨_, ob, eo, ro⟩ := r.mem a _ hl
        cases ro with
        | list hr _ =>
          obtain ⟨⟨as, g1⟩, g2, g3⟩ := all hr e
          exact ⟨⟨_, .list eo rfl rfl g1⟩, by simpa [PyData.canLay0] using g2, by simp only [PyData.depth]; omega⟩
      · first | exact ns e | exact fb e | cases e
    | rng => first | exact ns e | exact fb e | cases e
    | exc => first | exact ns e | exact fb e | cases e
    | frz => first | exact ns e | exact fb e | cases e
    | gd => first | exact ns e | exact fb e | cases e

theorem rd_shaped {h : Heap} (r : Rel c μ h) {rv : Value} {v : V} {d : PyData} (hv : RV c h rv v) (e : rd μ 8 v = some d) : (∃ as, Reads h rv d as) ∧ SeqAt.shaped d = true := by
  obtain ⟨h1, h2, h3⟩ := rd_reads r 8 hv e
  exact ⟨h1, by unfold SeqAt.shaped; rw [h2, Bool.true_and]; exact decide_eq_true (by omega)⟩

theorem deq_sound {d : Nat} {hd : Bool} {ra rb : Value} {a b : V} {e : Bool} {P : Value → Shared → Prop} (r : Rel c μ s.heap) (ha : RV c s.heap ra a) (hb : RV c s.heap rb b) (aok : AOK c d hd A fs μ s.heap) (q : deq μ a b = some e) :
    (P (.bool e) s → wpAny (model c.prog c.w) A (compareOp .Eq ra rb) P E s) ∧ (P (.bool (!e)) s → wpAny (model c.prog c.w) A (compareOp .NotEq ra rb) P E s) := by
  unfold deq deqD at q
  split at q
  · rename_i x e1
    obtain ⟨y, e2, rfl⟩ := Option.map_eq_some_iff.mp q
    obtain ⟨⟨as, g1⟩, g2⟩ := rd_shaped r ha e1
    obtain ⟨⟨bs, k1⟩, k2⟩ := rd_shaped r hb e2
    have hu : A.units + 64 < cLine := by have := aok.units; omega
    exact ⟨fun h => eq_dataH g1 k1 g2 k2 hu h, fun h => ne_dataH g1 k1 g2 k2 hu h⟩
  · first | exact ns q | exact fb q | cases q

omit A fs μ s E in
theorem SdAre.get {x : Str} {rs : List (Str × Value)} {l : List (String × Int)} (h : SdAre rs l) : (match sGet l x with | some i => ∃ t, valueAt rs x = some (.int i t) | none => valueAt rs x = none) ∧ (valueAt rs x).isSome = sIn l x := by
  induction h with
  | nil => exact ⟨rfl, rfl⟩
  | @cons k i t rs kvs h ih =>
    unfold sGet sIn valueAt at ih ⊢
    rw [List.find?_cons, List.find?_cons, List.any_cons]
    by_cases e : Str.ofString k = x
    · subst e
      simp only [decide_true, beq_self_eq_true, Option.map_some, Option.isSome_some, Bool.true_or, and_true]
      exact ⟨t, rfl⟩
    · have e' : (Str.ofString k == x) = false := beq_eq_false_iff_ne.mpr e
      simp only [e, e', decide_false, Bool.false_or]
      exact ih
theorem asSd_of {rv : Value} {w : V} {kvs : List (String × Int)} (r : Rel c μ s.heap) (hw : RV c s.heap rv w) (h : asSd w = some kvs) : ∃ a rs, rv = .ref a ∧ s.heap.DictOf (strKind c.prog c.w) a rs ∧ SdAre rs kvs ∧ (a == sysModules) = false := by
  unfold asSd at h
  split at h
  · cases h
    obtain ⟨a, rs, rfl, h1, h2, h3⟩ := hw.inv
    obtain ⟨o, es, ep, ho, rest⟩ := h1
    exact ⟨a, rs, rfl, ⟨o, es, ep, r.base _ _ ho, rest⟩, h2, h3⟩
  · first | exact ns h | exact fb h | cases h
theorem in_sound {d : Nat} {hd : Bool} {ra rb : Value} {a b : V} {e : Bool} {P : Value → Shared → Prop} (r : Rel c μ s.heap) (ha : RV c s.heap ra a) (hb : RV c s.heap rb b) (aok : AOK c d hd A fs μ s.heap) (q : inO a b = some e) :
    ((∀ n, P (.bool e) { s with toks := n }) → wpAny (model c.prog c.w) A (compareOp .In ra rb) P E s) ∧ ((∀ n, P (.bool (!e)) { s with toks := n }) → wpAny (model c.prog c.w) A (compareOp .NotIn ra rb) P E s) := by
  unfold inO at q
  split at q
  · rename_i x
    obtain ⟨t, rfl⟩ := ha.str_of
    split at q
    · rename_i y
      cases q
      obtain ⟨u, rfl⟩ := hb.str_of
      exact ⟨fun h => SB.contains (h _), fun h => SB.notContains (h _)⟩
    · obtain ⟨kvs, q1, rfl⟩ := Option.map_eq_some_iff.mp q
      obtain ⟨a, rs, rfl, h1, h2, h3⟩ := asSd_of r hb q1
      have e := (h2.get (x := x)).2
      refine ⟨fun h => wpAny_in_of (strKind_is _ _ _ _) h3 h1.mapOf ?_, fun h => wpAny_notIn_of (strKind_is _ _ _ _) h3 h1.mapOf ?_⟩
      · rw [e]; exact h _
      · rw [e]; exact h _
  · first | exact ns q | exact fb q | cases q

theorem is_sound {ra rb : Value} {a b : V} {e : Bool} {h : Heap} (ha : RV c h ra a) (hb : RV c h rb b) (q : isO a b = some e) : plainIs ra rb = true ∧ (ra == rb) = e := by
  cases b with
  | none =>
    cases hb.inv
    cases ha <;> (cases q; exact ⟨rfl, rfl⟩)
  | _ => first | exact ns q | exact fb q | cases q
omit A fs μ s E in
theorem intsO_of {a b : V} {ra rb : Value} {h : Heap} {k : Int → Int → Bool} {e : Bool} (ha : RV c h ra a) (hb : RV c h rb b) (q : intsO a b k = some e) : ∃ i j t u, ra = .int i t ∧ rb = .int j u ∧ k i j = e := by
  cases a with
  | int i => cases b with
    | int j =>
      obtain ⟨t, rfl⟩ := ha.int_of
      obtain ⟨u, rfl⟩ := hb.int_of
      exact ⟨i, j, t, u, rfl, rfl, Option.some.inj q⟩
    | _ => first | exact ns q | exact fb q | cases q
  | _ => first | exact ns q | exact fb q | cases q
theorem cmp_sound {d : Nat} {hd : Bool} {op : CmpOp} {ra rb : Value} {a b : V} {Q : V → Mem → Prop} (r : Rel c μ s.heap) (ha : RV c s.heap ra a) (hb : RV c s.heap rb b) (q : cmpW op μ a b Q)
    (aok : AOK c d hd A fs μ s.heap) : wpAny (model c.prog c.w) A (compareOp op ra rb) (Post c fs μ s Q) E s := by
  obtain ⟨e, he, q⟩ : ∃ e, cmpO op μ a b = some e ∧ Q (.bool e) μ := by
    unfold cmpW at q
    split at q
    · rename_i e he; exact ⟨e, he, q⟩
    · exact q.elim
  have fin : Post c fs μ s Q (.bool e) s := ⟨.bool e, μ, Step.refl r, .bool _, q⟩
  have fin' : ∀ n, Post c fs μ s Q (.bool e) { s with toks := n } := fun n => ⟨.bool e, μ, Step.toks r, .bool _, q⟩
  have neg : ∀ {o : Option Bool}, o.map (!·) = some e → ∃ e', o = some e' ∧ (!e') = e := fun h => Option.map_eq_some_iff.mp h
  clear q
  cases op with
  | Eq => exact (deq_sound r ha hb aok he).1 fin
  | NotEq =>
    obtain ⟨e', h1, h2⟩ := neg he
    exact (deq_sound r ha hb aok h1).2 (h2 ▸ fin)
  | Lt =>
    obtain ⟨i, j, t, u, e1, e2, h⟩ := intsO_of ha hb he
    rw [e1, e2]; exact PyProof.Rows.lt_int (h ▸ fin)
  | LtE =>
    obtain ⟨i, j, t, u, e1, e2, h⟩ := intsO_of ha hb he
    rw [e1, e2]; exact PyProof.Rows.le_int (h ▸ fin)
  | Gt =>
    obtain ⟨i, j, t, u, e1, e2, h⟩ := intsO_of ha hb he
    rw [e1, e2]; exact PyProof.Rows.gt_int (h ▸ fin)
  | GtE =>
    obtain ⟨i, j, t, u, e1, e2, h⟩ := intsO_of ha hb he
    rw [e1, e2]; exact PyProof.Rows.ge_int (h ▸ fin)
  | Is =>
    obtain ⟨h1, h2⟩ := is_sound ha hb he
    exact wpAny_is_plain h1 (h2 ▸ fin)
  | IsNot =>
    obtain ⟨e', h0, h3⟩ := neg he
    obtain ⟨h1, h2⟩ := is_sound ha hb h0
    exact wpAny_isNot_plain h1 (by rw [h2, h3]; exact fin)
  | In => exact (in_sound r ha hb aok he).1 fin'
  | NotIn =>
    obtain ⟨e', h1, h2⟩ := neg he
    exact (in_sound r ha hb aok h1).2 fun n => h2 ▸ fin' n

end
end Mine

set_option autoImplicit false
namespace Mine
set_option linter.unusedVariables false
open PySem PySem.W PySem.Calls PyProof.Rows Builtin Builtin.ObjectAttr

theorem ofString_inj {a b : String} (h : Str.ofString a = Str.ofString b) : a = b := by
  rw [Str.ofString_eq_toList, Str.ofString_eq_toList] at h
  injection h with h
  have h' : a.toList.map Char.toNat = b.toList.map Char.toNat := by simpa using congrArg Array.toList h
  have inj : ∀ x y : Char, x.toNat = y.toNat → x = y := fun x y e => Char.ext (by exact UInt32.toNat_inj.mp e)
  have h2 : a.toList = b.toList := by
    generalize a.toList = l at h'
    generalize b.toList = k at h'
    induction l generalizing k with
    | nil => cases k with | nil => rfl | cons _ _ => simp at h'
    | cons x l ih => cases k with
      | nil => simp at h'
      | cons y k => simp only [List.map_cons, List.cons.injEq] at h'; rw [inj x y h'.1, ih k h'.2]
  exact String.ext h2
theorem ofString_beq (a b : String) : (Str.ofString a == Str.ofString b) = (a == b) := by
  by_cases h : a = b
  · subst h; simp
  · have : Str.ofString a ≠ Str.ofString b := fun e => h (ofString_inj e)
    rw [beq_eq_false_iff_ne.mpr this, beq_eq_false_iff_ne.mpr h]

structure ClsOk (K : Frag) (C : Addr) : Prop where
  ga : findIn K (.ref C) "__getattribute__" = some (some (.builtin "object.__getattribute__"))
  gat : findIn K (.ref C) "__getattr__" = some none
  sa : findIn K (.ref C) "__setattr__" = some (some (.builtin "object.__setattr__"))
  dict : hasDictIn K C = true
  over : plainOver K C = true

section
variable {c : Ctx} {A : Around} {fs : List Env} {μ : Mem} {s : Shared} {E : Value → Shared → Prop}

theorem RFs.get {h : Heap} {a : String} {v : V} {es : List DictEntry} {fl : List (String × V)} (q : RFs c h es fl) (e : fl.lookup a = some v) : ∃ rv, getL (Str.ofString a) es = some (some rv) ∧ RV c h rv v := by
  induction q with
  | nil => first | exact ns e | exact fb e | cases e
  | @cons hs t rv x v' es fl hh hv hr ih =>
    simp only [List.lookup_cons] at e
    unfold getL
    rw [List.find?_cons]
    simp only [Value.isStr, ofString_beq]
    have sym : (a == x) = (x == a) := BEq.comm
    cases q : x == a with
    | true =>
      rw [sym, q] at e
      cases e
      exact ⟨rv, rfl, hv⟩
    | false =>
      rw [sym, q] at e
      obtain ⟨rv', h1, h2⟩ := ih e
      refine ⟨rv', ?_, h2⟩
      unfold getL at h1
      simp only [Value.isStr] at h1
      split at h1
      · rename_i en he
        cases h1
        simp only [Value.isStr, he]
      · split at h1 <;> cases h1
theorem RFs.noRef {h : Heap} {es : List DictEntry} {fl : List (String × V)} (q : RFs c h es fl) : es.any (·.refKey) = false := by
  induction q with
  | nil => rfl
  | cons _ _ _ ih => rw [List.any_cons, ih]; rfl
theorem RFs.miss {h : Heap} {a : String} {es : List DictEntry} {fl : List (String × V)} (q : RFs c h es fl) (e : fl.lookup a = none) : es.find? (·.key.isStr (Str.ofString a)) = none := by
  induction q with
  | nil => rfl
  | @cons hs t rv x v' es fl hh hv hr ih =>
    simp only [List.lookup_cons] at e
    rw [List.find?_cons]
    simp only [Value.isStr, ofString_beq]
    have sym : (a == x) = (x == a) := BEq.comm
    cases q : x == a with
    | true => rw [sym, q] at e; cases e
    | false => rw [sym, q] at e; exact ih e
theorem RFs.missL {h : Heap} {a : String} {es : List DictEntry} {fl : List (String × V)} (x : RFs c h es fl) (e : fl.lookup a = none) : getL (Str.ofString a) es = some none := by
  unfold getL; rw [x.miss e, x.noRef]; rfl
theorem RFs.put {h : Heap} {a : String} {v : V} {rv : Value} {t : Tok} (hv : RV c h rv v) {es : List DictEntry} {fl : List (String × V)} (q : RFs c h es fl) : RFs c h (putL (Str.ofString a) (PyData.keyHash c.w.params (Str.ofString a)) (.str (Str.ofString a) t) rv es) (putA a v fl) := by
  induction q with
  | nil => exact .cons rfl hv .nil
  | @cons hs t' rv' x v' es fl hh hw hr ih =>
    unfold putL putA
    simp only [Value.isStr, ofString_beq]
    by_cases q : x = a
    · subst q; simp only [beq_self_eq_true, if_true]; exact .cons hh hv hr
    · simp only [beq_eq_false_iff_ne.mpr q, Bool.false_eq_true, if_false, if_neg q]; exact .cons hh hw ih
theorem putL_len (name : Str) (hs : Int) (k v : Value) : ∀ es : List DictEntry, (putL name hs k v es).length ≤ es.length + 1
  | [] => by simp [putL]
  | e :: r => by unfold putL; split <;> simp [putL_len name hs k v r]
theorem RFs.length {h : Heap} {es : List DictEntry} {fl : List (String × V)} (q : RFs c h es fl) : es.length = fl.length := by
  induction q with
  | nil => rfl
  | cons _ _ _ ih => simp [ih]

theorem handed_of {h : Heap} {rv : Value} {v : V} (x : RV c h rv v) : handedIn rv = true := by cases x <;> rfl

theorem attr_sound {ra : Value} {v w : V} {a : String} {Q : V → Mem → Prop} {expr : Bool} (X : c.K.In s.heap) (r : Rel c μ s.heap) (hv : RV c s.heap ra v) (g : getA μ v a = some w)
    (hc : ∀ x C, c.cls x = some C → ClsOk c.K C) (ha : ∀ x C, c.cls x = some C → findIn c.K (.ref C) (Str.ofString a) = some none) (q : Q w μ) :
    wpAny (model c.prog c.w) A (getAttr ra (Str.ofString a) expr) (Post c fs μ s Q) E s := by
  unfold getA at g
  split at g
  · rename_i x
    cases hv.inv
    split at g
    · rename_i cl d hx
      split at g
      · rename_i fl hd
        obtain ⟨C, h1, h2⟩ := r.insts hx
        obtain ⟨es, n, h3, h4⟩ := r.attr hd
        obtain ⟨rv, h5, h6⟩ := h4.get g
        have I : InstAt s.heap x (instObj C d) C (some (dictOf es n)) := ⟨h2, rfl, rfl, h3⟩
        exact get_value X I (hc _ _ h1).ga (findObj_own (hc _ _ h1).dict (ha _ _ h1) rfl h5) (handed_of h6) ⟨w, μ, Step.toks r, h6, q⟩
      · first | exact ns g | exact fb g | cases g
    · first | exact ns g | exact fb g | cases g
  · first | exact ns g | exact fb g | cases g

theorem store_raw {prog : Program} {w : World} {K : Frag} {x C dx : Addr} {es : List DictEntry} {n : Nat} {name : Str} {v : Value} {Q : Unit → Shared → Prop} (X : K.In s.heap) (hx : s.heap.get? x = some (instObj C dx)) (hd : s.heap.get? dx = some (dictOf es n)) (ok : ClsOk K C)
    (ht : findIn K (.ref C) name = some none) (hl : es.any (·.refKey) = false) (hz : es.length < 900)
    (h : Q () { s with heap := s.heap.update dx (Obj.putName name (PyData.keyHash w.params name) (.str name (s.toks + 1)) v), toks := s.toks + 1 + 1 }) :
    wpAny (model prog w) A (setAttr (.ref x) name v) Q E s := by
  have I : InstAt s.heap x (instObj C dx) C (some (dictOf es n)) := ⟨hx, rfl, rfl, hd⟩
  refine set_plain X I ok.sa ?_
  refine osa_open (s := { s with toks := s.toks + 1 }) X I ok.over (r := none) (by unfold takerIn; rw [ht]; rfl) fun b => ?_
  obtain ⟨cd, hc, hd'⟩ := any_some ok.dict
  have D' : (s.heap.update dx (Obj.putName name (PyData.keyHash w.params name) (.str name (s.toks + 1)) v)).get? dx = some (dictOf (putL name (PyData.keyHash w.params name) (.str name (s.toks + 1)) v es) (putN name es n)) := by
    rw [← putName_dict]
    exact Heap.get?_update_self _ hd (by rw [putName_dict]; rfl)
  refine wpAny_bind (wpAny_pure (wpAny_bind (wpAny_bind (wpAny_loadPart hx (wpAny_bind ((looks_clsIn (M := model prog w) X hc).here (s := { s with toks := s.toks + 1 }) ?_))))))
  rw [hd']
  refine wpAny_pure (a := some dx) (wpAny_bind (wpAny_pure (wpAny_bind ?_)))
  unfold nsSet
  refine wpAny_bind (wpAny_bind (wpAny_askSetting (wpAny_pure (wpAny_bind (wpAny_mkText (wpAny_bind (wpAny_loadPart hd ?_)))))))
  dsimp only
  have cc : (!es.toArray.any (·.key.isStr name) && es.toArray.any (·.refKey)) = false := by
    rw [← Array.any_toList, ← Array.any_toList, hl, Bool.and_false]
  rw [aRefKeyMayBeTheName_at, cc]
  refine wpAny_updatePart hd ?_
  refine wpAny_bind (wpAny_lookBehind D' (pastItsLine_dict (by have := putL_len name (PyData.keyHash w.params name) (.str name (s.toks + 1)) v es; rw [List.size_toArray, sizeLine_eq]; omega)) ?_)
  exact wpAny_pure h

theorem setattr_sound {rv : Value} {v : V} {x d : Addr} {cl a : String} {fl : List (String × V)} {P : Unit → Shared → Prop} (X : c.K.In s.heap) (r : Rel c μ s.heap) (hv : RV c s.heap rv v) (hx : μ x = some (.inst cl d)) (hd : μ d = some (.attrs fl))
    (hc : ∀ x C, c.cls x = some C → ClsOk c.K C) (ha : ∀ x C, c.cls x = some C → findIn c.K (.ref C) (Str.ofString a) = some none) (hz : fl.length < 900)
    (h : ∀ s', Step c fs μ (updM μ d (.attrs (putA a v fl))) s s' → P () s') : wpAny (model c.prog c.w) A (setAttr (.ref x) (Str.ofString a) rv) P E s := by
  obtain ⟨C, h1, h2⟩ := r.insts hx
  obtain ⟨es, n, h3, h4⟩ := r.attr hd
  refine store_raw X h2 h3 (hc _ _ h1) (ha _ _ h1) h4.noRef (by rw [h4.length]; exact hz) (h _ ?_)
  refine Step.store r hd (fun b hb => Heap.get?_update_other _ _ (Ne.symm hb)) (ob := dictOf (putL (Str.ofString a) (PyData.keyHash c.w.params (Str.ofString a)) (.str (Str.ofString a) (s.toks + 1)) rv es) (putN (Str.ofString a) es n)) ?_ (.attrs (h4.put hv))
  rw [← putName_dict]
  exact Heap.get?_update_self _ h3 (by rw [putName_dict]; rfl)

end
end Mine

set_option autoImplicit false
namespace Mine
set_option linter.unusedVariables false
open PySem PySem.W PySem.Calls PyProof.Rows

theorem subscripted_toE (e : E) (o i : Value) : subscripted (toE e) false o i = operate [o, i] (getItem o i) := by
  cases e <;> rfl

section
variable {c : Ctx} {A : Around} {fs : List Env} {μ : Mem} {s : Shared} {E : Value → Shared → Prop}

theorem seqIndex_of {l : List V} {i : Int} {w : V} (h : idx l i = some w) : ∃ j, seqIndex? i l.length = some j ∧ l[j]? = some w := by
  unfold idx at h
  split at h
  · rename_i h0
    have := (List.getElem?_eq_some_iff.mp h).1
    refine ⟨i.toNat, ?_, h⟩
    unfold seqIndex?
    simp only [show ¬ i < 0 from by omega, if_false]
    rw [if_pos (by simp only [Bool.and_eq_true, decide_eq_true_eq]; omega)]
  · split at h
    · rename_i h0 h1
      have := (List.getElem?_eq_some_iff.mp h).1
      refine ⟨(i + l.length).toNat, ?_, h⟩
      unfold seqIndex?
      simp only [show i < 0 from by omega, if_true]
      rw [if_pos (by simp only [Bool.and_eq_true, decide_eq_true_eq]; omega)]
    · first | exact ns h | exact fb h | cases h

theorem idx_bound {l : List V} {i : Int} {w : V} (h : idx l i = some w) : -(l.length : Int) ≤ i ∧ i < l.length := by
  unfold idx at h
  split at h
  · have := (List.getElem?_eq_some_iff.mp h).1; omega
  · split at h
    · have := (List.getElem?_eq_some_iff.mp h).1; omega
    · first | exact ns h | exact fb h | cases h

end
end Mine

set_option autoImplicit false
namespace Mine
set_option linter.unusedVariables false
set_option linter.unusedSimpArgs false
open PySem PySem.W PySem.Calls PyProof.Rows

theorem lim_val : lim = 1048576 := rfl

section
variable {c : Ctx} {A : Around} {fs : List Env} {μ : Mem} {s : Shared} {E : Value → Shared → Prop}

theorem ints_get {vs : List Value} {ns : List Int} (hi : IntsAre vs ns) {i : Nat} {n : Int} (h : ns[i]? = some n) : ∃ t, vs[i]? = some (.int n t) := hi.get i n h

theorem subI_sound {value : Expr} {e : Mine.E} {ra : Value} {v w : V} {i : Int} {t : Tok} {Q : V → Mem → Prop} (r : Rel c μ s.heap) (ha : RV c s.heap ra v) (g : subI μ v i = some w) (q : Q w μ) :
    wpAny (model c.prog c.w) A (subscriptTail value (toE e) ra (.int i t)) (Post c fs μ s Q) E s := by
  cases ha with
  | @ref x =>
    obtain ⟨l, hl, g⟩ : ∃ l, μ x = some (.list l) ∧ idx l i = some w := by
      unfold subI at g
      dsimp only at g
      split at g
      · rename_i l hl; exact ⟨l, hl, g⟩
      · first | exact ns g | exact fb g | cases g
    obtain ⟨vs, n, h1, h2, h3⟩ := r.lst hl
    have hb := idx_bound g
    have hsz : vs.size = l.length := by rw [← Array.length_toList, h2.length]
    rw [lim_val] at h3
    have key : ∀ {jj : Nat} {y : V}, l[jj]? = some y → ∃ rv, vs[jj]? = some rv ∧ RV c s.heap rv y := fun h => by
      obtain ⟨rv, k1, k2⟩ := h2.get h
      exact ⟨rv, by rw [← Array.getElem?_toList]; exact k1, k2⟩
    refine tail_any h1.isList.typeIs slot_list_getitem.lookup ?_ (subscripted_toE e _ _)
    unfold idx at g
    split at g
    · obtain ⟨rv, k1, k2⟩ := key g
      exact wpAny_getItem_list h1.isList (by omega) (by omega) k1 ⟨w, μ, Step.refl r, k2, q⟩
    · split at g
      · obtain ⟨rv, k1, k2⟩ := key g
        exact wpAny_getItem_list_neg h1.isList (by omega) (by omega) (by omega) (by rw [hsz]; exact k1) ⟨w, μ, Step.refl r, k2, q⟩
      · first | exact ns g | exact fb g | cases g
  | @tup a o vs n _ ho hc hd hl hz =>
    obtain ⟨jj, k1, k2⟩ := seqIndex_of g
    have hb := idx_bound g
    rw [lim_val] at hz
    obtain ⟨rv, k3, k4⟩ := hl.get k2
    have ht : IsTup s.heap a vs.toList.toArray := ⟨_, ho, hc, n, by simpa using hd⟩
    exact item_tupleT ht (by omega) (by omega) (by rw [hl.length]; exact k1) k3 ⟨w, μ, Step.refl r, k4, q⟩ (subscripted_toE e _ _)
  | @frz a o vs n _ e1 e2 e3 e4 e5 =>
    simp only [subI] at g
    split at g
    · obtain ⟨n', k1, rfl⟩ := Option.map_eq_some_iff.mp g
      have hb := (List.getElem?_eq_some_iff.mp k1).1
      obtain ⟨t, k2⟩ := ints_get e4 k1
      rw [lim_val] at e5
      have hL : s.heap.IsList a vs := ⟨_, r.base _ _ e1, e2, n, e3⟩
      exact tail_any hL.typeIs slot_list_getitem.lookup (wpAny_getItem_list hL (by omega) (by omega) (by rw [← Array.getElem?_toList]; exact k2) ⟨_, μ, Step.refl r, .int _ _, q⟩) (subscripted_toE e _ _)
    · first | exact ns g | exact fb g | cases g
  | str x t =>
    simp only [subI] at g
    split at g
    · rename_i hb
      cases g
      rw [lim_val] at hb
      have hin : (Txt.charAt x i).isSome = true := by
        unfold Txt.charAt seqIndex?
        have h1 : ¬ i < 0 := Int.not_lt.mpr hb.1
        have h2 : (decide (0 ≤ i) && decide (i < (x.length : Int))) = true := by rw [Bool.and_eq_true, decide_eq_true_eq, decide_eq_true_eq]; exact ⟨hb.1, hb.2.1⟩
        have h3 : i.toNat < x.cps.size := (Int.toNat_lt hb.1).mpr hb.2.1
        simp only [h1, if_false, h2, if_true, Option.bind_some]
        rw [Array.getElem?_eq_getElem h3]; rfl
      refine tail_any (typeIs_str _ _ _) F.slot_str_getitem.lookup (SB.getItem (by unfold fitsSsize; rw [decide_eq_false (by omega : ¬ i < -2 ^ 63), decide_eq_false (by omega : ¬ i ≥ 2 ^ 63)]; rfl) hin ⟨_, μ, Step.toks r, .str _ _, q⟩) (subscripted_toE e _ _)
    · first | exact ns g | exact fb g | cases g
  | _ => first | exact ns g | exact fb g | cases g
theorem sub_sound {value : Expr} {e : Mine.E} {ra ri : Value} {v j w : V} {Q : V → Mem → Prop} (r : Rel c μ s.heap) (ha : RV c s.heap ra v) (hi : RV c s.heap ri j) (g : subO μ v j = some w) (q : Q w μ) :
    wpAny (model c.prog c.w) A (subscriptTail value (toE e) ra ri) (Post c fs μ s Q) E s := by
  cases hi with
  | int i t => exact subI_sound r ha g q
  | str x t =>
    obtain ⟨kvs, q1, q2⟩ := Option.bind_eq_some_iff.mp g
    obtain ⟨i, q3, rfl⟩ := Option.map_eq_some_iff.mp q2
    obtain ⟨a, rs, rfl, h1, h2, h3⟩ := asSd_of r ha q1
    have hv := (h2.get (x := x)).1
    rw [q3] at hv
    obtain ⟨u, hv⟩ := hv
    exact tail_any h1.typeIs slot_dict_getitem.lookup (wpAny_getItem_of (Q := Post c fs μ s Q) (strKind_is _ _ _ _) h1.mapOf hv ⟨_, μ, Step.toks r, .int _ _, q⟩) (subscripted_toE e _ _)
  | _ => first | exact ns g | exact fb g | cases g

theorem cut_sound {h : Heap} {vs : Array Value} {l : List V} {lo hi : Option Int} (hr : RVs c h vs.toList l) (h1 : nn lo) (h2 : nn hi) (h3 : lo = none ∨ hi = none) : RVs c h (slicePick vs lo hi none).toList (cut lo hi l) := by
  rw [slicePick_plain]
  simp only [List.toList_toArray, cut]
  have cl : ∀ i : Int, 0 ≤ i → clipAt vs.size i = min i.toNat vs.size := fun i hi => by
    have : clipAt vs.size ((i.toNat : Nat) : Int) = min i.toNat vs.size := clipAt_nat ..
    rw [← this, Int.toNat_of_nonneg hi]
  have hv : vs.toList.length = vs.size := Array.length_toList
  have hl := hr.length
  cases lo with
  | none =>
    simp only [Option.elim, List.drop_zero, Nat.sub_zero]
    cases hi with
    | none => simp only [Option.elim]; rw [List.take_of_length_le (Nat.le_of_eq hv)]; exact hr
    | some u =>
      simp only [Option.elim, cl u h2]
      rw [← hv, ← List.take_take, List.take_length]
      exact hr.take u.toNat
  | some i =>
    simp only [Option.elim, cl i h1]
    cases hi with
    | none =>
      simp only [Option.elim]
      have e : vs.toList.drop (min i.toNat vs.size) = vs.toList.drop i.toNat := by
        by_cases hi : i.toNat ≤ vs.size
        · rw [Nat.min_eq_left hi]
        · have hi := Nat.le_of_not_le hi
          rw [Nat.min_eq_right hi, List.drop_of_length_le (Nat.le_of_eq hv), List.drop_of_length_le (hv ▸ hi)]
      rw [e, List.take_of_length_le]
      · exact hr.drop _
      · rw [← e, List.length_drop, hv]; exact Nat.le_refl _
    | some u => rcases h3 with h | h <;> cases h

noncomputable def upTo (hi : Option Int) (n : Nat) : Nat := match hi with | some u => min u.toNat n | none => n
theorem adjust_cut {a n : Nat} {hi : Option Int} (ha : a ≤ n) (h : nn hi) : Builtin.Slice.sliceAdjust (some (a : Int)) hi 1 (n : Int) = ((a : Int), (upTo hi n : Int)) := by
  unfold Builtin.Slice.sliceAdjust upTo
  have h1 : ¬ ((1 : Int) < 0) := by decide
  have h2 : ¬ ((a : Int) < 0) := Int.not_lt.mpr (Int.natCast_nonneg a)
  have h4 : min (a : Int) (n : Int) = a := Int.min_eq_left (Int.ofNat_le.mpr ha)
  cases hi with
  | none => simp only [h1, h2, if_false]; congr 1
  | some u =>
    have h3 : ¬ (u < 0) := Int.not_lt.mpr h
    simp only [h1, h2, h3, if_false]
    have : (0 : Int) ≤ u := h
    congr 1 <;> omega
theorem places_cut (a n : Nat) : Builtin.Slice.slicePlaces (a : Int) (n : Int) 1 = n - a := by
  unfold Builtin.Slice.slicePlaces
  have h1 : (1 : Int) > 0 := by decide
  simp only [h1, if_true, Int.ediv_one]
  split <;> omega
theorem sliceApplied_cut {sl : Addr} {a n : Nat} {u : Tok} {vu : Value} {hi : Option Int} {s : Shared} {Q : Int × Int × Nat → Shared → Prop} {prog : Program} {w : World} (hs : s.heap.IsSliceOf sl (.int a u) vu .none) (pu : IsPart vu hi) (ha : a ≤ n) (hn : nn hi) (h : Q ((a : Int), 1, upTo hi n - a) s) :
    wpAny (model prog w) A (Builtin.Slice.sliceApplied (.ref sl) (pure (n : Int))) Q E s := by
  obtain ⟨os, hos, hcs, hds⟩ := id hs
  unfold Builtin.Slice.sliceApplied Builtin.Slice.sliceFields
  refine wpAny_bind (wpAny_bind (wpAny_field hos hds (x := .int a u) rfl (wpAny_bind (wpAny_field hos hds (x := vu) rfl (wpAny_bind (wpAny_field hos hds (x := .none) rfl (wpAny_pure ?_)))))))
  refine wpAny_bind (slicePart_none ?_)
  show wpAny _ _ (if ((1 : Int) == 0) = true then _ else _) _ _ s
  rw [if_neg (by decide)]
  have fin : wpAny (model prog w) A (match Builtin.Slice.sliceAdjust (some (a : Int)) hi 1 (n : Int) with | (lo, hi) => pure (lo, (1 : Int), Builtin.Slice.slicePlaces lo hi 1)) Q E s := by
    rw [adjust_cut ha hn]
    show wpAny _ _ (pure ((a : Int), (1 : Int), Builtin.Slice.slicePlaces (a : Int) ((upTo hi n : Nat) : Int) 1)) _ _ s
    rw [places_cut]
    exact wpAny_pure h
  cases pu with
  | none => exact wpAny_bind (slicePart_int (wpAny_bind (slicePart_none (wpAny_bind (wpAny_pure fin)))))
  | int i t => exact wpAny_bind (slicePart_int (wpAny_bind (slicePart_int (wpAny_bind (wpAny_pure fin)))))
theorem getItem_tuple_cut {t sl : Addr} {items : Array Value} {a : Nat} {u : Tok} {vu : Value} {hi : Option Int} {s : Shared} {Q : Value → Shared → Prop} {prog : Program} {w : World} (ht : IsTup s.heap t items) (hs : s.heap.IsSliceOf sl (.int a u) vu .none) (pu : IsPart vu hi) (h1 : 1 ≤ a) (ha : a ≤ items.size) (hn : nn hi)
    (h : Q (.ref s.heap.objs.size) { s with heap := s.heap.push { cls := .type "tuple", data := .seq ((items.toList.drop a).take (upTo hi items.size - a)).toArray } })
    (hsz : items.size ≤ sizeLine) : wpAny (model prog w) A (getItem (.ref t) (.ref sl)) Q E s := by
  have hdrop : sizeOk (.seq ((items.toList.drop a).take (upTo hi items.size - a)).toArray) := by
    show ((items.toList.drop a).take (upTo hi items.size - a)).toArray.size ≤ sizeLine
    rw [List.size_toArray, List.length_take, List.length_drop, Array.length_toList]
    omega
  obtain ⟨os, hos, hcs, hds⟩ := id hs
  have hTs : s.TypeIs (.ref sl) "slice" := ⟨os, hos, hcs⟩
  unfold getItem
  try with_reducible refine wpAny_holding ?_
  first | refine wpAny_bind (wpAny_pure ?_) | skip
  refine wpAny_bind (wpAny_sequenceKey ht.typeIs (by decide) ?_)
  refine wpAny_bind (wpAny_callSpecial?_slot (name := Str.ofString "__getitem__") ht.typeIs slot_tuple_getitem
    (wpAny_call_entry slot_tuple_getitem ht.typeIs entry_tuple_getitem ?_ (args_tuple_getitem _ _)))
  show wpAny _ _ (Builtin.Tuple.tupleItemsOf (.ref t) >>= _) _ _ s
  refine wpAny_bind (tupleItemsOf_ ht ?_)
  refine wpAny_bind (wpAny_typeOf hTs ?_)
  rw [if_pos (by decide)]
  refine wpAny_bind (sliceApplied_cut hs pu ha hn ?_)
  have hno : ¬ (((a : Int) == 0 && (1 : Int) == 1 && (upTo hi items.size - a) == items.size) = true) := by
    have : ((a : Int) == 0) = false := by rw [beq_eq_false_iff_ne]; omega
    rw [this]; simp
  show wpAny _ _ (if ((a : Int) == 0 && (1 : Int) == 1 && (upTo hi items.size - a) == items.size) = true then _ else _) _ _ s
  have pk : ((List.range (upTo hi items.size - a)).filterMap fun (k : Nat) => items[((a : Int) + (k : Int) * 1).toNat]?).toArray = ((items.toList.drop a).take (upTo hi items.size - a)).toArray := by
    have e : (fun (k : Nat) => items[((a : Int) + (k : Int) * 1).toNat]?) = fun k => items[a + k]? := by
      funext k
      have : ((a : Int) + (k : Int) * 1).toNat = a + k := by omega
      rw [this]
    rw [e]
    have := pick_run items a (upTo hi items.size - a)
    rw [List.filterMap_map] at this
    have e2 : ((fun x => items[x]?) ∘ fun x => a + x) = fun k => items[a + k]? := rfl
    rw [e2] at this
    rw [this]
  rw [if_neg hno, pk]
  first
    | exact wpAny_bind (m := Builtin.Tuple.tupleExact _) (wpAny_newObj_type (wpAny_pure ⟨_, rfl, wpAny_pure h⟩) hdrop)
    | exact wpAny_bind (m := Builtin.Tuple.tupleExact _) (wpAny_newObj_type (wpAny_bind (wpAny_pure (wpAny_pure ⟨_, rfl, wpAny_pure h⟩))) hdrop)
    | exact wpAny_bind (wpAny_bind (m := Builtin.Tuple.tupleExact _) (wpAny_newObj_type (wpAny_pure (wpAny_pure ⟨_, rfl, wpAny_pure h⟩)) hdrop))
    | exact wpAny_bind (wpAny_bind (m := Builtin.Tuple.tupleExact _) (wpAny_newObj_type (wpAny_pure ⟨_, rfl, wpAny_pure h⟩) hdrop))
theorem cut_tup {h : Heap} {vs : Array Value} {l : List V} {i : Int} {hi : Option Int} (hr : RVs c h vs.toList l) : RVs c h ((vs.toList.drop i.toNat).take (upTo hi vs.size - i.toNat)) (cut (some i) hi l) := by
  have hl := hr.length
  rw [Array.length_toList] at hl
  cases hi with
  | none =>
    simp only [cut, upTo]
    rw [List.take_of_length_le (by simp)]
    exact hr.drop _
  | some u =>
    simp only [cut, upTo]
    have e : (vs.toList.drop i.toNat).take (min u.toNat vs.size - i.toNat) = (vs.toList.take u.toNat).drop i.toNat := by
      rw [List.drop_take]
      by_cases hu : u.toNat ≤ vs.size
      · rw [Nat.min_eq_left hu]
      · rw [Nat.min_eq_right (by omega), List.take_of_length_le (by simp), List.take_of_length_le (by simp; omega)]
    rw [e]
    exact (hr.take _).drop _

omit A fs μ s E in
theorem part_opt {rv : Value} {o : Option Int} (p : IsPart rv o) : ∃ q : Option (Int × Tok), rv = partValue q ∧ o = q.map (·.1) := by
  cases p with
  | none => exact ⟨none, rfl, rfl⟩
  | int i t => exact ⟨some (i, t), rfl, rfl⟩
theorem slice_sound {value slice : Expr} {ra rl ru : Value} {v : V} {lo hi : Option Int} {Q : V → Mem → Prop} {s : Shared} (r : Rel c μ s.heap) (ha : RV c s.heap ra v) (pl : IsPart rl lo) (pu : IsPart ru hi) (g : sliceW μ v lo hi Q)
    (hs : ∀ a i, subscripted slice false a i = operate [i, a] (getItem a i)) :
    wpAny (model c.prog c.w) A (subscriptTail value slice ra (.ref s.heap.objs.size)) (Post c fs μ s Q) E { s with heap := s.heap.push { cls := .type "slice", data := .fields #[rl, ru, .none] } } := by
  unfold sliceW at g
  split at g
  · rename_i x
    cases ha.inv
    split at g
    · rename_i l hl
      obtain ⟨vs, n, h1, h2, h3⟩ := r.lst hl
      have hz : vs.size ≤ sizeLine := newL_size h2 h3
      refine tail_any (Heap.IsList.typeIs (s := { s with heap := s.heap.push { cls := .type "slice", data := .fields #[rl, ru, .none] } }) (h1.isList.push _)) list_getitem_lookup
        (wpAny_getItem_list_slice (h1.isList.push _) (Heap.IsSliceOf.new ..) pl pu .none (by simp) ?_ hz) (hs _ _)
      have st : Step c fs μ μ s { s with heap := s.heap.push { cls := .type "slice", data := .fields #[rl, ru, .none] } } := Step.grows (n := s.toks) r fun b o e => Heap.get?_push_of_some _ e
      exact (post_newL (s := { s with heap := s.heap.push { cls := .type "slice", data := .fields #[rl, ru, .none] } }) st.rel (cut_sound (h2.step r st) g.1 g.2.1 g.2.2.1) g.2.2.2 s.toks).after st
    · exact g.elim
  · rename_i l
    split at g
    · rename_i i
      obtain ⟨g1, g2, g3, g⟩ := g
      obtain ⟨t, o, vs, n, rfl, ho, hc, hdd, hl, hz⟩ := ha.inv
      cases pl with
      | int _ u =>
      have hsz : vs.size = l.length := by rw [← Array.length_toList, hl.length]
      rw [lim_val] at hz
      have ei : ((i.toNat : Nat) : Int) = i := by omega
      have ht' : IsTup (s.heap.push { cls := .type "slice", data := .fields #[.int i u, ru, .none] }) t vs := ⟨o, Heap.get?_push_of_some _ ho, hc, n, hdd⟩
      refine tail_any (s := { s with heap := s.heap.push { cls := .type "slice", data := .fields #[.int i u, ru, .none] } }) ht'.typeIs slot_tuple_getitem.lookup ?_ (hs _ _)
      refine getItem_tuple_cut (s := { s with heap := s.heap.push { cls := .type "slice", data := .fields #[.int i u, ru, .none] } }) (a := i.toNat) (u := u) ht' (by rw [ei]; exact Heap.IsSliceOf.new ..) pu (by omega) (by omega) g3 ?_ (by rw [sizeLine_eq]; omega)
      have st : Step c fs μ μ s { s with heap := (s.heap.push { cls := .type "slice", data := .fields #[.int i u, ru, .none] }).push { cls := .type "tuple", data := .seq ((vs.toList.drop i.toNat).take (upTo hi vs.size - i.toNat)).toArray } } := Step.grows (n := s.toks) r fun b o e => Heap.get?_push_of_some _ (Heap.get?_push_of_some _ e)
      have hr' : RVs c s.heap ((vs.toList.drop i.toNat).take (upTo hi vs.size - i.toNat)) (cut (some i) hi l) := cut_tup hl
      refine ⟨_, μ, st, .tup (Heap.get?_push_size _ rfl) rfl rfl (by simpa using hr'.step r st) ?_, g⟩
      have := hr'.length
      rw [List.length_take, List.length_drop, Array.length_toList] at this
      rw [lim_val]
      omega
    · exact g.elim
  · rename_i x
    obtain ⟨t, rfl⟩ := ha.str_of
    have hsz : x.length ≤ sizeLine := Nat.le_trans g.1 lim_le
    obtain ⟨l, rfl, rfl⟩ := part_opt pl
    obtain ⟨u, rfl, rfl⟩ := part_opt pu
    exact tail_any (s := { s with heap := s.heap.push { cls := .type "slice", data := .fields #[partValue l, partValue u, .none] } }) (typeIs_str _ _ _) F.slot_str_getitem.lookup (wpAny_getItem_str_slice (l := l) (u := u) (st := none) ⟨_, Heap.get?_push_size _ rfl, rfl, rfl⟩ rfl
      (post_val_or_str ⟨Nat.le_trans (Txt.slice_le x _ _) hsz, fun t' k => ⟨_, μ, Step.grows r fun b o e => Heap.get?_push_of_some _ e, .str _ _, g.2⟩⟩)) (hs _ _)
  · exact g.elim

end
end Mine

set_option autoImplicit false
namespace Mine
set_option linter.unusedVariables false
set_option linter.unusedSimpArgs false
open PySem PySem.W PySem.Calls PyProof.Rows

section
variable {c : Ctx} {A : Around} {fs : List Env} {μ : Mem} {s : Shared} {E : Value → Shared → Prop}

theorem isi_ty_sound {ra : Value} {v : V} {n : String} {b : Bool} {P : Value → Shared → Prop} (r : Rel c μ s.heap) (ha : RV c s.heap ra v) (g : isiO μ v (.ty n) = some b)
    (h : ∀ tk, P (.bool b) { s with toks := tk }) : wpAny (model c.prog c.w) A (call (.builtin "isinstance") [ra, .type n]) P E s := by
  have h0 := h s.toks
  have h' := h (s.toks + 1)
  have fin : ∀ t, ((if n = "int" ∨ n = "bool" ∨ n = "str" ∨ n = "tuple" ∨ n = "list" then (some t).map fun t => t == n || (t == "bool" && n == "int") else none) = some b) → (n = "int" ∨ n = "bool" ∨ n = "str" ∨ n = "tuple" ∨ n = "list") ∧ (t == n || (t == "bool" && n == "int")) = b := fun t g => by
    split at g
    · rename_i hn; exact ⟨hn, Option.some.inj g⟩
    · first | exact ns g | exact fb g | cases g
  cases ha with
  | none => obtain ⟨hn, h2⟩ := fin _ g; rcases hn with rfl | rfl | rfl | rfl | rfl <;> simp at h2 <;> subst h2 <;> first | exact IsiPair.NoneType_int h' | exact IsiPair.NoneType_bool h' | exact IsiPair.NoneType_str h' | exact IsiPair.NoneType_tuple h' | exact IsiPair.NoneType_list h'
  | bool x => obtain ⟨hn, h2⟩ := fin _ g; rcases hn with rfl | rfl | rfl | rfl | rfl <;> simp at h2 <;> subst h2 <;> first | exact IsiPair.bool_int h0 | exact IsiPair.bool_bool h0 | exact IsiPair.bool_str h' | exact IsiPair.bool_tuple h' | exact IsiPair.bool_list h'
  | int x t => obtain ⟨hn, h2⟩ := fin _ g; rcases hn with rfl | rfl | rfl | rfl | rfl <;> simp at h2 <;> subst h2 <;> first | exact IsiPair.int_int h0 | exact IsiPair.int_bool h' | exact IsiPair.int_str h' | exact IsiPair.int_tuple h' | exact IsiPair.int_list h'
  | str x t => obtain ⟨hn, h2⟩ := fin _ g; rcases hn with rfl | rfl | rfl | rfl | rfl <;> simp at h2 <;> subst h2 <;> first | exact IsiPair.str_int h' | exact IsiPair.str_bool h' | exact IsiPair.str_str h0 | exact IsiPair.str_tuple h' | exact IsiPair.str_list h'
  | tup ho hc _ _ _ => obtain ⟨hn, h2⟩ := fin _ g; rcases hn with rfl | rfl | rfl | rfl | rfl <;> simp at h2 <;> subst h2 <;> first | exact IsiPair.tuple_int ho hc h' | exact IsiPair.tuple_bool ho hc h' | exact IsiPair.tuple_str ho hc h' | exact IsiPair.tuple_tuple ho hc h0 | exact IsiPair.tuple_list ho hc h'
  | ref a =>
    simp only [isiO, tyO] at g
    cases hm : μ a with
    | none => rw [hm] at g; split at g <;> cases g
    | some o =>
      rw [hm] at g
      cases o with
      | list l =>
        obtain ⟨vs, k, e, _⟩ := r.lst hm
        obtain ⟨hn, h2⟩ := fin _ g
        rcases hn with rfl | rfl | rfl | rfl | rfl <;> simp at h2 <;> subst h2 <;> first | exact IsiPair.list_int e rfl h' | exact IsiPair.list_bool e rfl h' | exact IsiPair.list_str e rfl h' | exact IsiPair.list_tuple e rfl h' | exact IsiPair.list_list e rfl h0
      | _ => split at g <;> cases g
  | rng _ _ => simp only [isiO, tyO] at g; split at g <;> cases g
  | exc _ _ _ _ => simp only [isiO, tyO] at g; split at g <;> cases g
  | frz _ _ _ _ _ => simp only [isiO, tyO] at g; split at g <;> cases g
  | gd _ _ _ => simp only [isiO, tyO] at g; split at g <;> cases g

noncomputable def bltnV (f : String) : Value := if f = "len" ∨ f = "min" ∨ f = "max" then .builtin f else .type f

theorem len_sound {rv : Value} {v : V} {Q : V → Mem → Prop} (r : Rel c μ s.heap) (hv : RV c s.heap rv v) (q : lenW v μ Q) : wpAny (model c.prog c.w) A (call (.builtin "len") [rv]) (Post c fs μ s Q) E s := by
  unfold lenW at q
  split at q
  · obtain ⟨a, o, us, n, rfl, ho, hc, hdd, hl, hz⟩ := hv.inv
    rw [lim_val] at hz
    have hsz := hl.length
    rw [Array.length_toList] at hsz
    refine PyProof.Rows.len_tuple ⟨_, ho, hc, n, hdd⟩ (by omega) ⟨_, _, Step.toks r, .int _ _, ?_⟩
    rw [hsz]; exact q
  · obtain ⟨a, o, us, n, rfl, e1, e2, e3, e4, e5⟩ := hv.inv
    rw [lim_val] at e5
    have hsz := e4.length
    rw [Array.length_toList] at hsz
    refine call_len_list (items := us) ⟨_, r.base _ _ e1, e2, n, e3⟩ (by omega) ⟨_, _, Step.toks r, .int _ _, ?_⟩
    rw [hsz]; exact q
  · rename_i x
    obtain ⟨t, rfl⟩ := hv.str_of
    have hz := q.1
    rw [lim_val] at hz
    exact PyProof.Rows.len_str (by omega) ⟨_, _, Step.toks r, .int _ _, q.2⟩
  · obtain ⟨x, l, rfl, hl, q⟩ := asL_of q
    cases hv.ref_of
    obtain ⟨us, n, h1, h2, h3⟩ := r.lst hl
    have hsz : us.size = l.length := by rw [← Array.length_toList, h2.length]
    rw [lim_val] at h3
    refine call_len_list h1.isList (by omega) ⟨_, _, Step.toks r, .int _ _, ?_⟩
    rw [hsz]; exact q
theorem rngB_sound {rvs : List Value} {vs : List V} {Q : V → Mem → Prop} (r : Rel c μ s.heap) (hr : RVs c s.heap rvs vs) (q : rngW vs μ Q) : wpAny (model c.prog c.w) A (call (.type "range") rvs) (Post c fs μ s Q) E s := by
  obtain ⟨v, rfl, q⟩ := one_of q
  obtain ⟨b, rfl, q⟩ := asInt_of q
  obtain ⟨_, rfl, hv⟩ := hr.one
  obtain ⟨_, rfl⟩ := hv.int_of
  exact call_range_1 ⟨_, _, Step.grows r fun b o e => Heap.get?_push_of_some _ e, .rng (Heap.get?_push_size _ rfl) ⟨by decide, ⟨q.2.1, Int.lt_of_le_of_lt q.1 (by decide)⟩, rfl⟩, q.2.2⟩

theorem bltn_sound {d : Nat} {hd : Bool} {f : String} {rvs : List Value} {vs : List V} {Q : V → Mem → Prop} (r : Rel c μ s.heap) (hr : RVs c s.heap rvs vs) (q : bltnW hd f vs μ Q) (aok : AOK c d hd A fs μ s.heap) :
    wpAny (model c.prog c.w) A (call (bltnV f) rvs) (Post c fs μ s Q) E s := by
  unfold bltnW at q
  split at q
  · rename_i e; subst e
    obtain ⟨v, rfl, q⟩ := one_of q
    obtain ⟨_, rfl, hv⟩ := hr.one
    exact len_sound r hv q
  split at q
  · rename_i e; subst e
    obtain ⟨v, rfl, q⟩ := one_of q
    obtain ⟨_, rfl, hv⟩ := hr.one
    obtain ⟨x, rfl, q1, q⟩ := asS_of q
    obtain ⟨t, rfl⟩ := hv.str_of
    unfold optW at q
    split at q
    · rename_i w hw
      obtain ⟨n, hn, rfl⟩ := Option.map_eq_some_iff.mp hw
      exact PySem.W.KIN.call_text hn q1 ⟨_, _, Step.toks r, .int _ _, q⟩
    · exact q.elim
  split at q
  · rename_i e; subst e
    obtain ⟨v, rfl, g⟩ := one_of q
    obtain ⟨_, rfl, hv⟩ := hr.one
    unfold strOfW at g
    split at g
    · obtain ⟨t, rfl⟩ := hv.int_of
      exact P.str_of_int g.1 ⟨_, _, Step.toks r, .str _ _, g.2⟩
    · obtain ⟨t, rfl⟩ := hv.str_of
      exact P.str_of_str ⟨_, _, Step.refl r, .str _ _, g⟩
    · exact g.elim
  split at q
  · rename_i e; subst e
    obtain ⟨v, rfl, q⟩ := one_of q
    obtain ⟨_, rfl, hv⟩ := hr.one
    obtain ⟨x, l, rfl, hl, q⟩ := asL_of q
    cases hv.ref_of
    obtain ⟨us, n, h1, h2, h3⟩ := r.lst hl
    refine call_tuple_list h1.isList (fun h' hk => ?_) (newL_size h2 h3)
    have st : Step c fs μ μ s { s with heap := h' } := Step.grows (n := s.toks) r hk
    exact (post_newT (s := { s with heap := h' }) st.rel (h2.step r st) h3 q s.toks).after st
  split at q
  · rename_i e; subst e
    obtain ⟨q0, q⟩ := q
    obtain ⟨v, w, rfl, q⟩ := two_of q
    obtain ⟨a, b, rfl, rfl, q⟩ := ints2_of q
    obtain ⟨_, _, rfl, hv, hw⟩ := hr.two
    obtain ⟨_, rfl⟩ := hv.int_of
    obtain ⟨_, rfl⟩ := hw.int_of
    refine min_two_ints (aok.handled q0) fun h' tk hk => ⟨.int (min a b), μ, Step.grows r hk, ?_, q⟩
    by_cases hb : b < a
    · rw [if_pos hb, Int.min_eq_right (Int.le_of_lt hb)]; exact .int _ _
    · rw [if_neg hb, Int.min_eq_left (Int.not_lt.mp hb)]; exact .int _ _
  split at q
  · rename_i e; subst e
    obtain ⟨q0, q⟩ := q
    obtain ⟨v, w, rfl, q⟩ := two_of q
    obtain ⟨a, b, rfl, rfl, q⟩ := ints2_of q
    obtain ⟨_, _, rfl, hv, hw⟩ := hr.two
    obtain ⟨_, rfl⟩ := hv.int_of
    obtain ⟨_, rfl⟩ := hw.int_of
    refine max_two_ints (aok.handled q0) fun h' tk hk => ⟨.int (max a b), μ, Step.grows r hk, ?_, q⟩
    by_cases hb : b > a
    · rw [if_pos hb, Int.max_eq_right (Int.le_of_lt hb)]; exact .int _ _
    · rw [if_neg hb, Int.max_eq_left (Int.not_lt.mp hb)]; exact .int _ _
  split at q
  · rename_i e; subst e
    exact rngB_sound r hr q
  · exact q.elim
end
end Mine

set_option autoImplicit false
namespace Mine
set_option linter.unusedVariables false
set_option linter.unusedSimpArgs false
open PySem PySem.W PySem.Calls PyProof.Rows

section
variable {c : Ctx} {A : Around} {fs : List Env} {μ : Mem} {s : Shared} {E : Value → Shared → Prop}

theorem step_list {a : Addr} {l l' : List V} {vs vs' : Array Value} {n : Nat} {f : Array Value → Array Value} (r : Rel c μ s.heap) (hm : μ a = some (.list l)) (hl : IsL s.heap a vs n) (e : f vs = vs') (hr : RVs c s.heap vs'.toList l') (hz : l'.length ≤ lim) :
    Step c fs μ (updM μ a (.list l')) s { s with heap := s.heap.update a (Obj.mapSeq f) } := by
  subst e
  exact Step.store (n := s.toks) r hm (fun b hb => Heap.get?_update_other _ _ (Ne.symm hb)) (hl.update f) (.list hr hz)

theorem lst_sound {d : Nat} {hd : Bool} {m : String} {a : Addr} {rvs : List Value} {vs : List V} {Q : V → Mem → Prop} (r : Rel c μ s.heap) (hr : RVs c s.heap rvs vs) (q : lstW m a vs μ Q) (aok : AOK c d hd A fs μ s.heap) :
    wpAny (model c.prog c.w) A (call (.builtin ("list." ++ m)) (.ref a :: rvs)) (Post c fs μ s Q) E s := by
  unfold lstW at q
  replace q := asL_of q
  obtain ⟨_, l, e, hm, q⟩ := q
  injection e with e
  subst e
  obtain ⟨us, n, h1, h2, h3⟩ := r.lst hm
  have hz : us.size ≤ sizeLine := newL_size h2 h3
  split at q
  · rename_i e; subst e
    replace q := one_of q
    obtain ⟨v, rfl, q⟩ := q
    obtain ⟨rv, rfl, hv⟩ := hr.one
    refine call_meets F.slot_list_append ⟨_, h1, rfl⟩ F.entry_list_append (F.args_list_append_2 _ _) (list_append a us n rv hz) ⟨h1, .none, _, step_list r hm h1 rfl (l' := l ++ [v]) ?_ (by rw [List.length_append]; exact q.1), .none, q.2⟩
    rw [Array.toList_push]; exact h2.append (.cons hv .nil)
  split at q
  · rename_i e; subst e
    replace q := one_of q
    obtain ⟨v, rfl, q⟩ := q
    obtain ⟨rv, rfl, hv⟩ := hr.one
    replace q := asL_of q
    obtain ⟨b, k, rfl, hb, q⟩ := q
    cases hv.ref_of
    obtain ⟨ws, n', g1, g2, g3⟩ := r.lst hb
    have hsz : us.size = l.length := by rw [← Array.length_toList, h2.length]
    have hsw : ws.size = k.length := by rw [← Array.length_toList, g2.length]
    have q2 := q.2.1
    rw [lim_val] at q2
    refine call_meets F.slot_list_extend ⟨_, h1, rfl⟩ F.entry_list_extend (F.args_list_extend_2 _ _) (AutoSeq1.list_extend_list_list_0 a us n _ ws n' ?_ hz (by rw [sizeLine_eq]; omega)) ⟨h1, g1, .none, _, step_list r hm h1 rfl (l' := l ++ k) ?_ (by rw [List.length_append]; exact q.2.1), .none, q.2.2⟩
    · simp [Builtin.List.listTooLong, sizeLine_eq]; omega
    · rw [Array.toList_append]; exact h2.append g2
  split at q
  · rename_i e; subst e
    replace q := one_of q
    obtain ⟨v, rfl, q⟩ := q
    obtain ⟨rv, rfl, hv⟩ := hr.one
    replace q := asInt_of q
    obtain ⟨i, rfl, h0, q⟩ := q
    obtain ⟨t, rfl⟩ := hv.int_of
    split at q
    · rename_i v hv
      obtain ⟨rv, k1, k2⟩ := h2.get hv
      have hb := (List.getElem?_eq_some_iff.mp hv).1
      have hsz : us.size = l.length := by rw [← Array.length_toList, h2.length]
      rw [lim_val] at h3
      have st : Step c fs μ (updM μ a (.list (l.eraseIdx i.toNat))) s _ := step_list (f := fun x => x.eraseIdxIfInBounds i.toNat) r hm h1 rfl (l' := l.eraseIdx i.toNat) (by rw [Array.toList_eraseIdxIfInBounds]; exact h2.eraseIdx _) (by have := List.length_eraseIdx_le l i.toNat; rw [lim_val]; omega)
      refine call_meets F.slot_list_pop ⟨_, h1, rfl⟩ F.entry_list_pop (F.args_list_pop_2 _ _) (MeetsSeq.list_pop_at a us n i t i.toNat rv (by simp [Builtin.List.listFitsIndex]; omega) ?_ (by rw [← Array.getElem?_toList]; exact k1) hz)
        ⟨h1, v, _, st, k2.step r st, q⟩
      unfold seqIndex?
      simp only [show ¬ i < 0 from by omega, if_false]
      rw [if_pos (by simp only [Bool.and_eq_true, decide_eq_true_eq]; omega)]
    · exact q.elim
  · exact q.elim

omit A fs μ s E in
theorem RVs.texts {h : Heap} (l : List (Str × Tok)) : RVs c h (strValues l) ((l.map (·.1)).map V.str) := by
  induction l with
  | nil => exact .nil
  | cons p r ih => exact .cons (.str p.1 p.2) ih
omit A fs μ s E in
theorem txts_of {h : Heap} {l : List V} : ∀ {us : List Value} {ts : List Str}, RVs c h us l → txts l = some ts → ∃ l' : List (Str × Tok), us = strValues l' ∧ l'.map (·.1) = ts := by
  induction l with
  | nil => intro us ts hr e; cases hr.inv; cases e; exact ⟨[], rfl, rfl⟩
  | cons v l ih =>
    intro us ts hr e
    obtain ⟨_, _, rfl, hv, hr'⟩ := hr.inv
    clear hr
    cases v with
    | str x =>
      obtain ⟨ts', e', rfl⟩ := Option.map_eq_some_iff.mp (show (txts l).map (x :: ·) = some ts from e)
      obtain ⟨l', h1, h2⟩ := ih hr' e'
      obtain ⟨t, rfl⟩ := hv.str_of
      exact ⟨(x, t) :: l', by rw [h1]; rfl, by rw [List.map_cons, h2]⟩
    | _ => first | exact ns e | exact fb e | cases e
theorem strM_sound {m : String} {x : Str} {t : Tok} {rvs : List Value} {vs : List V} {Q : V → Mem → Prop} (r : Rel c μ s.heap) (hr : RVs c s.heap rvs vs) (q : strW m x vs μ Q) :
    wpAny (model c.prog c.w) A (call (.builtin ("str." ++ m)) (.str x t :: rvs)) (Post c fs μ s Q) E s := by
  unfold strW at q
  split at q
  · rename_i e; subst e
    obtain ⟨rfl, hx, q⟩ := q
    cases hr.inv
    have hz := upper_len x
    rw [lim_val] at hx
    refine SC.upper ?_ ⟨_, _, Step.toks r, .str _ _, q⟩
    unfold Builtin.Str.tooLong
    rw [sizeLine_eq]
    exact decide_eq_false (by omega)
  obtain ⟨v, rfl, q⟩ := one_of q
  obtain ⟨rv, rfl, hv⟩ := hr.one
  split at q
  · rename_i e; subst e
    obtain ⟨y, rfl, hy, hx, q⟩ := asS_of q
    obtain ⟨u, rfl⟩ := hv.str_of
    have hy' : (y.length == 0) = false := beq_eq_false_iff_ne.mpr hy
    have hsz : x.length ≤ sizeLine := Nat.le_trans hx lim_le
    have hone : Txt.split x y = [x] → ∀ k, Post c fs μ s Q (.ref s.heap.objs.size) { s with heap := s.heap.push { cls := .type "list", data := .seq #[.str x t] }, toks := k } := fun e k => by
      rw [e] at q
      exact post_newL r (vs := #[.str x t]) (.cons (.str x t) .nil) q k
    show wpAny _ A (call (.builtin "str.split") [.str x t, .str y u]) _ E s
    cases h1 : (decide (x.length < y.length) || decide (PySem.Builtin.Str.strKind x < PySem.Builtin.Str.strKind y))
    · cases hf : (PySem.Builtin.Str.occurrences x y 0 x.length (x.length + 1)).isEmpty
      · have e : Txt.split x y = PySem.Builtin.Str.partsBetween x (PySem.Builtin.Str.occurrences x y 0 x.length (x.length + 1)) y.length := (if_neg (ne_true_of_eq_false h1)).trans (if_neg (ne_true_of_eq_false hf))
        have hz := q.1
        rw [List.length_map, e] at hz
        refine call_meets F.slot_str_split (typeIs_str _ _ _) F.entry_str_split (F.args_str_split_2 _ _) (meets_str_split_sep x y t u h1 hy' hf hsz (Nat.le_trans hz lim_le)) ?_
        show wants (Post c fs μ s Q) E _ { s with toks := _, heap := s.heap.push { cls := .type "list", data := .seq (strsFrom s.toks (PySem.Builtin.Str.partsBetween x (PySem.Builtin.Str.occurrences x y 0 x.length (x.length + 1)) y.length)).toArray } }
        rw [strsFrom_eq]
        refine post_newL r ?_ q _
        rw [e]
        have := RVs.texts (c := c) (h := s.heap) (numbered s.toks (PySem.Builtin.Str.partsBetween x (PySem.Builtin.Str.occurrences x y 0 x.length (x.length + 1)) y.length))
        rw [numbered_texts] at this
        exact this
      · exact call_meets F.slot_str_split (typeIs_str _ _ _) F.entry_str_split (F.args_str_split_2 _ _) (meets_str_split_not_found x y t u h1 hy' hf) (hone ((if_neg (ne_true_of_eq_false h1)).trans (if_pos hf)) s.toks)
    · exact call_meets F.slot_str_split (typeIs_str _ _ _) F.entry_str_split (F.args_str_split_2 _ _) (meets_str_split_cannot_occur x y t u h1) (hone (if_pos h1) s.toks)
  split at q
  · rename_i e; subst e
    obtain ⟨D, l, rfl, hl, q⟩ := asL_of q
    cases hv.ref_of
    unfold txtsW at q
    split at q
    · rename_i ts ht
      obtain ⟨us, n, h1, h2, h3⟩ := r.lst hl
      obtain ⟨l', e1, e2⟩ := txts_of h2 ht
      have e3 : us = (strValues l').toArray := by rw [← e1]
      exact PySem.SC.join (l := l') (e3 ▸ h1.isList) e2 q.1 fun t' k => ⟨_, _, Step.toks r, .str _ _, q.2⟩
    · exact q.elim
  · exact q.elim
end
end Mine

set_option autoImplicit false
namespace Mine
set_option linter.unusedVariables false
set_option linter.unusedSimpArgs false
open PySem PySem.W PySem.Calls PyProof.Rows

noncomputable def SC (c : Ctx) (d : Nat) (hd : Bool) : Sc := fun f vs μ Q X =>
  ∃ fa, c.fn f = some fa ∧ ∀ A fs s rvs, AOK c d hd A fs μ s.heap → Rel c μ s.heap → RVs c s.heap rvs vs →
    codeAny (model c.prog c.w) A (.call (.ref fa) ⟨rvs, []⟩) (fun r s' => match r with
      | .ok (.ret rv) => Post c fs μ s Q rv s'
      | .ok _ => False
      | .error re => XPost c fs μ s X re s') s

noncomputable def bltNames : List String := ["len", "int", "min", "max", "range", "str", "tuple"]
noncomputable def tyNames : List String := ["int", "bool", "str", "tuple", "list"]

noncomputable def vErr : List Value := [.type "ValueError", .type "Exception", .type "BaseException", .type "object"]

structure Good (c : Ctx) (sg : Sig) : Prop where
  X : c.K.In c.base
  top : ∃ p loose mg mb, TopRead p loose mg mb c.base
  cls : ∀ x C, c.cls x = some C → ClsOk c.K C
  attr : ∀ x C a, c.cls x = some C → a ∈ sg.attrs → findIn c.K (.ref C) (Str.ofString a) = some none
  meth : ∀ x C m, c.cls x = some C → (x, m) ∈ sg.meths → ∃ f, c.fn (x ++ "." ++ m) = some f ∧ findIn c.K (.ref C) (Str.ofString m) = some (some (.ref f)) ∧ typeIn c.K (.ref f) = some (.type "function") ∧ keepIn c.K (.ref f) = true
  fn : ∀ f ∈ sg.fns, ∃ fa, c.fn f = some fa ∧ nsIn c.K mainGlobals (Str.ofString f) = some (some (.ref fa)) ∧ keepIn c.K (.ref fa) = true
  new : ∀ x ∈ sg.clss, ∃ C fI, c.cls x = some C ∧ nsIn c.K mainGlobals (Str.ofString x) = some (some (.ref C)) ∧ makesIn c.K C = true ∧ keepIn c.K (.ref C) = true ∧ c.fn (x ++ ".__init__") = some fI ∧
    findIn c.K (.ref C) "__init__" = some (some (.ref fI)) ∧ typeIn c.K (.ref fI) = some (.type "function")
  blt : ∀ f ∈ "isinstance" :: bltNames ++ tyNames, nsIn c.K mainGlobals (Str.ofString f) = some none
  exc : ∀ x C, c.exc x = some C → nsIn c.K mainGlobals (Str.ofString x) = some (some (.ref C)) ∧ excIn c.K C vErr "ValueError.__new__" = true
  excs : ∀ x ∈ sg.excs, ∃ C, c.exc x = some C
  sub : ∀ x y C D, c.exc x = some C → c.exc y = some D → exmOne c.K (.ref C) (.ref D) = some (isSub x y)
  const : ∀ x v, sg.consts.lookup x = some v → ∃ rv, nsIn c.K mainGlobals (Str.ofString x) = some (some rv) ∧ ∀ h, RV c h rv v

noncomputable def isLoc : Option NameKind → Bool
  | some .local | some .cell | some .free => true
  | _ => false

noncomputable def okX (sg : Sig) (ns : List (Str × NameKind)) (n : String) : Bool := sg.excs.contains n && ns.lookup (Str.ofString n) == some .globalImplicit && n != "__debug__"
noncomputable def isCmp : E → Bool
  | .cmp _ _ _ _ => true
  | _ => false
noncomputable def relN (ns names : List (Str × NameKind)) : List (Str × NameKind) := names.map fun (n, k) => if (k == .free && ns.lookup n == some .cell) then (n, .cell) else (n, k)
mutual
noncomputable def okE (sg : Sig) (ns : List (Str × NameKind)) : E → Bool
  | .none _ | .bool _ _ | .int _ _ | .str _ _ => true
  | .loc x _ => isLoc (ns.lookup (Str.ofString x)) && x != "__debug__" && x != "__classdict__"
  | .glob x _ => ns.lookup (Str.ofString x) == some .globalImplicit && (sg.consts.lookup x).isSome && x != "__debug__"
  | .bin _ l r _ => okE sg ns l && okE sg ns r
  | .neg e _ | .not e _ => okE sg ns e
  | .and es _ | .or es _ => okEs sg ns es
  | .cmp _ l r _ => okE sg ns l && okE sg ns r
  | .cmp2 _ _ a b c _ => okE sg ns a && okE sg ns b && okE sg ns c
  | .attr o a _ => okE sg ns o && sg.attrs.contains a && (match o with | .loc _ _ => true | _ => false)
  | .sub o i _ => okE sg ns o && okE sg ns i
  | .sliceL o i _ _ | .sliceU o i _ _ => okE sg ns o && okE sg ns i
  | .sliceLU o i j _ _ => okE sg ns o && okE sg ns i && okE sg ns j
  | .tup es _ _ | .list es _ => okEs sg ns es && decide (es.length < 1000)
  | .call f es _ _ => ns.lookup (Str.ofString f) == some .globalImplicit && sg.fns.contains f && okEs sg ns es && f != "__debug__"
  | .new f es _ _ => ns.lookup (Str.ofString f) == some .globalImplicit && sg.clss.contains f && okEs sg ns es && f != "__debug__"
  | .bltn f es _ _ => ns.lookup (Str.ofString f) == some .globalImplicit && bltNames.contains f && okEs sg ns es
  | .isi e cl _ _ _ => ns.lookup (Str.ofString "isinstance") == some .globalImplicit && okE sg ns e && (match cl with
      | .ty n => tyNames.contains n && ns.lookup (Str.ofString n) == some .globalImplicit)
  | .meth o m es pa p => okE sg ns o && okEs sg ns es && pa.endLine == p.line && decide (es.length < 20) && (match o with
      | .call _ es _ _ | .new _ es _ _ | .bltn _ es _ _ => !es.isEmpty
      | _ => true)
  | .repl o _ _ _ _ pa p => okE sg ns o && pa.endLine == p.line
  | .comp elt x cs it ifs sc _ _ => okE sg ns it && okE sg (relN ns sc.names) elt && okEs sg (relN ns sc.names) ifs && decide (ifs.length ≤ 1) && sc.kind == .function &&
      (sc.names.all fun y => (y.2 == .local && sc.names.lookup y.1 == some .local) || (y.2 == .free && ns.lookup y.1 == some .cell) || y.2 == .globalImplicit) && sc.names.lookup (Str.ofString x) == some .local &&
      (cs.all fun y => sc.names.lookup (Str.ofString y) == some .free)
noncomputable def okEs (sg : Sig) (ns : List (Str × NameKind)) : List E → Bool
  | [] => true
  | e :: es => okE sg ns e && okEs sg ns es
end

section
variable {sg : Sig} {ns : List (Str × NameKind)}
theorem okE_loc {x : String} {p : Pos} : okE sg ns (.loc x p) = (isLoc (ns.lookup (Str.ofString x)) && x != "__debug__" && x != "__classdict__") := rfl
theorem okE_glob {x : String} {p : Pos} : okE sg ns (.glob x p) = (ns.lookup (Str.ofString x) == some .globalImplicit && (sg.consts.lookup x).isSome && x != "__debug__") := rfl
theorem okE_bin {op : Operator} {l r : E} {p : Pos} : okE sg ns (.bin op l r p) = (okE sg ns l && okE sg ns r) := rfl
theorem okE_neg {e : E} {p : Pos} : okE sg ns (.neg e p) = okE sg ns e := rfl
theorem okE_not {e : E} {p : Pos} : okE sg ns (.not e p) = okE sg ns e := rfl
theorem okE_and {es : List E} {p : Pos} : okE sg ns (.and es p) = okEs sg ns es := rfl
theorem okE_or {es : List E} {p : Pos} : okE sg ns (.or es p) = okEs sg ns es := rfl
theorem okE_cmp {op : CmpOp} {l r : E} {p : Pos} : okE sg ns (.cmp op l r p) = (okE sg ns l && okE sg ns r) := rfl
theorem okE_cmp2 {o o' : CmpOp} {a b e : E} {p : Pos} : okE sg ns (.cmp2 o o' a b e p) = (okE sg ns a && okE sg ns b && okE sg ns e) := rfl
theorem okE_attr {o : E} {a : String} {p : Pos} : okE sg ns (.attr o a p) = (okE sg ns o && sg.attrs.contains a && (match o with | .loc _ _ => true | _ => false)) := rfl
theorem okE_sub {o i : E} {p : Pos} : okE sg ns (.sub o i p) = (okE sg ns o && okE sg ns i) := rfl
theorem okE_sliceL {o i : E} {q p : Pos} : okE sg ns (.sliceL o i q p) = (okE sg ns o && okE sg ns i) := rfl
theorem okE_sliceU {o i : E} {q p : Pos} : okE sg ns (.sliceU o i q p) = (okE sg ns o && okE sg ns i) := rfl
theorem okE_sliceLU {o i j : E} {q p : Pos} : okE sg ns (.sliceLU o i j q p) = (okE sg ns o && okE sg ns i && okE sg ns j) := rfl
theorem okE_tup {es : List E} {k : Nat} {p : Pos} : okE sg ns (.tup es k p) = (okEs sg ns es && decide (es.length < 1000)) := rfl
theorem okE_list {es : List E} {p : Pos} : okE sg ns (.list es p) = (okEs sg ns es && decide (es.length < 1000)) := rfl
theorem okE_call {f : String} {es : List E} {q p : Pos} : okE sg ns (.call f es q p) = (ns.lookup (Str.ofString f) == some .globalImplicit && sg.fns.contains f && okEs sg ns es && f != "__debug__") := rfl
theorem okE_new {f : String} {es : List E} {q p : Pos} : okE sg ns (.new f es q p) = (ns.lookup (Str.ofString f) == some .globalImplicit && sg.clss.contains f && okEs sg ns es && f != "__debug__") := rfl
theorem okE_bltn {f : String} {es : List E} {q p : Pos} : okE sg ns (.bltn f es q p) = (ns.lookup (Str.ofString f) == some .globalImplicit && bltNames.contains f && okEs sg ns es) := rfl
theorem okE_isi {e : E} {cl : Cl} {a b p : Pos} : okE sg ns (.isi e cl a b p) = (ns.lookup (Str.ofString "isinstance") == some .globalImplicit && okE sg ns e && (match cl with
      | .ty n => tyNames.contains n && ns.lookup (Str.ofString n) == some .globalImplicit)) := rfl
theorem okE_meth {o : E} {m : String} {es : List E} {pa p : Pos} : okE sg ns (.meth o m es pa p) = (okE sg ns o && okEs sg ns es && pa.endLine == p.line && decide (es.length < 20) && (match o with
      | .call _ es _ _ | .new _ es _ _ | .bltn _ es _ _ => !es.isEmpty
      | _ => true)) := rfl
theorem okE_comp {elt it : E} {x : String} {cs : List String} {ifs : List E} {sc : Scope} {q p : Pos} : okE sg ns (.comp elt x cs it ifs sc q p) = (okE sg ns it && okE sg (relN ns sc.names) elt && okEs sg (relN ns sc.names) ifs && decide (ifs.length ≤ 1) && sc.kind == .function &&
      (sc.names.all fun y => (y.2 == .local && sc.names.lookup y.1 == some .local) || (y.2 == .free && ns.lookup y.1 == some .cell) || y.2 == .globalImplicit) && sc.names.lookup (Str.ofString x) == some .local &&
      (cs.all fun y => sc.names.lookup (Str.ofString y) == some .free)) := rfl
end

structure St (c : Ctx) (d : Nat) (hd : Bool) (A : Around) (fs : List Env) (env : Env) (ρ : Loc) (μ : Mem) (s : Shared) : Prop where
  rel : Rel c μ s.heap
  er : ER c env ρ μ s.heap
  aok : AOK c d hd A fs μ s.heap
  room : A.depth + 3 * d + 2 < 900
  units : A.units + 100 * d + 250 < cLine
  top : ∃ e0 outer L, fs = e0 :: outer ∧ e0.frame = some L ∧ env.frame = some L
theorem St.step {c : Ctx} {d : Nat} {hd : Bool} {A : Around} {fs : List Env} {env : Env} {ρ : Loc} {μ μ' : Mem} {s s' : Shared} (x : St c d hd A fs env ρ μ s) (y : Step c fs μ μ' s s') : St c d hd A fs env ρ μ' s' :=
  ⟨y.rel, x.er.step x.rel y, x.aok.step y, x.room, x.units, x.top⟩

section
variable {c : Ctx} {d : Nat} {hd : Bool} {A : Around} {fs : List Env} {env : Env} {ρ : Loc} {μ : Mem} {s : Shared} {sg : Sig}

theorem wp_after {t : Sem Value} {μ₁ : Mem} {s₁ : Shared} {Q : V → Mem → Prop} {X : String → Mem → Prop} (st : Step c fs μ μ₁ s s₁) (h : wpAny (model c.prog c.w) A t (Post c fs μ₁ s₁ Q) (XPost c fs μ₁ s₁ X) s₁) :
    wpAny (model c.prog c.w) A t (Post c fs μ s Q) (XPost c fs μ s X) s₁ := wpAny_mono h (fun _ _ p => p.after st) fun _ _ p => p.after st
theorem Kin (G : Good c sg) (r : Rel c μ s.heap) : c.K.In s.heap := G.X.keeps r.base

theorem name_glob {x : String} {rv : Value} {P : Value → Shared → Prop} {E : Value → Shared → Prop} {p : Pos} (G : Good c sg) (x' : ER c env ρ μ s.heap) (r : Rel c μ s.heap) (hk : env.kindOf (Str.ofString x) = some .globalImplicit) (hd : x ≠ "__debug__")
    (e : nsIn c.K mainGlobals (Str.ofString x) = some (some rv)) (h : P rv s) : wpAny (model c.prog c.w) A (eval (.Name (Str.ofString x) p) env) P E s := by
  obtain ⟨pp, loose, mg, mb, T⟩ := G.top
  refine Name_function_global x'.kind hk (loadGlobal_global (env := env) (mg := mg) (by rw [x'.glob]; exact T.g.keeps r.base) (mg_of G.X T.g e) h) ?_
  rw [ofString_beq]; exact beq_eq_false_iff_ne.mpr hd
theorem name_blt {x : String} {rv : Value} {P : Value → Shared → Prop} {E : Value → Shared → Prop} {p : Pos} (G : Good c sg) (x' : ER c env ρ μ s.heap) (r : Rel c μ s.heap) (hk : env.kindOf (Str.ofString x) = some .globalImplicit) (hd : x ≠ "__debug__") (hn : x ≠ "__name__")
    (e : nsIn c.K mainGlobals (Str.ofString x) = some none) (hv : bootBuiltins (Str.ofString x) = some rv) (h : P rv s) : wpAny (model c.prog c.w) A (eval (.Name (Str.ofString x) p) env) P E s := by
  obtain ⟨pp, loose, mg, mb, T⟩ := G.top
  refine Name_function_global x'.kind hk (loadGlobal_builtin (env := env) (mg := mg) (mb := mb) (by rw [x'.glob]; exact T.g.keeps r.base) (mg_none_of G.X T.g e) (by rw [x'.blt]; exact T.b.keeps r.base) ((T.builtins _ fun q => hn (ofString_inj q)).trans hv) h) ?_
  rw [ofString_beq]; exact beq_eq_false_iff_ne.mpr hd

theorem loc_sound {x : String} {v : V} {Q : V → Mem → Prop} {E : Value → Shared → Prop} {p : Pos} (S : St c d hd A fs env ρ μ s) (e : ρ x = some v) (hd' : x ≠ "__debug__") (hc : x ≠ "__classdict__") (q : Q v μ) :
    wpAny (model c.prog c.w) A (eval (.Name (Str.ofString x) p) env) (Post c fs μ s Q) E s := by
  obtain ⟨m, hns, hm⟩ := S.er.names
  refine wpAny_Name ?_ (by rw [ofString_beq]; exact beq_eq_false_iff_ne.mpr hd')
  rcases hm x v e with ⟨h1, rv, h2, h3⟩ | ⟨h1, ca, rv, h2, h3, h4⟩
  · exact wpAny_loadName_local S.er.kind h1 hns h2 ⟨v, μ, Step.refl S.rel, h3, q⟩
  · rcases h1 with h1 | h1
    · exact wpAny_loadName_cell S.er.kind h1 h2 h3 ⟨v, μ, Step.refl S.rel, h4, q⟩
    · exact wpAny_loadName_free S.er.kind h1 h2 h3 ⟨v, μ, Step.refl S.rel, h4, q⟩ (by rw [ofString_beq]; exact beq_eq_false_iff_ne.mpr hc)
end

theorem starEach_toEs (env : Env) : ∀ es : List E, starEach (toEs es) env = es.map fun e => (false, eval (toE e) env)
  | [] => rfl
  | e :: es => by
    have ih := starEach_toEs env es
    rw [List.map_cons, ← ih]
    cases e <;> rfl
theorem backTo_toEs (env : Env) (p : Pos) (es : List E) : backTo p (starEach (toEs es) env) = es.map fun e => (false, eval (toE e) env) := by
  rw [starEach_toEs, backTo, List.map_map]
  rfl
theorem toEs_length : ∀ es : List E, (toEs es).length = es.length
  | [] => rfl
  | e :: es => by simp [toEs, toEs_length es]

theorem evalArgs_es {M : Model} {A : Around} {E : Value → Shared → Prop} {s : Shared} {f : Value} {l : List (Sem Value)} {Q : Args → Shared → Prop}
    (h : wpAny M A (spliced (l.map fun t => (false, t))) (fun vs s₁ => Q ⟨vs, []⟩ s₁) E s) : wpAny M A (evalArgs f true (l.map fun t => (false, t)) []) Q E s := by
  cases l with
  | nil =>
    unfold evalArgs
    show wpAny M A (spliced [] >>= _) Q E s
    refine wpAny_bind (wpAny_mono h (fun vs s₁ h₁ => ?_) fun _ _ x => x)
    refine wpAny_bind (wpAny_pure ?_)
    refine wpAny_holding ?_
    exact wpAny_bind (wpAny_pure (wpAny_bind (wpAny_pure (wpAny_pure h₁))))
  | cons t l => exact evalArgs_plain h
end Mine

set_option autoImplicit false
namespace Mine
set_option linter.unusedVariables false
set_option linter.unusedSimpArgs false
open PySem PySem.W PySem.Calls PyProof.Rows

noncomputable def pv (env : Env) (b : Addr) : Prop := b = env.locals ∨ ∃ x, env.cells.lookup x = some b

structure StepS (c : Ctx) (fs : List Env) (env : Env) (μ μ' : Mem) (s s' : Shared) : Prop where
  gens : s'.gens = s.gens
  drawn : s'.drawn = s.drawn
  os : s'.os = s.os
  kept : ∀ b o, s.heap.get? b = some o → μ b = none → ¬ pv env b → μ' b = none ∧ ∃ sl, s'.heap.get? b = some { o with slots := sl } ∧ (b ∉ frs fs ∨ (∃ vs, o.data = .fields vs) → sl = o.slots)
theorem StepS.refl {c : Ctx} {fs : List Env} {env : Env} {μ : Mem} {s : Shared} : StepS c fs env μ μ s s := ⟨rfl, rfl, rfl, fun _ o e hm _ => ⟨hm, o.slots, e, fun _ => rfl⟩⟩
theorem StepS.trans {c : Ctx} {fs : List Env} {env : Env} {μ₁ μ₂ μ₃ : Mem} {s₁ s₂ s₃ : Shared} (x : StepS c fs env μ₁ μ₂ s₁ s₂) (y : StepS c fs env μ₂ μ₃ s₂ s₃) : StepS c fs env μ₁ μ₃ s₁ s₃ :=
  ⟨y.gens.trans x.gens, y.drawn.trans x.drawn, y.os.trans x.os, fun b o e hm hp => by
    obtain ⟨m₂, sl, e₂, n₂⟩ := x.kept b o e hm hp
    obtain ⟨m₃, sl', e₃, n₃⟩ := y.kept b _ e₂ m₂ hp
    exact ⟨m₃, sl', e₃, fun hb => (n₃ hb).trans (n₂ hb)⟩⟩
theorem Step.toS {c : Ctx} {fs : List Env} {env : Env} {μ μ' : Mem} {s s' : Shared} (x : Step c fs μ μ' s s') : StepS c fs env μ μ' s s' := ⟨x.gens, x.drawn, x.os, fun b o e hm _ => x.kept b o e hm⟩

inductive RFl (c : Ctx) (h : Heap) : Flow → Fl → Prop
  | next : RFl c h .next .next
  | ret {rv : Value} {v : V} : RV c h rv v → RFl c h (.ret rv) (.ret v)

noncomputable def Born (c : Ctx) (s s' : Shared) (e : Addr) (x : String) : Prop := s'.gens = s.gens ∧ s'.drawn = s.drawn ∧ s'.os = s.os ∧ ∃ C args, c.exc x = some C ∧ Heap.MadeExcOf s.heap s'.heap e (.ref C) args

noncomputable def PostS (c : Ctx) (d : Nat) (hd : Bool) (A : Around) (fs : List Env) (env : Env) (μ : Mem) (s : Shared) (Q : Fl → Loc → Mem → Prop) (fl : Flow) (s' : Shared) : Prop :=
  ∃ fl' ρ' μ', StepS c fs env μ μ' s s' ∧ St c d hd A fs env ρ' μ' s' ∧ RFl c s'.heap fl fl' ∧ Q fl' ρ' μ'
noncomputable def XPostS (c : Ctx) (d : Nat) (hd : Bool) (A : Around) (fs : List Env) (env : Env) (nr : Bool) (μ : Mem) (s : Shared) (X : String → Loc → Mem → Prop) (re : Value) (s' : Shared) : Prop :=
  ∃ e x ρ₁ μ₁ μ' s₁, re = .ref e ∧ StepS c fs env μ μ₁ s s₁ ∧ St c d hd A fs env ρ₁ μ₁ s₁ ∧ (Fly c fs μ₁ μ' s₁ s' e x ∨ (nr = false ∧ μ' = μ₁ ∧ Born c s₁ s' e x)) ∧ X x ρ₁ μ'

theorem PostS.after {c : Ctx} {d : Nat} {hd : Bool} {A : Around} {fs : List Env} {env : Env} {μ μ₁ : Mem} {s s₁ s' : Shared} {Q : Fl → Loc → Mem → Prop} {fl : Flow} (st : StepS c fs env μ μ₁ s s₁) (x : PostS c d hd A fs env μ₁ s₁ Q fl s') : PostS c d hd A fs env μ s Q fl s' :=
  by obtain ⟨fl', ρ', μ', a, b, q, r⟩ := x; exact ⟨fl', ρ', μ', st.trans a, b, q, r⟩
theorem XPostS.after {c : Ctx} {d : Nat} {hd : Bool} {A : Around} {fs : List Env} {env : Env} {nr : Bool} {μ μ₁ : Mem} {s s₁ s' : Shared} {X : String → Loc → Mem → Prop} {re : Value} (st : StepS c fs env μ μ₁ s s₁) (x : XPostS c d hd A fs env nr μ₁ s₁ X re s') : XPostS c d hd A fs env nr μ s X re s' :=
  by obtain ⟨e, n, ρ₁, μ₁, μ', s₁, h1, a, r⟩ := x; exact ⟨e, n, ρ₁, μ₁, μ', s₁, h1, st.trans a, r⟩

theorem XPost.toS {c : Ctx} {d : Nat} {hd : Bool} {A : Around} {fs : List Env} {env : Env} {nr : Bool} {ρ : Loc} {μ : Mem} {s s' : Shared} {X : String → Loc → Mem → Prop} {re : Value} (S : St c d hd A fs env ρ μ s) (x : XPost c fs μ s (fun n μ₁ => X n ρ μ₁) re s') : XPostS c d hd A fs env nr μ s X re s' :=
  by obtain ⟨e, n, μ', he, f, q⟩ := x; exact ⟨e, n, ρ, μ, μ', s, he, .refl, S, .inl f, q⟩

section
variable {c : Ctx} {sg : Sig} {d : Nat} {hd : Bool} {A : Around} {fs : List Env} {env : Env} {ρ : Loc} {μ : Mem} {s : Shared}

theorem Rel.private {b : Addr} {h h' : Heap} (r : Rel c μ h) (hm : μ b = none) (hb : c.base.get? b = none) (hnv : ∀ o, h.get? b = some o → ¬ RK o) (sb : Heap.SameBut b h h') : Rel c μ h' ∧ (∀ {v x}, RV c h v x → RV c h' v x) := by
  have k : ∀ a o, h.get? a = some o → RK o → ∃ sl, h'.get? a = some { o with slots := sl } ∧ ((∃ vs, o.data = .fields vs) → sl = o.slots) := fun a o e q => by
    refine ⟨o.slots, (sb.2 a fun z => ?_).trans e, fun _ => rfl⟩
    subst z
    exact hnv o e q
  refine ⟨⟨fun a o e => (sb.2 a fun z => by rw [z, hb] at e; cases e).trans (r.base a o e), fun a o e => ?_⟩, fun hv => hv.monoV k⟩
  obtain ⟨n, ob, e', ro⟩ := r.mem a o e
  exact ⟨n, ob, (sb.2 a fun z => by rw [z, hm] at e; cases e).trans e', ro.monoV k⟩

theorem FunFrames.turn {h h' base : Heap} {b : Addr} (sb : Heap.SameBut b h h') (hb : ∃ o, h'.get? b = some o ∧ ∀ vs, o.data ≠ .fields vs) : ∀ {l : List Env}, h.FunFrames base l → h'.FunFrames base l
  | [], _ => trivial
  | env :: l, ⟨hk, ⟨L, o, hf, hn, ho, hd⟩, hr⟩ => by
    refine ⟨hk, ?_, FunFrames.turn sb hb hr⟩
    by_cases e : L = b
    · subst e; obtain ⟨o', ho', hd'⟩ := hb; exact ⟨L, o', hf, hn, ho', hd'⟩
    · exact ⟨L, o, hf, hn, (sb.2 L e).trans ho, hd⟩

theorem AOK.turn {h h' : Heap} {b : Addr} (x : AOK c d hd A fs μ h) (sb : Heap.SameBut b h h') (hb : ∃ o, h'.get? b = some o ∧ ∀ vs, o.data ≠ .fields vs) (hd' : b ∈ frs fs → ∃ o es n, h'.get? b = some o ∧ o.data = .dict es n) (hz : ∀ o vs, h.get? b = some o → o.data ≠ .fields vs) : AOK c d hd A fs μ h' :=
  ⟨x.frames, x.room, x.units, x.handled, FunFrames.turn sb hb x.fun_, x.priv, fun L hL => by
    by_cases e : L = b
    · subst e; exact hd' hL
    · obtain ⟨o, es, n, ho, hd⟩ := x.dicts L hL
      exact ⟨o, es, n, (sb.2 L e).trans ho, hd⟩⟩

theorem Ns.dict {h : Heap} {a : Addr} {m : Str → Option Value} (x : h.Ns a m) : ∃ o es n, h.get? a = some o ∧ o.data = .dict es n := by obtain ⟨o, es, n, ho, hd, _⟩ := x; exact ⟨o, es, n, ho, hd⟩

noncomputable def bare (env : Env) : Env := { env with cells := [] }
theorem StepS.wide {env : Env} {μ μ' : Mem} {s s' : Shared} (x : StepS c fs (bare env) μ μ' s s') : StepS c fs env μ μ' s s' :=
  ⟨x.gens, x.drawn, x.os, fun b o e hm hp => x.kept b o e hm (by rintro (q | ⟨y, q⟩); exact hp (.inl q); cases q)⟩
theorem store_local {x : String} {rv : Value} {v : V} {P : Unit → Shared → Prop} {E : Value → Shared → Prop} (S : St c d hd A fs env ρ μ s) (hk : env.kindOf (Str.ofString x) = some .local) (hv : RV c s.heap rv v)
    (h : ∀ s', StepS c fs (bare env) μ μ s s' → St c d hd A fs env (updL ρ x v) μ s' → P () s') : wpAny (model c.prog c.w) A (storeName env (Str.ofString x) rv) P E s := by
  obtain ⟨m, hns, hm⟩ := S.er.names
  obtain ⟨oL, esL, nL, hoL, hdL⟩ := Ns.dict hns
  refine wpAny_storeName_local hk hns (fun h' hn' sb => ?_) (by rw [S.er.kind]; rfl)
  obtain ⟨oL', esL', nL', hoL', hdL'⟩ := Ns.dict hn'
  obtain ⟨r', mono⟩ := Rel.private S.rel S.er.priv S.er.new (fun o e => by rw [hoL] at e; cases e; rintro (⟨_, vs, n, q⟩ | ⟨_, vs, q⟩) <;> (rw [hdL] at q; cases q)) sb
  have other : ∀ ca, (∃ w, s.heap.IsCell ca w) → ca ≠ env.locals := fun ca ⟨w, o, ho, hd⟩ q => by rw [q, hoL] at ho; cases ho; rw [hdL] at hd; cases hd
  refine h _ ⟨rfl, rfl, rfl, fun b o e hmb hp => ⟨hmb, o.slots, (sb.2 b fun q => hp (.inl q)).trans e, fun _ => rfl⟩⟩ ⟨r', ⟨S.er.kind, S.er.glob, S.er.blt, S.er.priv, S.er.new, fun y ca e => ?_, S.er.inj, S.er.has, _, hn', fun y w e => ?_⟩, S.aok.turn sb ⟨oL', hoL', fun vs q => by rw [hdL'] at q; cases q⟩ (fun _ => ⟨oL', _, _, hoL', hdL'⟩) (fun o vs e q => by rw [hoL] at e; cases e; rw [hdL] at q; cases q), S.room, S.units, S.top⟩
  · obtain ⟨⟨w, o, ho, hd⟩, h1, h2⟩ := S.er.cells y ca e
    exact ⟨⟨w, o, (sb.2 ca (other ca ⟨w, o, ho, hd⟩)).trans ho, hd⟩, h1, h2⟩
  · unfold updL at e
    split at e
    · rename_i hy; subst hy; cases e
      exact .inl ⟨hk, rv, by simp, mono hv⟩
    · rename_i hy
      rcases hm y w e with ⟨h1, rw_, h2, h3⟩ | ⟨h1, ca, rw_, h2, ⟨o, ho, hd⟩, h4⟩
      · exact .inl ⟨h1, rw_, by simp only [show Str.ofString y ≠ Str.ofString x from fun q => hy (ofString_inj q), if_false]; exact h2, mono h3⟩
      · exact .inr ⟨h1, ca, rw_, h2, ⟨o, (sb.2 ca (other ca ⟨_, o, ho, hd⟩)).trans ho, hd⟩, mono h4⟩

theorem store_sound {x : String} {rv : Value} {v : V} {P : Unit → Shared → Prop} {E : Value → Shared → Prop} (S : St c d hd A fs env ρ μ s) (hk : env.kindOf (Str.ofString x) = some .local ∨ env.kindOf (Str.ofString x) = some .cell) (hv : RV c s.heap rv v)
    (h : ∀ s', StepS c fs env μ μ s s' → St c d hd A fs env (updL ρ x v) μ s' → P () s') : wpAny (model c.prog c.w) A (storeName env (Str.ofString x) rv) P E s := by
  obtain ⟨m, hns, hm⟩ := S.er.names
  obtain ⟨oL, esL, nL, hoL, hdL⟩ := Ns.dict hns
  rcases hk with hk | hk
  · exact store_local S hk hv fun s' st S' => h s' st.wide S'
  · obtain ⟨ca, hca⟩ := Option.isSome_iff_exists.mp (S.er.has _ hk)
    obtain ⟨⟨w₀, hw₀⟩, hmc, hbc⟩ := S.er.cells _ ca hca
    obtain ⟨oc, hoc, hdc⟩ := id hw₀
    refine wpAny_storeName_cell S.er.kind hk hca hw₀ fun h' hc' sb => ?_
    obtain ⟨oc', hoc', hdc'⟩ := id hc'
    obtain ⟨r', mono⟩ := Rel.private S.rel hmc hbc (fun o e => by rw [hoc] at e; cases e; rintro (⟨_, vs, n, q⟩ | ⟨_, vs, q⟩) <;> (rw [hdc] at q; cases q)) sb
    have nL : env.locals ≠ ca := fun q => by rw [q, hoc] at hoL; cases hoL; rw [hdc] at hdL; cases hdL
    refine h _ ⟨rfl, rfl, rfl, fun b o e hmb hp => ⟨hmb, o.slots, (sb.2 b fun q => hp (.inr ⟨_, q ▸ hca⟩)).trans e, fun _ => rfl⟩⟩ ⟨r', ⟨S.er.kind, S.er.glob, S.er.blt, S.er.priv, S.er.new, fun y ya e => ?_, S.er.inj, S.er.has, m, ?_, fun y w e => ?_⟩, S.aok.turn sb ⟨oc', hoc', fun vs q => by rw [hdc'] at q; cases q⟩ (fun z => by obtain ⟨o, es, n, ho, hd⟩ := S.aok.dicts _ z; rw [hoc] at ho; cases ho; rw [hdc] at hd; cases hd) (fun o vs e q => by rw [hoc] at e; cases e; rw [hdc] at q; cases q), S.room, S.units, S.top⟩
    · obtain ⟨⟨w, o, ho, hd⟩, h1, h2⟩ := S.er.cells y ya e
      by_cases q : ya = ca
      · subst q; exact ⟨⟨_, hc'⟩, h1, h2⟩
      · exact ⟨⟨w, o, (sb.2 ya q).trans ho, hd⟩, h1, h2⟩
    · exact hns.sameBut sb nL
    · unfold updL at e
      split at e
      · rename_i hy; subst hy; cases e
        exact .inr ⟨.inl hk, ca, rv, hca, hc', mono hv⟩
      · rename_i hy
        rcases hm y w e with ⟨h1, rw_, h2, h3⟩ | ⟨h1, ya, rw_, h2, ⟨o, ho, hd⟩, h4⟩
        · exact .inl ⟨h1, rw_, h2, mono h3⟩
        · refine .inr ⟨h1, ya, rw_, h2, ⟨o, (sb.2 ya fun q => ?_).trans ho, hd⟩, mono h4⟩
          subst q
          exact hy (ofString_inj (S.er.inj _ _ _ h2 hca))
end
end Mine

set_option autoImplicit false
namespace Mine
set_option linter.unusedVariables false
set_option linter.unusedSimpArgs false
open PySem PySem.W PySem.Calls PyProof.Rows

section
variable {c : Ctx}
theorem Rel.hide {μ : Mem} {h : Heap} {l : List Addr} (r : Rel c μ h) (hb : ∀ a ∈ l, c.base.get? a = none) (hm : ∀ a ∈ l, μ a = none) (hd : ∀ a ∈ l, ∃ o es n, h.get? a = some o ∧ o.data = .dict es n) : Rel c μ (hideAll h l) := by
  refine ⟨fun b o e => hideAll_get _ (r.base b o e) fun z => (by rw [hb b z] at e; cases e), fun a o e => ?_⟩
  obtain ⟨n, ob, e', ro⟩ := r.mem a o e
  refine ⟨n, ob, hideAll_get _ e' fun z => by (rw [hm a z] at e; cases e), ro.monoV fun b q eb rk => ⟨q.slots, hideAll_get _ eb fun z => ?_, fun _ => rfl⟩⟩
  obtain ⟨o', es, n', ho', hd'⟩ := hd b z
  rw [eb] at ho'; cases ho'
  rcases rk with ⟨_, _, _, q⟩ | ⟨_, _, q⟩ <;> (rw [hd'] at q; cases q)

end

theorem frames_hide {h h' B : Heap} {C : Addr} (sb : Heap.SameBut C h h') {l : List Env} : C ∉ frs l → h.FunFrames B l → h'.FunFrames (hideAll B [C]) l := by
  induction l with
  | nil => intro _ _; trivial
  | cons env l ih =>
    rintro nf ⟨hk, ⟨L, o, hf, hn, ho, hd⟩, hr⟩
    have e : frs (env :: l) = L :: frs l := by simp [frs, hf]
    rw [e, List.mem_cons, not_or] at nf
    refine ⟨hk, ⟨L, o, hf, ?_, (sb.2 L fun q => nf.1 q.symm).trans ho, hd⟩, ih nf.2 hr⟩
    cases q : (hideAll B [C]).get? L with
    | none => rfl
    | some o' => have := of_hideAll _ q; rw [hn] at this; cases this
theorem none_hide {B : Heap} {C b : Addr} (h : B.get? b = none) : (hideAll B [C]).get? b = none := by
  cases q : (hideAll B [C]).get? b with
  | none => rfl
  | some o' => have := of_hideAll _ q; rw [h] at this; cases this
theorem FlyH.hide {B h h' : Heap} {l : List Env} {e C : Addr} {cls a0 : Value} (x : FlyH B l e cls a0 h) (hC : ∃ o es n, h.get? C = some o ∧ o.data = .dict es n) (nf : C ∉ frs l) (sb : Heap.SameBut C h h') : FlyH (hideAll B [C]) l e cls a0 h' := by
  obtain ⟨fl, hkb, hen, hl, ⟨oe, vs, T, oT, ts, he, hc, hd, h1, hnT, hTe, hT, hdT, h3⟩⟩ := x
  obtain ⟨oC, es, n, hoC, hdC⟩ := hC
  have eC : e ≠ C := fun q => by rw [q, hoC] at he; cases he; rw [hdC] at hd; cases hd
  have TC : T ≠ C := fun q => by rw [q, hoC] at hT; cases hT; rw [hdC] at hdT; cases hdT
  refine ⟨fl, fun b o hb => (sb.2 b fun q => ?_).trans (hkb b o (of_hideAll _ hb)), none_hide hen, frames_hide sb nf hl, ⟨oe, vs, T, oT, ts, (sb.2 e eC).trans he, hc, hd, h1, none_hide hnT, hTe, (sb.2 T TC).trans hT, hdT, h3⟩⟩
  rw [q, hideAll_none [C] (.head _)] at hb; cases hb

section
variable {c : Ctx} {sg : Sig} {d : Nat} {nr hd : Bool} {A : Around} {fs : List Env} {env : Env} {ρ : Loc} {μ : Mem} {s : Shared}

theorem Fly.up {e : Addr} {x : String} {μ' : Mem} {s' : Shared} {h' B : Heap} {C : Addr} {a0 : Value} (S : St c d hd A fs env ρ μ s) (f : Fly c fs μ μ' s s' e x) (hC : c.exc x = some C) (hf : FlyH B fs e (.ref C) a0 h') (hr : Rel c μ' B)
    (hB : ∀ b o, s.heap.get? b = some o → μ b = none → b ∉ frs fs → B.get? b = some o) (up : s'.heap.UpToSlots h') : Fly c fs μ μ' s { s' with heap := h' } e x := by
  refine ⟨f.gens, f.drawn, f.os, ⟨B, C, a0, hC, hf, hr, hB⟩, fun b o eb hm => ?_⟩
  obtain ⟨m₂, sl₂, e₂, q₂⟩ := f.kept b o eb hm
  by_cases hb : b ∈ frs fs
  · obtain ⟨o', es, n, ho', hd'⟩ := S.aok.dicts b hb
    rw [eb] at ho'; cases ho'
    obtain ⟨sl₃, e₃⟩ := up b _ e₂ (fun vs q => by rw [show o.data = _ from hd'] at q; cases q)
    exact ⟨m₂, sl₃, e₃, fun z => z.elim (fun z => (z hb).elim) fun ⟨vs, z⟩ => by rw [hd'] at z; cases z⟩
  · obtain ⟨fl, st, _⟩ := hf
    exact ⟨m₂, o.slots, st _ _ (hB b o eb hm hb), fun _ => rfl⟩

theorem Fly.noted {e : Addr} {x : String} {μ' : Mem} {s' : Shared} {P : Unit → Shared → Prop} {E : Value → Shared → Prop} (S : St c d hd A fs env ρ μ s) (f : Fly c fs μ μ' s s' e x) (h : ∀ s'', Fly c fs μ μ' s s'' e x → P () s'') :
    wpAny (model c.prog c.w) A (noteFrame (.ref e) env) P E s' := by
  obtain ⟨B, C, a0, hC, hf, hr, hB⟩ := f.there
  obtain ⟨e0, outer, L, hfs, h0, hL⟩ := S.top
  rw [noteFrame_congr (hL.trans h0.symm)]
  exact looks_onH (hfs ▸ S.aok.frames) h0 (hfs ▸ hf) fun h' hh up => h _ (f.up S hC (hfs ▸ hh.h) hr hB up)

theorem XPostS.noted {X : String → Loc → Mem → Prop} {re : Value} {s' : Shared} {P : Unit → Shared → Prop} {E : Value → Shared → Prop} (x : XPostS c d hd A fs env nr μ s X re s') (h : ∀ s'', XPostS c d hd A fs env true μ s X re s'' → P () s'') :
    wpAny (model c.prog c.w) A (noteFrame re env) P E s' := by
  obtain ⟨e, n, ρ₁, μ₁, μ', s₁, rfl, st, S₁, hfly, hq⟩ := x
  rcases hfly with f | ⟨_, rfl, hg, hdr, hos, C, args, hC, hmade⟩
  · exact f.noted S₁ fun s'' f' => h s'' ⟨e, n, ρ₁, μ₁, μ', s₁, rfl, st, S₁, .inl f', hq⟩
  · obtain ⟨e0, outer, L, rfl, h0, hL⟩ := S₁.top
    have hrB : Rel c μ' (hideAll s₁.heap (frs (e0 :: outer))) := S₁.rel.hide (fun a ha => (S₁.aok.fun_.mem ha).1) S₁.aok.priv S₁.aok.dicts
    have hff := funFrames_hide (l := e0 :: outer) S₁.aok.fun_ (fun env' he b hb => List.mem_filterMap.mpr ⟨env', he, hb⟩ : ∀ env' ∈ e0 :: outer, ∀ b, env'.frame = some b → b ∈ frs (e0 :: outer))
    rw [noteFrame_congr (hL.trans h0.symm)]
    refine note_made S₁.aok.frames h0 (fun b o q => of_hideAll _ q) hff hmade fun h' t hh up => h _ ⟨e, n, ρ₁, μ', μ', s₁, rfl, st, S₁, .inl ⟨hg, hdr, hos, ⟨_, C, _, hC, hh.h, hrB, fun b o eb hm hb => hideAll_get _ eb hb⟩, fun b o eb hm => ⟨hm, ?_⟩⟩, hq⟩
    by_cases hb : b ∈ frs (e0 :: outer)
    · obtain ⟨o', es, n, ho', hd'⟩ := S₁.aok.dicts b hb
      rw [eb] at ho'; cases ho'
      obtain ⟨sl₃, e₃⟩ := up b _ (hmade.keeps _ _ eb) (fun vs q => by rw [hd'] at q; cases q)
      exact ⟨sl₃, e₃, fun z => z.elim (fun z => (z hb).elim) fun ⟨vs, z⟩ => by rw [hd'] at z; cases z⟩
    · exact ⟨o.slots, hh.1 _ _ (hideAll_get _ eb hb), fun _ => rfl⟩

theorem XPostS.back {X : String → Loc → Mem → Prop} {re : Value} {s' : Shared} (x : XPostS c d hd A fs env true μ s X re s') : cameBackBy (model c.prog c.w) A env (XPostS c d hd A fs env nr μ s X) re s' := by
  obtain ⟨e, n, ρ₁, μ₁, μ', s₁, rfl, st, S₁, hfly, hq⟩ := x
  rcases hfly with f | ⟨q, _⟩
  · obtain ⟨B, C, a0, hC, hf, hr, hB⟩ := f.there
    exact fly_back hf fun h' hf' up => ⟨e, n, ρ₁, μ₁, μ', s₁, rfl, st, S₁, .inl (f.up S₁ hC hf' hr hB up), hq⟩
  · first | exact ns q | exact fb q | cases q
end
end Mine

set_option autoImplicit false
namespace Mine
set_option linter.unusedVariables false
set_option linter.unusedSimpArgs false
open PySem PySem.W PySem.Calls PyProof.Rows

section
variable {c : Ctx} {sg : Sig} {d : Nat} {nr hd : Bool} {A : Around} {fs : List Env} {env : Env} {ρ : Loc} {μ : Mem} {s : Shared} {X : String → Loc → Mem → Prop}

theorem XPostS.no {μ₀ : Mem} {s₀ : Shared} {re : Value} {s' : Shared} {P : Prop} (x : XPostS c d hd A fs env nr μ₀ s₀ (fun _ _ _ => False) re s') : P := by obtain ⟨_, _, _, _, _, _, _, _, _, _, f⟩ := x; exact f.elim
theorem XPost.no {μ₀ : Mem} {s₀ : Shared} {re : Value} {s' : Shared} {P : Prop} (x : XPost c fs μ₀ s₀ (fun _ _ => False) re s') : P := by obtain ⟨_, _, _, _, _, f⟩ := x; exact f.elim

structure Iter (c : Ctx) (A : Around) (it : Addr) (rv : Value) (v : V) (items : List V) (It : Nat → Heap → Prop) : Prop where
  obj : ∀ k h, It k h → ∃ o vs, h.get? it = some o ∧ o.data = .fields vs ∧ ¬ RK o
  keep : ∀ k h h', It k h → h'.get? it = h.get? it → It k h'
  item : ∀ k w s μ (P : Option Value → Shared → Prop) (E : Value → Shared → Prop), items[k]? = some w → itemsOf μ v = some items → Rel c μ s.heap → RV c s.heap rv v → It k s.heap →
    (∀ rw_ h' n, Heap.ExtBut it s.heap h' → It (k + 1) h' → RV c s.heap rw_ w → P (some rw_) { s with heap := h', toks := n }) → wpAny (model c.prog c.w) A (pyNext (.ref it)) P E s
  self : ∀ k s (P : Value → Shared → Prop) (E : Value → Shared → Prop), It k s.heap → P (.ref it) s → wpAny (model c.prog c.w) A (pyIter (.ref it)) P E s
  fin : ∀ k s μ (P : Option Value → Shared → Prop) (E : Value → Shared → Prop), items[k]? = none → itemsOf μ v = some items → Rel c μ s.heap → RV c s.heap rv v → It k s.heap →
    (∀ h', Heap.ExtBut it s.heap h' → P none { s with heap := h' }) → wpAny (model c.prog c.w) A (pyNext (.ref it)) P E s

theorem monoV_ext {it : Addr} {h h' : Heap} (x : Heap.ExtBut it h h') (ho : ∃ o vs, h.get? it = some o ∧ o.data = .fields vs ∧ ¬ RK o) : ∀ b o, h.get? b = some o → RK o → ∃ sl, h'.get? b = some { o with slots := sl } ∧ ((∃ vs, o.data = .fields vs) → sl = o.slots) := fun b o e q => by
  refine ⟨o.slots, x b o (fun z => ?_) e, fun _ => rfl⟩
  obtain ⟨oi, vs, h1, h2, h3⟩ := ho
  subst z
  rw [h1] at e; cases e; exact h3 q

theorem St.ext {it : Addr} {h' : Heap} {n : Nat} (S : St c d hd A fs env ρ μ s) (x : Heap.ExtBut it s.heap h') (hb : c.base.get? it = none) (ho : ∃ o vs, s.heap.get? it = some o ∧ o.data = .fields vs ∧ ¬ RK o) : St c d hd A fs env ρ μ { s with heap := h', toks := n } := by
  have k := monoV_ext x ho
  obtain ⟨oi, vsi, hi1, hi2, hi3⟩ := ho
  have hm : μ it = none := S.rel.none_of_fields hi1 hi2
  obtain ⟨m, hns, hnm⟩ := S.er.names
  obtain ⟨oL, esL, nL, hoL, hdL⟩ := Ns.dict hns
  have nl : env.locals ≠ it := fun q => by rw [q, hi1] at hoL; cases hoL; rw [hi2] at hdL; cases hdL
  have nc : ∀ ca w, s.heap.IsCell ca w → ca ≠ it := fun ca w ⟨o, ho, hd⟩ q => by rw [q, hi1] at ho; cases ho; rw [hi2] at hd; cases hd
  have cellk : ∀ ca w, s.heap.IsCell ca w → h'.IsCell ca w := fun ca w hc => by obtain ⟨o, ho, hd⟩ := id hc; exact ⟨o, x _ _ (nc ca w hc) ho, hd⟩
  have fr : ∀ l : List Env, s.heap.FunFrames c.base l → h'.FunFrames c.base l := by
    intro l
    induction l with
    | nil => intro _; trivial
    | cons e l ih =>
      rintro ⟨hk, ⟨L, o, hf, hn, ho, hd⟩, hr⟩
      exact ⟨hk, ⟨L, o, hf, hn, x _ _ (fun q => by rw [q, hi1] at ho; cases ho; exact hd _ hi2) ho, hd⟩, ih hr⟩
  refine ⟨⟨fun a o e => x a o (fun z => by rw [z, hb] at e; cases e) (S.rel.base a o e), fun a o e => ?_⟩, ⟨S.er.kind, S.er.glob, S.er.blt, S.er.priv, S.er.new, fun y ca e => ?_, S.er.inj, S.er.has, m, ?_, fun y w e => ?_⟩, ⟨S.aok.frames, S.aok.room, S.aok.units, S.aok.handled, fr _ S.aok.fun_, S.aok.priv, fun L hL => (by obtain ⟨o, es, n, ho, hd⟩ := S.aok.dicts L hL; exact ⟨o, es, n, x _ _ (fun q => by rw [q, hi1] at ho; cases ho; rw [hi2] at hd; cases hd) ho, hd⟩)⟩, S.room, S.units, S.top⟩
  · obtain ⟨n', ob, e', ro⟩ := S.rel.mem a o e
    exact ⟨n', ob, x _ _ (fun z => by rw [z, hm] at e; cases e) e', ro.monoV k⟩
  · obtain ⟨⟨w, hw⟩, h1, h2⟩ := S.er.cells y ca e
    exact ⟨⟨w, cellk _ _ hw⟩, h1, h2⟩
  · obtain ⟨o, es, ep, ho, hd, r⟩ := hns
    exact ⟨o, es, ep, x _ _ nl ho, hd, r⟩
  · rcases hnm y w e with ⟨h1, rw_, h2, h3⟩ | ⟨h1, ca, rw_, h2, h3, h4⟩
    · exact .inl ⟨h1, rw_, h2, h3.monoV k⟩
    · exact .inr ⟨h1, ca, rw_, h2, cellk _ _ h3, h4.monoV k⟩

theorem StepS.it {it : Addr} {μ₀ : Mem} {s₀ : Shared} {h' : Heap} {n : Nat} (st : StepS c fs env μ₀ μ s₀ s) (x : Heap.ExtBut it s.heap h') (hn : s₀.heap.get? it = none) : StepS c fs env μ₀ μ s₀ { s with heap := h', toks := n } :=
  ⟨st.gens, st.drawn, st.os, fun b o e hm hp => by
    obtain ⟨m', sl, e', q⟩ := st.kept b o e hm hp
    exact ⟨m', sl, x b _ (fun z => by rw [z, hn] at e; cases e) e', q⟩⟩

theorem StepS.fields {μ' : Mem} {s' : Shared} {it : Addr} (S : St c d hd A fs env ρ μ s) (st : StepS c fs env μ μ' s s') (ho : ∃ o vs, s.heap.get? it = some o ∧ o.data = .fields vs ∧ ¬ RK o) : s'.heap.get? it = s.heap.get? it := by
  obtain ⟨o, vs, h1, h2, _⟩ := ho
  have np : ¬ pv env it := by
    rintro (q | ⟨y, q⟩)
    · obtain ⟨m, hns, _⟩ := S.er.names
      obtain ⟨oL, esL, nL, hoL, hdL⟩ := Ns.dict hns
      rw [← q, h1] at hoL; cases hoL; rw [h2] at hdL; cases hdL
    · obtain ⟨⟨w, o', ho', hd'⟩, _, _⟩ := S.er.cells y it q
      rw [h1] at ho'; cases ho'; rw [h2] at hd'; cases hd'
  obtain ⟨_, sl, e, q⟩ := st.kept it o h1 (S.rel.none_of_fields h1 h2) np
  rw [q (.inr ⟨vs, h2⟩)] at e
  rw [e, h1]
theorem StepS.rv {μ' : Mem} {s' : Shared} {rv : Value} {v : V} (S : St c d hd A fs env ρ μ s) (st : StepS c fs env μ μ' s s') (h : RV c s.heap rv v) : RV c s'.heap rv v := by
  refine h.monoV fun b o e q => ?_
  obtain ⟨m, hns, _⟩ := S.er.names
  obtain ⟨oL, esL, nL, hoL, hdL⟩ := Ns.dict hns
  have np : ¬ pv env b := by
    rintro (z | ⟨y, z⟩)
    · rw [← z, e] at hoL; cases hoL
      rcases q with ⟨_, _, _, q⟩ | ⟨_, _, q⟩ <;> (rw [hdL] at q; cases q)
    · obtain ⟨⟨w, o', ho', hd'⟩, _, _⟩ := S.er.cells y b z
      rw [e] at ho'; cases ho'
      rcases q with ⟨_, _, _, q⟩ | ⟨_, _, q⟩ <;> (rw [hd'] at q; cases q)
  have hm : μ b = none := by
    rcases q with ⟨q, _⟩ | ⟨_, vs, q⟩
    · exact S.rel.none_of_cls e q (by decide) (by decide)
    · exact S.rel.none_of_fields e q
  obtain ⟨_, sl, e', q'⟩ := st.kept b o e hm np
  exact ⟨sl, e', fun z => q' (.inr z)⟩

end
end Mine

set_option autoImplicit false
namespace Mine
set_option linter.unusedVariables false
set_option linter.unusedSimpArgs false
open PySem PySem.W PySem.Calls PyProof.Rows

section
variable {c : Ctx} {sg : Sig} {d : Nat} {nr hd : Bool} {A : Around} {fs : List Env} {env : Env} {ρ : Loc} {μ : Mem} {s : Shared} {X : String → Loc → Mem → Prop}

theorem notRK {o : Obj} {vs : Array Value} {T : String} (hc : o.cls = .type T) (h1 : T ≠ "tuple") (h2 : T ≠ "range") : ¬ RK o := by
  rintro (⟨q, _⟩ | ⟨q | ⟨C, q⟩, _⟩)
  · rw [hc] at q; injection q with q; exact h1 q
  · rw [hc] at q; injection q with q; exact h2 q
  · rw [hc] at q; cases q

theorem iter_list (hh : A.handled = none) {it l : Addr} {items : List V} : Iter c A it (.ref l) (.ref l) items (fun k h => h.IsListIter it l k) where
  obj := fun k h ⟨o, ho, hc, hd⟩ => ⟨o, _, ho, hd, notRK (vs := #[]) hc (by decide) (by decide)⟩
  keep := fun k h h' ⟨o, ho, r⟩ e => ⟨o, e.trans ho, r⟩
  self := fun k s P E hit h => wpAny_pyIter_listiter hit h
  item := by
    intro k w s μ P E hk hi r hv hit h
    unfold itemsOf at hi
    dsimp only at hi
    split at hi
    · rename_i l' hl; cases hi
      obtain ⟨us, n, h1, h2, h3⟩ := r.lst hl
      obtain ⟨u, hu, hw⟩ := h2.get hk
      exact wpAny_pyNext_list_item hit ⟨_, h1, rfl, n, rfl⟩ (by rw [← Array.getElem?_toList]; exact hu) fun h' hit' sb => h u h' _ sb.extBut hit' hw
    · first | exact ns hi | exact fb hi | cases hi
  fin := by
    intro k s μ P E hk hi r hv hit h
    unfold itemsOf at hi
    dsimp only at hi
    split at hi
    · rename_i l' hl; cases hi
      obtain ⟨us, n, h1, h2, h3⟩ := r.lst hl
      refine wpAny_pyNext_list_end hh hit ⟨_, h1, rfl, n, rfl⟩ ?_ h
      rw [List.getElem?_eq_none_iff] at hk
      rw [Array.getElem?_eq_none_iff, ← Array.length_toList, h2.length]; exact hk
    · first | exact ns hi | exact fb hi | cases hi
theorem iter_tup (hh : A.handled = none) {it t : Addr} {items : List V} : Iter c A it (.ref t) (.tup items) items (fun k h => h.IsTupleIter it t k) where
  obj := fun k h ⟨o, ho, hc, hd⟩ => ⟨o, _, ho, hd, notRK (vs := #[]) hc (by decide) (by decide)⟩
  keep := fun k h h' ⟨o, ho, r⟩ e => ⟨o, e.trans ho, r⟩
  self := fun k s P E hit h => wpAny_pyIter_tupleiter hit h
  item := by
    intro k w s μ P E hk hi r hv hit h
    obtain ⟨_, _, _, _, ea, e, hc, hd, hl, hz⟩ := hv.inv
    cases ea
    obtain ⟨u, hu, hw⟩ := hl.get hk
    exact wpAny_pyNext_tuple_item hit ⟨_, e, hc, _, hd⟩ (by rw [← Array.getElem?_toList]; exact hu) fun h' hit' sb => h u h' _ sb.extBut hit' hw
  fin := by
    intro k s μ P E hk hi r hv hit h
    obtain ⟨_, _, _, _, ea, e, hc, hd, hl, hz⟩ := hv.inv
    cases ea
    refine wpAny_pyNext_tuple_end hh hit ⟨_, e, hc, _, hd⟩ ?_ h
    rw [List.getElem?_eq_none_iff] at hk
    rw [Array.getElem?_eq_none_iff, ← Array.length_toList, hl.length]; exact hk

theorem iter_str (hh : A.handled = none) {it : Addr} {x : Str} {t : Tok} {items : List V} : Iter c A it (.str x t) (.str x) items (fun k h => h.IsStrIter it "str_ascii_iterator" x t k) where
  obj := fun k h ⟨o, ho, hc, hd⟩ => ⟨o, _, ho, hd, notRK (vs := #[]) hc (by decide) (by decide)⟩
  keep := fun k h h' ⟨o, ho, r⟩ e => ⟨o, e.trans ho, r⟩
  self := fun k s P E hit h => wpAny_pyIter_striter_ascii hit h
  item := by
    intro k w s μ P E hk hi r hv hit h
    unfold itemsOf at hi
    dsimp only at hi
    split at hi
    · cases hi
      rw [List.getElem?_map] at hk
      obtain ⟨ch, hc, rfl⟩ := Option.map_eq_some_iff.mp hk
      exact wpAny_pyNext_ascii_item hit (by rw [← Array.getElem?_toList]; exact hc) fun h' hit' sb => h _ h' _ sb.extBut hit' (.str _ _)
    · first | exact ns hi | exact fb hi | cases hi
  fin := by
    intro k s μ P E hk hi r hv hit h
    unfold itemsOf at hi
    dsimp only at hi
    split at hi
    · cases hi
      rw [List.getElem?_map, Option.map_eq_none_iff] at hk
      exact wpAny_pyNext_ascii_end hh hit (by rw [← Array.getElem?_toList]; exact hk) h
    · first | exact ns hi | exact fb hi | cases hi

noncomputable def rngLen (lo hi : Int) : Nat := (hi - lo).toNat
omit A fs μ s in
theorem rngItems_get {lo hi : Int} (k : Nat) : (rngItems lo hi 1)[k]? = if k < rngLen lo hi then some (.int (lo + k)) else none := by
  unfold rngItems rngLen
  rw [if_pos rfl, List.getElem?_map]
  split
  · rename_i h; rw [List.getElem?_range h]; rfl
  · rename_i h; rw [List.getElem?_eq_none_iff.mpr (by simpa using Nat.le_of_not_lt h)]; rfl
omit A fs μ s in
theorem rng_size {lo hi : Int} : Builtin.Range.rangeSize lo hi 1 = rngLen lo hi := by
  unfold Builtin.Range.rangeSize rngLen
  rw [if_pos (by decide)]; split <;> omega
omit A fs μ s in
theorem rng_small' {lo hi : Int} (q2 : -2 ^ 62 < lo ∧ lo < 2 ^ 62) (q3 : -2 ^ 62 < hi ∧ hi < 2 ^ 62) : Builtin.Range.small lo hi 1 = true := by
  unfold Builtin.Range.small
  rw [rng_size]
  unfold Builtin.Range.rangeFitsLong rngLen
  simp only [Bool.and_eq_true, Bool.or_eq_true, decide_eq_true_eq, beq_iff_eq, if_pos (show (1 : Int) > 0 from by decide), if_pos]
  omega

theorem iter_rng (hh : A.handled = none) {it r : Addr} {lo hi : Int} : Iter c A it (.ref r) (.rng lo hi 1) (rngItems lo hi 1) (fun k h => IsRangeIter h it (lo + k) ((rngLen lo hi : Int) - k) 1) where
  obj := fun k h ho => ⟨_, _, ho, rfl, notRK (vs := #[]) (T := "range_iterator") rfl (by decide) (by decide)⟩
  keep := fun k h h' ho e => e.trans ho
  self := fun k s P E hit h => wpAny_pyIter_rangeiter hit h
  item := by
    intro k w s μ P E hk hi' r' hv hit h
    rw [rngItems_get] at hk
    split at hk
    · rename_i hlt; cases hk
      refine wpAny_pyNext_range_item hit (by omega) fun h' hit' sb => h _ h' _ sb.extBut ?_ (.int _ _)
      have e1 : lo + ((k : Nat) : Int) + 1 = lo + ((k + 1 : Nat) : Int) := by omega
      have e2 : (rngLen lo hi : Int) - k - 1 = (rngLen lo hi : Int) - ((k + 1 : Nat) : Int) := by omega
      rw [e1, e2] at hit'
      exact hit'
    · first | exact ns hk | exact fb hk | cases hk
  fin := by
    intro k s μ P E hk hi' r' hv hit h
    rw [rngItems_get] at hk
    split at hk
    · first | exact ns hk | exact fb hk | cases hk
    · rename_i hlt
      exact wpAny_pyNext_range_end hh hit (by omega) h

theorem iter_sound {rv : Value} {v : V} {items : List V} {P : Value → Shared → Prop} {E : Value → Shared → Prop} (hh : A.handled = none) (r : Rel c μ s.heap) (hv : RV c s.heap rv v) (hi : itemsOf μ v = some items)
    (h : ∀ it s' It, Iter c A it rv v items It → It 0 s'.heap → s.heap.get? it = none → Step c fs μ μ s s' → P (.ref it) s') : wpAny (model c.prog c.w) A (pyIter rv) P E s := by
  have n0 : s.heap.get? s.heap.objs.size = none := Heap.get?_none_of_le (Nat.le_refl _)
  cases hv with
  | ref a =>
    have hi' := hi
    unfold itemsOf at hi
    dsimp only at hi
    split at hi
    · rename_i l hl; cases hi
      obtain ⟨us, n, h1, h2, h3⟩ := r.lst hl
      exact wpAny_pyIter_list ⟨_, h1, rfl, n, rfl⟩ (h _ _ _ (iter_list hh) ⟨_, Heap.get?_push_size _ rfl, rfl, rfl⟩ n0 (Step.grows (n := s.toks) r fun b o e => Heap.get?_push_of_some _ e))
    · first | exact ns hi | exact fb hi | cases hi
  | tup e hc hd hl hz =>
    cases hi
    exact wpAny_pyIter_tuple ⟨_, e, hc, _, hd⟩ (h _ _ _ (iter_tup hh) ⟨_, Heap.get?_push_size _ rfl, rfl, rfl⟩ n0 (Step.grows (n := s.toks) r fun b o e => Heap.get?_push_of_some _ e))
  | rng e ok =>
    obtain ⟨q2, q3, rfl⟩ := ok
    cases hi
    refine wpAny_pyIter_range e (rng_small' q2 q3) (h _ _ _ (iter_rng hh) ?_ n0 (Step.grows (n := s.toks) r fun b o e => Heap.get?_push_of_some _ e))
    rw [rng_size]
    refine (Heap.get?_push_size s.heap rfl).trans ?_
    simp
  | str x t =>
    have hi' := hi
    unfold itemsOf at hi
    dsimp only at hi
    split at hi
    · rename_i ha
      exact wpAny_pyIter_ascii ha (h _ _ _ (iter_str hh) ⟨_, Heap.get?_push_size _ rfl, rfl, rfl⟩ n0 (Step.grows (n := s.toks) r fun b o e => Heap.get?_push_of_some _ e))
    · first | exact ns hi | exact fb hi | cases hi
  | none | bool | int | exc | frz | gd => first | exact ns hi | exact fb hi | cases hi

end
end Mine

set_option autoImplicit false
namespace Mine
set_option linter.unusedVariables false
set_option linter.unusedSimpArgs false
open PySem PySem.W PySem.Calls PyProof.Rows

noncomputable def SE (c : Ctx) (sg : Sig) (d : Nat) (e : E) : Prop := ∀ (hd : Bool) (A : Around) (fs : List Env) (env : Env) (ρ : Loc) (μ : Mem) (s : Shared) (Q : V → Mem → Prop) (X : String → Mem → Prop),
  okE sg env.scope.names e = true → wpE sg (SC c d) hd e ρ μ Q X → St c d hd A fs env ρ μ s → wpAny (model c.prog c.w) A (eval (toE e) env) (Post c fs μ s Q) (XPost c fs μ s X) s
noncomputable def ST (c : Ctx) (sg : Sig) (d : Nat) (e : E) : Prop := ∀ (hd : Bool) (A : Around) (fs : List Env) (env : Env) (ρ : Loc) (μ : Mem) (s : Shared) (Q₀ : V → Mem → Prop) (Q : Bool → Mem → Prop) (X : String → Mem → Prop),
  (∀ v μ₁, Q₀ v μ₁ → tr v fun b => Q b μ₁) → okE sg env.scope.names e = true → wpE sg (SC c d) hd e ρ μ Q₀ X → St c d hd A fs env ρ μ s → wpAny (model c.prog c.w) A (isTrue (toE e) env (eval (toE e) env)) (PostB c fs μ s Q) (XPost c fs μ s X) s

section
variable {c : Ctx} {sg : Sig} {d : Nat} {hd : Bool} {A : Around} {fs : List Env} {env : Env} {ρ : Loc} {μ : Mem} {s : Shared} {E : Value → Shared → Prop}

theorem ses {es : List Mine.E} : (∀ e ∈ es, SE c sg d e) → ∀ {μ : Mem} {s : Shared} {Q : List V → Mem → Prop} {X : String → Mem → Prop}, okEs sg env.scope.names es = true → wpEs sg (SC c d) hd es ρ μ Q X → St c d hd A fs env ρ μ s →
    wpAny (model c.prog c.w) A (spliced (es.map fun e => (false, eval (toE e) env))) (Posts c fs μ s fun vs μ' => vs.length = es.length ∧ Q vs μ') (XPost c fs μ s X) s := by
  induction es with
  | nil => intro _ μ s Q X _ h S; exact spliced_nil ⟨[], μ, Step.refl S.rel, .nil, rfl, h⟩
  | cons e es ih =>
    intro hs μ s Q X ok h S
    simp only [okEs, Bool.and_eq_true] at ok
    refine spliced_cons (wpAny_mono (hs e (.head _) hd A fs env ρ μ s _ X ok.1 h S) (fun rv s₁ hpp => ?_) fun _ _ x => x)
    obtain ⟨v, μ₁, st, hv, q⟩ := hpp
    refine wpAny_mono (ih (fun e' he => hs e' (.tail _ he)) ok.2 q (S.step st)) (fun rvs s₂ hpp => ?_) fun _ _ x => x.after st
    obtain ⟨vs, μ₂, st₂, hvs, q₂⟩ := hpp
    exact ⟨v :: vs, μ₂, st.trans st₂, .cons (hv.step st.rel st₂) hvs, by rw [List.length_cons, List.length_cons, q₂.1], q₂.2⟩

theorem tr_bool {v : V} {k : Bool → Prop} (h : tr v k) : ∃ b, v = .bool b ∧ k b := by
  unfold tr truth at h
  split at h
  · rename_i b e
    split at e
    · cases e; exact ⟨_, rfl, h⟩
    · first | exact ns e | exact fb e | cases e
  · exact h.elim
theorem truthy_sound {rv : Value} {v : V} {k : Bool → Prop} {P : Bool → Shared → Prop} {M : Model} {h : Heap} (hv : RV c h rv v) (t : tr v k) (q : ∀ b, k b → P b s) : wpAny M A (truthy rv) P E s := by
  obtain ⟨b, rfl, hb⟩ := tr_bool t
  cases hv.inv
  exact wpAny_truthy_bool (q b hb)

theorem call_es {es : List Mine.E} {f : Value} {first : List Value} {pos : Pos} {Q : V → Mem → Prop} {Qs : List V → Mem → Prop} {X : String → Mem → Prop} (G : Good c sg) (hs : ∀ e ∈ es, SE c sg d e) (ok : okEs sg env.scope.names es = true) (h : wpEs sg (SC c d) hd es ρ μ Qs X) (S : St c d hd A fs env ρ μ s)
    (hk : keepIn c.K f = true ∨ (∃ id, f = .builtin id) ∨ ∃ T, f = .type T)
    (k : ∀ rvs vs μ₁ s₁, Step c fs μ μ₁ s s₁ → RVs c s₁.heap rvs vs → Qs vs μ₁ → wpAny (model c.prog c.w) A (call f (first ++ rvs)) (Post c fs μ₁ s₁ Q) (XPost c fs μ₁ s₁ X) s₁) :
    wpAny (model c.prog c.w) A (callWith pos f first (backTo pos (starEach (toEs es) env)) []) (Post c fs μ s Q) (XPost c fs μ s X) s := by
  have e1 : (es.map fun e => ((false, eval (toE e) env) : Bool × Sem Value)) = (es.map fun e => eval (toE e) env).map fun t => (false, t) := by rw [List.map_map]; rfl
  rw [backTo_toEs, e1]
  have hp : ((es.map fun e => eval (toE e) env).map fun t => ((false, t) : Bool × Sem Value)).any (·.1) = false := by
    rw [List.any_map]; simp
  have args := ses (fs := fs) (A := A) hs ok h S
  rw [e1] at args
  have fin : wpAny (model c.prog c.w) A (evalArgs f true ((es.map fun e => eval (toE e) env).map fun t => (false, t)) []) (fun a s₁ => c.K.In s₁.heap ∧ wpAny (model c.prog c.w) A (call f (first ++ a.pos) a.kw) (Post c fs μ s Q) (XPost c fs μ s X) s₁) (XPost c fs μ s X) s :=
    evalArgs_es (wpAny_mono args (fun rvs s₁ ⟨vs, μ₁, st, hvs, _, q⟩ => ⟨G.X.keeps st.rel.base, wp_after st (k rvs vs μ₁ s₁ st hvs q)⟩) fun _ _ x => x)
  rcases hk with hk | ⟨id, rfl⟩ | ⟨T, rfl⟩
  · exact callWith_of (by rw [hp]; rfl) (keeps_K hk) fin
  · exact PySem.Calls.callWith_builtin hp (wpAny_mono fin (fun _ _ x => x.2) fun _ _ x => x)
  · exact PySem.callWith_type hp (wpAny_mono fin (fun _ _ x => x.2) fun _ _ x => x)

theorem sc_call {hd : Bool} {f : String} {fa : Addr} {vs : List V} {rvs : List Value} {Q : V → Mem → Prop} {X : String → Mem → Prop} (h : SC c d hd f vs μ Q X) (hf : c.fn f = some fa) (aok : AOK c d hd A fs μ s.heap) (r : Rel c μ s.heap) (hr : RVs c s.heap rvs vs) :
    wpAny (model c.prog c.w) A (call (.ref fa) rvs) (Post c fs μ s Q) (XPost c fs μ s X) s := by
  obtain ⟨fa', h1, h2⟩ := h
  rw [hf] at h1; cases h1
  exact wpAny_call (h2 A fs s rvs aok r hr)

theorem new_sound {cl : String} {C fI : Addr} {vs : List V} {rvs : List Value} {Q : V → Mem → Prop} {X : String → Mem → Prop} (X' : c.K.In s.heap) (hm : makesIn c.K C = true) (hi : findIn c.K (.ref C) "__init__" = some (some (.ref fI))) (hty : typeIn c.K (.ref fI) = some (.type "function"))
    (hc : c.cls cl = some C) (hf : c.fn (cl ++ ".__init__") = some fI) (S : St c d hd A fs env ρ μ s) (hr : RVs c s.heap rvs vs)
    (h : ∀ a dd, μ a = none → μ dd = none → dd ≠ a → SC c d hd (cl ++ ".__init__") (.ref a :: vs) (updM (updM μ dd (.attrs [])) a (.inst cl dd)) (fun v μ₂ => (match v with | .none => True | _ => False) ∧ Q (.ref a) μ₂) X) :
    wpAny (model c.prog c.w) A (call (.ref C) rvs) (Post c fs μ s Q) (XPost c fs μ s X) s := by
  obtain ⟨hp, g, dr, t, os⟩ := s
  have n0 : hp.get? hp.objs.size = none := Heap.get?_none_of_le (Nat.le_refl _)
  have n1 : (hp.push emptyDict).get? (hp.objs.size + 1) = none := Heap.get?_none_of_le (by rw [Heap.size_push]; exact Nat.le_refl _)
  have k0 : ∀ b o, hp.get? b = some o → (hp.push emptyDict).get? b = some o := fun b o e => Heap.get?_push_of_some _ e
  have st0 : Step c fs μ (updM μ hp.objs.size (.attrs [])) ⟨hp, g, dr, t, os⟩ ⟨hp.push emptyDict, g, dr, t, os⟩ := Step.alloc S.rel k0 n0 (Heap.get?_push_size _ rfl) (.attrs (es := []) .nil)
  have g1 : ((hp.push emptyDict).push (instObj C hp.objs.size)).get? (hp.objs.size + 1) = some (instObj C hp.objs.size) := by
    have := Heap.get?_push_size (hp.push emptyDict) (o := instObj C hp.objs.size) rfl
    rwa [Heap.size_push] at this
  have st1 : Step c fs (updM μ hp.objs.size (.attrs [])) (updM (updM μ hp.objs.size (.attrs [])) (hp.objs.size + 1) (.inst cl hp.objs.size)) ⟨hp.push emptyDict, g, dr, t, os⟩ ⟨(hp.push emptyDict).push (instObj C hp.objs.size), g, dr, t, os⟩ :=
    Step.alloc st0.rel (fun b o e => Heap.get?_push_of_some _ e) n1 g1 (.inst hc)
  have st := st0.trans st1
  have m1 : μ (hp.objs.size + 1) = none := S.rel.free (Heap.get?_none_of_le (by exact Nat.le_succ _))
  obtain ⟨fa', h1, h2⟩ := h (hp.objs.size + 1) hp.objs.size m1 (S.rel.free n0) (Nat.ne_of_lt (Nat.lt_succ_self _))
  rw [hf] at h1; cases h1
  refine wpAny_call (make_core (makes_of X' hm) (looks_findIn X' hi) (fun self => bind_fn X' self hty) (.inl rfl) ?_)
  have aok := S.aok.step st
  have := S.room
  have hu := S.units
  have aok' : AOK c d hd (A.under (.builtin "type.__call__" ⟨.ref C :: rvs, []⟩)) fs (updM (updM μ hp.objs.size (.attrs [])) (hp.objs.size + 1) (.inst cl hp.objs.size)) ((hp.push emptyDict).push (instObj C hp.objs.size)) :=
    ⟨aok.frames, by rw [depth_under_make]; omega, by rw [units_under_make]; omega, aok.handled, aok.fun_, aok.priv, aok.dicts⟩
  refine codeAny_mono (h2 _ fs _ (.ref (hp.objs.size + 1) :: rvs) aok' st.rel (.cons (.ref _) (hr.step S.rel st))) fun r s' hrr => ?_
  rcases r with re | (_ | _ | _ | v)
  · exact hrr.after st
  · exact hrr.elim
  · exact hrr.elim
  · exact hrr.elim
  · obtain ⟨v', μ', st', hv, hn, hq⟩ := hrr
    cases v' with
    | none => cases hv.inv; exact ⟨rfl, .ref (hp.objs.size + 1), μ', st.trans st', .ref _, hq⟩
    | _ => exact hn.elim
end
end Mine

set_option autoImplicit false
namespace Mine
set_option linter.unusedVariables false
set_option linter.unusedSimpArgs false
open PySem PySem.W PySem.Calls PyProof.Rows

section
variable {c : Ctx} {sg : Sig} {d : Nat}

theorem wp_next {A : Around} {fs : List Env} {μ₀ μ : Mem} {s₀ s : Shared} {t : Sem Value} {Q₁ : V → Mem → Prop} {X : String → Mem → Prop} {P : Value → Shared → Prop} (st : Step c fs μ₀ μ s₀ s) (h : wpAny (model c.prog c.w) A t (Post c fs μ s Q₁) (XPost c fs μ s X) s)
    (k : ∀ rv v μ₁ s₁, Step c fs μ μ₁ s s₁ → Step c fs μ₀ μ₁ s₀ s₁ → RV c s₁.heap rv v → Q₁ v μ₁ → P rv s₁) : wpAny (model c.prog c.w) A t P (XPost c fs μ₀ s₀ X) s :=
  wpAny_mono h (fun rv s₁ ⟨v, μ₁, st₁, hv, q⟩ => k rv v μ₁ s₁ st₁ (st.trans st₁) hv q) fun _ _ x => x.after st
theorem wp_nextB {A : Around} {fs : List Env} {μ₀ μ : Mem} {s₀ s : Shared} {t : Sem Bool} {Q₁ : Bool → Mem → Prop} {X : String → Mem → Prop} {P : Bool → Shared → Prop} (st : Step c fs μ₀ μ s₀ s) (h : wpAny (model c.prog c.w) A t (PostB c fs μ s Q₁) (XPost c fs μ s X) s)
    (k : ∀ b μ₁ s₁, Step c fs μ μ₁ s s₁ → Step c fs μ₀ μ₁ s₀ s₁ → Q₁ b μ₁ → P b s₁) : wpAny (model c.prog c.w) A t P (XPost c fs μ₀ s₀ X) s :=
  wpAny_mono h (fun b s₁ ⟨μ₁, st₁, q⟩ => k b μ₁ s₁ st₁ (st.trans st₁) q) fun _ _ x => x.after st
theorem wp_last {A : Around} {fs : List Env} {μ₀ μ : Mem} {s₀ s : Shared} {t : Sem Value} {Q : V → Mem → Prop} {E : Value → Shared → Prop} (st : Step c fs μ₀ μ s₀ s) (h : wpAny (model c.prog c.w) A t (Post c fs μ s Q) E s) : wpAny (model c.prog c.w) A t (Post c fs μ₀ s₀ Q) E s :=
  wpAny_mono h (fun _ _ p => p.after st) fun _ _ x => x

theorem se_bin {op : Operator} {l r : E} {p : Pos} (hl : SE c sg d l) (hr : SE c sg d r) : SE c sg d (.bin op l r p) := by
  intro hd A fs env ρ μ s Q X ok h S
  simp only [okE_loc, okE_glob, okE_bin, okE_neg, okE_not, okE_and, okE_or, okE_cmp, okE_cmp2, okE_attr, okE_sub, okE_sliceL, okE_sliceU, okE_sliceLU, okE_tup, okE_list, okE_call, okE_new, okE_bltn, okE_isi, okE_meth, okE_comp, Bool.and_eq_true] at ok
  refine wpAny_BinOp (wp_next (Step.refl S.rel) (hl hd A fs env ρ μ s _ X ok.1 h S) fun ra a μ₁ s₁ st _ ha q => ?_)
  refine wp_next st (hr hd A fs env ρ μ₁ s₁ _ X ok.2 q (S.step st)) fun rb b μ₂ s₂ st₂ st' hb q₂ => ?_
  exact wp_last st' (bin_sound st₂.rel (ha.step st.rel st₂) hb q₂ ((S.step st).step st₂).aok)

theorem se_neg {e : E} {p : Pos} (he : SE c sg d e) : SE c sg d (.neg e p) := by
  intro hd A fs env ρ μ s Q X ok h S
  simp only [okE_loc, okE_glob, okE_bin, okE_neg, okE_not, okE_and, okE_or, okE_cmp, okE_cmp2, okE_attr, okE_sub, okE_sliceL, okE_sliceU, okE_sliceLU, okE_tup, okE_list, okE_call, okE_new, okE_bltn, okE_isi, okE_meth, okE_comp] at ok
  refine wpAny_UnaryOp (wp_next (Step.refl S.rel) (he hd A fs env ρ μ s _ X ok h S) fun ra a μ₁ s₁ st _ ha q => ?_)
  unfold asInt at q
  split at q
  · obtain ⟨_, rfl⟩ := ha.int_of; exact PyProof.Rows.neg_int ⟨_, μ₁, st.trans (Step.toks st.rel), .int _ _, q⟩
  · exact q.elim

theorem se_not {e : E} {p : Pos} (he : SE c sg d e) : SE c sg d (.not e p) := by
  intro hd A fs env ρ μ s Q X ok h S
  simp only [okE_loc, okE_glob, okE_bin, okE_neg, okE_not, okE_and, okE_or, okE_cmp, okE_cmp2, okE_attr, okE_sub, okE_sliceL, okE_sliceU, okE_sliceLU, okE_tup, okE_list, okE_call, okE_new, okE_bltn, okE_isi, okE_meth, okE_comp] at ok
  refine wpAny_UnaryOp (wp_next (Step.refl S.rel) (he hd A fs env ρ μ s _ X ok h S) fun ra a μ₁ s₁ st _ ha q => ?_)
  exact not_of (truthy_sound ha q fun b hb => ⟨.bool (!b), μ₁, st, .bool _, hb⟩)

theorem behind_toE (op : CmpOp) (e : E) : behindInMarks op (toE e) = false := by cases e <;> rfl
theorem se_cmp {op : CmpOp} {l r : E} {p : Pos} (hl : SE c sg d l) (hr : SE c sg d r) : SE c sg d (.cmp op l r p) := by
  intro hd A fs env ρ μ s Q X ok h S
  simp only [okE_loc, okE_glob, okE_bin, okE_neg, okE_not, okE_and, okE_or, okE_cmp, okE_cmp2, okE_attr, okE_sub, okE_sliceL, okE_sliceU, okE_sliceLU, okE_tup, okE_list, okE_call, okE_new, okE_bltn, okE_isi, okE_meth, okE_comp, Bool.and_eq_true] at ok
  refine wpAny_Compare1 (wp_next (Step.refl S.rel) (hl hd A fs env ρ μ s _ X ok.1 h S) fun ra a μ₁ s₁ st _ ha q => ?_) (behind_toE op r)
  refine wp_next st (hr hd A fs env ρ μ₁ s₁ _ X ok.2 q (S.step st)) fun rb b μ₂ s₂ st₂ st' hb q₂ => ?_
  exact wp_last st' (cmp_sound st₂.rel (ha.step st.rel st₂) hb q₂ ((S.step st).step st₂).aok)

theorem se_attr {o : E} {a : String} {p : Pos} (G : Good c sg) (ho : SE c sg d o) : SE c sg d (.attr o a p) := by
  intro hd A fs env ρ μ s Q X ok h S
  simp only [okE_loc, okE_glob, okE_bin, okE_neg, okE_not, okE_and, okE_or, okE_cmp, okE_cmp2, okE_attr, okE_sub, okE_sliceL, okE_sliceU, okE_sliceLU, okE_tup, okE_list, okE_call, okE_new, okE_bltn, okE_isi, okE_meth, okE_comp, Bool.and_eq_true] at ok
  have hb : ∃ x p, o = .loc x p := by
    have := ok.2
    split at this
    · exact ⟨_, _, rfl⟩
    · first | exact ns this | exact fb this | cases this
  have main := wp_next (P := fun ra s₁ => wpAny (model c.prog c.w) A (getAttr ra (Str.ofString a) true) (Post c fs μ s Q) (XPost c fs μ s X) s₁) (Step.refl S.rel) (ho hd A fs env ρ μ s _ X ok.1.1 h S) fun ra v μ₁ s₁ st _ ha q => by
    unfold optW at q
    split at q
    · rename_i w hw
      exact wp_last st (attr_sound (G.X.keeps st.rel.base) st.rel ha hw G.cls (fun x C hC => G.attr x C a hC (List.contains_iff_mem.mp ok.1.2)) q)
    · exact q.elim
  obtain ⟨x, p', rfl⟩ := hb
  exact Attribute_any_ main rfl

theorem se_sub {o i : E} {p : Pos} (ho : SE c sg d o) (hi : SE c sg d i) : SE c sg d (.sub o i p) := by
  intro hd A fs env ρ μ s Q X ok h S
  simp only [okE_loc, okE_glob, okE_bin, okE_neg, okE_not, okE_and, okE_or, okE_cmp, okE_cmp2, okE_attr, okE_sub, okE_sliceL, okE_sliceU, okE_sliceLU, okE_tup, okE_list, okE_call, okE_new, okE_bltn, okE_isi, okE_meth, okE_comp, Bool.and_eq_true] at ok
  refine Subscript_ (wp_next (Step.refl S.rel) (ho hd A fs env ρ μ s _ X ok.1 h S) fun ra a μ₁ s₁ st _ ha q => ?_)
  refine wp_next st (hi hd A fs env ρ μ₁ s₁ _ X ok.2 q (S.step st)) fun rb b μ₂ s₂ st₂ st' hb q₂ => ?_
  unfold optW at q₂
  split at q₂
  · rename_i w hw
    exact wp_last st' (sub_sound st₂.rel (ha.step st.rel st₂) hb hw q₂)
  · exact q₂.elim

theorem se_tup {es : List E} {k : Nat} {p : Pos} (hs : ∀ e ∈ es, SE c sg d e) : SE c sg d (.tup es k p) := by
  intro hd A fs env ρ μ s Q X ok h S
  simp only [okE_loc, okE_glob, okE_bin, okE_neg, okE_not, okE_and, okE_or, okE_cmp, okE_cmp2, okE_attr, okE_sub, okE_sliceL, okE_sliceU, okE_sliceLU, okE_tup, okE_list, okE_call, okE_new, okE_bltn, okE_isi, okE_meth, okE_comp, Bool.and_eq_true, decide_eq_true_eq] at ok
  refine Tuple_ ?_
  rw [backTo_toEs]
  refine wpAny_mono (ses hs ok.1 h S) (fun rvs s₁ hpp => ?_) fun _ _ x => x
  obtain ⟨vs, μ₁, st, hvs, hln, q⟩ := hpp
  have hl := hvs.length
  have hok := ok.2
  have k : ∀ b o, s₁.heap.get? b = some o → (s₁.heap.push { cls := .type "tuple", data := .seq rvs.toArray }).get? b = some o := fun b o e => Heap.get?_push_of_some _ e
  have st' : Step c fs μ₁ μ₁ s₁ { s₁ with heap := s₁.heap.push { cls := .type "tuple", data := .seq rvs.toArray } } := Step.grows (n := s₁.toks) st.rel k
  refine wpAny_newTuple ⟨.tup vs, μ₁, st.trans st', .tup (Heap.get?_push_size _ rfl) rfl rfl (by simpa using hvs.step st.rel st') (by rw [lim_val]; omega), q⟩ ?_
  rw [sizeLine_eq]; omega

theorem se_list {es : List E} {p : Pos} (hs : ∀ e ∈ es, SE c sg d e) : SE c sg d (.list es p) := by
  intro hd A fs env ρ μ s Q X ok h S
  simp only [okE_loc, okE_glob, okE_bin, okE_neg, okE_not, okE_and, okE_or, okE_cmp, okE_cmp2, okE_attr, okE_sub, okE_sliceL, okE_sliceU, okE_sliceLU, okE_tup, okE_list, okE_call, okE_new, okE_bltn, okE_isi, okE_meth, okE_comp, Bool.and_eq_true, decide_eq_true_eq] at ok
  refine List_ ?_
  rw [backTo_toEs]
  refine wpAny_mono (ses hs ok.1 h S) (fun rvs s₁ hpp => ?_) fun _ _ x => x
  obtain ⟨vs, μ₁, st, hvs, _, q⟩ := hpp
  refine wpAny_newList ((post_newL (n := s₁.toks) st.rel (by simpa using hvs) q).after st) ?_
  have := newL_size (vs := rvs.toArray) (by simpa using hvs) q.1
  simpa using this
end
end Mine

set_option autoImplicit false
namespace Mine
set_option linter.unusedVariables false
set_option linter.unusedSimpArgs false
open PySem PySem.W PySem.Calls PyProof.Rows

section
variable {c : Ctx} {sg : Sig} {d : Nat}

theorem eval_SliceL {M : Model} {A : Around} {E : Value → Shared → Prop} {s : Shared} {env : Env} {l : Expr} {ps : Pos} {P : Value → Shared → Prop}
    (h : wpAny M A (eval l env) (fun rl s₁ => P (.ref s₁.heap.objs.size) { s₁ with heap := s₁.heap.push { cls := .type "slice", data := .fields #[rl, .none, .none] } }) E s) : wpAny M A (eval (.Slice (some l) none none ps) env) P E s := by
  show wpAny M A (do
    let l ← eval l env
    let u ← holding [l] (pure .none)
    let s ← holding [l, u] (pure .none)
    newFields "slice" [l, u, s]) P E s
  refine wpAny_bind (wpAny_mono h (fun rl s₁ h₁ => ?_) fun _ _ x => x)
  refine wpAny_bind (wpAny_holding (wpAny_pure (wpAny_bind (wpAny_holding (wpAny_pure ?_)))))
  unfold newFields
  exact wpAny_newObj_type h₁ (by show sizeOk (.fields _); simp [sizeOk, sizeLine_eq])
theorem eval_SliceU {M : Model} {A : Around} {E : Value → Shared → Prop} {s : Shared} {env : Env} {l : Expr} {ps : Pos} {P : Value → Shared → Prop}
    (h : wpAny M A (eval l env) (fun rl s₁ => P (.ref s₁.heap.objs.size) { s₁ with heap := s₁.heap.push { cls := .type "slice", data := .fields #[.none, rl, .none] } }) E s) : wpAny M A (eval (.Slice none (some l) none ps) env) P E s := by
  show wpAny M A (do
    let l' ← pure .none
    let u ← holding [l'] (eval l env)
    let s ← holding [l', u] (pure .none)
    newFields "slice" [l', u, s]) P E s
  refine wpAny_bind (wpAny_pure (wpAny_bind (wpAny_holding (wpAny_mono h (fun rl s₁ h₁ => ?_) fun _ _ x => x))))
  refine wpAny_bind (wpAny_holding (wpAny_pure ?_))
  unfold newFields
  exact wpAny_newObj_type h₁ (by show sizeOk (.fields _); simp [sizeOk, sizeLine_eq])

theorem eval_SliceLU {M : Model} {A : Around} {E : Value → Shared → Prop} {s : Shared} {env : Env} {l u : Expr} {ps : Pos} {P : Value → Shared → Prop}
    (h : wpAny M A (eval l env) (fun rl s₁ => wpAny M A (eval u env) (fun ru s₂ => P (.ref s₂.heap.objs.size) { s₂ with heap := s₂.heap.push { cls := .type "slice", data := .fields #[rl, ru, .none] } }) E s₁) E s) : wpAny M A (eval (.Slice (some l) (some u) none ps) env) P E s := by
  show wpAny M A (do
    let l ← eval l env
    let u ← holding [l] (eval u env)
    let s ← holding [l, u] (pure .none)
    newFields "slice" [l, u, s]) P E s
  refine wpAny_bind (wpAny_mono h (fun rl s₁ h₁ => ?_) fun _ _ x => x)
  refine wpAny_bind (wpAny_holding (wpAny_mono h₁ (fun ru s₂ h₂ => ?_) fun _ _ x => x))
  refine wpAny_bind (wpAny_holding (wpAny_pure ?_))
  unfold newFields
  exact wpAny_newObj_type h₂ (by show sizeOk (.fields _); simp [sizeOk, sizeLine_eq])

theorem se_sliceLU {o l u : E} {ps p : Pos} (ho : SE c sg d o) (hl : SE c sg d l) (hu : SE c sg d u) : SE c sg d (.sliceLU o l u ps p) := by
  intro hd A fs env ρ μ s Q X ok h S
  simp only [okE_loc, okE_glob, okE_bin, okE_neg, okE_not, okE_and, okE_or, okE_cmp, okE_cmp2, okE_attr, okE_sub, okE_sliceL, okE_sliceU, okE_sliceLU, okE_tup, okE_list, okE_call, okE_new, okE_bltn, okE_isi, okE_meth, okE_comp, Bool.and_eq_true] at ok
  refine Subscript_ (wp_next (Step.refl S.rel) (ho hd A fs env ρ μ s _ X ok.1.1 h S) fun ra a μ₁ s₁ st _ ha q => ?_)
  refine eval_SliceLU (wp_next st (hl hd A fs env ρ μ₁ s₁ _ X ok.1.2 q (S.step st)) fun rb b μ₂ s₂ st₂ st' hb q₂ => ?_)
  refine wp_next st' (hu hd A fs env ρ μ₂ s₂ _ X ok.2 q₂ ((S.step st).step st₂)) fun rc b' μ₃ s₃ st₃ st'' hc q₃ => ?_
  obtain ⟨i, rfl, q₃⟩ := asInt_of (v := b) q₃
  obtain ⟨j, rfl, q₃⟩ := asInt_of (v := b') q₃
  obtain ⟨t1, rfl⟩ := hb.int_of
  obtain ⟨t2, rfl⟩ := hc.int_of
  exact wpAny_mono (slice_sound st₃.rel ((ha.step st.rel st₂).step st₂.rel st₃) (.int _ _) (.int _ _) q₃ fun _ _ => rfl) (fun _ _ p => p.after st'') fun _ _ x => x
theorem se_sliceL {o l : E} {ps p : Pos} (ho : SE c sg d o) (hl : SE c sg d l) : SE c sg d (.sliceL o l ps p) := by
  intro hd A fs env ρ μ s Q X ok h S
  simp only [okE_loc, okE_glob, okE_bin, okE_neg, okE_not, okE_and, okE_or, okE_cmp, okE_cmp2, okE_attr, okE_sub, okE_sliceL, okE_sliceU, okE_sliceLU, okE_tup, okE_list, okE_call, okE_new, okE_bltn, okE_isi, okE_meth, okE_comp, Bool.and_eq_true] at ok
  refine Subscript_ (wp_next (Step.refl S.rel) (ho hd A fs env ρ μ s _ X ok.1 h S) fun ra a μ₁ s₁ st _ ha q => ?_)
  refine eval_SliceL (wp_next st (hl hd A fs env ρ μ₁ s₁ _ X ok.2 q (S.step st)) fun rb b μ₂ s₂ st₂ st' hb q₂ => ?_)
  obtain ⟨i, rfl, q₂⟩ := asInt_of q₂
  obtain ⟨_, rfl⟩ := hb.int_of
  exact wpAny_mono (slice_sound st₂.rel (ha.step st.rel st₂) (.int _ _) .none q₂ fun _ _ => rfl) (fun _ _ p => p.after st') fun _ _ x => x
theorem se_sliceU {o l : E} {ps p : Pos} (ho : SE c sg d o) (hl : SE c sg d l) : SE c sg d (.sliceU o l ps p) := by
  intro hd A fs env ρ μ s Q X ok h S
  simp only [okE_loc, okE_glob, okE_bin, okE_neg, okE_not, okE_and, okE_or, okE_cmp, okE_cmp2, okE_attr, okE_sub, okE_sliceL, okE_sliceU, okE_sliceLU, okE_tup, okE_list, okE_call, okE_new, okE_bltn, okE_isi, okE_meth, okE_comp, Bool.and_eq_true] at ok
  refine Subscript_ (wp_next (Step.refl S.rel) (ho hd A fs env ρ μ s _ X ok.1 h S) fun ra a μ₁ s₁ st _ ha q => ?_)
  refine eval_SliceU (wp_next st (hl hd A fs env ρ μ₁ s₁ _ X ok.2 q (S.step st)) fun rb b μ₂ s₂ st₂ st' hb q₂ => ?_)
  obtain ⟨i, rfl, q₂⟩ := asInt_of q₂
  obtain ⟨_, rfl⟩ := hb.int_of
  exact wpAny_mono (slice_sound st₂.rel (ha.step st.rel st₂) .none (.int _ _) q₂ fun _ _ => rfl) (fun _ _ p => p.after st') fun _ _ x => x

theorem br_ite {b : Bool} {P Q : Prop} {P' Q' : Prop} (h : br b P Q) (h1 : P → P') (h2 : Q → Q') : if b = true then P' else Q' := by
  cases b with
  | true => rw [if_pos rfl]; exact h1 (h.1 rfl)
  | false => rw [if_neg (by decide)]; exact h2 (h.2 rfl)

theorem se_cmp2 {op₁ op₂ : CmpOp} {a b e : E} {p : Pos} (ha : SE c sg d a) (hb : SE c sg d b) (he : SE c sg d e) : SE c sg d (.cmp2 op₁ op₂ a b e p) := by
  intro hd A fs env ρ μ s Q X ok h S
  simp only [okE_loc, okE_glob, okE_bin, okE_neg, okE_not, okE_and, okE_or, okE_cmp, okE_cmp2, okE_attr, okE_sub, okE_sliceL, okE_sliceU, okE_sliceLU, okE_tup, okE_list, okE_call, okE_new, okE_bltn, okE_isi, okE_meth, okE_comp, Bool.and_eq_true] at ok
  refine Compare_chain (wp_next (Step.refl S.rel) (ha hd A fs env ρ μ s _ X ok.1.1 h S) fun ra va μ₁ s₁ st _ hva q => ?_) (by show lastMarks [op₁, op₂] [toE b, toE e] = false; exact behind_toE op₂ e)
  refine chain_link (wp_next st (hb hd A fs env ρ μ₁ s₁ _ X ok.1.2 q (S.step st)) fun rb vb μ₂ s₂ st₂ st' hvb q₂ => ?_)
  have S₂ := (S.step st).step st₂
  refine wpAny_mono (cmp_sound (E := XPost c fs μ s X) st₂.rel (hva.step st.rel st₂) hvb q₂ S₂.aok) (fun rt s₃ ⟨t, μ₃, st₃, ht, q₃⟩ => ?_) fun _ _ x => x
  refine truthy_sound ht q₃ fun y hy => ?_
  refine br_ite hy (fun h1 => ?_) fun h2 => ⟨t, μ₃, st'.trans st₃, ht, h2⟩
  refine chain_last (wp_next (st'.trans st₃) (he hd A fs env ρ μ₃ s₃ _ X ok.2 h1 (S₂.step st₃)) fun rc vc μ₄ s₄ st₄ st'' hvc q₄ => ?_)
  exact wp_last st'' (cmp_sound st₄.rel ((hvb.step st₂.rel st₃).step st₃.rel st₄) hvc q₄ ((S₂.step st₃).step st₄).aok)

theorem evalEach_toEs (env : Env) : ∀ es : List E, evalEach (toEs es) env = es.map fun e => eval (toE e) env
  | [] => rfl
  | e :: es => by rw [toEs, evalEach, evalEach_toEs env es, List.map_cons]

theorem sands {hd : Bool} {A : Around} {fs : List Env} {env : Env} {ρ : Loc} {X : String → Mem → Prop} {Q : V → Mem → Prop} {p : Pos} : ∀ {es : List E} {μ : Mem} {s : Shared}, (∀ e ∈ es, SE c sg d e) → okEs sg env.scope.names es = true → wpAnd sg (SC c d) hd es ρ μ Q X → St c d hd A fs env ρ μ s →
    wpAny (model c.prog c.w) A (boolOp p .And (es.map fun e => eval (toE e) env)) (Post c fs μ s Q) (XPost c fs μ s X) s
  | [], _, _, _, _, h, _ => h.elim
  | [e], μ, s, hs, ok, h, S => by
    simp only [okEs, Bool.and_eq_true] at ok
    exact hs e (.head _) hd A fs env ρ μ s Q X ok.1 h S
  | e :: e' :: es, μ, s, hs, ok, h, S => by
    rw [okEs, Bool.and_eq_true] at ok
    show wpAny _ A (eval (toE e) env >>= fun v => standAt p >>= fun _ => holding [v] (truthy v) >>= fun t => match BoolOp.And, t with | .And, false | .Or, true => pure v | _, _ => boolOp p .And ((e' :: es).map fun e => eval (toE e) env)) _ _ s
    refine wpAny_bind (wp_next (Step.refl S.rel) (hs e (.head _) hd A fs env ρ μ s _ X ok.1 h S) fun rv v μ₁ s₁ st _ hv q => ?_)
    refine wpAny_bind (wpAny_standAt (wpAny_bind (wpAny_holding (truthy_sound hv q fun b hb => ?_))))
    cases b with
    | true => exact wp_after st (sands (fun x hx => hs x (.tail _ hx)) ok.2 (hb.1 rfl) (S.step st))
    | false => exact wpAny_pure ⟨v, μ₁, st, hv, hb.2 rfl⟩
theorem sors {hd : Bool} {A : Around} {fs : List Env} {env : Env} {ρ : Loc} {X : String → Mem → Prop} {Q : V → Mem → Prop} {p : Pos} : ∀ {es : List E} {μ : Mem} {s : Shared}, (∀ e ∈ es, SE c sg d e) → okEs sg env.scope.names es = true → wpOr sg (SC c d) hd es ρ μ Q X → St c d hd A fs env ρ μ s →
    wpAny (model c.prog c.w) A (boolOp p .Or (es.map fun e => eval (toE e) env)) (Post c fs μ s Q) (XPost c fs μ s X) s
  | [], _, _, _, _, h, _ => h.elim
  | [e], μ, s, hs, ok, h, S => by
    simp only [okEs, Bool.and_eq_true] at ok
    exact hs e (.head _) hd A fs env ρ μ s Q X ok.1 h S
  | e :: e' :: es, μ, s, hs, ok, h, S => by
    rw [okEs, Bool.and_eq_true] at ok
    show wpAny _ A (eval (toE e) env >>= fun v => standAt p >>= fun _ => holding [v] (truthy v) >>= fun t => match BoolOp.Or, t with | .And, false | .Or, true => pure v | _, _ => boolOp p .Or ((e' :: es).map fun e => eval (toE e) env)) _ _ s
    refine wpAny_bind (wp_next (Step.refl S.rel) (hs e (.head _) hd A fs env ρ μ s _ X ok.1 h S) fun rv v μ₁ s₁ st _ hv q => ?_)
    refine wpAny_bind (wpAny_standAt (wpAny_bind (wpAny_holding (truthy_sound hv q fun b hb => ?_))))
    cases b with
    | true => exact wpAny_pure ⟨v, μ₁, st, hv, hb.1 rfl⟩
    | false => exact wp_after st (sors (fun x hx => hs x (.tail _ hx)) ok.2 (hb.2 rfl) (S.step st))

theorem se_and {es : List E} {p : Pos} (hs : ∀ e ∈ es, SE c sg d e) : SE c sg d (.and es p) := by
  intro hd A fs env ρ μ s Q X ok h S
  simp only [okE_loc, okE_glob, okE_bin, okE_neg, okE_not, okE_and, okE_or, okE_cmp, okE_cmp2, okE_attr, okE_sub, okE_sliceL, okE_sliceU, okE_sliceLU, okE_tup, okE_list, okE_call, okE_new, okE_bltn, okE_isi, okE_meth, okE_comp] at ok
  show wpAny _ A (boolOp p .And (evalEach (toEs es) env)) _ _ s
  rw [evalEach_toEs]
  exact sands hs ok h S
theorem se_or {es : List E} {p : Pos} (hs : ∀ e ∈ es, SE c sg d e) : SE c sg d (.or es p) := by
  intro hd A fs env ρ μ s Q X ok h S
  simp only [okE_loc, okE_glob, okE_bin, okE_neg, okE_not, okE_and, okE_or, okE_cmp, okE_cmp2, okE_attr, okE_sub, okE_sliceL, okE_sliceU, okE_sliceLU, okE_tup, okE_list, okE_call, okE_new, okE_bltn, okE_isi, okE_meth, okE_comp] at ok
  show wpAny _ A (boolOp p .Or (evalEach (toEs es) env)) _ _ s
  rw [evalEach_toEs]
  exact sors hs ok h S
end
end Mine

set_option autoImplicit false
namespace Mine
set_option linter.unusedVariables false
set_option linter.unusedSimpArgs false
open PySem PySem.W PySem.Calls PyProof.Rows

theorem boot_isi : bootBuiltins (Str.ofString "isinstance") = some (.builtin "isinstance") := by decide +kernel
theorem boot_blt : ∀ f ∈ bltNames, bootBuiltins (Str.ofString f) = some (bltnV f) := by decide +kernel
end Mine

set_option autoImplicit false
namespace Mine
set_option linter.unusedVariables false
set_option linter.unusedSimpArgs false
open PySem PySem.W PySem.Calls PyProof.Rows

section
variable {c : Ctx} {sg : Sig} {d : Nat}

theorem se_loc {x : String} {p : Pos} : SE c sg d (.loc x p) := by
  intro hd A fs env ρ μ s Q X ok h S
  simp only [okE_loc, okE_glob, okE_bin, okE_neg, okE_not, okE_and, okE_or, okE_cmp, okE_cmp2, okE_attr, okE_sub, okE_sliceL, okE_sliceU, okE_sliceLU, okE_tup, okE_list, okE_call, okE_new, okE_bltn, okE_isi, okE_meth, okE_comp, Bool.and_eq_true, bne_iff_ne, ne_eq] at ok
  replace h : optW (ρ x) μ Q := h
  unfold optW at h
  split at h
  · rename_i v hv
    exact loc_sound S hv ok.1.2 ok.2 h
  · exact h.elim
theorem se_glob {x : String} {p : Pos} (G : Good c sg) : SE c sg d (.glob x p) := by
  intro hd A fs env ρ μ s Q X ok h S
  simp only [okE_loc, okE_glob, okE_bin, okE_neg, okE_not, okE_and, okE_or, okE_cmp, okE_cmp2, okE_attr, okE_sub, okE_sliceL, okE_sliceU, okE_sliceLU, okE_tup, okE_list, okE_call, okE_new, okE_bltn, okE_isi, okE_meth, okE_comp, Bool.and_eq_true, bne_iff_ne, ne_eq, beq_iff_eq] at ok
  replace h : optW (sg.consts.lookup x) μ Q := h
  unfold optW at h
  split at h
  · rename_i v hv
    obtain ⟨rv, h1, h2⟩ := G.const x v hv
    exact name_glob G S.er S.rel ok.1.1 ok.2 h1 ⟨v, μ, Step.refl S.rel, h2 _, h⟩
  · exact h.elim

theorem se_call {f : String} {es : List E} {pf p : Pos} (G : Good c sg) (hs : ∀ e ∈ es, SE c sg d e) : SE c sg d (.call f es pf p) := by
  intro hd A fs env ρ μ s Q X ok h S
  simp only [okE_loc, okE_glob, okE_bin, okE_neg, okE_not, okE_and, okE_or, okE_cmp, okE_cmp2, okE_attr, okE_sub, okE_sliceL, okE_sliceU, okE_sliceLU, okE_tup, okE_list, okE_call, okE_new, okE_bltn, okE_isi, okE_meth, okE_comp, Bool.and_eq_true, bne_iff_ne, ne_eq, beq_iff_eq] at ok
  obtain ⟨fa, h1, h2, h3⟩ := G.fn f (List.contains_iff_mem.mp ok.1.1.2)
  refine wpAny_Call_NameR (name_glob G S.er S.rel ok.1.1.1 ok.2 h2 ?_)
  refine call_es G hs ok.1.2 h S (.inl h3) fun rvs vs μ₁ s₁ st hr q => ?_
  exact sc_call q h1 (S.step st).aok st.rel hr

theorem se_new {f : String} {es : List E} {pf p : Pos} (G : Good c sg) (hs : ∀ e ∈ es, SE c sg d e) : SE c sg d (.new f es pf p) := by
  intro hd A fs env ρ μ s Q X ok h S
  simp only [okE_loc, okE_glob, okE_bin, okE_neg, okE_not, okE_and, okE_or, okE_cmp, okE_cmp2, okE_attr, okE_sub, okE_sliceL, okE_sliceU, okE_sliceLU, okE_tup, okE_list, okE_call, okE_new, okE_bltn, okE_isi, okE_meth, okE_comp, Bool.and_eq_true, bne_iff_ne, ne_eq, beq_iff_eq] at ok
  obtain ⟨C, fI, h1, h2, h3, h4, h5, h6, h7⟩ := G.new f (List.contains_iff_mem.mp ok.1.1.2)
  refine wpAny_Call_NameR (name_glob G S.er S.rel ok.1.1.1 ok.2 h2 ?_)
  refine call_es G hs ok.1.2 h S (.inl h4) fun rvs vs μ₁ s₁ st hr q => ?_
  exact new_sound (G.X.keeps st.rel.base) h3 h6 h7 h1 h5 (S.step st) hr q

theorem bltn_ne : ∀ f ∈ bltNames, f ≠ "__debug__" ∧ f ≠ "__name__" := by decide
theorem se_bltn {f : String} {es : List E} {pf p : Pos} (G : Good c sg) (hs : ∀ e ∈ es, SE c sg d e) : SE c sg d (.bltn f es pf p) := by
  intro hd A fs env ρ μ s Q X ok h S
  simp only [okE_loc, okE_glob, okE_bin, okE_neg, okE_not, okE_and, okE_or, okE_cmp, okE_cmp2, okE_attr, okE_sub, okE_sliceL, okE_sliceU, okE_sliceLU, okE_tup, okE_list, okE_call, okE_new, okE_bltn, okE_isi, okE_meth, okE_comp, Bool.and_eq_true, bne_iff_ne, ne_eq, beq_iff_eq] at ok
  have hm := List.contains_iff_mem.mp ok.1.2
  refine wpAny_Call_NameR (name_blt G S.er S.rel ok.1.1 (bltn_ne f hm).1 (bltn_ne f hm).2 (G.blt f (List.mem_cons_of_mem _ (List.mem_append_left _ hm))) (boot_blt f hm) ?_)
  refine call_es G hs ok.2 h S ?_ fun rvs vs μ₁ s₁ st hr q => ?_
  · unfold bltnV
    split
    · exact .inr (.inl ⟨_, rfl⟩)
    · exact .inr (.inr ⟨_, rfl⟩)
  · exact bltn_sound st.rel hr q (S.step st).aok

theorem boot_ty : ∀ n ∈ tyNames, bootBuiltins (Str.ofString n) = some (.type n) ∧ n ≠ "__debug__" ∧ n ≠ "__name__" := by decide +kernel

theorem isi_out {cl : Cl} {v : V} {μ : Mem} {Q : V → Mem → Prop} (q : match isiO μ v cl with | some b => Q (.bool b) μ | none => False) : ∃ b, isiO μ v cl = some b ∧ Q (.bool b) μ := by
  split at q
  · rename_i b e; exact ⟨b, e, q⟩
  · exact q.elim
section
variable {A : Around} {fs : List Env} {env : Env} {ρ : Loc} {μ : Mem} {s : Shared} {E : Value → Shared → Prop} {P : Value → Shared → Prop}
end

theorem se_isi {e : E} {cl : Cl} {pf pc p : Pos} (G : Good c sg) (he : SE c sg d e) : SE c sg d (.isi e cl pf pc p) := by
  intro hd A fs env ρ μ s Q X ok h S
  simp only [okE_loc, okE_glob, okE_bin, okE_neg, okE_not, okE_and, okE_or, okE_cmp, okE_cmp2, okE_attr, okE_sub, okE_sliceL, okE_sliceU, okE_sliceLU, okE_tup, okE_list, okE_call, okE_new, okE_bltn, okE_isi, okE_meth, okE_comp, Bool.and_eq_true, bne_iff_ne, ne_eq, beq_iff_eq] at ok
  obtain ⟨⟨ok1, ok2⟩, ok3⟩ := ok
  cases cl with
  | ty n =>
    simp only [Bool.and_eq_true, bne_iff_ne, ne_eq, beq_iff_eq] at ok3
    obtain ⟨m1, m3⟩ := ok3
    have hm := List.contains_iff_mem.mp m1
    obtain ⟨b1, b2, b3⟩ := boot_ty n hm
    refine wpAny_Call_NameR (name_blt G S.er S.rel ok1 (by decide) (by decide) (G.blt _ (.head _)) boot_isi ?_)
    have e1 : backTo p (starEach [toE e, Expr.Name (Str.ofString n) pc] env) = [(false, eval (toE e) env), (false, eval (.Name (Str.ofString n) pc) env)] := by cases e <;> rfl
    show wpAny _ A (callWith p (.builtin "isinstance") [] (backTo p (starEach [toE e, Expr.Name (Str.ofString n) pc] env)) []) _ _ s
    rw [e1]
    refine PySem.Calls.callWith_builtin rfl (evalArgs_plain (spliced_cons (wp_next (Step.refl S.rel) (he hd A fs env ρ μ s _ X ok2 h S) fun ra v μ₁ s₁ st _ ha q => ?_)))
    have S₁ := S.step st
    refine spliced_cons (name_blt G S₁.er S₁.rel m3 b2 b3 (G.blt n (List.mem_cons_of_mem _ (List.mem_append_right _ hm))) b1 (spliced_nil ?_))
    obtain ⟨b, hb, q⟩ := isi_out q
    exact isi_ty_sound st.rel ha hb fun tk => ⟨.bool b, μ₁, st.trans (Step.toks st.rel), .bool _, q⟩

theorem base_toE (o : E) (m : Str) (env : Env) (w : Sem Value) (h : (match o with | .call _ es _ _ | .new _ es _ _ | .bltn _ es _ _ => !es.isEmpty | _ => true) = true) : attributeBase (toE o) m env w = w := by
  cases o <;> first | rfl | (rename_i es _ _; cases es with | nil => cases h | cons _ _ => rfl)

theorem meth_eval {M : Model} {A : Around} {Ex : Value → Shared → Prop} {s : Shared} {env : Env} {o : E} {es : List E} {m : Str} {pa p : Pos} {P : Value → Shared → Prop} (hb : attributeBase (toE o) m env (eval (toE o) env) = eval (toE o) env) (hl : (pa.endLine == p.line) = true) (hn : es.length < 20)
    (h : wpAny M A (eval (toE o) env) (fun ov s₁ => wpAny M A (getMethod ov m (do return (← importBound (toE o) env).getD true)) (fun fx s₂ => wpAny M A (callWith p fx.1 fx.2 (backTo p (starEach (toEs es) env)) []) P Ex s₂) Ex s₁) Ex s) :
    wpAny M A (eval (.Call (.Attribute (toE o) m pa) (toEs es) [] p) env) P Ex s := by
  rw [arm_eval_Call, hb]
  refine wpAny_bind (wpAny_mono h (fun ov s₁ h₁ => wpAny_bind (wpAny_standAt ?_)) fun _ _ x => x)
  have hform : methodCallForm ((toEs es).length + ([] : List Keyword).length) (backTo p (starEach (toEs es) env)) (backToKw p (keywordEach [] env)) = true := by
    rw [backTo_toEs, toEs_length]
    unfold methodCallForm
    simp [backToKw, keywordEach]
    omega
  have hpos : methodCallPos true (toE o) env pa p = pure p := by unfold methodCallPos; simp [hl]
  unfold methodCall
  rw [hform]
  refine wpAny_bind (wpAny_holding ?_)
  show wpAny M A (getMethod ov m _) _ _ _
  exact wpAny_mono h₁ (fun fx s₂ h₂ => wpAny_bind (wpAny_of_eq hpos h₂)) fun _ _ x => x

theorem str_attr (m : String) (hm : m = "split" ∨ m = "upper" ∨ m = "join") : Slot "str" (Str.ofString m) ("str." ++ m) ∧ typeOf (.builtin ("str." ++ m)) = pure (.type "method_descriptor") := by
  rcases hm with rfl | rfl | rfl
  · exact ⟨F.slot_str_split, F.type_str_split⟩
  · exact ⟨F.slot_str_upper, F.type_str_upper⟩
  · exact ⟨F.slot_str_join, F.type_str_join⟩
theorem list_attr (m : String) (hm : m = "append" ∨ m = "extend" ∨ m = "pop") : Slot "list" (Str.ofString m) ("list." ++ m) ∧ typeOf (.builtin ("list." ++ m)) = pure (.type "method_descriptor") := by
  rcases hm with rfl | rfl | rfl
  · exact ⟨F.slot_list_append, F.type_list_append⟩
  · exact ⟨F.slot_list_extend, F.type_list_extend⟩
  · exact ⟨F.slot_list_pop, F.type_list_pop⟩

theorem se_meth {o : E} {m : String} {es : List E} {pa p : Pos} (G : Good c sg) (ho : SE c sg d o) (hs : ∀ e ∈ es, SE c sg d e) : SE c sg d (.meth o m es pa p) := by
  intro hd A fs env ρ μ s Q X ok h S
  simp only [okE_loc, okE_glob, okE_bin, okE_neg, okE_not, okE_and, okE_or, okE_cmp, okE_cmp2, okE_attr, okE_sub, okE_sliceL, okE_sliceU, okE_sliceLU, okE_tup, okE_list, okE_call, okE_new, okE_bltn, okE_isi, okE_meth, okE_comp, Bool.and_eq_true, decide_eq_true_eq] at ok
  obtain ⟨⟨⟨⟨ok1, ok2⟩, ok3⟩, ok4⟩, ok5⟩ := ok
  refine meth_eval (base_toE o _ env _ ok5) ok3 ok4 (wp_next (Step.refl S.rel) (ho hd A fs env ρ μ s _ X ok1 h S) fun ra v μ₁ s₁ st _ ha q => ?_)
  have S₁ := S.step st
  split at q
  · rename_i f a hc
    unfold calO at hc
    split at hc
    · rename_i x
      split at hc
      · rename_i cl dd hx
        split at hc
        · rename_i fl hdd
          split at hc
          · rename_i hl
            cases hc
            cases ha.inv
            rw [Bool.and_eq_true] at hl
            obtain ⟨C, h1, h2⟩ := st.rel.insts hx
            obtain ⟨ess, n, h3, h4⟩ := st.rel.attr hdd
            have I : InstAt s₁.heap a (instObj C dd) C (some (dictOf ess n)) := ⟨h2, rfl, rfl, h3⟩
            have K' := G.X.keeps st.rel.base
            have hmiss := h4.missL (Option.isNone_iff_eq_none.mp hl.1)
            obtain ⟨fa, hfa, g1, g2, g3⟩ := G.meth cl C m h1 (List.contains_iff_mem.mp hl.2)
            refine method_fn K' I (G.cls _ _ h1).ga (G.cls _ _ h1).gat g1 g2 (by show (lookIn (Str.ofString m) (dictOf ess n)).map _ = _; rw [lookIn_dict, hmiss]; rfl) ?_
            refine wp_after st (call_es G hs ok2 q S₁ (.inl g3) fun rvs vs μ₂ s₂ st₂ hr q₂ => ?_)
            exact sc_call q₂ hfa (S₁.step st₂).aok st₂.rel (.cons (.ref _) hr)
          · first | exact ns hc | exact fb hc | cases hc
        · first | exact ns hc | exact fb hc | cases hc
      · split at hc <;> cases hc
      · first | exact ns hc | exact fb hc | cases hc
    · split at hc <;> cases hc
    · first | exact ns hc | exact fb hc | cases hc
  · rename_i m' a hc
    unfold calO at hc
    split at hc
    · rename_i x
      split at hc
      · split at hc
        · split at hc <;> cases hc
        · first | exact ns hc | exact fb hc | cases hc
      · rename_i l hx
        split at hc
        · rename_i hm
          cases hc
          cases ha.inv
          obtain ⟨vs, n, h1, h2, h3⟩ := st.rel.lst hx
          obtain ⟨g1, g2⟩ := list_attr m hm
          refine getMethod_builtin (T := "list") (id := "list." ++ m) ⟨_, h1, rfl⟩ F.plainAttrs_list g1 g2 (fun b hb => by cases hb; exact ⟨_, h1, rfl⟩) ?_
          refine wp_after st (call_es G hs ok2 q S₁ (.inr (.inl ⟨_, rfl⟩)) fun rvs vs μ₂ s₂ st₂ hr q₂ => ?_)
          exact lst_sound st₂.rel hr q₂ (S₁.step st₂).aok
        · first | exact ns hc | exact fb hc | cases hc
      · first | exact ns hc | exact fb hc | cases hc
    · split at hc <;> cases hc
    · first | exact ns hc | exact fb hc | cases hc
  · rename_i m' x hc
    unfold calO at hc
    split at hc
    · split at hc
      · split at hc
        · split at hc <;> cases hc
        · first | exact ns hc | exact fb hc | cases hc
      · split at hc <;> cases hc
      · first | exact ns hc | exact fb hc | cases hc
    · rename_i y
      split at hc
      · rename_i hm
        cases hc
        obtain ⟨t, rfl⟩ := ha.str_of
        obtain ⟨g1, g2⟩ := str_attr m hm
        with_reducible refine GM.of (.str x t) (typeIs_str s₁ x t) g1 g2 (fun a e => nomatch e) ?_
        refine wp_after st (call_es G hs ok2 q S₁ (.inr (.inl ⟨_, rfl⟩)) fun rvs vs μ₂ s₂ st₂ hr q₂ => ?_)
        exact strM_sound st₂.rel hr q₂
      · first | exact ns hc | exact fb hc | cases hc
    · first | exact ns hc | exact fb hc | cases hc
  · exact q.elim
end
end Mine

set_option autoImplicit false
namespace Mine
set_option linter.unusedVariables false
set_option linter.unusedSimpArgs false
open PySem PySem.W PySem.Calls PyProof.Rows

theorem ER.sub {c : Ctx} {env : Env} {ρ ρ' : Loc} {μ : Mem} {h : Heap} (x : ER c env ρ μ h) (k : ∀ y v, ρ' y = some v → ρ y = some v) : ER c env ρ' μ h := by
  obtain ⟨m, hns, hm⟩ := x.names
  exact ⟨x.kind, x.glob, x.blt, x.priv, x.new, x.cells, x.inj, x.has, m, hns, fun y v e => hm y v (k y v e)⟩

theorem lookup_mem {α β : Type} [BEq α] [LawfulBEq α] {x : α} {v : β} {l : List (α × β)} (h : l.lookup x = some v) : (x, v) ∈ l := by
  induction l with
  | nil => first | exact ns h | exact fb h | cases h
  | cons p r ih =>
    obtain ⟨y, w⟩ := p
    rw [List.lookup_cons] at h
    cases e : x == y
    · rw [e] at h; exact .tail _ (ih h)
    · rw [e] at h; cases h; rw [beq_iff_eq.mp e]; exact .head _
theorem lookup_relN (ns : List (Str × NameKind)) (x : Str) (names : List (Str × NameKind)) : (relN ns names).lookup x = (names.lookup x).map fun k => if (k == .free && ns.lookup x == some .cell) then .cell else k := by
  induction names with
  | nil => rfl
  | cons p r ih =>
    obtain ⟨n, k⟩ := p
    show List.lookup x ((if (k == NameKind.free && ns.lookup n == some .cell) = true then (n, NameKind.cell) else (n, k)) :: relN ns r) = _
    cases hx : x == n with
    | true =>
      have e : x = n := beq_iff_eq.mp hx
      subst e
      rw [List.lookup_cons_self, Option.map_some]
      by_cases hc : (k == NameKind.free && ns.lookup x == some .cell) = true
      · rw [if_pos hc, List.lookup_cons_self, if_pos hc]
      · rw [if_neg hc, List.lookup_cons_self, if_neg hc]
    | false =>
      by_cases hc : (k == NameKind.free && ns.lookup n == some .cell) = true
      · rw [if_pos hc, List.lookup_cons, List.lookup_cons, hx]; exact ih
      · rw [if_neg hc, List.lookup_cons, List.lookup_cons, hx]; exact ih

theorem clos_go {env : Env} (names : List (Str × NameKind)) (hn : ∀ y ∈ names, y.2 = .free → (env.cells.lookup y.1).isSome = true) :
    ∀ cs : List (Str × Addr), (∀ x ca, cs.lookup x = some ca → env.cells.lookup x = some ca) → ∃ cl, (forIn (m := Sem) names cs fun (x : Str × NameKind) r => if (x.2 == NameKind.free) = true then do let a ← cellOf env x.1; pure (ForInStep.yield ((x.1, a) :: r)) else pure (ForInStep.yield r)) = pure cl ∧
      (∀ x ca, cl.lookup x = some ca → env.cells.lookup x = some ca) ∧ (∀ x, (∃ ca, cs.lookup x = some ca) ∨ (x, NameKind.free) ∈ names → (cl.lookup x).isSome = true) := by
  induction names with
  | nil =>
    intro cs hcs
    exact ⟨cs, rfl, hcs, fun x hx => by rcases hx with ⟨ca, h⟩ | h; rw [h]; rfl; cases h⟩
  | cons y r ih =>
    intro cs hcs
    obtain ⟨name, kind⟩ := y
    by_cases q : (kind == NameKind.free) = true
    · have hk : kind = .free := beq_iff_eq.mp q
      obtain ⟨a, ha⟩ := Option.isSome_iff_exists.mp (hn (name, kind) (.head _) hk)
      obtain ⟨cl, e, h1, h2⟩ := ih (fun y hy => hn y (.tail _ hy)) ((name, a) :: cs) (fun x ca hx => by
        rw [List.lookup_cons] at hx
        split at hx
        · rename_i z; cases hx; rw [beq_iff_eq.mp z]; exact ha
        · exact hcs x ca hx)
      refine ⟨cl, ?_, h1, fun x hx => h2 x ?_⟩
      · rw [List.forIn_cons]
        simp only [q, if_true, cellOf, ha]
        exact e
      · rcases hx with ⟨ca, hx⟩ | hx
        · left
          rw [List.lookup_cons]
          split
          · exact ⟨a, rfl⟩
          · exact ⟨ca, hx⟩
        · cases hx with
          | head => exact .inl ⟨a, by rw [List.lookup_cons]; simp⟩
          | tail _ hx => exact .inr hx
    · obtain ⟨cl, e, h1, h2⟩ := ih (fun y hy => hn y (.tail _ hy)) cs hcs
      refine ⟨cl, ?_, h1, fun x hx => h2 x ?_⟩
      · rw [List.forIn_cons]
        simp only [q]
        exact e
      · rcases hx with hx | hx
        · exact .inl hx
        · cases hx with
          | head => exact absurd rfl q
          | tail _ hx => exact .inr hx
theorem clos {env : Env} {scope : Scope} (hn : ∀ y ∈ scope.names, y.2 = .free → (env.cells.lookup y.1).isSome = true) :
    ∃ cl, closureFor scope env = pure cl ∧ (∀ x ca, cl.lookup x = some ca → env.cells.lookup x = some ca) ∧ (∀ x, (x, NameKind.free) ∈ scope.names → (cl.lookup x).isSome = true) := by
  obtain ⟨cl, e, h1, h2⟩ := clos_go scope.names hn [] (fun x ca h => by cases h)
  refine ⟨cl, ?_, h1, fun x hx => h2 x (.inr hx)⟩
  simp only [closureFor]
  rw [e]
  rfl

section
variable {c : Ctx} {sg : Sig} {d : Nat}

theorem lst_app {n : Addr} {acc : List V} {v : V} {μ : Mem} {Q : V → Mem → Prop} (ha : μ n = some (.list acc)) (hl : acc.length < lim) (q : Q .none (updM μ n (.list (acc ++ [v])))) : lstW "append" n [v] μ Q := by
  unfold lstW asL
  simp only [ha]
  exact ⟨hl, q⟩

theorem st_cmp {op : CmpOp} {l r : E} {p : Pos} (hl : SE c sg d l) (hr : SE c sg d r) : ST c sg d (.cmp op l r p) := by
  intro hd A fs env ρ μ s Q₀ Q X hq ok hw S
  simp only [okE_loc, okE_glob, okE_bin, okE_neg, okE_not, okE_and, okE_or, okE_cmp, okE_cmp2, okE_attr, okE_sub, okE_sliceL, okE_sliceU, okE_sliceLU, okE_tup, okE_list, okE_call, okE_new, okE_bltn, okE_isi, okE_meth, okE_comp, Bool.and_eq_true] at ok
  refine wpAny_isTrue_Compare1 (wp_next (Step.refl S.rel) (hl hd A fs env ρ μ s _ X ok.1 hw S) fun ra a μ₁ s₁ st _ ha q => ?_) (behind_toE op r)
  refine wp_next st (hr hd A fs env ρ μ₁ s₁ _ X ok.2 q (S.step st)) fun rb b μ₂ s₂ st₂ st' hb q₂ => ?_
  refine wpAny_mono (cmp_sound (E := XPost c fs μ s X) st₂.rel (ha.step st.rel st₂) hb q₂ ((S.step st).step st₂).aok) (fun rv s₃ hpp => ?_) fun _ _ x => x
  obtain ⟨v, μ₃, st₃, hv, q₃⟩ := hpp
  exact truthy_sound hv (hq v μ₃ q₃) fun b hb => ⟨μ₃, st'.trans st₃, hb⟩

theorem tests_sound {ifs : List E} (hl : ifs.length ≤ 1) (hs : ∀ e ∈ ifs, ST c sg d e) {hd : Bool} {A : Around} {fs : List Env} {env : Env} {ρ : Loc} {μ : Mem} {s : Shared} {k : Bool → Mem → Prop} {P : Bool → Shared → Prop} {Ex : Value → Shared → Prop}
    (ok : okEs sg env.scope.names ifs = true) (h : wpIf sg (SC c d) hd ifs ρ μ k) (S : St c d hd A fs env ρ μ s) (fin : ∀ b μ' s', Step c fs μ μ' s s' → k b μ' → P b s') :
    wpAny (model c.prog c.w) A (forIn (toEs ifs) true fun c r => if r = true then do let ok ← isTrue c env (eval c env); pure (ForInStep.yield ok) else pure (ForInStep.yield r)) P Ex s := by
  match ifs, hl, hs, ok, h with
  | [], _, _, _, h => exact wpAny_tests_nil (fin true μ s (Step.refl S.rel) h)
  | [e], _, hs, ok, h =>
    simp only [okEs, Bool.and_eq_true] at ok
    exact wpAny_tests_one (wpAny_mono (hs e (.head _) hd A fs env ρ μ s _ k _ (fun v μ₁ q => q) ok.1 h S) (fun b s' ⟨μ', st, q⟩ => fin b μ' s' st q) fun _ _ y => y.no)
  | _ :: _ :: _, hl, _, _, _ => exact absurd hl (by simp)

theorem comp_loop {elt : E} {x : String} {ifs : List E} {it : Expr} {sc : Scope} {px p : Pos} {hd : Bool} {A : Around} {fs : List Env} {cenv : Env} {ρ : Loc} {μ μ₀ : Mem} {s s₀ : Shared} {ia n : Addr} {rv : Value} {v : V} {items : List V} {It : Nat → Heap → Prop} {Q : Mem → Prop} {X : String → Mem → Prop} {R : Result → Shared → Prop}
    (he : SE c sg d elt) (I : Iter c A ia rv v items It) (okx : cenv.kindOf (Str.ofString x) = some .local) (oke : okE sg cenv.scope.names elt = true) (okt : okEs sg cenv.scope.names ifs = true) (hl : ifs.length ≤ 1) (hs : ∀ e ∈ ifs, ST c sg d e)
    (hbase : c.base.get? ia = none) (hn : s₀.heap.get? ia = none) (hx : ∀ y w, ρ y = some w → y ≠ x)
    (st : StepS c fs (bare cenv) μ₀ μ s₀ s) (S : St c d hd A fs cenv ρ μ s) (hv : RV c s.heap rv v) (hit : It 0 s.heap)
    (h : compI n (fun μ' => itemsOf μ' v = some items) (fun w μ₂ k => wpIf sg (SC c d) hd ifs (updL ρ x w) μ₂ fun b μ₃ => br b (wpE sg (SC c d) hd elt (updL ρ x w) μ₃ (fun r μ' => k (some r) μ') X) (k none μ₃)) items μ Q)
    (err : ∀ re s' e x ρ₃ μ₃ μ' s₃, re = .ref e → StepS c fs (bare cenv) μ₀ μ₃ s₀ s₃ → St c d hd A fs cenv ρ₃ μ₃ s₃ → Fly c fs μ₃ μ' s₃ s' e x → X x μ' → R (.error re) s')
    (fin : ∀ μ' s', StepS c fs (bare cenv) μ₀ μ' s₀ s' → St c d hd A fs cenv ρ μ' s' → Q μ' → R (.ok .next) s') :
    codeAny (model c.prog c.w) A (.compLoop (.ListComp (toE elt) [⟨.Name (Str.ofString x) px, it, toEs ifs, 0⟩] sc p) 0 (.ref ia) (.ref n) cenv) R s := by
  obtain ⟨J, j0, jst, jturn, jfin⟩ := h
  have back : ∀ {w : V} {μ : Mem} {h : Heap}, ER c cenv (updL ρ x w) μ h → ER c cenv ρ μ h := fun e => e.sub fun y u hy => by unfold updL; rw [if_neg (hx y u hy)]; exact hy
  refine codeAny_compLoop_tests (fun m s => ∃ k μ, m = items.length - k ∧ k ≤ items.length ∧ StepS c fs (bare cenv) μ₀ μ s₀ s ∧ St c d hd A fs cenv ρ μ s ∧ RV c s.heap rv v ∧ It k s.heap ∧ J k μ) (fun m s hs' => ?_) items.length ⟨0, μ, rfl, Nat.zero_le _, st, S, hv, hit, j0⟩
  obtain ⟨k, μ, hk, hkl, st, S, hv, hit, h⟩ := hs'
  have ei := jst _ _ h
  cases hk' : items[k]? with
  | none =>
    have : k = items.length := Nat.le_antisymm hkl (List.getElem?_eq_none_iff.mp hk')
    refine I.fin k s μ _ _ hk' ei S.rel hv hit fun h' x => ?_
    subst this
    exact fin μ _ (st.it (n := s.toks) x hn) (S.ext (n := s.toks) x hbase (I.obj _ _ hit)) (jfin _ h)
  | some w =>
    have hlt : k < items.length := (List.getElem?_eq_some_iff.mp hk').1
    refine I.item k w s μ _ _ hk' ei S.rel hv hit fun rw_ h' n' x' hit' hw => ?_
    have ho := I.obj k _ hit
    have S₁ := S.ext (n := n') x' hbase ho
    have st₁ := st.it (n := n') x' hn
    have hv₁ := hv.monoV (monoV_ext x' ho)
    refine wpAny_assign_Name (store_local S₁ okx (hw.monoV (monoV_ext x' ho)) fun s₂ st₂ S₂ => ?_)
    refine tests_sound hl hs okt (jturn k w μ hk' h) S₂ fun b μ₃ s₃ st₃ q => ?_
    have S₃ := S₂.step st₃
    have st₁₃ := st₂.trans st₃.toS
    cases b with
    | false =>
      rw [if_neg Bool.false_ne_true]
      exact ⟨items.length - (k + 1), by omega, k + 1, μ₃, rfl, hlt, st₁.trans st₁₃, ⟨S₃.rel, back S₃.er, S₃.aok, S₃.room, S₃.units, S₃.top⟩, st₁₃.wide.rv S₁ hv₁, I.keep _ _ _ hit' (st₁₃.wide.fields S₁ (I.obj _ _ hit')), q.2 rfl⟩
    | true =>
      rw [if_pos rfl]
      refine wpAny_mono (he hd A fs cenv _ μ₃ s₃ _ X oke (q.1 rfl) S₃) (fun rv' s₄ hp => ?_) fun re s₄ y => by
        obtain ⟨e', x', μ', rfl, f, qx⟩ := y
        exact f.noted S₃ fun s'' f' => err _ s'' e' x' _ μ₃ μ' s₃ rfl (st₁.trans st₁₃) S₃ f' qx
      obtain ⟨v', μ₄, st₄, hv', acc, ha, hl, q⟩ := hp
      have S₄ := S₃.step st₄
      refine wpAny_mono (lst_sound (m := "append") (Q := fun _ μ' => J (k + 1) μ') st₄.rel (.cons hv' .nil) (lst_app ha hl q) S₄.aok) (fun _ s₅ hp => ?_) fun _ _ y => y
      obtain ⟨_, μ₅, st₅, _, q₅⟩ := hp
      have S₅ := S₄.step st₅
      have st₁₅ := st₁₃.trans (st₄.toS.trans st₅.toS)
      exact ⟨items.length - (k + 1), by omega, k + 1, μ₅, rfl, hlt, st₁.trans st₁₅, ⟨S₅.rel, back S₅.er, S₅.aok, S₅.room, S₅.units, S₅.top⟩, st₁₅.wide.rv S₁ hv₁, I.keep _ _ _ hit' (st₁₅.wide.fields S₁ (I.obj _ _ hit')), q₅⟩

noncomputable def okC (sg : Sig) (ns : List (Str × NameKind)) (elt : E) (x : String) (cs : List String) (it : E) (ifs : List E) (sc : Scope) (px p : Pos) : Prop := okE sg ns (.comp elt x cs it ifs sc px p) = true

theorem comp_core {elt it : E} {x : String} {cs : List String} {sc : Scope} {ifs : List E} {px p pos : Pos} (hi : SE c sg d it) (he : SE c sg d elt) (hs : ∀ e ∈ ifs, ST c sg d e)
    {hd : Bool} {A : Around} {fs : List Env} {env : Env} {ρ : Loc} {μ : Mem} {s : Shared} {Q : V → Mem → Prop} {X : String → Mem → Prop} {use : Option (Value → Sem Unit)} {Q' : Value → Shared → Prop} {Ex : Value → Shared → Prop}
    (ok : okC sg env.scope.names elt x cs it ifs sc px p) (h : wpE sg (SC c d) hd (.comp elt x cs it ifs sc px p) ρ μ Q X) (S : St c d hd A fs env ρ μ s) (hE : ∀ e s', XPost c fs μ s X e s' → Ex e s')
    (fin : ∀ C n μ' s' m, (∀ b o, s.heap.get? b = some o → μ b = none → b ≠ C) → c.base.get? C = none → μ' C = none → Step c fs μ μ' s s' → s'.heap.Ns C m → Q (.ref n) μ' → compPost (model c.prog c.w) A Ex use Q' (.ref n) C (.ok .next) s') :
    wpAny (model c.prog c.w) A (comprehension (.ListComp (toE elt) [⟨.Name (Str.ofString x) px, toE it, toEs ifs, 0⟩] sc p) sc env pos (newList []) false (eval (toE it) env) use) Q' Ex s := by
  unfold okC at ok
  simp only [okE_loc, okE_glob, okE_bin, okE_neg, okE_not, okE_and, okE_or, okE_cmp, okE_cmp2, okE_attr, okE_sub, okE_sliceL, okE_sliceU, okE_sliceLU, okE_tup, okE_list, okE_call, okE_new, okE_bltn, okE_isi, okE_meth, okE_comp, Bool.and_eq_true, beq_iff_eq, List.all_eq_true, decide_eq_true_eq, Bool.or_eq_true] at ok
  obtain ⟨⟨⟨⟨⟨⟨⟨ok1, ok2⟩, ok3⟩, ok4'⟩, ok5⟩, ok6⟩, ok7⟩, ok8⟩ := ok
  obtain ⟨h0, h⟩ := h
  have kf : ∀ n, env.kindOf n = env.scope.names.lookup n := fun _ => rfl
  have hfree : ∀ y ∈ sc.names, y.2 = .free → (env.cells.lookup y.1).isSome = true := fun y hy q => by
    rcases ok6 y hy with (⟨z, _⟩ | ⟨_, z⟩) | z
    · rw [q] at z; cases z
    · exact S.er.has y.1 z
    · rw [q] at z; cases z
  obtain ⟨cl, hcl, cl1, cl2⟩ := clos hfree
  have ncell : ∀ y ∈ sc.names, y.2 ≠ .cell := fun y hy q => by
    rcases ok6 y hy with (⟨z, _⟩ | ⟨z, _⟩) | z <;> (rw [q] at z; cases z)
  have hnames : ∀ y ∈ sc.names, y.2 = .local → sc.names.lookup y.1 = some .local := fun y hy q => by
    rcases ok6 y hy with (⟨_, z⟩ | ⟨z, _⟩) | z
    · exact z
    · rw [q] at z; cases z
    · rw [q] at z; cases z
  have hrel : (relabel sc env).names = relN env.scope.names sc.names := by
    unfold relabel relN
    simp only [S.er.kind, kf, beq_self_eq_true, Bool.and_true]
  refine wpAny_comprehension_free rfl (fun x => by cases it <;> rfl) hcl ok5 hnames (wpAny_mono (hi hd A fs env ρ μ s _ X ok1 h S) (fun rv s₁ hp => ?_) fun e s' y => hE e s' y)
  obtain ⟨v, μ₁, st, hv, q⟩ := hp
  split at q
  rotate_left
  · exact q.elim
  rename_i items hitems
  refine iter_sound (fs := fs) (S.aok.handled h0) st.rel hv hitems fun ia s₂ It I hit0 hn stI => ?_
  have bI : c.base.get? ia = none := by
    cases z : c.base.get? ia with
    | none => rfl
    | some o => have := st.rel.base _ o z; rw [hn] at this; cases this
  obtain ⟨oI, vsI, hoI, _, _⟩ := I.obj 0 _ hit0
  refine wpAny_newObj_type (hd := by size_fits) (wpAny_newFunctionEnv ncell (by intro y hy; cases hy) (fun h₁ hns₁ hsb₁ => ?_) ok5)
  dsimp only at hns₁ hsb₁ ⊢
  generalize hH2 : s₂.heap.push { cls := .type "list", dict := none, data := .seq ([] : List Value).toArray } = H2 at hns₁ hsb₁ ⊢
  have k2 : ∀ b o, s₂.heap.get? b = some o → H2.get? b = some o := fun b o e => hH2 ▸ Heap.get?_push_of_some _ e
  have hn1 : s₂.heap.get? s₂.heap.objs.size = none := Heap.get?_none_of_le (Nat.le_refl _)
  have st₃ : Step c fs μ₁ (updM μ₁ s₂.heap.objs.size (.list [])) s₂ { s₂ with heap := H2 } := Step.alloc (n := s₂.toks) stI.rel k2 hn1 (hH2 ▸ Heap.get?_push_size _ rfl) (.list .nil (Nat.zero_le _))
  have hn2 : H2.get? H2.objs.size = none := Heap.get?_none_of_le (Nat.le_refl _)
  have ltC : ∀ {b o}, H2.get? b = some o → b ≠ H2.objs.size := fun e => Nat.ne_of_lt (Heap.lt_size e)
  have k3 : ∀ b o, H2.get? b = some o → h₁.get? b = some o := fun b o e => hsb₁.extBut b o (ltC e) (Heap.get?_push_of_some _ e)
  have st₄ : Step c fs (updM μ₁ s₂.heap.objs.size (.list [])) (updM μ₁ s₂.heap.objs.size (.list [])) { s₂ with heap := H2 } { s₂ with heap := h₁, toks := s₂.toks + ([] : List (Str × Value)).length } := Step.grows st₃.rel k3
  have st₁₄ := stI.trans (st₃.trans st₄)
  have S₄ := (S.step st).step st₁₄
  have pC : updM μ₁ s₂.heap.objs.size (.list []) H2.objs.size = none := st₃.rel.free hn2
  have bC : c.base.get? H2.objs.size = none := by
    cases z : c.base.get? H2.objs.size with
    | none => rfl
    | some o => have := st₃.rel.base _ o z; rw [hn2] at this; cases this
  have kx : ∀ n, (compEnvC sc cl H2.objs.size env).kindOf n = (relN env.scope.names sc.names).lookup n := fun n => by
    show (relabel sc env).names.lookup n = _
    rw [hrel]
  obtain ⟨mE, hnsE, hmE⟩ := S₄.er.names
  have er : ER c (compEnvC sc cl H2.objs.size env) (capL cs ρ) (updM μ₁ s₂.heap.objs.size (.list [])) h₁ := by
    refine ⟨?_, S.er.glob, S.er.blt, pC, bC, fun y ca e => S₄.er.cells y ca (cl1 y ca e), fun y z ca e e' => S.er.inj y z ca (cl1 y ca e) (cl1 z ca e'), fun y hy => ?_, _, hns₁, fun y w e => ?_⟩
    · show (relabel sc env).kind = _
      exact ok5
    · rw [kx, lookup_relN] at hy
      obtain ⟨k, hk, hk'⟩ := Option.map_eq_some_iff.mp hy
      have hm := lookup_mem hk
      split at hk'
      · rename_i z
        rw [Bool.and_eq_true, beq_iff_eq, beq_iff_eq] at z
        rw [z.1] at hm
        exact cl2 _ hm
      · exact absurd hk' (ncell _ hm)
    · unfold capL at e
      split at e
      · rename_i hc
        have hy := ok8 y (List.contains_iff_mem.mp hc)
        have hm := lookup_mem hy
        have hcell : env.scope.names.lookup (Str.ofString y) = some .cell := by
          rcases ok6 _ hm with (⟨z, _⟩ | ⟨_, z⟩) | z
          · first | exact ns z | exact fb z | cases z
          · exact z
          · first | exact ns z | exact fb z | cases z
        rcases hmE y w e with ⟨z, _⟩ | ⟨_, ca, rw_, z1, z2, z3⟩
        · have : some NameKind.cell = some .local := hcell.symm.trans z
          cases this
        · obtain ⟨ca', hca'⟩ := Option.isSome_iff_exists.mp (cl2 _ hm)
          have : ca' = ca := Option.some.inj ((cl1 _ _ hca').symm.trans z1)
          subst this
          refine .inr ⟨.inl ?_, ca', rw_, hca', z2, z3⟩
          rw [kx, lookup_relN, hy]
          simp [hcell]
      · first | exact ns e | exact fb e | cases e
  have hit : It 0 h₁ := I.keep _ _ _ hit0 (by rw [k3 _ _ (k2 _ _ hoI), hoI])
  have fn : s₂.heap.get? s₂.heap.objs.size = none := hn1
  have okx : (compEnvC sc cl H2.objs.size env).kindOf (Str.ofString x) = some .local := by
    rw [kx, lookup_relN, ok7]; rfl
  have hxc : ∀ y w, capL cs ρ y = some w → y ≠ x := fun y w e z => by
    unfold capL at e
    split at e
    · rename_i hc
      have hy := ok8 y (List.contains_iff_mem.mp hc)
      rw [z, ok7] at hy; cases hy
    · first | exact ns e | exact fb e | cases e
  have sC : ∀ b o, s.heap.get? b = some o → μ b = none → b ≠ H2.objs.size := fun b o e hm z => by
    obtain ⟨_, sl, e', _⟩ := (st.trans (stI.trans st₃)).kept _ o e hm
    have e' : H2.get? b = _ := e'
    rw [z, hn2] at e'; cases e'
  have loop := comp_loop (px := px) (p := p) (it := toE it) (sc := sc) (n := s₂.heap.objs.size) (Q := Q (.ref s₂.heap.objs.size)) (R := compPost (model c.prog c.w) A Ex use Q' (.ref s₂.heap.objs.size) H2.objs.size)
    he I (cenv := compEnvC sc cl H2.objs.size env) okx (by show okE sg (relabel sc env).names elt = true; rw [hrel]; exact ok2) (by show okEs sg (relabel sc env).names ifs = true; rw [hrel]; exact ok3) ok4' hs bI hn hxc st₁₄.toS ⟨S₄.rel, er, S₄.aok, S₄.room, S₄.units, S₄.top⟩ (hv.step st.rel st₁₄) hit (q _ (stI.rel.free fn)) (fun re s' e x ρ₃ μ₃ μ' s₃ hre stS S' f hx => ?_) fun μ' s' stS S' hq => ?_
  · exact codeAny_compStart_list loop (I.self 0 _ _ _ hit loop)
  · subst hre
    have stp : Step c fs μ μ₃ s s₃ := st.trans ⟨stS.gens, stS.drawn, stS.os, S'.rel, fun b o e hm => by
      have hb : b ≠ H2.objs.size := ltC (k2 _ _ ((stI.kept b o e hm).2.choose_spec.1))
      exact stS.kept b o e hm (by rintro (z | ⟨y, z⟩); exact hb z; cases z)⟩
    obtain ⟨m', hns', _⟩ := S'.er.names
    have nsC : s'.heap.Ns H2.objs.size m' := Ns.sees f.kept.sees hns' S'.er.priv
    have nf : H2.objs.size ∉ frs fs := fun hL => by
      obtain ⟨o, es, n, ho, _⟩ := S.aok.dicts _ hL
      exact sC _ o ho (S.aok.priv _ hL) rfl
    obtain ⟨oC, esC, nC, hoC, hdC⟩ := Ns.dict hns'
    obtain ⟨B, Cx, a0, hC, hf, hr, hB⟩ := f.there
    have hr' : Rel c μ' (hideAll B [H2.objs.size]) := hr.hide (by simpa using bC) (fun a ha => by rw [List.mem_singleton.mp ha]; exact (f.kept _ _ hoC S'.er.priv).1) (fun a ha => by rw [List.mem_singleton.mp ha]; exact ⟨oC, esC, nC, hB _ _ hoC S'.er.priv nf, hdC⟩)
    have hB' : ∀ b o, s.heap.get? b = some o → μ b = none → b ∉ frs fs → (hideAll B [H2.objs.size]).get? b = some o := fun b o eb hm hb => hideAll_get _ (hB b o (stp.kept.exact eb hm hb) (stp.kept b o eb hm).1 hb) fun z => sC b o eb hm (List.mem_singleton.mp z)
    have key : ∃ m, s'.heap.Ns H2.objs.size m ∧ ∀ h', Heap.SameBut H2.objs.size s'.heap h' → ∀ cenv' : Env, cenv'.locals = H2.objs.size → wpAny (model c.prog c.w) A (passOn "comprehension.variables-let-go" (.ref e) cenv' : Sem Value) (fun _ _ => False) Ex { s' with heap := h' } := by
      refine ⟨m', nsC, fun h' sb cenv' _ => fly_pass (s := { s' with heap := h' }) (hf.hide (Ns.dict nsC) nf sb) fun h'' hf'' up => hE _ _ ⟨e, x, μ', rfl, ⟨f.gens.trans stp.gens, f.drawn.trans stp.drawn, f.os.trans stp.os, ⟨_, Cx, a0, hC, hf'', hr', hB'⟩, fun b o eb hm => ?_⟩, hx⟩⟩
      obtain ⟨m₁, sl₁, e₁, q₁⟩ := stp.kept b o eb hm
      obtain ⟨m₂, sl₂, e₂, q₂⟩ := f.kept b _ e₁ m₁
      refine ⟨m₂, ?_⟩
      by_cases hb : b ∈ frs fs
      · obtain ⟨o', es, n, ho', hd'⟩ := S.aok.dicts b hb
        rw [eb] at ho'; cases ho'
        obtain ⟨sl₃, e₃⟩ := up b _ ((sb.2 b (sC b o eb hm)).trans e₂) (fun vs q => by rw [show o.data = _ from hd'] at q; cases q)
        exact ⟨sl₃, e₃, fun z => z.elim (fun z => (z hb).elim) fun ⟨vs, z⟩ => by rw [hd'] at z; cases z⟩
      · obtain ⟨fl, stay, _⟩ := hf''
        exact ⟨o.slots, stay _ _ (hB' b o eb hm hb), fun _ => rfl⟩
    cases use <;> exact key
  · obtain ⟨m', hns', _⟩ := S'.er.names
    refine fin H2.objs.size _ μ' s' m' sC bC S'.er.priv (st.trans ⟨stS.gens, stS.drawn, stS.os, S'.rel, fun b o e hm => ?_⟩) hns' hq
    have hb : b ≠ H2.objs.size := ltC (k2 _ _ ((stI.kept b o e hm).2.choose_spec.1))
    exact stS.kept b o e hm (by rintro (z | ⟨y, z⟩); exact hb z; cases z)

theorem St.but {C : Addr} {h' : Heap} {hd : Bool} {A : Around} {fs : List Env} {env : Env} {ρ : Loc} {μ : Mem} {s : Shared} (S : St c d hd A fs env ρ μ s) (hm : μ C = none) (hb : c.base.get? C = none) (nk : ∀ o, s.heap.get? C = some o → ¬ RK o) (nl : env.locals ≠ C) (nc : ∀ x, env.cells.lookup x ≠ some C) (nf : C ∉ frs fs) (sb : Heap.SameBut C s.heap h') :
    St c d hd A fs env ρ μ { s with heap := h' } := by
  obtain ⟨r', mono⟩ := Rel.private S.rel hm hb nk sb
  obtain ⟨m, hns, hmm⟩ := S.er.names
  have fr : ∀ l : List Env, (∀ L ∈ frs l, L ∈ frs fs) → s.heap.FunFrames c.base l → h'.FunFrames c.base l := by
    intro l
    induction l with
    | nil => intro _ _; trivial
    | cons e l ih =>
      rintro hin ⟨hk, ⟨L, o, hf, hn, ho, hd⟩, hr⟩
      refine ⟨hk, ⟨L, o, hf, hn, (sb.2 L fun q => nf ?_).trans ho, hd⟩, ih (fun L hL => hin L ?_) hr⟩
      · rw [← q]; exact hin L (by simp [frs, hf])
      · unfold frs at hL ⊢
        rw [List.filterMap_cons]
        split
        · exact hL
        · exact .tail _ hL
  refine ⟨r', ⟨S.er.kind, S.er.glob, S.er.blt, S.er.priv, S.er.new, fun y ca e => ?_, S.er.inj, S.er.has, m, hns.sameBut sb nl, fun y w e => ?_⟩, ⟨S.aok.frames, S.aok.room, S.aok.units, S.aok.handled, fr fs (fun _ h => h) S.aok.fun_, S.aok.priv, fun L hL => ?_⟩, S.room, S.units, S.top⟩
  · obtain ⟨⟨w, o, ho, hd⟩, h1, h2⟩ := S.er.cells y ca e
    exact ⟨⟨w, o, (sb.2 ca fun q => nc y (q ▸ e)).trans ho, hd⟩, h1, h2⟩
  · rcases hmm y w e with ⟨h1, rw_, h2, h3⟩ | ⟨h1, ca, rw_, h2, ⟨o, ho, hd⟩, h4⟩
    · exact .inl ⟨h1, rw_, h2, mono h3⟩
    · exact .inr ⟨h1, ca, rw_, h2, ⟨o, (sb.2 ca fun q => nc y (q ▸ h2)).trans ho, hd⟩, mono h4⟩
  · obtain ⟨o, es, n, ho, hd⟩ := S.aok.dicts L hL
    exact ⟨o, es, n, (sb.2 L fun q => nf (q ▸ hL)).trans ho, hd⟩

theorem se_comp {elt it : E} {x : String} {cs : List String} {sc : Scope} {ifs : List E} {px p : Pos} (hi : SE c sg d it) (he : SE c sg d elt) (hs : ∀ e ∈ ifs, ST c sg d e) : SE c sg d (.comp elt x cs it ifs sc px p) := by
  intro hd A fs env ρ μ s Q X ok h S
  show wpAny _ A (eval (.ListComp (toE elt) [⟨.Name (Str.ofString x) px, toE it, toEs ifs, 0⟩] sc p) env) _ _ s
  rw [eval_ListComp]
  refine comp_core (use := none) hi he hs ok h S (fun _ _ y => y) fun C n μ' s' m sC bC pC st hns q => ?_
  refine ⟨m, hns, fun h' sb => ⟨.ref _, μ', ⟨st.gens, st.drawn, st.os, (Rel.private st.rel pC bC (fun o e => ?_) sb).1, fun b o e hm => ?_⟩, .ref _, q⟩⟩
  · obtain ⟨oL, esL, nL, hoL, hdL⟩ := Ns.dict hns
    rw [hoL] at e; cases e
    rintro (⟨_, vs, n, q⟩ | ⟨_, vs, q⟩) <;> (rw [hdL] at q; cases q)
  · obtain ⟨m₂, sl, e', q'⟩ := st.kept b o e hm
    exact ⟨m₂, sl, (sb.2 b (sC b o e hm)).trans e', q'⟩

end
end Mine

set_option autoImplicit false
namespace Mine
set_option linter.unusedVariables false
set_option linter.unusedSimpArgs false
open PySem PySem.W PySem.Calls PyProof.Rows

section
variable {c : Ctx} {sg : Sig} {d : Nat}

theorem tr_of {b : Bool} {k : Bool → Prop} (h : tr (.bool b) k) : k b := h

theorem stands {hd : Bool} {A : Around} {fs : List Env} {env : Env} {ρ : Loc} {X : String → Mem → Prop} {Q₀ : V → Mem → Prop} {Q : Bool → Mem → Prop} (hq : ∀ v μ₁, Q₀ v μ₁ → tr v fun b => Q b μ₁) {es : List E} : ∀ {μ : Mem} {s : Shared}, (∀ e ∈ es, ST c sg d e) → okEs sg env.scope.names es = true → wpAnd sg (SC c d) hd es ρ μ Q₀ X → St c d hd A fs env ρ μ s →
    wpAny (model c.prog c.w) A (allTrue .And (toEs es) env) (PostB c fs μ s Q) (XPost c fs μ s X) s := by
  induction es with
  | nil => intro μ s _ _ h _; exact h.elim
  | cons e es ih =>
    intro μ s hs ok h S
    rw [okEs, Bool.and_eq_true] at ok
    cases es with
    | nil =>
      refine wpAny_allTrue_And_cons (wp_nextB (Step.refl S.rel) (hs e (.head _) hd A fs env ρ μ s Q₀ Q X hq ok.1 h S) fun b μ₁ s₁ st _ q => ?_)
      cases b with
      | true => exact wpAny_allTrue_And_nil ⟨μ₁, st, q⟩
      | false => exact ⟨μ₁, st, q⟩
    | cons e' es =>
      refine wpAny_allTrue_And_cons (wp_nextB (Q₁ := fun b μ₁ => br b (wpAnd sg (SC c d) hd (e' :: es) ρ μ₁ Q₀ X) (Q false μ₁)) (Step.refl S.rel) (hs e (.head _) hd A fs env ρ μ s _ _ X (fun v μ₁ h₁ => ?_) ok.1 h S) fun b μ₁ s₁ st _ q => ?_)
      · obtain ⟨b, rfl, hb⟩ := tr_bool h₁
        exact ⟨hb.1, fun hf => by subst hf; exact tr_of (hq _ _ (hb.2 rfl))⟩
      · cases b with
        | true => exact wpAny_mono (ih (fun x hx => hs x (.tail _ hx)) ok.2 (q.1 rfl) (S.step st)) (fun _ _ p => p.after st) fun _ _ x => x.after st
        | false => exact ⟨μ₁, st, q.2 rfl⟩
theorem stors {hd : Bool} {A : Around} {fs : List Env} {env : Env} {ρ : Loc} {X : String → Mem → Prop} {Q₀ : V → Mem → Prop} {Q : Bool → Mem → Prop} (hq : ∀ v μ₁, Q₀ v μ₁ → tr v fun b => Q b μ₁) {es : List E} : ∀ {μ : Mem} {s : Shared}, (∀ e ∈ es, ST c sg d e) → okEs sg env.scope.names es = true → wpOr sg (SC c d) hd es ρ μ Q₀ X → St c d hd A fs env ρ μ s →
    wpAny (model c.prog c.w) A (allTrue .Or (toEs es) env) (PostB c fs μ s Q) (XPost c fs μ s X) s := by
  induction es with
  | nil => intro μ s _ _ h _; exact h.elim
  | cons e es ih =>
    intro μ s hs ok h S
    rw [okEs, Bool.and_eq_true] at ok
    cases es with
    | nil =>
      refine wpAny_allTrue_Or_cons (wp_nextB (Step.refl S.rel) (hs e (.head _) hd A fs env ρ μ s Q₀ Q X hq ok.1 h S) fun b μ₁ s₁ st _ q => ?_)
      cases b with
      | true => exact ⟨μ₁, st, q⟩
      | false => exact wpAny_allTrue_Or_nil ⟨μ₁, st, q⟩
    | cons e' es =>
      refine wpAny_allTrue_Or_cons (wp_nextB (Q₁ := fun b μ₁ => br b (Q true μ₁) (wpOr sg (SC c d) hd (e' :: es) ρ μ₁ Q₀ X)) (Step.refl S.rel) (hs e (.head _) hd A fs env ρ μ s _ _ X (fun v μ₁ h₁ => ?_) ok.1 h S) fun b μ₁ s₁ st _ q => ?_)
      · obtain ⟨b, rfl, hb⟩ := tr_bool h₁
        exact ⟨fun hf => by subst hf; exact tr_of (hq _ _ (hb.1 rfl)), hb.2⟩
      · cases b with
        | true => exact ⟨μ₁, st, q.1 rfl⟩
        | false => exact wpAny_mono (ih (fun x hx => hs x (.tail _ hx)) ok.2 (q.2 rfl) (S.step st)) (fun _ _ p => p.after st) fun _ _ x => x.after st

theorem st_plain {e : E} (se : SE c sg d e) (he : ∀ env : Env, isTrue (toE e) env (eval (toE e) env) = (do let v ← eval (toE e) env; standAt (toE e).pos; holding [v] (truthy v))) : ST c sg d e := by
  intro hd A fs env ρ μ s Q₀ Q X hq ok h S
  refine isTrue_plain (wp_next (Step.refl S.rel) (se hd A fs env ρ μ s Q₀ X ok h S) fun rv v μ₁ s₁ st _ hv q => ?_) (he env)
  exact truthy_sound hv (hq v μ₁ q) fun b hb => ⟨μ₁, st, hb⟩

theorem st_cmp2 {op₁ op₂ : CmpOp} {a b e : E} {p : Pos} (ha : SE c sg d a) (hb' : SE c sg d b) (he : SE c sg d e) : ST c sg d (.cmp2 op₁ op₂ a b e p) := by
      intro hd A fs env ρ μ s Q₀ Q X hq ok hw S
      simp only [okE_cmp2, Bool.and_eq_true] at ok
      refine isTrue_chain (wp_next (Step.refl S.rel) (ha hd A fs env ρ μ s _ X ok.1.1 hw S) fun ra va μ₁ s₁ st _ hva q => ?_) (by show lastMarks [op₁, op₂] [toE b, toE e] = false; exact behind_toE op₂ e)
      refine test_link (wp_next st (hb' hd A fs env ρ μ₁ s₁ _ X ok.1.2 q (S.step st)) fun rb vb μ₂ s₂ st₂ st' hvb q₂ => ?_)
      have S₂ := (S.step st).step st₂
      refine wpAny_mono (cmp_sound (E := XPost c fs μ s X) st₂.rel (hva.step st.rel st₂) hvb q₂ S₂.aok) (fun rt s₃ hpp => ?_) fun _ _ x => x
      obtain ⟨t, μ₃, st₃, ht, q₃⟩ := hpp
      obtain ⟨bt, rfl, hbt⟩ := tr_bool q₃
      cases ht.inv
      refine wpAny_truthy_bool ?_
      cases bt with
      | true =>
        refine test_last (wp_next (st'.trans st₃) (he hd A fs env ρ μ₃ s₃ _ X ok.2 (hbt.1 rfl) (S₂.step st₃)) fun rc vc μ₄ s₄ st₄ st'' hvc q₄ => ?_)
        refine wpAny_mono (cmp_sound (E := XPost c fs μ s X) st₄.rel ((hvb.step st₂.rel st₃).step st₃.rel st₄) hvc q₄ ((S₂.step st₃).step st₄).aok) (fun rv s₅ hpp => ?_) fun _ _ x => x
        obtain ⟨v, μ₅, st₅, hv, q₅⟩ := hpp
        exact truthy_sound hv (hq v μ₅ q₅) fun b hb => ⟨μ₅, st''.trans st₅, hb⟩
      | false => exact ⟨μ₃, st'.trans st₃, tr_of (hq _ _ (hbt.2 rfl))⟩
theorem pl {e : E} (se : SE c sg d e) (he : ∀ env : Env, isTrue (toE e) env (eval (toE e) env) = (do let v ← eval (toE e) env; standAt (toE e).pos; holding [v] (truthy v))) : SE c sg d e ∧ ST c sg d e := ⟨se, st_plain se he⟩
theorem sound (G : Good c sg) (e : E) : SE c sg d e ∧ ST c sg d e := by
  have ls : ∀ {es : List E}, (∀ e ∈ es, SE c sg d e ∧ ST c sg d e) → ∀ e ∈ es, SE c sg d e := fun h e he => (h e he).1
  have lt : ∀ {es : List E}, (∀ e ∈ es, SE c sg d e ∧ ST c sg d e) → ∀ e ∈ es, ST c sg d e := fun h e he => (h e he).2
  refine E.rec (motive_1 := fun e => SE c sg d e ∧ ST c sg d e) (motive_2 := fun es => ∀ e ∈ es, SE c sg d e ∧ ST c sg d e)
    (fun p => pl (fun hd A fs env ρ μ s Q X ok h S => wpAny_Constant_none ⟨_, μ, Step.refl S.rel, .none, h⟩) fun _ => rfl)
    (fun b p => pl (fun hd A fs env ρ μ s Q X ok h S => wpAny_Constant_bool ⟨_, μ, Step.refl S.rel, .bool b, h⟩) fun _ => rfl)
    (fun i p => pl (fun hd A fs env ρ μ s Q X ok h S _ _ _ => ⟨_, μ, Step.toks S.rel, .int i _, h⟩) fun _ => rfl)
    (fun x p => pl (fun hd A fs env ρ μ s Q X ok h S => wpAny_Constant_str ⟨_, μ, Step.toks S.rel, .str _ _, h⟩) fun _ => rfl)
    (fun x p => pl se_loc fun _ => rfl) (fun x p => pl (se_glob G) fun _ => rfl) (fun op l r p hl hr => pl (se_bin hl.1 hr.1) fun _ => rfl) (fun e p he => pl (se_neg he.1) fun _ => rfl)
    (fun e p he => ⟨se_not he.1, ?_⟩) (fun es p hs => ⟨se_and (ls hs), ?_⟩) (fun es p hs => ⟨se_or (ls hs), ?_⟩)
    (fun op l r p hl hr => ⟨se_cmp hl.1 hr.1, st_cmp hl.1 hr.1⟩) (fun o1 o2 a b e p ha hb he => ⟨se_cmp2 ha.1 hb.1 he.1, st_cmp2 ha.1 hb.1 he.1⟩)
    (fun o a p ho => pl (se_attr G ho.1) fun _ => rfl) (fun o i p ho hi => pl (se_sub ho.1 hi.1) fun _ => rfl) (fun o l ps p ho hl => pl (se_sliceL ho.1 hl.1) fun _ => rfl) (fun o l ps p ho hl => pl (se_sliceU ho.1 hl.1) fun _ => rfl)
    (fun o l u ps p ho hl hu => pl (se_sliceLU ho.1 hl.1 hu.1) fun _ => rfl) (fun es k p hs => pl (se_tup (ls hs)) fun _ => rfl) (fun es p hs => pl (se_list (ls hs)) fun _ => rfl)
    (fun f es pf p hs => pl (se_call G (ls hs)) fun _ => rfl) (fun f es pf p hs => pl (se_new G (ls hs)) fun _ => rfl) (fun f es pf p hs => pl (se_bltn G (ls hs)) fun _ => rfl)
    (fun e cl pf pc p he => pl (se_isi G he.1) fun _ => rfl) (fun o m es pa p ho hs => pl (se_meth G ho.1 (ls hs)) fun _ => rfl)
    (fun elt x cs it ifs sc px p he hi hs => pl (se_comp hi.1 he.1 (lt hs)) fun _ => rfl)
    (fun o y z py pz pa p _ => pl (fun hd A fs env ρ μ s Q X ok h S => False.elim h) fun _ => rfl)
    (fun _ h => nomatch h) (fun e es he hs x hx => ?_) e
  · intro hd A fs env ρ μ s Q₀ Q X hq ok hw S
    rw [okE_not] at ok
    refine isTrue_not (wpAny_mono (he.2 hd A fs env ρ μ s _ (fun b μ₁ => Q (!b) μ₁) X (fun v μ₁ h₁ => ?_) ok hw S) (fun b s₁ p => p) fun _ _ x => x)
    obtain ⟨b, rfl, hb⟩ := tr_bool h₁
    exact tr_of (hq _ _ hb)
  · intro hd A fs env ρ μ s Q₀ Q X hq ok hw S
    rw [okE_and] at ok
    exact wpAny_isTrue_BoolOp (stands hq (lt hs) ok hw S)
  · intro hd A fs env ρ μ s Q₀ Q X hq ok hw S
    rw [okE_or] at ok
    exact wpAny_isTrue_BoolOp (stors hq (lt hs) ok hw S)
  · rcases List.mem_cons.mp hx with rfl | hx
    · exact he
    · exact hs x hx
theorem soundE (G : Good c sg) (e : E) : SE c sg d e := (sound G e).1
theorem soundT (G : Good c sg) (e : E) : ST c sg d e := (sound G e).2
end
end Mine

set_option autoImplicit false
namespace Mine
set_option linter.unusedVariables false
set_option linter.unusedSimpArgs false
open PySem PySem.W PySem.Calls PyProof.Rows

noncomputable def isSto : Option NameKind → Bool
  | some .local | some .cell => true
  | _ => false

noncomputable def okMore (sg : Sig) (ns : List (Str × NameKind)) : List (String × Pos × E × Pos × Pos) → Bool
  | [] => true
  | (c, _, e, _, _) :: r => sg.excs.contains c && ns.lookup (Str.ofString c) == some .globalImplicit && c != "__debug__" && okE sg ns e && okMore sg ns r

noncomputable def noComp : E → Bool
  | .comp _ _ _ _ _ _ _ _ => false
  | _ => true
noncomputable def okV (sg : Sig) (ns : List (Str × NameKind)) (e : E) : Bool := okE sg ns e && noComp e
noncomputable def okA (sg : Sig) (ns : List (Str × NameKind)) (x : String) (e : E) (px : Pos) : Bool := match e with
  | .comp a b cs i f sc q pc => okE sg ns (.comp a b cs i f sc q pc) && (ns.lookup (Str.ofString x) == some .local && px.line == pc.line && !(sc.names.any fun (n, k) => n == Str.ofString x && (k == .local || k == .cell)))
  | e => okV sg ns e && isSto (ns.lookup (Str.ofString x))
mutual
noncomputable def okS (sg : Sig) (nr : Bool) (ns : List (Str × NameKind)) : S → Bool
  | .expr e _ => okV sg ns e
  | .assign x e px _ => okA sg ns x e px
  | .setattr o a e _ _ => okE sg ns o && okV sg ns e && sg.attrs.contains a
  | .setitem o i e _ _ => okE sg ns o && okE sg ns i && okV sg ns e
  | .unpack xs e _ _ _ => okE sg ns e && (match e with | .loc _ _ => true | _ => false) && (xs.all fun x => isSto (ns.lookup (Str.ofString x.1)))
  | .ite c t f _ => okE sg ns c && okSs sg nr ns t && okSs sg nr ns f
  | .for_ x it body _ _ => okE sg ns it && isSto (ns.lookup (Str.ofString x)) && okSs sg nr ns body
  | .ret e _ => okE sg ns e
  | .raise c m _ _ _ _ => !nr && sg.excs.contains c && ns.lookup (Str.ofString c) == some .globalImplicit && c != "__debug__"
  | .try_ body more _ => okSs sg true ns body && okMore sg ns more && !more.isEmpty
  | .pass _ => true
noncomputable def okSs (sg : Sig) (nr : Bool) (ns : List (Str × NameKind)) : List S → Bool
  | [] => true
  | s :: r => okS sg nr ns s && okSs sg nr ns r
end

section
variable {sg : Sig} {nr : Bool} {ns : List (Str × NameKind)}
theorem okS_expr {e : E} {p : Pos} : okS sg nr ns (.expr e p) = okV sg ns e := rfl
theorem okS_assign {x : String} {e : E} {px p : Pos} : okS sg nr ns (.assign x e px p) = okA sg ns x e px := rfl
theorem okS_setattr {o e : E} {a : String} {q p : Pos} : okS sg nr ns (.setattr o a e q p) = (okE sg ns o && okV sg ns e && sg.attrs.contains a) := rfl
theorem okS_setitem {o i e : E} {q p : Pos} : okS sg nr ns (.setitem o i e q p) = (okE sg ns o && okE sg ns i && okV sg ns e) := rfl
theorem okS_unpack {xs : List (String × Pos)} {e : E} {k : Nat} {q p : Pos} : okS sg nr ns (.unpack xs e k q p) = (okE sg ns e && (match e with | .loc _ _ => true | _ => false) && (xs.all fun x => isSto (ns.lookup (Str.ofString x.1)))) := rfl
theorem okS_ite {e : E} {t f : List S} {p : Pos} : okS sg nr ns (.ite e t f p) = (okE sg ns e && okSs sg nr ns t && okSs sg nr ns f) := rfl
theorem okS_for {x : String} {it : E} {body : List S} {q p : Pos} : okS sg nr ns (.for_ x it body q p) = (okE sg ns it && isSto (ns.lookup (Str.ofString x)) && okSs sg nr ns body) := rfl
theorem okS_ret {e : E} {p : Pos} : okS sg nr ns (.ret e p) = okE sg ns e := rfl
theorem okS_raise {n m : String} {a b q p : Pos} : okS sg nr ns (.raise n m a b q p) = (!nr && sg.excs.contains n && ns.lookup (Str.ofString n) == some .globalImplicit && n != "__debug__") := rfl
theorem okS_try {body : List S} {more : List (String × Pos × E × Pos × Pos)} {p : Pos} : okS sg nr ns (.try_ body more p) = (okSs sg true ns body && okMore sg ns more && !more.isEmpty) := rfl
end

noncomputable def Top (fs : List Env) (env : Env) : Prop := ∃ outer, fs = env :: outer ∧ env.frame = some env.locals

noncomputable def SS (c : Ctx) (sg : Sig) (d : Nat) (t : S) : Prop := ∀ (nr hd : Bool) (A : Around) (fs : List Env) (env : Env) (ρ : Loc) (μ : Mem) (s : Shared) (Q : Fl → Loc → Mem → Prop) (X : String → Loc → Mem → Prop),
  okS sg nr env.scope.names t = true → Top fs env → wpS sg (SC c d) hd t ρ μ Q X → St c d hd A fs env ρ μ s → wpAny (model c.prog c.w) A (exec (toS t) env) (PostS c d hd A fs env μ s Q) (XPostS c d hd A fs env nr μ s X) s
noncomputable def SSs (c : Ctx) (sg : Sig) (d : Nat) (t : List S) : Prop := ∀ (nr hd : Bool) (A : Around) (fs : List Env) (env : Env) (ρ : Loc) (μ : Mem) (s : Shared) (Q : Fl → Loc → Mem → Prop) (X : String → Loc → Mem → Prop),
  okSs sg nr env.scope.names t = true → Top fs env → wpSs sg (SC c d) hd t ρ μ Q X → St c d hd A fs env ρ μ s → wpAny (model c.prog c.w) A (execs (toSs t) env) (PostS c d hd A fs env μ s Q) (XPostS c d hd A fs env nr μ s X) s

section
variable {c : Ctx} {sg : Sig} {d : Nat} {nr hd : Bool} {A : Around} {fs : List Env} {env : Env} {ρ : Loc} {μ : Mem} {s : Shared} {X : String → Loc → Mem → Prop}

theorem ev (G : Good c sg) {e : E} {μ₀ : Mem} {s₀ : Shared} {Q₁ : V → Mem → Prop} {P : Value → Shared → Prop} (ok : okE sg env.scope.names e = true) (st : StepS c fs env μ₀ μ s₀ s) (h : wpE sg (SC c d) hd e ρ μ Q₁ (fun x μ₁ => X x ρ μ₁)) (S : St c d hd A fs env ρ μ s)
    (k : ∀ rv v μ₁ s₁, Step c fs μ μ₁ s s₁ → RV c s₁.heap rv v → Q₁ v μ₁ → P rv s₁) : wpAny (model c.prog c.w) A (eval (toE e) env) P (XPostS c d hd A fs env nr μ₀ s₀ X) s :=
  wpAny_mono (soundE G e hd A fs env ρ μ s Q₁ _ ok h S) (fun rv s₁ ⟨v, μ₁, st₁, hv, q⟩ => k rv v μ₁ s₁ st₁ hv q) fun _ _ x => (XPost.toS S x).after st

theorem okV_of {ns : List (Str × NameKind)} {e : E} (ok : okV sg ns e = true) : okE sg ns e = true ∧ noComp e = true := Bool.and_eq_true_iff.mp ok
theorem swaps_toE (e : E) (t : Option Expr) (n : Nat) (env : Env) (ok : noComp e = true) : swapsWith (toE e) t n env = pure false := by
  cases e <;> first | rfl | cases ok

theorem sto {x : String} (h : isSto (env.scope.names.lookup (Str.ofString x)) = true) : env.kindOf (Str.ofString x) = some .local ∨ env.kindOf (Str.ofString x) = some .cell := by
  show env.scope.names.lookup _ = _ ∨ env.scope.names.lookup _ = _
  unfold isSto at h
  split at h
  · rename_i e; exact .inl e
  · rename_i e; exact .inr e
  · first | exact ns h | exact fb h | cases h

theorem ss_expr (G : Good c sg) {e : E} {p : Pos} : SS c sg d (.expr e p) := by
  intro nr hd A fs env ρ μ s Q X ok tp h S
  simp only [okS_expr, okS_assign, okS_setattr, okS_setitem, okS_unpack, okS_ite, okS_for, okS_ret, okS_raise, okS_try] at ok
  refine wpAny_Expr_any (ev G (okV_of ok).1 .refl h S fun rv v μ₁ s₁ st hv q => ⟨.next, ρ, μ₁, st.toS, S.step st, .next, q⟩) (by unfold interactive; rw [S.er.kind]; rfl) (swaps_toE e _ _ _ (okV_of ok).2)

theorem assign_comp (G : Good c sg) {x : String} {elt it : E} {y : String} {cs : List String} {ifs : List E} {sc : Scope} {q pc px p : Pos} : SS c sg d (.assign x (.comp elt y cs it ifs sc q pc) px p) := by
  intro nr hd A fs env ρ μ s Q X ok tp h S
  simp only [okS_expr, okS_assign, okS_setattr, okS_setitem, okS_unpack, okS_ite, okS_for, okS_ret, okS_raise, okS_try, okA, Bool.and_eq_true, beq_iff_eq] at ok
  obtain ⟨ok1, ⟨ok2, ok3⟩, ok4⟩ := ok
  have h : wpE sg (SC c d) hd (.comp elt y cs it ifs sc q pc) ρ μ (fun v μ₁ => Q .next (updL ρ x v) μ₁) (fun x μ₁ => X x ρ μ₁) := h
  have hsw : swapsWith (toE (.comp elt y cs it ifs sc q pc)) (some (.Name (Str.ofString x) px)) p.line env = pure true := by
    have e : swapsWith (toE (.comp elt y cs it ifs sc q pc)) (some (.Name (Str.ofString x) px)) p.line env = pure (env.blockKind == .function && env.kindOf (Str.ofString x) == some .local && px.line == pc.line && !(sc.names.any fun (n, k) => n == Str.ofString x && (k == .local || k == .cell))) := rfl
    have hk : env.kindOf (Str.ofString x) = some .local := ok2
    have hb : env.blockKind = .function := by unfold Env.blockKind; rw [S.er.kind]; rfl
    rw [e, hb, hk, ok4, ok3]
    simp
  have nl : ∀ {C}, (∀ b o, s.heap.get? b = some o → μ b = none → b ≠ C) → env.locals ≠ C := fun sC => by
    obtain ⟨m, hns, _⟩ := S.er.names
    obtain ⟨o, _, _, ho, _⟩ := Ns.dict hns
    exact sC _ o ho S.er.priv
  have nc : ∀ {C}, (∀ b o, s.heap.get? b = some o → μ b = none → b ≠ C) → ∀ z, env.cells.lookup z ≠ some C := fun sC z e => by
    obtain ⟨⟨w, o, ho, _⟩, hm, _⟩ := S.er.cells z _ e
    exact sC _ o ho hm rfl
  have nf : ∀ {C}, (∀ b o, s.heap.get? b = some o → μ b = none → b ≠ C) → C ∉ frs fs := fun sC hC => by
    obtain ⟨o, _, _, ho, _⟩ := S.aok.dicts _ hC
    exact sC _ o ho (S.aok.priv _ hC) rfl
  show wpAny _ A (exec (.Assign [.Name (Str.ofString x) px] (toE (.comp elt y cs it ifs sc q pc)) p) env) _ _ s
  rw [exec_Assign_Name_used _ _ _ _ hsw]
  refine wpAny_bind (wpAny_standAt (wpAny_bind ?_))
  show wpAny _ A (do let _ ← comprehension (.ListComp (toE elt) [⟨.Name (Str.ofString y) q, toE it, toEs ifs, 0⟩] sc pc) sc env _ (newList []) false (eval (toE it) env) (some (assign (.Name (Str.ofString x) px) env))) _ _ s
  refine wpAny_bind (wpAny_mono (comp_core (use := some (assign (.Name (Str.ofString x) px) env)) (Q' := fun _ s' => PostS c d hd A fs env μ s Q .next s') (Ex := XPostS c d hd A fs env nr μ s X) (soundE G it) (soundE G elt) (fun e _ => soundT G e) ok1 h S (fun _ _ y => XPost.toS S y) fun C n μ' s' m sC bC pC st hns hq => ?_) (fun _ s' hq => wpAny_pure (wpAny_pure hq)) fun _ _ e => e)
  have S' := S.step st
  refine wpAny_assign_Name (store_sound S' (.inl ok2) (.ref n) fun s'' stS S'' => ?_)
  obtain ⟨oC, esC, epC, hoC, hdC, rC⟩ := hns
  obtain ⟨_, sl, e'', _⟩ := stS.kept C oC hoC pC (by rintro (z | ⟨z, hz⟩); exact nl sC z.symm; exact nc sC z hz)
  refine ⟨m, ⟨_, esC, epC, e'', hdC, rC⟩, fun h' sb => ⟨.next, _, μ', ⟨stS.gens.trans st.gens, stS.drawn.trans st.drawn, stS.os.trans st.os, fun b o e hm hp => ?_⟩, S''.but pC bC (fun o e => ?_) (nl sC) (nc sC) (nf sC) sb, .next, hq⟩⟩
  · obtain ⟨m₂, sl₂, e₂, q₂⟩ := (st.toS.trans stS).kept b o e hm hp
    exact ⟨m₂, sl₂, (sb.2 b (sC b o e hm)).trans e₂, q₂⟩
  · rw [e''] at e; cases e
    rintro (⟨_, vs, n, z⟩ | ⟨_, vs, z⟩) <;> (rw [hdC] at z; cases z)

theorem assign_plain (G : Good c sg) {x : String} {e : E} {px p : Pos} (hn : noComp e = true) : SS c sg d (.assign x e px p) := by
  intro nr hd A fs env ρ μ s Q X ok tp h S
  have ok : (okV sg env.scope.names e && isSto (env.scope.names.lookup (Str.ofString x))) = true := by
    simp only [okS_expr, okS_assign, okS_setattr, okS_setitem, okS_unpack, okS_ite, okS_for, okS_ret, okS_raise, okS_try] at ok
    unfold okA at ok
    split at ok
    · first | exact ns hn | exact fb hn | cases hn
    · exact ok
  rw [Bool.and_eq_true] at ok
  refine wpAny_Assign_Name (ev G (okV_of ok.1).1 .refl h S fun rv v μ₁ s₁ st hv q => ?_) (swaps_toE e _ _ _ (okV_of ok.1).2)
  exact store_sound (S.step st) (sto ok.2) hv fun s' st' S' => ⟨.next, _, μ₁, st.toS.trans st', S', .next, q⟩
theorem ss_assign (G : Good c sg) {x : String} {e : E} {px p : Pos} : SS c sg d (.assign x e px p) := by
  cases e
  case comp => exact assign_comp G
  all_goals exact assign_plain G rfl

theorem ss_setattr (G : Good c sg) {o e : E} {a : String} {pa p : Pos} : SS c sg d (.setattr o a e pa p) := by
  intro nr hd A fs env ρ μ s Q X ok tp h S
  simp only [okS_expr, okS_assign, okS_setattr, okS_setitem, okS_unpack, okS_ite, okS_for, okS_ret, okS_raise, okS_try, Bool.and_eq_true] at ok
  refine plainObj_wpAny_Assign_Attribute (ev G (okV_of ok.1.2).1 .refl h S fun rv v μ₁ s₁ st hv q => ?_) (swaps_toE e _ _ _ (okV_of ok.1.2).2)
  refine ev G ok.1.1 st.toS q (S.step st) fun ro w μ₂ s₂ st₂ hw q₂ => ?_
  have S₂ := (S.step st).step st₂
  split at q₂
  · split at q₂
    · rename_i x _ _ dd hx
      split at q₂
      · rename_i fl hfl
        cases hw.inv
        refine setattr_sound (fs := fs) (Kin G S₂.rel) S₂.rel (hv.step st.rel st₂) hx hfl G.cls (fun y C hy => G.attr y C a hy (by simpa using ok.2)) q₂.1 fun s' st₃ => ?_
        exact ⟨.next, ρ, _, (st.trans (st₂.trans st₃)).toS, S₂.step st₃, .next, q₂.2⟩
      · exact q₂.elim
    · exact q₂.elim
  · exact q₂.elim

theorem ss_setitem (G : Good c sg) {o i e : E} {ps p : Pos} : SS c sg d (.setitem o i e ps p) := by
  intro nr hd A fs env ρ μ s Q X ok tp h S
  simp only [okS_expr, okS_assign, okS_setattr, okS_setitem, okS_unpack, okS_ite, okS_for, okS_ret, okS_raise, okS_try, Bool.and_eq_true] at ok
  refine wpAny_Assign_Subscript (ev G (okV_of ok.2).1 .refl h S fun rv v μ₁ s₁ st hv q => ?_) (swaps_toE e _ _ _ (okV_of ok.2).2)
  refine ev G ok.1.1 st.toS q (S.step st) fun ro w μ₂ s₂ st₂ hw q₂ => ?_
  refine ev G ok.1.2 (st.trans st₂).toS q₂ ((S.step st).step st₂) fun ri j μ₃ s₃ st₃ hj q₃ => ?_
  have S₃ := ((S.step st).step st₂).step st₃
  split at q₃
  · rename_i x k
    split at q₃
    · rename_i l hl
      obtain ⟨h0, hk, q₃⟩ := q₃
      cases hw.inv; obtain ⟨_, rfl⟩ := hj.int_of
      obtain ⟨vs, n, h1, h2, h3⟩ := S₃.rel.lst hl
      have hsz : vs.size = l.length := by rw [← Array.length_toList, h2.length]
      have hlim : l.length < 2 ^ 62 := Nat.lt_of_le_of_lt h3 (by decide)
      refine ki_setAt (n := n) h1 h0 (by omega) (by rw [hsz]; exact hk) ?_
      have st₄ : Step c fs μ₃ (updM μ₃ x (.list (l.set k.toNat v))) s₃ { s₃ with heap := s₃.heap.update x (Obj.mapSeq (·.setIfInBounds k.toNat rv)) } := step_list S₃.rel hl h1 rfl (by rw [Array.toList_setIfInBounds]; exact h2.set ((hv.step st.rel st₂).step st₂.rel st₃) _) (by rw [List.length_set]; exact h3)
      exact ⟨.next, ρ, _, (st.trans (st₂.trans (st₃.trans st₄))).toS, S₃.step st₄, .next, q₃⟩
    · exact q₃.elim
  · exact q₃.elim

theorem StepS.rvs {μ' : Mem} {s' : Shared} (S : St c d hd A fs env ρ μ s) (st : StepS c fs env μ μ' s s') {xs : List V} : ∀ {vs : List Value}, RVs c s.heap vs xs → RVs c s'.heap vs xs := by
  induction xs with
  | nil => intro vs h; cases h.inv; exact .nil
  | cons x xs ih => intro vs h; obtain ⟨_, _, rfl, hv, hr⟩ := h.inv; exact .cons (st.rv S hv) (ih hr)
theorem each_len (env : Env) (xs : List (String × Pos)) : (assignEach (xs.map fun x => Expr.Name (Str.ofString x.1) x.2) env).length = xs.length ∧ (assignEach (xs.map fun x => Expr.Name (Str.ofString x.1) x.2) env).findIdx? (·.1) = none := by
  induction xs with
  | nil => exact ⟨rfl, rfl⟩
  | cons x xs ih =>
    have e : assignEach ((x :: xs).map fun x => Expr.Name (Str.ofString x.1) x.2) env = (false, assign (.Name (Str.ofString x.1) x.2) env) :: assignEach (xs.map fun x => Expr.Name (Str.ofString x.1) x.2) env := rfl
    rw [e]
    exact ⟨by rw [List.length_cons, ih.1, List.length_cons], by rw [List.findIdx?_cons, ih.2]; rfl⟩
theorem assign_names {P : Unit → Shared → Prop} {E : Value → Shared → Prop} {xs : List (String × Pos)} : ∀ {vs : List Value} {l : List V} {ρ ρ' : Loc} {s : Shared}, RVs c s.heap vs l → bindAll (xs.map (·.1)) l ρ = some ρ' → (∀ x ∈ xs, isSto (env.scope.names.lookup (Str.ofString x.1)) = true) → St c d hd A fs env ρ μ s →
    (∀ s', StepS c fs env μ μ s s' → St c d hd A fs env ρ' μ s' → P () s') → wpAny (model c.prog c.w) A (assignInOrder ((assignEach (xs.map fun x => Expr.Name (Str.ofString x.1) x.2) env).map (·.2)) vs) P E s := by
  induction xs with
  | nil =>
    intro vs l ρ ρ' s hr hb _ S h
    cases l with
    | nil => cases hr.inv; cases hb; exact wpAny_pure (h _ .refl S)
    | cons _ _ => first | exact ns hb | exact fb hb | cases hb
  | cons x xs ih =>
    intro vs l ρ ρ' s hr hb ok S h
    cases l with
    | nil => first | exact ns hb | exact fb hb | cases hb
    | cons v l =>
    obtain ⟨_, _, rfl, hv, hr⟩ := hr.inv
    refine wpAny_bind (wpAny_holding (wpAny_assign_Name (store_sound S (sto (ok x (.head _))) hv fun s₁ st₁ S₁ => ?_)))
    exact ih (st₁.rvs S hr) hb (fun y hy => ok y (.tail _ hy)) S₁ fun s' st' S' => h s' (st₁.trans st') S'
theorem ss_unpack (G : Good c sg) {xs : List (String × Pos)} {e : E} {k : Nat} {pt p : Pos} : SS c sg d (.unpack xs e k pt p) := by
  intro nr hd A fs env ρ μ s Q X ok tp h S
  simp only [okS_expr, okS_assign, okS_setattr, okS_setitem, okS_unpack, okS_ite, okS_for, okS_ret, okS_raise, okS_try, Bool.and_eq_true, List.all_eq_true] at ok
  obtain ⟨h0, h⟩ := h
  obtain ⟨⟨ok1, ok2⟩, ok3⟩ := ok
  cases e with
  | loc x px =>
    refine Assign_Tuple (ev G ok1 .refl h S fun rv v μ₁ s₁ st hv q => ?_)
    replace q := asT_of q
    obtain ⟨l, rfl, q⟩ := q
    split at q
    · rename_i ρ' hb
      obtain ⟨t, o, us, n, rfl, ho, hc, hdd, hl, hz⟩ := hv.inv
      have hln : xs.length = us.size := by
        have : ∀ (ys : List String) (l : List V) (ρ ρ' : Loc), bindAll ys l ρ = some ρ' → ys.length = l.length := by
          intro ys
          induction ys with
          | nil => intro l ρ ρ' e; cases l with
            | nil => rfl
            | cons _ _ => first | exact ns e | exact fb e | cases e
          | cons y ys ih => intro l ρ ρ' e; cases l with
            | nil => first | exact ns e | exact fb e | cases e
            | cons v l => rw [List.length_cons, List.length_cons, ih l _ _ e]
        have e1 := this _ _ _ _ hb
        rw [List.length_map] at e1
        rw [e1, ← Array.length_toList, hl.length]
      refine assign_Tuple_tuple ((S.step st).aok.handled h0) ⟨_, ho, hc, n, hdd⟩ ((each_len env xs).1.trans hln) (each_len env xs).2 fun h' he => ?_
      have st₂ : Step c fs μ₁ μ₁ s₁ { s₁ with heap := h' } := Step.grows (n := s₁.toks) st.rel fun b o e => he b o (Nat.ne_of_lt (Heap.lt_size e)) e
      exact assign_names (hl.step st.rel st₂) hb ok3 ((S.step st).step st₂) fun s' st' S' => ⟨.next, ρ', μ₁, (st.trans st₂).toS.trans st', S', .next, q⟩
    · exact q.elim
  | _ => first | exact ns ok2 | exact fb ok2 | cases ok2
end
end Mine

set_option autoImplicit false
namespace Mine
set_option linter.unusedVariables false
set_option linter.unusedSimpArgs false
open PySem PySem.W PySem.Calls PyProof.Rows

section
variable {c : Ctx} {sg : Sig} {d : Nat} {nr hd : Bool} {A : Around} {fs : List Env} {env : Env} {ρ : Loc} {μ : Mem} {s : Shared} {X : String → Loc → Mem → Prop}

theorem ss_pass {p : Pos} : SS c sg d (.pass p) := by
  intro nr hd A fs env ρ μ s Q X ok tp h S
  exact wpAny_Pass ⟨.next, ρ, μ, .refl, S, .next, h⟩

theorem ss_ret (G : Good c sg) {e : E} {p : Pos} : SS c sg d (.ret e p) := by
  intro nr hd A fs env ρ μ s Q X ok tp h S
  simp only [okS_expr, okS_assign, okS_setattr, okS_setitem, okS_unpack, okS_ite, okS_for, okS_ret, okS_raise, okS_try] at ok
  exact wpAny_Return_some (ev G ok .refl h S fun rv v μ₁ s₁ st hv q => ⟨.ret v, ρ, μ₁, st.toS, S.step st, .ret hv, q⟩)

theorem sss {t : List S} (ht : ∀ x ∈ t, SS c sg d x) : SSs c sg d t := by
  induction t with
  | nil =>
    intro nr hd A fs env ρ μ s Q X ok tp h S
    exact wpAny_execs_nil ⟨.next, ρ, μ, .refl, S, .next, h⟩
  | cons t r ih =>
    intro nr hd A fs env ρ μ s Q X ok tp h S
    simp only [okSs, Bool.and_eq_true] at ok
    refine wpAny_execs_cons (wpAny_mono (ht t (.head _) nr hd A fs env ρ μ s _ X ok.1 tp h S) (fun fl s₁ hpp => ?_) fun _ _ x => x)
    obtain ⟨fl', ρ₁, μ₁, st, S₁, hfl, q⟩ := hpp
    cases hfl with
    | next => exact wpAny_mono (ih (fun x hx => ht x (.tail _ hx)) nr hd A fs env ρ₁ μ₁ s₁ Q X ok.2 tp q S₁) (fun _ _ p => p.after st) fun _ _ p => p.after st
    | ret hv => exact ⟨_, ρ₁, μ₁, st, S₁, .ret hv, q⟩

theorem ss_ite (G : Good c sg) {e : E} {t f : List S} {p : Pos} (ht : SSs c sg d t) (hf : SSs c sg d f) : SS c sg d (.ite e t f p) := by
  intro nr hd A fs env ρ μ s Q X ok tp h S
  simp only [okS_expr, okS_assign, okS_setattr, okS_setitem, okS_unpack, okS_ite, okS_for, okS_ret, okS_raise, okS_try, Bool.and_eq_true] at ok
  refine wpAny_If (wpAny_mono (soundT G e hd A fs env ρ μ s _ (fun b μ₁ => br b (wpSs sg (SC c d) hd t ρ μ₁ Q X) (wpSs sg (SC c d) hd f ρ μ₁ Q X)) _ (fun v μ₁ h₁ => h₁) ok.1.1 h S) (fun b s₁ hpp => ?_) fun _ _ x => XPost.toS S x)
  obtain ⟨μ₁, st, q⟩ := hpp
  cases b with
  | true =>
    rw [if_pos rfl]
    exact wpAny_mono (ht nr hd A fs env ρ μ₁ s₁ Q X ok.1.2 tp (q.1 rfl) (S.step st)) (fun _ _ p => p.after st.toS) fun _ _ p => p.after st.toS
  | false =>
    rw [if_neg Bool.false_ne_true]
    exact wpAny_mono (hf nr hd A fs env ρ μ₁ s₁ Q X ok.2 tp (q.2 rfl) (S.step st)) (fun _ _ p => p.after st.toS) fun _ _ p => p.after st.toS

theorem for_sound {it : Addr} {rv : Value} {v : V} {items : List V} {It : Nat → Heap → Prop} {x : String} {px : Pos} {body : List S} {Q : Fl → Loc → Mem → Prop} {μ₀ : Mem} {s₀ : Shared} (I : Iter c A it rv v items It) (hb : SSs c sg d body)
    (okx : isSto (env.scope.names.lookup (Str.ofString x)) = true) (okb : okSs sg nr env.scope.names body = true) (tp : Top fs env) (hn : s₀.heap.get? it = none) (hbase : c.base.get? it = none)
    (st : StepS c fs env μ₀ μ s₀ s) (S : St c d hd A fs env ρ μ s) (hv : RV c s.heap rv v) (hit : It 0 s.heap)
    (h : forI (fun μ' => itemsOf μ' v = some items) x (fun ρ' μ' k => wpSs sg (SC c d) hd body ρ' μ' k X) items ρ μ Q) :
    codeAny (model c.prog c.w) A (.forLoop (.Name (Str.ofString x) px) (.ref it) (toSs body) [] env) (fun r s' => match r with | .ok f => PostS c d hd A fs env μ₀ s₀ Q f s' | .error e => XPostS c d hd A fs env true μ₀ s₀ X e s') s := by
  obtain ⟨J, j0, jst, jturn, jfin⟩ := h
  refine codeAny_forLoop (fun n s => ∃ k ρ μ, n = items.length - k ∧ k ≤ items.length ∧ StepS c fs env μ₀ μ s₀ s ∧ St c d hd A fs env ρ μ s ∧ RV c s.heap rv v ∧ It k s.heap ∧ J k ρ μ)
    (fun n s hpp => ?_) items.length ⟨0, ρ, μ, rfl, Nat.zero_le _, st, S, hv, hit, j0⟩
  obtain ⟨k, ρ, μ, hk, hkl, st, S, hv, hit, h⟩ := hpp
  cases hk' : items[k]? with
  | none =>
    have : k = items.length := Nat.le_antisymm hkl (List.getElem?_eq_none_iff.mp hk')
    refine I.fin k s μ _ _ hk' (jst _ _ _ h) S.rel hv hit fun h' x => ?_
    subst this
    exact wpAny_execs_nil ⟨.next, ρ, μ, st.it (n := s.toks) x hn, S.ext (n := s.toks) x hbase (I.obj _ _ hit), .next, jfin _ _ h⟩
  | some w =>
    have hlt : k < items.length := (List.getElem?_eq_some_iff.mp hk').1
    refine I.item k w s μ _ _ hk' (jst _ _ _ h) S.rel hv hit fun rw_ h' n' x hit' hw => ?_
    have ho := I.obj k _ hit
    have S₁ := S.ext (n := n') x hbase ho
    have st₁ := st.it (n := n') x hn
    refine wpAny_assign_Name (store_sound S₁ (sto okx) (hw.monoV (monoV_ext x ho)) fun s₂ st₂ S₂ => ?_)
    refine wpAny_mono (hb nr hd A fs env _ μ s₂ _ _ okb tp (jturn k w ρ μ hk' h) S₂) (fun fl s₃ hpp => ?_) fun re s' y => y.noted fun s'' y' => y'.after (st₁.trans st₂)
    obtain ⟨fl', ρ₃, μ₃, st₃, S₃, hfl, q⟩ := hpp
    have st₁₃ := st₂.trans st₃
    cases hfl with
    | next => exact ⟨items.length - (k + 1), by omega, k + 1, ρ₃, μ₃, rfl, hlt, st₁.trans st₁₃, S₃, st₁₃.rv S₁ (hv.monoV (monoV_ext x ho)), I.keep _ _ _ hit' (st₁₃.fields S₁ (I.obj _ _ hit')), q⟩
    | ret hr => exact ⟨_, ρ₃, μ₃, st₁.trans st₁₃, S₃, .ret hr, q⟩

end
end Mine

set_option autoImplicit false
namespace Mine
set_option linter.unusedVariables false
set_option linter.unusedSimpArgs false
open PySem PySem.W PySem.Calls PyProof.Rows

section
variable {c : Ctx} {sg : Sig} {d : Nat} {nr hd : Bool} {A : Around} {fs : List Env} {env : Env} {ρ : Loc} {μ : Mem} {s : Shared} {X : String → Loc → Mem → Prop}

theorem ss_for (G : Good c sg) {x : String} {e : E} {body : List S} {px p : Pos} (hb : SSs c sg d body) : SS c sg d (.for_ x e body px p) := by
  intro nr hd A fs env ρ μ s Q X ok tp h S
  simp only [okS_expr, okS_assign, okS_setattr, okS_setitem, okS_unpack, okS_ite, okS_for, okS_ret, okS_raise, okS_try, Bool.and_eq_true] at ok
  obtain ⟨h0, h⟩ := h
  refine wpAny_For (ev G ok.1.1 .refl h S fun rv v μ₁ s₁ st hv q => ?_) (fun x => by cases e <;> rfl)
  split at q
  · rename_i items hi
    refine iter_sound (fs := fs) (S.aok.handled h0) st.rel hv hi fun it s₂ It I hit hn st₂ => ?_
    have hb' : c.base.get? it = none := by
      cases z : c.base.get? it with
      | none => rfl
      | some o => have := st.rel.base it o z; rw [hn] at this; cases this
    have hn' : s.heap.get? it = none ∨ True := .inr trivial
    refine codeAny_mono (for_sound (X := X) (μ₀ := μ₁) (s₀ := s₁) I hb ok.1.2 ok.2 tp hn hb' st₂.toS ((S.step st).step st₂) (hv.step st.rel st₂) hit q) fun r s' hr => ?_
    cases r with
    | error e => exact (XPostS.after st.toS hr).back
    | ok f => exact PostS.after st.toS hr
  · exact q.elim
end
end Mine

set_option autoImplicit false
namespace Mine
set_option linter.unusedVariables false
set_option linter.unusedSimpArgs false
open PySem PySem.W PySem.Calls PyProof.Rows

section
variable {c : Ctx} {sg : Sig} {d : Nat} {nr hd : Bool} {A : Around} {fs : List Env} {env : Env} {ρ : Loc} {μ : Mem} {s : Shared} {X : String → Loc → Mem → Prop}

theorem ss_raise (G : Good c sg) {n m : String} {pf pm pc p : Pos} : SS c sg d (.raise n m pf pm pc p) := by
  intro nr hd A fs env ρ μ s Q X ok tp h S
  simp only [okS_expr, okS_assign, okS_setattr, okS_setitem, okS_unpack, okS_ite, okS_for, okS_ret, okS_raise, okS_try, Bool.and_eq_true, Bool.not_eq_true', beq_iff_eq, bne_iff_ne] at ok
  obtain ⟨⟨⟨hnr, hin⟩, hk⟩, hdb⟩ := ok
  obtain ⟨C, hC⟩ := G.excs n (by simpa using hin)
  obtain ⟨e1, e2⟩ := G.exc n C hC
  obtain ⟨pp, loose, mg, mb, T⟩ := G.top
  have O := own_of_in G.X T e1 e2
  obtain ⟨tl, N, nm, q, bs, hdct, sn, sub, ab, col, dd, k0, k1, k2, k3, k5, mN, oC, hN, hni, TL⟩ := O.obj
  refine wpAny_Raise_call_subT (C := C) (nm := nm) (q := q) (N := N) (bs := bs) (bm := tl) (hdct := hdct) (sn := sn) (sub := sub) (ab := ab) (col := col) (dd := dd) (k0 := k0) (k1 := k1) (k2 := k2) (k3 := k3) (k5 := k5)
    PySem.F.excBase_ValueError (mN := mN) (TL.hasType PySem.F.excBase_ValueError.hasBase) (S.aok.handled h.1) rfl hni (name_glob G S.er S.rel hk hdb e1 ⟨rfl, ?_⟩)
  refine Calls.evalArgs_plain (Calls.spliced_cons (wpAny_Constant_str (k := 0) (pos := pm) (Calls.spliced_nil ?_)))
  have st : Step c fs μ μ s { s with toks := s.toks + 1 } := Step.toks S.rel
  refine ⟨rfl, by show 1 ≤ sizeLine; decide, S.rel.base _ _ oC, hN.keeps S.rel.base, TL.keeps S.rel.base, fun h' e hm => ?_⟩
  exact ⟨e, n, ρ, μ, μ, _, rfl, st.toS, S.step st, .inr ⟨hnr, rfl, rfl, rfl, rfl, C, _, hC, hm⟩, h.2⟩

structure InAir (c : Ctx) (fs : List Env) (μ μ' : Mem) (s s' : Shared) (x : String) (B : Heap) (C : Addr) : Prop where
  gens : s'.gens = s.gens
  drawn : s'.drawn = s.drawn
  os : s'.os = s.os
  kept : Kept (frs fs) μ μ' s.heap s'.heap
  hx : c.exc x = some C
  hr : Rel c μ' B
  hB : ∀ b o, s.heap.get? b = some o → μ b = none → b ∉ frs fs → B.get? b = some o

theorem InAir.land {e : Addr} {x : String} {μ' : Mem} {s' : Shared} {B h₅ : Heap} {C : Addr} {a0 : Value} (I : InAir c fs μ μ' s s' x B C) (S : St c d hd A fs env ρ μ s) (up : s'.heap.UpToSlots h₅) (hf : FlyC B fs e (.ref C) a0 h₅) :
    St c d hd A fs env ρ μ' { s' with heap := h₅ } ∧ StepS c fs env μ μ' s { s' with heap := h₅ } ∧ RV c h₅ (.ref e) (.exc x) := by
  obtain ⟨gens, drawn, os, kept, hx, hr, hB⟩ := I
  obtain ⟨f1, f2, f3, f4⟩ := id hf
  have slots : ∀ b o, s.heap.get? b = some o → μ b = none → (∀ vs, o.data ≠ .fields vs) → ∃ sl, h₅.get? b = some { o with slots := sl } := fun b o e hm hnf => by
    obtain ⟨_, sl, e', _⟩ := kept b o e hm
    obtain ⟨sl', e''⟩ := up b _ e' hnf
    exact ⟨sl', e''⟩
  have notfr : ∀ b o, s.heap.get? b = some o → (∃ vs, o.data = .fields vs) → b ∉ frs fs := fun b o e ⟨vs, hd⟩ hb => by
    obtain ⟨_, o', ho', hd'⟩ := S.aok.fun_.mem hb
    rw [e] at ho'; cases ho'; exact hd' vs hd
  have k : ∀ b o, s.heap.get? b = some o → RK o → ∃ sl, h₅.get? b = some { o with slots := sl } ∧ ((∃ vs, o.data = .fields vs) → sl = o.slots) := fun b o e q => by
    rcases q with ⟨q, vs, n, hd⟩ | ⟨_, vs, hd⟩
    · obtain ⟨sl, e'⟩ := slots b o e (S.rel.none_of_cls e q (by decide) (by decide)) (fun vs' q' => by rw [hd] at q'; cases q')
      exact ⟨sl, e', fun ⟨vs', q'⟩ => by rw [hd] at q'; cases q'⟩
    · exact ⟨o.slots, f1 _ _ (hB b o e (S.rel.none_of_fields e hd) (notfr b o e ⟨vs, hd⟩)), fun _ => rfl⟩
  obtain ⟨m, hns, hnm⟩ := S.er.names
  obtain ⟨oL, esL, epL, hoL, hdL, rL⟩ := id hns
  have cellk : ∀ ca w, μ ca = none → s.heap.IsCell ca w → h₅.IsCell ca w := fun ca w hm ⟨o, ho, hd⟩ => by
    obtain ⟨sl, e'⟩ := slots ca o ho hm (fun vs q => by rw [hd] at q; cases q)
    exact ⟨_, e', hd⟩
  refine ⟨⟨hr.keeps f1, ⟨S.er.kind, S.er.glob, S.er.blt, (kept _ _ hoL S.er.priv).1, S.er.new, fun y ca e => ?_, S.er.inj, S.er.has, m, ?_, fun y w e => ?_⟩, ⟨S.aok.frames, S.aok.room, S.aok.units, S.aok.handled, funFrames_base hr.base f3, fun L hL => ?_, fun L hL => (by obtain ⟨o, es, n, ho, hd⟩ := S.aok.dicts L hL; obtain ⟨sl, e'⟩ := slots L o ho (S.aok.priv L hL) (fun vs q => by rw [hd] at q; cases q); exact ⟨_, es, n, e', hd⟩)⟩, S.room, S.units, S.top⟩, ⟨gens, drawn, os, fun b o e hm hp => ?_⟩, ?_⟩
  · obtain ⟨⟨w, hw⟩, h1, h2⟩ := S.er.cells y ca e
    obtain ⟨o, ho, hd⟩ := id hw
    exact ⟨⟨w, cellk _ _ h1 hw⟩, (kept _ _ ho h1).1, h2⟩
  · obtain ⟨sl, e'⟩ := slots _ _ hoL S.er.priv (fun vs q => by rw [hdL] at q; cases q)
    exact ⟨_, esL, epL, e', hdL, rL⟩
  · rcases hnm y w e with ⟨h1, rw_, h2, h3⟩ | ⟨h1, ca, rw_, h2, h3, h4⟩
    · exact .inl ⟨h1, rw_, h2, h3.monoV k⟩
    · exact .inr ⟨h1, ca, rw_, h2, cellk _ _ (S.er.cells _ ca h2).2.1 h3, h4.monoV k⟩
  · obtain ⟨_, o, ho, _⟩ := S.aok.fun_.mem hL
    exact (kept L o ho (S.aok.priv L hL)).1
  · refine ⟨(kept b o e hm).1, ?_⟩
    by_cases hb : b ∈ frs fs
    · obtain ⟨_, o', ho', hd'⟩ := S.aok.fun_.mem hb
      rw [e] at ho'; cases ho'
      obtain ⟨sl, e'⟩ := slots b o e hm hd'
      exact ⟨sl, e', fun q => (q.elim (fun z => (z hb).elim) fun ⟨vs, z⟩ => (hd' vs z).elim)⟩
    · exact ⟨o.slots, f1 _ _ (hB b o e hm hb), fun _ => rfl⟩
  · obtain ⟨oe, vs, h1, h2, h3, _⟩   := hf.first
    exact .exc h1 h2 h3 hx

theorem St.mark {e : Addr} (S : St c d hd A fs env ρ μ s) : St c d true (A.mark (some (.ref e))) fs env ρ μ s := ⟨S.rel, S.er, ⟨S.aok.frames, S.aok.room, S.aok.units, nofun, S.aok.fun_, S.aok.priv, S.aok.dicts⟩, S.room, S.units, S.top⟩
theorem St.unmark {v : Option Value} (h0 : A.handled = none) (S : St c d true (A.mark v) fs env ρ μ s) : St c d hd A fs env ρ μ s := ⟨S.rel, S.er, ⟨S.aok.frames, S.aok.room, S.aok.units, fun q => h0, S.aok.fun_, S.aok.priv, S.aok.dicts⟩, S.room, S.units, S.top⟩

theorem handle_cons (G : Good c sg) {e : Addr} {x n : String} {as : Option Str} {body : List Stmt} {pc ph : Pos} {rest : List ExceptHandler} {Q : Flow → Shared → Prop} {E : Value → Shared → Prop} (S : St c d hd A fs env ρ μ s) (hin : n ∈ sg.excs)
    (hk : env.kindOf (Str.ofString n) = some .globalImplicit) (hdb : n ≠ "__debug__") (he : RV c s.heap (.ref e) (.exc x))
    (hy : isSub x n = true → codeAny (model c.prog c.w) (A.mark (some (.ref e))) (.handlers (.ref e) [.ExceptHandler none as body ph] env) (fun r s₂ => match r with
          | .ok f => (match as with
            | none => Q f s₂
            | some n => wpAny (model c.prog c.w) A (do bindName env n .none; unbindBehindTheSuite env n ph) (fun _ s₃ => Q f s₃) E s₂)
          | .error x => cameBackBy (model c.prog c.w) A env E x s₂) s)
    (hn : isSub x n = false → wpAny (model c.prog c.w) A (handleBy (.ref e) env rest) Q E s) :
    wpAny (model c.prog c.w) A (handleBy (.ref e) env (.ExceptHandler (some (.Name (Str.ofString n) pc)) as body ph :: rest)) Q E s := by
  obtain ⟨_, o, Cx, vs, ee, h1, h2, h3, h4⟩ := he.inv
  cases ee
  obtain ⟨C, hC⟩ := G.excs n hin
  obtain ⟨e1, e2⟩ := G.exc n C hC
  refine wpAny_handleBy_cons (codeAny_handlers_test (name_glob G S.er S.rel hk hdb e1 ?_)) (by intro q; cases q)
  have LT : Looks (model c.prog c.w) s.heap (typeOf (.ref e)) (.ref Cx) := by
    exact h2 ▸ (Looks.ld h1).andThen .now
  refine (exm_one (Kin G S.rel) LT (G.sub x n Cx C h4 hC)).here ?_
  cases q : isSub x n with
  | true => exact hy q
  | false => exact hn q

section
variable {e : Addr} {x : String} {μ' : Mem} {s' : Shared} {B h : Heap} {C : Addr} {a0 : Value} {Q : Fl → Loc → Mem → Prop} {E : Value → Shared → Prop} {b : S} {bs : List S} {ph : Pos}

theorem suite_sound (I : InAir c fs μ μ' s s' x B C) (S : St c d hd A fs env ρ μ s) (h0 : A.handled = none) (tp : Top fs env) (hb : SSs c sg d (b :: bs)) (ok : okSs sg nr env.scope.names (b :: bs) = true)
    (hw : wpSs sg (SC c d) true (b :: bs) ρ μ' Q fun _ _ _ => False) (up : s'.heap.UpToSlots h) (hf : FlyC B fs e (.ref C) a0 h) :
    codeAny (model c.prog c.w) (A.mark (some (.ref e))) (.handlers (.ref e) [.ExceptHandler none none (toSs (b :: bs)) ph] env) (fun r s₂ => match r with
      | .ok f => PostS c d hd A fs env μ s Q f s₂
      | .error x => cameBackBy (model c.prog c.w) A env E x s₂) { s' with heap := h } := by
  refine codeAny_handlers_suite (lands_againC hf fun h₆ hf₆ up₆ => ?_)
  obtain ⟨S₆, st₆, he₆⟩ := I.land S (up.trans up₆) hf₆
  refine wpAny_mono (hb nr true _ fs env ρ μ' _ Q _ ok tp hw S₆.mark) (fun fl s₂ hpp => ?_) fun _ _ y => y.no
  obtain ⟨fl', ρ₂, μ₂, st₂, S₂, hfl, q⟩ := hpp
  exact ⟨fl', ρ₂, μ₂, st₆.trans st₂, S₂.unmark h0, hfl, q⟩

theorem more_sound (G : Good c sg) (I : InAir c fs μ μ' s s' x B C) (S : St c d hd A fs env ρ μ s) (h0 : A.handled = none) (tp : Top fs env) {more : List (String × Pos × Mine.E × Pos × Pos)} : ∀ {h : Heap}, okMore sg env.scope.names more = true → moreW sg (SC c d) x ρ μ' Q more →
    s'.heap.UpToSlots h → FlyC B fs e (.ref C) a0 h → wpAny (model c.prog c.w) A (handleBy (.ref e) env (toMore more)) (PostS c d hd A fs env μ s Q) E { s' with heap := h } := by
  induction more with
  | nil => intro h _ hw _ _; exact hw.elim
  | cons m more ih =>
    obtain ⟨n, pc, r, pr, ph⟩ := m
    intro h ok hw up hf
    simp only [okMore, Bool.and_eq_true, beq_iff_eq, bne_iff_ne] at ok
    obtain ⟨⟨⟨⟨o1, o2⟩, o3⟩, o4⟩, o5⟩ := ok
    obtain ⟨S₅, st₅, he⟩ := I.land S up hf
    unfold moreW at hw
    refine handle_cons G S₅ (by simpa using o1) o2 o3 he (fun hy => ?_) fun hy => ?_
    · rw [if_pos hy] at hw
      refine suite_sound (sg := sg) (b := .ret r pr) (bs := []) (nr := false) I S h0 tp (sss fun t ht => ?_) (by simp only [okSs, okS_ret, o4, Bool.and_true]) ?_ up hf
      · rw [List.mem_singleton] at ht; subst ht; exact ss_ret G
      · exact hw
    · rw [if_neg (by rw [hy]; exact Bool.false_ne_true)] at hw
      exact ih o5 hw up hf
end

theorem ss_try (G : Good c sg) {body : List S} {more : List (String × Pos × E × Pos × Pos)} {p : Pos} (hb : SSs c sg d body) : SS c sg d (.try_ body more p) := by
  intro nr hd A fs env ρ μ s Q X ok tp hw S
  simp only [okS_try, Bool.and_eq_true] at ok
  obtain ⟨⟨o1, o8⟩, o9⟩ := ok
  obtain ⟨rfl, hw⟩ := hw
  have h0 := S.aok.handled rfl
  obtain ⟨outer, hfs, hfr⟩ := id tp
  cases more with
  | nil => exact fb o9
  | cons m more =>
    obtain ⟨n, pc, r, pr, ph⟩ := m
    refine wpAny_Try_except (wpAny_mono (hb true false A fs env ρ μ s Q _ o1 tp hw S) (fun fl s₁ hp => ?_) fun re s' hx => ?_)
    · obtain ⟨fl', ρ₁, μ₁, st, S₁, hfl, q⟩ := hp
      cases hfl with
      | next => exact wpAny_execs_nil ⟨_, ρ₁, μ₁, st, S₁, .next, q⟩
      | ret hv => exact ⟨_, ρ₁, μ₁, st, S₁, .ret hv, q⟩
    · obtain ⟨e, x, ρ₁, μ₁, μ', s₁, rfl, st, S₁, hfly, hq⟩ := hx
      rcases hfly with hfly | ⟨q, _⟩
      · obtain ⟨B, C, a0, hC, hf, hr, hB⟩ := hfly.there
        have I : InAir c fs μ₁ μ' s₁ s' x B C := ⟨hfly.gens, hfly.drawn, hfly.os, hfly.kept, hC, hr, hB⟩
        refine looks_onH (hfs ▸ S.aok.frames) hfr (hfs ▸ hf) fun h₄ hh₄ up₄ => ?_
        refine landsC hh₄ fun h₅ hf₅ up₅ => ?_
        have up := up₄.trans up₅
        rw [← hfs] at hf₅
        exact wpAny_mono (more_sound (s' := s') G I S₁ h0 tp o8 hq up hf₅) (fun _ _ y => y.after st) fun _ _ y => y
      · first | exact ns q | exact fb q | cases q

theorem soundSs (G : Good c sg) (t : List S) : SSs c sg d t :=
  sss (S.rec_1 (motive_1 := fun t => SS c sg d t) (motive_2 := fun l => ∀ t ∈ l, SS c sg d t) (fun e p => ss_expr G) (fun x e px p => ss_assign G) (fun o a e pa p => ss_setattr G) (fun o i e ps p => ss_setitem G) (fun xs e k pt p => ss_unpack G)
    (fun e t f p ht hf => ss_ite G (sss ht) (sss hf)) (fun x e b px p hb => ss_for G (sss hb)) (fun e p => ss_ret G) (fun n m pf pm pc p => ss_raise G) (fun b more p hb => ss_try G (sss hb)) (fun p => ss_pass)
    (fun _ h => nomatch h) (fun t l ht hl x hx => by
      rcases List.mem_cons.mp hx with rfl | hx
      · exact ht
      · exact hl x hx) t)
end
end Mine

set_option autoImplicit false
namespace Mine
set_option linter.unusedVariables false
set_option linter.unusedSimpArgs false
open PySem PySem.W PySem.Calls PyProof.Rows

structure Def (c : Ctx) (sg : Sig) (f : String) (ps : List String) (body : List S) : Prop where
  limit : c.base.NoLimit
  def_ : ∃ fa o fd, c.fn f = some fa ∧ c.base.get? fa = some o ∧ o.data = .func fd ∧ fd.body = .stmts (toSs body) ∧ fd.closure = [] ∧ fd.globals = mainGlobals ∧ fd.builtins = builtinsNs ∧ c.base.CodeRec fd.code fd.qualname ∧
    fd.scope.kind = .function ∧ fd.scope.isCoroutine = false ∧ fd.scope.isGenerator = false ∧ (∀ rvs : List Value, rvs.length = ps.length → bindArgs fd ⟨rvs, []⟩ = pure ((ps.map Str.ofString).zip rvs)) ∧
    (ps.all fun p => isSto (fd.scope.names.lookup (Str.ofString p))) = true ∧ okSs sg false fd.scope.names body = true

theorem cellsFrom_has {x : Str} (l : List (Str × NameKind)) (n : Nat) (acc : List (Str × Addr)) (h : l.lookup x = some .cell ∨ (acc.lookup x).isSome = true) : ((cellsFrom n l acc).lookup x).isSome = true := by
  induction l generalizing n acc with
  | nil =>
    rcases h with h | h
    · first | exact ns h | exact fb h | cases h
    · exact h
  | cons p r ih =>
    obtain ⟨y, k⟩ := p
    unfold cellsFrom
    by_cases hk : (k == NameKind.cell) = true
    · rw [if_pos hk]
      refine ih _ _ ?_
      by_cases e : (x == y) = true
      · refine .inr ?_
        simp only [List.lookup_cons, e]; rfl
      · have e' : (x == y) = false := by simpa using e
        simp only [List.lookup_cons, e'] at h ⊢
        exact h
    · rw [if_neg hk]
      refine ih _ _ ?_
      by_cases e : (x == y) = true
      · simp only [List.lookup_cons, e] at h
        rcases h with h | h
        · cases h; exact absurd rfl hk
        · exact .inr h
      · have e' : (x == y) = false := by simpa using e
        simp only [List.lookup_cons, e'] at h
        exact h

theorem apart_inj {cs : List (Str × Addr)} (h : cs.Pairwise fun x y => x.2 ≠ y.2) {x y : Str} {ca : Addr} (hx : (x, ca) ∈ cs) (hy : (y, ca) ∈ cs) : x = y := by
  induction h with
  | nil => first | exact ns hx | exact fb hx | cases hx
  | cons hd _ ih =>
    cases hx with
    | head => cases hy with
      | head => rfl
      | tail _ hy => exact absurd rfl (hd (y, ca) hy)
    | tail _ hx => cases hy with
      | head => exact absurd rfl (hd (x, ca) hx)
      | tail _ hy => exact ih hx hy

section
variable {c : Ctx} {sg : Sig} {d : Nat} {hd : Bool}

noncomputable def Has (c : Ctx) (k : Str → Option NameKind) (h : Heap) (m cm : Str → Option Value) (x : String) (v : V) : Prop :=
  (k (Str.ofString x) = some .local ∧ ∃ rv, m (Str.ofString x) = some rv ∧ RV c h rv v) ∨ (k (Str.ofString x) = some .cell ∧ ∃ rv, cm (Str.ofString x) = some rv ∧ RV c h rv v)

theorem binds_has {k : Str → Option NameKind} {h : Heap} {ps : List String} {vs : List V} {rvs : List Value} {ρ ρ' : Loc} {m cm : Str → Option Value} (hr : RVs c h rvs vs) (hb : bindAll ps vs ρ = some ρ') (hk : ∀ p ∈ ps, k (Str.ofString p) = some .local ∨ k (Str.ofString p) = some .cell)
    (hρ : ∀ x v, ρ x = some v → Has c k h m cm x v) : ∀ x v, ρ' x = some v → Has c k h (bindL k ((ps.map Str.ofString).zip rvs) m) (bindC k ((ps.map Str.ofString).zip rvs) cm) x v := by
  induction ps generalizing vs rvs ρ m cm with
  | nil =>
    cases vs with
    | nil => cases hr.inv; cases hb; exact hρ
    | cons _ _ => first | exact ns hb | exact fb hb | cases hb
  | cons p ps ih =>
    cases vs with
    | nil => first | exact ns hb | exact fb hb | cases hb
    | cons v vs =>
    obtain ⟨rv, rvs, rfl, hv, hr⟩ := hr.inv
    simp only [bindAll] at hb
    simp only [List.map_cons, List.zip_cons_cons, bindL, bindC]
    refine ih hr hb (fun q hq => hk q (.tail _ hq)) fun x w e => ?_
    unfold updL at e
    split at e
    · rename_i hx; subst hx; cases e
      rcases hk x (.head _) with hk | hk
      · exact .inl ⟨hk, rv, by rw [if_pos hk]; simp, hv⟩
      · exact .inr ⟨hk, rv, by rw [if_neg (by rw [hk]; nofun)]; simp, hv⟩
    · rename_i hx
      have hne : Str.ofString x ≠ Str.ofString p := fun q => hx (ofString_inj q)
      rcases hρ x w e with ⟨h1, rw_, h2, h3⟩ | ⟨h1, rw_, h2, h3⟩
      · refine .inl ⟨h1, rw_, ?_, h3⟩
        split
        · simp only [hne, if_false]; exact h2
        · exact h2
      · refine .inr ⟨h1, rw_, ?_, h3⟩
        split
        · exact h2
        · simp only [hne, if_false]; exact h2

theorem bindAll_length {ps : List String} {vs : List V} {ρ ρ' : Loc} (h : bindAll ps vs ρ = some ρ') : ps.length = vs.length := by
  induction ps generalizing vs ρ with
  | nil => cases vs with
    | nil => rfl
    | cons _ _ => first | exact ns h | exact fb h | cases h
  | cons _ ps ih => cases vs with
    | nil => first | exact ns h | exact fb h | cases h
    | cons _ vs => rw [List.length_cons, List.length_cons, ih h]

theorem sc_intro0 (G : Good c sg) {f : String} {ps : List String} {body : List S} (D : Def c sg f ps body) {vs : List V} {ρ₀ : Loc} {μ : Mem} {Q : V → Mem → Prop} {X : String → Mem → Prop} (hb : bindAll ps vs (fun _ => none) = some ρ₀)
    (h : ∀ A fs env s, okSs sg false env.scope.names body = true → Top fs env → St c d hd A fs env ρ₀ μ s → wpAny (model c.prog c.w) A (execs (toSs body) env) (PostS c d hd A fs env μ s fun fl _ μ' => match fl with | .ret v => Q v μ' | .next => Q .none μ') (XPostS c d hd A fs env false μ s fun x _ μ' => X x μ') s) : SC c (d + 1) hd f vs μ Q X := by
  obtain ⟨hlim, fa, o, fd, hfn, ho, hdata, hbody, hclo, hglob, hblt, hcd, hk, hco, hgen, hbind, hps, hok⟩ := D
  refine ⟨fa, hfn, fun A fs s rvs aok r hr => ?_⟩
  have hlen : rvs.length = ps.length := by rw [hr.length, bindAll_length hb]
  have room := aok.room
  have units := aok.units
  refine codeAny_call_function (by show A.depth < 1000; omega) (r.base _ _ ho) hdata hco hgen hbody (hcd.keeps r.base) ?_
  rw [hbind rvs hlen, hclo, hglob, hblt]
  refine wpAny_pure (wpAny_newFunctionEnv_cells hk (fun x hx => ?_) fun env he s₁ x => ?_)
  · obtain ⟨p, hp, e⟩ := List.mem_map.mp (List.of_mem_zip (a := x.1) (b := x.2) hx).1
    have := List.all_eq_true.mp hps p hp
    unfold isSto at this
    rw [← e]
    split at this
    · rename_i q; exact .inl q
    · rename_i q; exact .inr ⟨q, cellsFrom_has _ _ _ (.inl q)⟩
    · first | exact ns this | exact fb this | cases this
  subst he
  refine ⟨(hlim.keeps r.base).keeps x.toInCall.keep, codeAny_func ?_⟩
  obtain ⟨h₁, tk, rfl, _⟩ := x.done
  have keep := x.toInCall.keep
  have r₁ : Rel c μ h₁ := r.keeps keep
  have nL : s.heap.get? s.heap.objs.size = none := Heap.get?_none_of_le (Nat.le_refl _)
  have freeB : ∀ b, s.heap.get? b = none → c.base.get? b = none := fun b hb => by
    cases q : c.base.get? b with
    | none => rfl
    | some o => have := r.base b o q; rw [hb] at this; cases this
  have cellN : ∀ y ca, (cellsFrom (s.heap.objs.size + 1) fd.scope.names []).lookup y = some ca → s.heap.get? ca = none := fun y ca e =>
    Heap.get?_none_of_le (Nat.le_of_lt (x.above y ca (lookup_mem e)))
  obtain ⟨oL, esL, epL, hoL, hdL, rL⟩ := id x.toInCall.ns
  let env := newEnv fd.scope s.heap.objs.size mainGlobals (cellsFrom (s.heap.objs.size + 1) fd.scope.names []) (fd.qualname ++ ".<locals>.") (some fa) fd.code none builtinsNs
  have er : ER c env ρ₀ μ h₁ := by
    refine ⟨hk, rfl, rfl, r.free nL, freeB _ nL, fun y ca e => ?_, fun y z ca e1 e2 => apart_inj x.apart (lookup_mem e1) (lookup_mem e2), fun y hy => cellsFrom_has _ _ _ (.inl hy), _, x.toInCall.ns, fun y v e => ?_⟩
    · exact ⟨⟨_, x.cell y ca e⟩, r.free (cellN y ca e), freeB _ (cellN y ca e)⟩
    · have hr₁ : RVs c h₁ rvs vs := hr.mono r (.of_keeps fun b o e _ => keep b o e)
      have := binds_has (k := env.kindOf) (m := fun _ => none) (cm := fun _ => none) hr₁ hb (fun p hp => by
        have := List.all_eq_true.mp hps p hp
        exact sto this) (fun _ _ e => by cases e) y v e
      rcases this with ⟨h1, rv, h2, h3⟩ | ⟨h1, rv, h2, h3⟩
      · exact .inl ⟨h1, rv, h2, h3⟩
      · obtain ⟨ca, hca⟩ := Option.isSome_iff_exists.mp (cellsFrom_has (x := Str.ofString y) fd.scope.names (s.heap.objs.size + 1) [] (.inl h1))
        have hc := x.cell _ _ hca
        refine .inr ⟨.inl h1, ca, rv, hca, ?_, h3⟩
        rw [← h2]; exact hc
  have fnew : ∀ L ∈ frs fs, L ≠ s.heap.objs.size := fun L hL q => by
    obtain ⟨_, o, ho, _⟩ := aok.fun_.mem hL
    rw [q, nL] at ho; cases ho
  have frsE : frs (env :: fs) = s.heap.objs.size :: frs fs := rfl
  have aok' : AOK c d hd (A.deeper env) (env :: fs) μ h₁ := by
    refine ⟨?_, ?_, ?_, aok.handled, ?_, fun L hL => ?_, fun L hL => ?_⟩
    · show A.frames.map _ = _
      rw [aok.frames]; rfl
    · show A.depth + 1 + 3 * d < 900
      omega
    · show A.units + 3 + 100 * d + 200 < cLine
      omega
    · refine ⟨by show fd.scope.kind ≠ _; rw [hk]; nofun, ⟨s.heap.objs.size, oL, rfl, freeB _ nL, hoL, fun vs q => by rw [hdL] at q; cases q⟩, ?_⟩
      exact aok.fun_.of_keeps fun b o e _ => ⟨o, keep b o e, rfl⟩
    · rw [frsE] at hL
      rcases List.mem_cons.mp hL with rfl | hL
      · exact r.free nL
      · exact aok.priv L hL
    · rw [frsE] at hL
      rcases List.mem_cons.mp hL with rfl | hL
      · exact ⟨oL, _, _, hoL, hdL⟩
      · obtain ⟨o, es, n, ho, hd⟩ := aok.dicts L hL
        exact ⟨o, es, n, keep _ _ ho, hd⟩
  have S₁ : St c d hd (A.deeper env) (env :: fs) env ρ₀ μ { s with heap := h₁, toks := tk } := ⟨r₁, er, aok', by show A.depth + 1 + 3 * d + 2 < 900; omega, by show A.units + 3 + 100 * d + 250 < cLine; omega, ⟨env, fs, _, rfl, rfl, rfl⟩⟩
  have npv : ∀ b o, s.heap.get? b = some o → ¬ pv env b := by
    rintro b o e (q | ⟨y, q⟩)
    · rw [q] at e; rw [show s.heap.get? env.locals = none from nL] at e; cases e
    · rw [cellN y b q] at e; cases e
  have nfr : ∀ b o, s.heap.get? b = some o → b ∉ frs fs → b ∉ frs (env :: fs) := fun b o e hb hb' => by
    rw [frsE] at hb'
    rcases List.mem_cons.mp hb' with q | q
    · rw [q, nL] at e; cases e
    · exact hb q
  have kept₁ : ∀ {μ₂ : Mem} {s₂ : Shared}, StepS c (env :: fs) env μ μ₂ { s with heap := h₁, toks := tk } s₂ → ∀ b o, s.heap.get? b = some o → μ b = none → μ₂ b = none ∧ ∃ sl, s₂.heap.get? b = some { o with slots := sl } ∧ (b ∉ frs fs ∨ (∃ vs, o.data = .fields vs) → sl = o.slots) := fun st b o e hm => by
    obtain ⟨m', sl, e', q⟩ := st.kept b o (keep b o e) hm (npv b o e)
    exact ⟨m', sl, e', fun z => q (z.imp (fun z => nfr b o e z) id)⟩
  refine wpAny_mono (h _ (env :: fs) env _ hok ⟨fs, rfl, rfl⟩ S₁) (fun fl s₂ hpp => ?_) fun re s' hx => ?_
  · obtain ⟨fl', ρ₂, μ₂, st, S₂, hfl, q⟩ := hpp
    have stp : Step c fs μ μ₂ s s₂ := ⟨st.gens, st.drawn, st.os, S₂.rel, kept₁ st⟩
    cases hfl with
    | next => exact ⟨.none, μ₂, stp, .none, q⟩
    | ret hv => exact ⟨_, μ₂, stp, hv, q⟩
  · obtain ⟨e, x', ρ₁, μ₁, μ', s₁, rfl, st, S', hfly, hq⟩ := hx
    have frE : (A.deeper env).frames = some (env :: fs) := aok'.frames
    rcases hfly with hfly | ⟨_, rfl, hg, hdr, hos, C, args, hC, hmade⟩
    · obtain ⟨B, C, a0, hC, hf, hrB, hB⟩ := hfly.there
      refine leaves_onH frE rfl hf fun h' hf' up => ?_
      have hB' : ∀ b o, s.heap.get? b = some o → μ b = none → b ∉ frs fs → B.get? b = some o := fun b o e hm hb => by
        obtain ⟨m₁, sl, e₁, q⟩ := kept₁ st b o e hm
        rw [q (.inl hb)] at e₁
        exact hB b o e₁ m₁ (nfr b o e hb)
      refine ⟨e, x', μ', rfl, ⟨hfly.gens.trans st.gens, hfly.drawn.trans st.drawn, hfly.os.trans st.os, ⟨B, C, a0, hC, hf'.h, hrB, hB'⟩, fun b o e hm => ?_⟩, hq⟩
      obtain ⟨m₁, sl, e₁, q₁⟩ := kept₁ st b o e hm
      obtain ⟨m₂, sl₂, e₂, q₂⟩ := hfly.kept b _ e₁ m₁
      refine ⟨m₂, ?_⟩
      by_cases hb : b ∈ frs fs
      · obtain ⟨_, o', ho', hd'⟩ := aok.fun_.mem hb
        rw [e] at ho'; cases ho'
        obtain ⟨sl₃, e₃⟩ := up b _ e₂ hd'
        exact ⟨sl₃, e₃, fun z => z.elim (fun z => (z hb).elim) fun ⟨vs, z⟩ => (hd' vs z).elim⟩
      · exact ⟨o.slots, hf'.1 _ _ (hB' b o e hm hb), fun _ => rfl⟩
    · have hrB : Rel c μ' (hideAll s₁.heap (frs (env :: fs))) := S'.rel.hide (fun a ha => (S'.aok.fun_.mem ha).1) S'.aok.priv S'.aok.dicts
      refine leaves_madeC frE rfl (fun b o q => of_hideAll _ q) (funFrames_hide S'.aok.fun_ fun env' he b hb => List.mem_filterMap.mpr ⟨env', he, hb⟩) hmade fun h' t hf' up => ?_
      have hB' : ∀ b o, s.heap.get? b = some o → μ b = none → b ∉ frs fs → (hideAll s₁.heap (frs (env :: fs))).get? b = some o := fun b o e hm hb => by
        obtain ⟨m₁, sl, e₁, q⟩ := kept₁ st b o e hm
        rw [q (.inl hb)] at e₁
        exact hideAll_get _ e₁ (nfr b o e hb)
      refine ⟨e, x', μ', rfl, ⟨hg.trans st.gens, hdr.trans st.drawn, hos.trans st.os, ⟨_, C, _, hC, hf'.h, hrB, hB'⟩, fun b o e hm => ?_⟩, hq⟩
      obtain ⟨m₁, sl, e₁, q₁⟩ := kept₁ st b o e hm
      refine ⟨m₁, ?_⟩
      by_cases hb : b ∈ frs fs
      · obtain ⟨_, o', ho', hd'⟩ := aok.fun_.mem hb
        rw [e] at ho'; cases ho'
        obtain ⟨sl₃, e₃⟩ := up b _ (hmade.keeps _ _ e₁) hd'
        exact ⟨sl₃, e₃, fun z => z.elim (fun z => (z hb).elim) fun ⟨vs, z⟩ => (hd' vs z).elim⟩
      · exact ⟨o.slots, hf'.1 _ _ (hB' b o e hm hb), fun _ => rfl⟩
theorem sc_intro (G : Good c sg) {f : String} {ps : List String} {body : List S} (D : Def c sg f ps body) {vs : List V} {ρ₀ : Loc} {μ : Mem} {Q : V → Mem → Prop} {X : String → Mem → Prop} (hb : bindAll ps vs (fun _ => none) = some ρ₀)
    (h : wpSs sg (SC c d) hd body ρ₀ μ (fun fl _ μ' => match fl with | .ret v => Q v μ' | .next => Q .none μ') (fun x _ μ' => X x μ')) : SC c (d + 1) hd f vs μ Q X :=
  sc_intro0 G D hb fun A fs env s ok tp S => soundSs G body false hd A fs env ρ₀ μ s _ _ ok tp h S
end
end Mine

set_option autoImplicit false
namespace Mine
set_option linter.unusedVariables false
set_option linter.unusedSimpArgs false
open PySem PySem.W PySem.Calls PyProof.Rows

noncomputable def fdOf (K : Frag) (fa : Addr) : Option FuncData := match K.lookup fa with
  | some o => (match o.data with | .func fd => some fd | _ => none)
  | none => none

theorem def_of {c : Ctx} {sg : Sig} {f : String} {ps : List String} {body : List S} {fa : Addr} (hK : c.K.In c.base) (hl : c.base.NoLimit) (hf : c.fn f = some fa)
    (h1 : (fdOf c.K fa).map (fun fd => fd.body) = some (.stmts (toSs body)))
    (h2 : (fdOf c.K fa).map (fun fd => (fd.closure, fd.globals, fd.builtins, fd.scope.kind, fd.scope.isCoroutine, fd.scope.isGenerator)) = some ([], mainGlobals, builtinsNs, .function, false, false))
    (h3 : (fdOf c.K fa).map (fun fd => codeIn c.K fd.code fd.qualname && ((ps.all fun p => isSto (fd.scope.names.lookup (Str.ofString p))) && okSs sg false fd.scope.names body)) = some true)
    (h5 : ∀ rvs : List Value, rvs.length = ps.length → (fdOf c.K fa).map (fun fd => bindArgs fd ⟨rvs, []⟩) = some (pure ((ps.map Str.ofString).zip rvs))) : Def c sg f ps body := by
  cases e : fdOf c.K fa with
  | none => rw [e] at h1; cases h1
  | some fd =>
    rw [e] at h1 h2 h3 h5
    simp only [Option.map_some, Option.some.injEq, Prod.mk.injEq, Bool.and_eq_true] at h1 h2 h3 h5
    unfold fdOf at e
    split at e
    · rename_i o ho
      split at e
      · rename_i fd' hd
        cases e
        exact ⟨hl, fa, o, fd, hf, hK _ _ ho, hd, h1, h2.1, h2.2.1, h2.2.2.1, codeRec_of hK h3.1, h2.2.2.2.1, h2.2.2.2.2.1, h2.2.2.2.2.2, h5, h3.2.1, h3.2.2⟩
      · first | exact ns e | exact fb e | cases e
    · first | exact ns e | exact fb e | cases e

theorem len1 {P : List Value → Prop} (h : ∀ a, P [a]) : ∀ l : List Value, l.length = 1 → P l := fun l e => by
  obtain ⟨a, rfl⟩ := List.length_eq_one_iff.mp e; exact h a
theorem lenS {n : Nat} {P : List Value → Prop} (h : ∀ a, ∀ l : List Value, l.length = n → P (a :: l)) : ∀ l : List Value, l.length = n + 1 → P l := fun l e => by
  cases l with
  | nil => first | exact ns e | exact fb e | cases e
  | cons a l => exact h a l (Nat.succ.inj e)
theorem len2 {P : List Value → Prop} (h : ∀ a b, P [a, b]) : ∀ l : List Value, l.length = 2 → P l := lenS fun a => len1 (h a)
theorem len3 {P : List Value → Prop} (h : ∀ a b c, P [a, b, c]) : ∀ l : List Value, l.length = 3 → P l := lenS fun a => len2 (h a)
theorem len4 {P : List Value → Prop} (h : ∀ a b c d, P [a, b, c, d]) : ∀ l : List Value, l.length = 4 → P l := lenS fun a => len3 (h a)
theorem forall_lookup {α β : Type} [BEq α] [LawfulBEq α] {P : α → β → Prop} {tab : List (α × β)} (h : ∀ p ∈ tab, P p.1 p.2) : ∀ x v, tab.lookup x = some v → P x v := fun x v e => h (x, v) (lookup_mem e)

noncomputable def chkCls (K : Frag) (C : Addr) : Bool := findIn K (.ref C) "__getattribute__" == some (some (.builtin "object.__getattribute__")) && findIn K (.ref C) "__getattr__" == some none &&
  findIn K (.ref C) "__setattr__" == some (some (.builtin "object.__setattr__")) && hasDictIn K C && plainOver K C
noncomputable def chkMeth (K : Frag) (clsT fnT : List (String × Addr)) (p : String × String) : Bool := match clsT.lookup p.1, fnT.lookup (p.1 ++ "." ++ p.2) with
  | some C, some f => findIn K (.ref C) (Str.ofString p.2) == some (some (.ref f)) && typeIn K (.ref f) == some (.type "function") && keepIn K (.ref f)
  | _, _ => false
noncomputable def chkFn (K : Frag) (fnT : List (String × Addr)) (f : String) : Bool := match fnT.lookup f with
  | some fa => nsIn K mainGlobals (Str.ofString f) == some (some (.ref fa)) && keepIn K (.ref fa)
  | none => false
noncomputable def chkNew (K : Frag) (clsT fnT : List (String × Addr)) (x : String) : Bool := match clsT.lookup x, fnT.lookup (x ++ ".__init__") with
  | some C, some fI => nsIn K mainGlobals (Str.ofString x) == some (some (.ref C)) && makesIn K C && keepIn K (.ref C) && findIn K (.ref C) "__init__" == some (some (.ref fI)) && typeIn K (.ref fI) == some (.type "function")
  | _, _ => false
noncomputable def chkConst (K : Frag) (p : String × V) : Bool := match p.2, nsIn K mainGlobals (Str.ofString p.1) with
  | .int i, some (some (.int j _)) => i == j
  | .str x, some (some (.str y _)) => x == y
  | .gd _, _ => true
  | _, _ => false
noncomputable def chkGood (K : Frag) (sg : Sig) (clsT excT fnT : List (String × Addr)) : Bool :=
  (clsT.all fun p => chkCls K p.2) && (clsT.all fun p => sg.attrs.all fun a => findIn K (.ref p.2) (Str.ofString a) == some none) && (sg.meths.all (chkMeth K clsT fnT)) && (sg.fns.all (chkFn K fnT)) && (sg.clss.all (chkNew K clsT fnT)) &&
  (("isinstance" :: bltNames ++ tyNames).all fun f => nsIn K mainGlobals (Str.ofString f) == some none) && (excT.all fun p => nsIn K mainGlobals (Str.ofString p.1) == some (some (.ref p.2)) && excIn K p.2 vErr "ValueError.__new__") &&
  (sg.excs.all fun x => (excT.lookup x).isSome) && (excT.all fun p => excT.all fun q => exmOne K (.ref p.2) (.ref q.2) == some (isSub p.1 q.1)) && (sg.consts.all (chkConst K))

noncomputable def ctxOf (prog : Program) (w : World) (K : Frag) (base : Heap) (clsT excT fnT : List (String × Addr)) : Ctx := ⟨prog, w, K, base, fun x => clsT.lookup x, fun x => excT.lookup x, fun x => fnT.lookup x⟩

inductive SdEs (P : Params) : List DictEntry → List (String × Int) → Prop
  | nil : SdEs P [] []
  | cons {k : String} {i : Int} {t t' : Tok} {es : List DictEntry} {kvs : List (String × Int)} : SdEs P es kvs → SdEs P (⟨PyData.keyHash P (Str.ofString k), .str (Str.ofString k) t, .int i t'⟩ :: es) ((k, i) :: kvs)
theorem SdEs.pairs {prog : Program} {w : World} {es : List DictEntry} {kvs : List (String × Int)} (h : SdEs w.params es kvs) : ∃ rs, Pairs (strKind prog w) es rs ∧ SdAre rs kvs ∧ (∀ e ∈ es, ∃ k, (strKind prog w).is k e.key = true ∧ e.hash = (strKind prog w).hash k) ∧ rs.map (·.1) = kvs.map fun q => Str.ofString q.1 := by
  induction h with
  | nil => exact ⟨[], .nil, .nil, (fun _ h => nomatch h), rfl⟩
  | @cons k i t t' es kvs h ih =>
    obtain ⟨rs, h1, h2, h3, h4⟩ := ih
    refine ⟨(Str.ofString k, .int i t') :: rs, .cons (strKind_is _ _ _ _) rfl h1, .cons h2, fun e he => ?_, by rw [List.map_cons, List.map_cons, h4]⟩
    rcases List.mem_cons.mp he with rfl | he
    · exact ⟨Str.ofString k, strKind_is _ _ _ _, rfl⟩
    · exact h3 e he
noncomputable def GdOk (prog : Program) (w : World) (K : Frag) (base : Heap) (x : String) (kvs : List (String × Int)) : Prop :=
  ∃ a rs, nsIn K mainGlobals (Str.ofString x) = some (some (.ref a)) ∧ base.DictOf (strKind prog w) a rs ∧ SdAre rs kvs ∧ (a == sysModules) = false
theorem gd_of {prog : Program} {w : World} {K : Frag} {base : Heap} {x : String} {kvs : List (String × Int)} {a : Addr} {es : List DictEntry} {ep : Nat} (X : K.In base) (h1 : nsIn K mainGlobals (Str.ofString x) = some (some (.ref a)))
    (h2 : K.lookup a = some { cls := .type "dict", data := .dict es.toArray ep }) (h3 : SdEs w.params es kvs) (h4 : (kvs.map (·.1)).Nodup) (h5 : (a == sysModules) = false) : GdOk prog w K base x kvs := by
  obtain ⟨rs, g1, g2, g3, g4⟩ := h3.pairs (prog := prog)
  refine ⟨a, rs, h1, ⟨_, es.toArray, ep, X _ _ h2, ⟨rfl, rfl, rfl⟩, rfl, fun e he => g3 e (by simpa using he), g1, ?_⟩, g2, h5⟩
  rw [g4]
  have : (kvs.map (·.1)).map Str.ofString = kvs.map (fun q => Str.ofString q.1) := by rw [List.map_map]; rfl
  rw [← this]
  exact List.pairwise_map.mpr (List.Pairwise.imp (fun h q => h (ofString_inj q)) h4)

theorem good_of {prog : Program} {w : World} {K : Frag} {base : Heap} {sg : Sig} {clsT excT fnT : List (String × Addr)} {p : Program} {loose : List Str} {mg mb : Str → Option Value} (X : K.In base) (T : TopRead p loose mg mb base) (h : chkGood K sg clsT excT fnT = true) (hgd : ∀ x kvs, sg.consts.lookup x = some (.gd kvs) → GdOk prog w K base x kvs) :
    Good (ctxOf prog w K base clsT excT fnT) sg := by
  unfold chkGood at h
  simp only [Bool.and_eq_true, List.all_eq_true] at h
  obtain ⟨⟨⟨⟨⟨⟨⟨⟨⟨h1, h2⟩, h3⟩, h4⟩, h5⟩, h6⟩, h7⟩, h8⟩, h9⟩, h10⟩ := h
  refine ⟨X, ⟨p, loose, mg, mb, T⟩, forall_lookup fun q hq => ?_, fun x C a hx ha => ?_, fun x C m hx hm => ?_, fun f hf => ?_, fun x hx => ?_, fun f hf => ?_, forall_lookup fun q hq => ?_, fun x hx => ?_, fun x y C D hx hy => ?_, fun x v hx => ?_⟩
  · have := h1 q hq
    simp only [chkCls, Bool.and_eq_true, beq_iff_eq] at this
    exact ⟨this.1.1.1.1, this.1.1.1.2, this.1.1.2, this.1.2, this.2⟩
  · exact beq_iff_eq.mp (h2 _ (lookup_mem hx) a ha)
  · have := h3 _ hm
    unfold chkMeth at this
    split at this
    · rename_i C' f e1 e2
      simp only [Bool.and_eq_true, beq_iff_eq] at this
      have hx' : clsT.lookup x = some C := hx
      rw [hx'] at e1; cases e1
      exact ⟨f, e2, this.1.1, this.1.2, this.2⟩
    · first | exact ns this | exact fb this | cases this
  · have := h4 f hf
    unfold chkFn at this
    split at this
    · rename_i fa e
      simp only [Bool.and_eq_true, beq_iff_eq] at this
      exact ⟨fa, e, this.1, this.2⟩
    · first | exact ns this | exact fb this | cases this
  · have := h5 x hx
    unfold chkNew at this
    split at this
    · rename_i C fI e1 e2
      simp only [Bool.and_eq_true, beq_iff_eq] at this
      exact ⟨C, fI, e1, this.1.1.1.1, this.1.1.1.2, this.1.1.2, e2, this.1.2, this.2⟩
    · first | exact ns this | exact fb this | cases this
  · exact beq_iff_eq.mp (h6 f hf)
  · have := h7 q hq
    simp only [Bool.and_eq_true, beq_iff_eq] at this
    exact this
  · exact Option.isSome_iff_exists.mp (h8 x hx)
  · exact beq_iff_eq.mp (h9 _ (lookup_mem hx) _ (lookup_mem hy))
  · have := h10 _ (lookup_mem hx)
    unfold chkConst at this
    split at this
    · rename_i i j t e1 e2
      have e1' : v = V.int i := e1
      subst e1'
      have := beq_iff_eq.mp this
      subst this
      exact ⟨_, e2, fun h => .int _ _⟩
    · rename_i i j t e1 e2
      have e1' : v = V.str i := e1
      subst e1'
      have := beq_iff_eq.mp this
      subst this
      exact ⟨_, e2, fun h => .str _ _⟩
    · rename_i kvs e1
      have e1' : v = V.gd kvs := e1
      subst e1'
      obtain ⟨a, rs, g1, g2, g3, g4⟩ := hgd x kvs hx
      exact ⟨_, g1, fun h => .gd g2 g3 g4⟩
    · first | exact ns this | exact fb this | cases this
end Mine

set_option autoImplicit false
namespace Mine
set_option linter.unusedVariables false
set_option linter.unusedSimpArgs false
open PySem PySem.W PySem.Calls PyProof.Rows

theorem top_sound {c : Ctx} {s₁ : Shared} {d : Nat} {fa l : Addr} {vs : List Value} {ns : List Int} {R : Result → Shared → Prop} (hb : c.base = s₁.heap) (hd : d ≤ 60) (hfn : c.fn "law" = some fa) (hL : s₁.heap.IsList l vs.toArray) (hI : IntsAre vs ns) (hn : ns.length ≤ lim)
    (h : SC c d false "law" [.frz ns] (fun _ => none) (fun v _ => v = .bool true) (fun _ _ => False))
    (hR : ∀ s', (∀ b o, s₁.heap.get? b = some o → s'.heap.get? b = some o) → s'.os = s₁.os → s'.gens = s₁.gens → R (.ok (.ret (.bool true))) s') :
    codeAny (model c.prog c.w) callerA (.call (.ref fa) ⟨[.ref l], []⟩) R s₁ := by
  obtain ⟨fa', hfn', h⟩ := h
  rw [hfn] at hfn'; cases hfn'
  obtain ⟨o, ho, hc, n, hdt⟩ := hL
  have aok : AOK c d false callerA [] (fun _ => none) s₁.heap := ⟨rfl, by show 1 + 300 + 3 * d < 900; omega, by show 4 + 100 * d + 200 < 9900; omega, fun _ => rfl, trivial, nofun, nofun⟩
  refine codeAny_mono (h callerA [] s₁ [.ref l] aok ⟨fun b o e => by rw [← hb]; exact e, nofun⟩ (.cons (.frz (by rw [hb]; exact ho) hc hdt (by simpa using hI) hn) .nil)) fun r s' hr => ?_
  rcases r with re | (_ | _ | _ | v)
  · obtain ⟨_, _, _, _, _, f⟩ := hr; exact f.elim
  · exact hr.elim
  · exact hr.elim
  · exact hr.elim
  · obtain ⟨v', μ', st, hv, rfl⟩ := hr
    cases hv
    refine hR s' (fun b o e => ?_) st.os st.gens
    exact st.kept.exact e rfl (by simp [frs])
end Mine

set_option autoImplicit false
namespace Mine
set_option linter.unusedVariables false
set_option linter.unusedSimpArgs false
open PySem PySem.W PySem.Calls PyProof.Rows

section
variable {c : Ctx} {sg : Sig} {d : Nat} {hd : Bool} {A : Around} {fs : List Env} {env : Env} {ρ : Loc} {μ : Mem} {s : Shared} {Q : V → Mem → Prop} {X : String → Mem → Prop}

theorem list_str_sound (G : Good c sg) {x0 : String} {p0 p1 : Pos} {es : List E} (ok : okEs sg env.scope.names es = true) (h : wpEs sg (SC c d) hd es ρ μ (fun vs μ₁ => newL μ₁ (.str (Str.ofString x0) :: vs) Q) X) (S : St c d hd A fs env ρ μ s) :
    wpAny (model c.prog c.w) A (eval (toE (.list (.str x0 p0 :: es) p1)) env) (fun rv s' => Post c fs μ s Q rv s' ∧ 0 < s'.toks) (XPost c fs μ s X) s := by
  refine List_ ?_
  rw [backTo_toEs]
  have st0 : Step c fs μ μ s { s with toks := s.toks + 1 } := Step.toks S.rel
  refine spliced_cons (wpAny_Constant_str (wpAny_up (wpAny_mono (ses (fun e _ => soundE G e) ok h (S.step st0)) (fun rvs s₁ hpp le => ?_) fun _ _ x _ => x.after st0)))
  obtain ⟨vs, μ₁, st, hvs, _, q⟩ := hpp
  have hr : RVs c s₁.heap (Value.str (Str.ofString x0) s.toks :: rvs) (.str (Str.ofString x0) :: vs) := .cons (.str _ _) hvs
  refine wpAny_newList ⟨(post_newL (n := s₁.toks) st.rel (by simpa using hr) q).after (st0.trans st), Nat.lt_of_lt_of_le (Nat.succ_pos _) le⟩ ?_
  have := newL_size (vs := (Value.str (Str.ofString x0) s.toks :: rvs).toArray) (by simpa using hr) q.1
  simpa using this

theorem repl_sound {l y z : String} {t : Str} {po py pz pa p : Pos} (ok : okE sg env.scope.names (.loc l po) = true) (hp : (pa.endLine == p.line) = true) (h0 : 0 < s.toks) (hz : (Str.ofString z).length ≤ 14) (hyz : (Str.ofString y == Str.ofString z) = false)
    (hl : ρ l = some (.str t)) (ht : t.length ≤ 1048576) (S : St c d hd A fs env ρ μ s) (q : Q (.str (Txt.replace t (Str.ofString y) (Str.ofString z))) μ) : wpAny (model c.prog c.w) A (eval (toE (.repl (.loc l po) y z py pz pa p)) env) (Post c fs μ s Q) (XPost c fs μ s X) s := by
  refine meth_eval (es := [.str y py, .str z pz]) (base_toE (.loc l po) _ env _ rfl) hp (show 2 < 20 by decide) (wpAny_up (wpAny_mono (se_loc hd A fs env ρ μ s (fun v μ₁ => v = .str t ∧ μ₁ = μ) X ok (by show optW (ρ l) μ _; rw [hl]; exact ⟨rfl, rfl⟩) S) (fun ra s₁ hpp le => ?_) fun _ _ x _ => x))
  obtain ⟨_, _, st, ha, rfl, rfl⟩ := hpp
  obtain ⟨u, rfl⟩ := ha.str_of
  with_reducible refine GM.of (.str t u) (typeIs_str s₁ t u) F.slot_str_replace F.type_str_replace (fun a e => nomatch e) ?_
  rw [backTo_toEs]
  refine PySem.Calls.callWith_builtin rfl (evalArgs_plain (spliced_cons (wpAny_Constant_str (spliced_cons (wpAny_Constant_str (spliced_nil ?_))))))
  have h1 : s₁.toks ≠ 0 := Nat.ne_of_gt (Nat.lt_of_lt_of_le h0 le)
  exact SC.replaceW h1 (Nat.succ_ne_zero _) (Nat.ne_of_lt (Nat.lt_succ_self _)) hyz ht hz fun t' k => ⟨_, _, st.trans (Step.toks (n := k) st.rel), .str _ _, q⟩

theorem okA_list {x : String} {es : List E} {q px : Pos} (ok : okA sg env.scope.names x (.list es q) px = true) : okEs sg env.scope.names es = true ∧ isSto (env.scope.names.lookup (Str.ofString x)) = true := by
  have ok : ((okEs sg env.scope.names es && decide (es.length < 1000)) && true && isSto (env.scope.names.lookup (Str.ofString x))) = true := ok
  rw [Bool.and_true, Bool.and_eq_true, Bool.and_eq_true] at ok
  exact ⟨ok.1.1, ok.2⟩
theorem norow2 (G : Good c sg) {nr : Bool} {x l y z : String} {v : V} {t : Str} {pl po py pz pa pr p3 p4 px p : Pos} {es : List E} {r : List S} {Qs : Fl → Loc → Mem → Prop} {Xs : String → Loc → Mem → Prop}
    (ok : okS sg nr env.scope.names (.assign x (.bin .Add (.loc x pl) (.list (.repl (.loc l po) y z py pz pa pr :: es) p3) p4) px p) = true) (okr : okSs sg nr env.scope.names r = true) (tp : Top fs env) (h0 : 0 < s.toks) (hz : (Str.ofString z).length ≤ 14) (hyz : (Str.ofString y == Str.ofString z) = false)
    (hx : ρ x = some v) (hl : ρ l = some (.str t)) (ht : t.length ≤ 1048576) (S : St c d hd A fs env ρ μ s)
    (h : wpEs sg (SC c d) hd es ρ μ (fun vs μ₁ => newL μ₁ (.str (Txt.replace t (Str.ofString y) (Str.ofString z)) :: vs) fun b μ₂ => binW .Add v b μ₂ fun w μ₃ => wpSs sg (SC c d) hd r (updL ρ x w) μ₃ Qs Xs) (fun e μ₁ => Xs e ρ μ₁)) :
    wpAny (model c.prog c.w) A (execs (toSs (.assign x (.bin .Add (.loc x pl) (.list (.repl (.loc l po) y z py pz pa pr :: es) p3) p4) px p :: r)) env) (PostS c d hd A fs env μ s Qs) (XPostS c d hd A fs env nr μ s Xs) s := by
  have ok : ((okE sg env.scope.names (.loc x pl) && ((okE sg env.scope.names (.loc l po) && pa.endLine == pr.line) && okEs sg env.scope.names es && decide ((E.repl (.loc l po) y z py pz pa pr :: es).length < 1000))) && true && isSto (env.scope.names.lookup (Str.ofString x))) = true := ok
  simp only [Bool.and_true, Bool.and_eq_true] at ok
  obtain ⟨⟨o1, ⟨⟨o2, o3⟩, o4⟩, _⟩, o5⟩ := ok
  refine wpAny_execs_cons (wpAny_Assign_Name ?_ (swaps_toE _ _ _ _ rfl))
  refine wpAny_BinOp (wpAny_up (wpAny_mono (se_loc hd A fs env ρ μ s (fun a μ₁ => v = a ∧ μ = μ₁) (fun e μ₁ => Xs e ρ μ₁) o1 (by show optW (ρ x) μ _; rw [hx]; exact ⟨rfl, rfl⟩) S) (fun ra s₁ hp le => ?_) fun _ _ y _ => XPost.toS S y))
  obtain ⟨_, _, st, ha, rfl, rfl⟩ := hp
  have S₁ := S.step st
  refine List_ ?_
  rw [backTo_toEs]
  refine spliced_cons (wpAny_mono (repl_sound (X := fun e μ₁ => Xs e ρ μ₁) o2 o3 (Nat.lt_of_lt_of_le h0 le) hz hyz hl ht S₁ (Q := fun w μ₁ => w = .str (Txt.replace t (Str.ofString y) (Str.ofString z)) ∧ μ = μ₁) ⟨rfl, rfl⟩) (fun rb s₂ hp => ?_) fun _ _ y => (XPost.toS S₁ y).after st.toS)
  obtain ⟨_, _, st₁, hb, rfl, rfl⟩ := hp
  have S₂ := S₁.step st₁
  have st02 := st.trans st₁
  refine wpAny_mono (ses (fun e _ => soundE G e) o4 h S₂) (fun rvs s₃ hp => ?_) fun _ _ y => (XPost.toS S₂ y).after st02.toS
  obtain ⟨vs, μ₁, st₂, hvs, _, q⟩ := hp
  have S₃ := S₂.step st₂
  have hr : RVs c s₃.heap (rb :: rvs) (.str (Txt.replace t (Str.ofString y) (Str.ofString z)) :: vs) := .cons (hb.step S₂.rel st₂) hvs
  have hz := newL_size (vs := (rb :: rvs).toArray) (by simpa using hr) q.1
  refine wpAny_newList ?_ (by simpa using hz)
  obtain ⟨b, μ₂, st₃, hb3, q⟩ := post_newL (fs := fs) (n := s₃.toks) st₂.rel (vs := (rb :: rvs).toArray) (by simpa using hr) q
  have S₄ := S₃.step st₃
  have ha4 := ((ha.step S₁.rel st₁).step S₂.rel st₂).step S₃.rel st₃
  refine wpAny_mono (bin_sound S₄.rel ha4 hb3 q S₄.aok) (fun rv s₅ hp => ?_) fun _ _ y => y
  obtain ⟨w, μ₃, st₄, hw, q⟩ := hp
  refine store_sound (S₄.step st₄) (sto o5) hw fun s₆ st₅ S₆ => ?_
  have stA := (((st02.trans st₂).trans st₃).trans st₄).toS.trans st₅
  exact wpAny_mono (soundSs G r nr hd A fs env _ μ₃ s₆ Qs Xs okr tp q S₆) (fun _ _ y => y.after stA) fun _ _ y => y.after stA
theorem norow_sound (G : Good c sg) {nr : Bool} {x0 x l y z : String} {t : Str} {p0 p1 px0 pp0 pl po py pz pa pr p3 p4 px p : Pos} {es0 es : List E} {r : List S} {Qs : Fl → Loc → Mem → Prop} {Xs : String → Loc → Mem → Prop}
    (ok : okSs sg nr env.scope.names (.assign x (.list (.str x0 p0 :: es0) p1) px0 pp0 :: .assign x (.bin .Add (.loc x pl) (.list (.repl (.loc l po) y z py pz pa pr :: es) p3) p4) px p :: r) = true) (tp : Top fs env) (hz : (Str.ofString z).length ≤ 14) (hyz : (Str.ofString y == Str.ofString z) = false)
    (hn : l ≠ x) (hl : ρ l = some (.str t)) (ht : t.length ≤ 1048576) (S : St c d hd A fs env ρ μ s)
    (h : wpEs sg (SC c d) hd es0 ρ μ (fun vs μ₁ => newL μ₁ (.str (Str.ofString x0) :: vs) fun v μ₂ => wpEs sg (SC c d) hd es (updL ρ x v) μ₂ (fun vs μ₁ => newL μ₁ (.str (Txt.replace t (Str.ofString y) (Str.ofString z)) :: vs) fun b μ₂ => binW .Add v b μ₂ fun w μ₃ => wpSs sg (SC c d) hd r (updL (updL ρ x v) x w) μ₃ Qs Xs) (fun e μ₁ => Xs e (updL ρ x v) μ₁)) (fun e μ₁ => Xs e ρ μ₁)) :
    wpAny (model c.prog c.w) A (execs (toSs (.assign x (.list (.str x0 p0 :: es0) p1) px0 pp0 :: .assign x (.bin .Add (.loc x pl) (.list (.repl (.loc l po) y z py pz pa pr :: es) p3) p4) px p :: r)) env) (PostS c d hd A fs env μ s Qs) (XPostS c d hd A fs env nr μ s Xs) s := by
  simp only [okSs, Bool.and_eq_true] at ok
  obtain ⟨ok1, ok2, ok3⟩ := ok
  obtain ⟨o1, o2⟩ := okA_list (x := x) (px := px0) ok1
  have o1 : (true && okEs sg env.scope.names es0) = true := o1
  refine wpAny_execs_cons (wpAny_Assign_Name (wpAny_mono (list_str_sound G (Bool.and_eq_true_iff.mp o1).2 h S) (fun rv s₁ hp => ?_) fun _ _ y => XPost.toS S y) (swaps_toE _ _ _ _ rfl))
  obtain ⟨⟨v, μ₁, st, hv, q⟩, h0⟩ := hp
  refine wpAny_up (store_sound (S.step st) (sto o2) hv fun s₂ st₂ S₂ le => ?_)
  have stA := st.toS.trans st₂
  exact wpAny_mono (norow2 G ok2 ok3 tp (Nat.lt_of_lt_of_le h0 le) hz hyz (by simp [updL]) (by rw [updL_at, if_neg hn]; exact hl) ht S₂ q) (fun _ _ y => y.after stA) fun _ _ y => y.after stA
end
end Mine

set_option autoImplicit false
namespace Mine
set_option linter.unusedVariables false
set_option linter.unusedSimpArgs false
open PySem

theorem sc_up {c : Ctx} {d d' : Nat} {hd : Bool} {f : String} {vs : List V} {μ : Mem} {Q : V → Mem → Prop} {X : String → Mem → Prop} (h : SC c d hd f vs μ Q X) (hdd : d ≤ d') : SC c d' hd f vs μ Q X := by
  obtain ⟨fa, hf, h⟩ := h
  refine ⟨fa, hf, fun A fs s rvs aok => h A fs s rvs ⟨aok.frames, ?_, ?_, aok.handled, aok.fun_, aok.priv, aok.dicts⟩⟩
  · have := aok.room; omega
  · have := aok.units; omega

noncomputable def fq (Q : V → Mem → Prop) : Fl → Loc → Mem → Prop := fun fl _ μ' => match fl with | .ret v => Q v μ' | .next => Q .none μ'
theorem fq_ret {Q : V → Mem → Prop} {v : V} {ρ : Loc} {μ : Mem} (h : Q v μ) : fq Q (.ret v) ρ μ := h
theorem fq_next {Q : V → Mem → Prop} {ρ : Loc} {μ : Mem} (h : Q .none μ) : fq Q .next ρ μ := h
theorem sq_next {R : Loc → Mem → Prop} {Q : Fl → Loc → Mem → Prop} {ρ : Loc} {μ : Mem} (h : R ρ μ) : sq R Q .next ρ μ := h
theorem sq_ret {R : Loc → Mem → Prop} {Q : Fl → Loc → Mem → Prop} {v : V} {ρ : Loc} {μ : Mem} (h : Q (.ret v) ρ μ) : sq R Q (.ret v) ρ μ := h

noncomputable def xW (X : String → Loc → Mem → Prop) (ρ : Loc) : String → Mem → Prop := fun x μ => X x ρ μ
noncomputable def fx (X : String → Mem → Prop) : String → Loc → Mem → Prop := fun x _ μ => X x μ
theorem call_in {c : Ctx} {sg : Sig} {d : Nat} {hd : Bool} (G : Good c sg) {f : String} {ps : List String} {body : List S} (D : Def c sg f ps body) {vs : List V} {ρ₀ : Loc} {μ : Mem} {Q : V → Mem → Prop} {X : String → Mem → Prop} (hb : bindAll ps vs (fun _ => none) = some ρ₀)
    (h : wpSs sg (SC c d) hd body ρ₀ μ (fq Q) (fx X)) : SC c (d + 1) hd f vs μ Q X := sc_intro G D hb h

noncomputable def setA (k : Mem → Prop) (a : String) (v w : V) (μ : Mem) : Prop := match w with
  | .ref x => (match μ x with
    | some (.inst _ d) => (match μ d with
      | some (.attrs fs) => fs.length < 900 ∧ k (updM μ d (.attrs (putA a v fs)))
      | _ => False)
    | _ => False)
  | _ => False
theorem setA_in {k : Mem → Prop} {μ : Mem} {x d : Addr} {cl : String} {fs : List (String × V)} {a : String} {v : V} (hx : μ x = some (.inst cl d)) (hd : μ d = some (.attrs fs)) (hz : fs.length < 900) (h : k (updM μ d (.attrs (putA a v fs)))) : setA k a v (.ref x) μ := by
  unfold setA; simp only [hx, hd]; exact ⟨hz, h⟩
noncomputable def setI (k : Mem → Prop) (v w j : V) (μ : Mem) : Prop := match w, j with
  | .ref x, .int i => (match μ x with
    | some (.list l) => 0 ≤ i ∧ i < l.length ∧ k (updM μ x (.list (l.set i.toNat v)))
    | _ => False)
  | _, _ => False
theorem setI_in {k : Mem → Prop} {μ : Mem} {x : Addr} {i : Int} {l : List V} {v : V} (hx : μ x = some (.list l)) (h0 : 0 ≤ i) (h1 : i < l.length) (h : k (updM μ x (.list (l.set i.toNat v)))) : setI k v (.ref x) (.int i) μ := by
  unfold setI; simp only [hx]; exact ⟨h0, h1, h⟩
noncomputable def lstK (Q : V → Mem → Prop) (m : String) (a : Addr) (vs : List V) (μ : Mem) : Prop := lstW m a vs μ Q
noncomputable def ownK (sc : Bool → Sc) (hd : Bool) (X : String → Mem → Prop) (Q : V → Mem → Prop) (f : String) (x : Addr) (vs : List V) (μ : Mem) : Prop := sc hd f (.ref x :: vs) μ Q X
noncomputable def methW (sg : Sig) (sc : Bool → Sc) (hd : Bool) (X : String → Mem → Prop) (ρ : Loc) (Q : V → Mem → Prop) (es : List E) (m : String) (v : V) (μ : Mem) : Prop := match calO sg μ v m with
  | some (.own f a) => wpEs sg sc hd es ρ μ (fun vs μ₂ => sc hd f (.ref a :: vs) μ₂ Q X) X
  | some (.lst m a) => wpEs sg sc hd es ρ μ (fun vs μ₂ => lstW m a vs μ₂ Q) X
  | some (.str m x) => wpEs sg sc hd es ρ μ (fun vs μ₂ => strW m x vs μ₂ Q) X
  | none => False
theorem meth_own {sg : Sig} {sc : Bool → Sc} {hd : Bool} {X : String → Mem → Prop} {ρ : Loc} {μ : Mem} {Q : V → Mem → Prop} {es : List E} {x d : Addr} {cl m : String} (f : String) {fs : List (String × V)} (hx : μ x = some (.inst cl d)) (hd' : μ d = some (.attrs fs)) (hn : fs.lookup m = none) (hm : sg.meths.contains (cl, m) = true) (hf : cl ++ "." ++ m = f)
    (h : wpEs sg sc hd es ρ μ (ownK sc hd X Q f x) X) : methW sg sc hd X ρ Q es m (.ref x) μ := by
  subst hf; unfold methW calO; simp only [hx, hd', hn, hm, Option.isNone_none, Bool.and_self, if_true]; exact h
theorem meth_lst {sg : Sig} {sc : Bool → Sc} {hd : Bool} {X : String → Mem → Prop} {ρ : Loc} {μ : Mem} {Q : V → Mem → Prop} {es : List E} {x : Addr} {m : String} {l : List V} (hx : μ x = some (.list l)) (hm : m = "append" ∨ m = "extend" ∨ m = "pop")
    (h : wpEs sg sc hd es ρ μ (lstK Q m x) X) : methW sg sc hd X ρ Q es m (.ref x) μ := by
  unfold methW calO; simp only [hx, hm, if_true]; exact h
noncomputable def strK (Q : V → Mem → Prop) (m : String) (x : Str) (vs : List V) (μ : Mem) : Prop := strW m x vs μ Q
theorem meth_str {sg : Sig} {sc : Bool → Sc} {hd : Bool} {X : String → Mem → Prop} {ρ : Loc} {μ : Mem} {Q : V → Mem → Prop} {es : List E} {x : Str} {m : String} (hm : m = "split" ∨ m = "upper" ∨ m = "join")
    (h : wpEs sg sc hd es ρ μ (strK Q m x) X) : methW sg sc hd X ρ Q es m (.str x) μ := by
  unfold methW calO; simp only [hm, if_true]; exact h
theorem k_own {sc : Bool → Sc} {hd : Bool} {X : String → Mem → Prop} {Q : V → Mem → Prop} {f : String} {x : Addr} {vs : List V} {μ : Mem} (h : sc hd f (.ref x :: vs) μ Q X) : ownK sc hd X Q f x vs μ := h
noncomputable def isiW (Q : V → Mem → Prop) (c : Cl) (v : V) (μ : Mem) : Prop := match isiO μ v c with | some b => Q (.bool b) μ | none => False
theorem isi_in {μ : Mem} {Q : V → Mem → Prop} {cl : Cl} {v : V} {b : Bool} (e : isiO μ v cl = some b) (h : Q (.bool b) μ) : isiW Q cl v μ := by unfold isiW; rw [e]; exact h

section
variable (sg : Sig) (sc : Bool → Sc) (hd : Bool) (X : String → Mem → Prop) (ρ : Loc) (Q : V → Mem → Prop)
noncomputable def binK (op : Operator) (a b : V) (μ : Mem) : Prop := binW op a b μ Q
noncomputable def bin1 (op : Operator) (r : E) (a : V) (μ : Mem) : Prop := wpE sg sc hd r ρ μ (binK Q op a) X
noncomputable def negK (v : V) (μ : Mem) : Prop := asInt v fun i => Q (.int (-i)) μ
noncomputable def notK (v : V) (μ : Mem) : Prop := tr v fun b => Q (.bool (!b)) μ
noncomputable def andK (es : List E) (v : V) (μ : Mem) : Prop := tr v fun b => br b (wpAnd sg sc hd es ρ μ Q X) (Q v μ)
noncomputable def orK (es : List E) (v : V) (μ : Mem) : Prop := tr v fun b => br b (Q v μ) (wpOr sg sc hd es ρ μ Q X)
noncomputable def cmpK (op : CmpOp) (a b : V) (μ : Mem) : Prop := cmpW op μ a b Q
noncomputable def cmp1 (op : CmpOp) (r : E) (a : V) (μ : Mem) : Prop := wpE sg sc hd r ρ μ (cmpK Q op a) X
noncomputable def c2c (op : CmpOp) (e : E) (b t : V) (μ : Mem) : Prop := tr t fun y => br y (wpE sg sc hd e ρ μ (cmpK Q op b) X) (Q t μ)
noncomputable def c2b (o₁ o₂ : CmpOp) (e : E) (a b : V) (μ : Mem) : Prop := cmpK (c2c sg sc hd X ρ Q o₂ e b) o₁ a b μ
noncomputable def c2a (o₁ o₂ : CmpOp) (b e : E) (a : V) (μ : Mem) : Prop := wpE sg sc hd b ρ μ (c2b sg sc hd X ρ Q o₁ o₂ e a) X
noncomputable def attrK (a : String) (v : V) (μ : Mem) : Prop := optW (getA μ v a) μ Q
noncomputable def subK (v j : V) (μ : Mem) : Prop := optW (subO μ v j) μ Q
noncomputable def sub1 (i : E) (v : V) (μ : Mem) : Prop := wpE sg sc hd i ρ μ (subK Q v) X
noncomputable def slL (v i : V) (μ : Mem) : Prop := asInt i fun i => sliceW μ v (some i) none Q
noncomputable def slL1 (l : E) (v : V) (μ : Mem) : Prop := wpE sg sc hd l ρ μ (slL Q v) X
noncomputable def slU (v i : V) (μ : Mem) : Prop := asInt i fun i => sliceW μ v none (some i) Q
noncomputable def slU1 (l : E) (v : V) (μ : Mem) : Prop := wpE sg sc hd l ρ μ (slU Q v) X
noncomputable def tupK (vs : List V) (μ : Mem) : Prop := Q (.tup vs) μ
noncomputable def listK (vs : List V) (μ : Mem) : Prop := newL μ vs Q
noncomputable def callK (f : String) (vs : List V) (μ : Mem) : Prop := sc hd f vs μ Q X
noncomputable def bltnK (f : String) (vs : List V) (μ : Mem) : Prop := bltnW hd f vs μ Q
noncomputable def newW (c : String) (vs : List V) (μ : Mem) : Prop := ∀ a d, μ a = none → μ d = none → d ≠ a →
      sc hd (c ++ ".__init__") (.ref a :: vs) (updM (updM μ d (.attrs [])) a (.inst c d)) (fun v μ₂ => (match v with | .none => True | _ => False) ∧ Q (.ref a) μ₂) X
noncomputable def consK (Q : List V → Mem → Prop) (v : V) (vs : List V) (μ : Mem) : Prop := Q (v :: vs) μ
noncomputable def es1 (Q : List V → Mem → Prop) (es : List E) (v : V) (μ : Mem) : Prop := wpEs sg sc hd es ρ μ (consK Q v) X
end

section
variable {sg : Sig} {sc : Bool → Sc} {hd : Bool} {X : String → Mem → Prop} {ρ : Loc} {μ : Mem} {Q : V → Mem → Prop}
theorem e_none {p : Pos} (h : Q .none μ) : wpE sg sc hd (.none p) ρ μ Q X := h
theorem e_bool {b : Bool} {p : Pos} (h : Q (.bool b) μ) : wpE sg sc hd (.bool b p) ρ μ Q X := h
theorem e_int {i : Int} {p : Pos} (h : Q (.int i) μ) : wpE sg sc hd (.int i p) ρ μ Q X := h
theorem e_str {x : String} {p : Pos} (h : Q (.str (Str.ofString x)) μ) : wpE sg sc hd (.str x p) ρ μ Q X := h
theorem e_loc {x : String} {v : V} {p : Pos} (e : ρ x = some v) (h : Q v μ) : wpE sg sc hd (.loc x p) ρ μ Q X := by show optW (ρ x) μ Q; rw [e]; exact h
theorem e_here {x : String} {v : V} {p : Pos} (h : Q v μ) : wpE sg sc hd (.loc x p) (updL ρ x v) μ Q X := e_loc (by simp [updL]) h
theorem e_glob {x : String} {v : V} {p : Pos} (e : sg.consts.lookup x = some v) (h : Q v μ) : wpE sg sc hd (.glob x p) ρ μ Q X := by show optW (sg.consts.lookup x) μ Q; rw [e]; exact h
theorem e_bin {op : Operator} {l r : E} {p : Pos} (h : wpE sg sc hd l ρ μ (bin1 sg sc hd X ρ Q op r) X) : wpE sg sc hd (.bin op l r p) ρ μ Q X := h
theorem k_bin {op : Operator} {r : E} {a : V} (h : wpE sg sc hd r ρ μ (binK Q op a) X) : bin1 sg sc hd X ρ Q op r a μ := h
theorem e_neg {e : E} {p : Pos} (h : wpE sg sc hd e ρ μ (negK Q) X) : wpE sg sc hd (.neg e p) ρ μ Q X := h
theorem k_neg {i : Int} (h : Q (.int (-i)) μ) : negK Q (.int i) μ := h
theorem e_not {e : E} {p : Pos} (h : wpE sg sc hd e ρ μ (notK Q) X) : wpE sg sc hd (.not e p) ρ μ Q X := h
theorem k_not {b : Bool} (h : Q (.bool (!b)) μ) : notK Q (.bool b) μ := h
theorem e_and {es : List E} {p : Pos} (h : wpAnd sg sc hd es ρ μ Q X) : wpE sg sc hd (.and es p) ρ μ Q X := h
theorem e_or {es : List E} {p : Pos} (h : wpOr sg sc hd es ρ μ Q X) : wpE sg sc hd (.or es p) ρ μ Q X := h
theorem a_one {e : E} (h : wpE sg sc hd e ρ μ Q X) : wpAnd sg sc hd [e] ρ μ Q X := h
theorem a_cons {e e' : E} {es : List E} (h : wpE sg sc hd e ρ μ (andK sg sc hd X ρ Q (e' :: es)) X) : wpAnd sg sc hd (e :: e' :: es) ρ μ Q X := h
theorem k_and {es : List E} {b : Bool} (h : br b (wpAnd sg sc hd es ρ μ Q X) (Q (.bool b) μ)) : andK sg sc hd X ρ Q es (.bool b) μ := h
theorem o_one {e : E} (h : wpE sg sc hd e ρ μ Q X) : wpOr sg sc hd [e] ρ μ Q X := h
theorem o_cons {e e' : E} {es : List E} (h : wpE sg sc hd e ρ μ (orK sg sc hd X ρ Q (e' :: es)) X) : wpOr sg sc hd (e :: e' :: es) ρ μ Q X := h
theorem k_or {es : List E} {b : Bool} (h : br b (Q (.bool b) μ) (wpOr sg sc hd es ρ μ Q X)) : orK sg sc hd X ρ Q es (.bool b) μ := h
theorem e_cmp {op : CmpOp} {l r : E} {p : Pos} (h : wpE sg sc hd l ρ μ (cmp1 sg sc hd X ρ Q op r) X) : wpE sg sc hd (.cmp op l r p) ρ μ Q X := h
theorem k_cmp {op : CmpOp} {r : E} {a : V} (h : wpE sg sc hd r ρ μ (cmpK Q op a) X) : cmp1 sg sc hd X ρ Q op r a μ := h
theorem e_cmp2 {o₁ o₂ : CmpOp} {a b e : E} {p : Pos} (h : wpE sg sc hd a ρ μ (c2a sg sc hd X ρ Q o₁ o₂ b e) X) : wpE sg sc hd (.cmp2 o₁ o₂ a b e p) ρ μ Q X := h
theorem k_c2a {o₁ o₂ : CmpOp} {b e : E} {a : V} (h : wpE sg sc hd b ρ μ (c2b sg sc hd X ρ Q o₁ o₂ e a) X) : c2a sg sc hd X ρ Q o₁ o₂ b e a μ := h
theorem k_c2b {o₁ o₂ : CmpOp} {e : E} {a b : V} (h : cmpK (c2c sg sc hd X ρ Q o₂ e b) o₁ a b μ) : c2b sg sc hd X ρ Q o₁ o₂ e a b μ := h
theorem k_c2c {op : CmpOp} {e : E} {b : V} {y : Bool} (h : br y (wpE sg sc hd e ρ μ (cmpK Q op b) X) (Q (.bool y) μ)) : c2c sg sc hd X ρ Q op e b (.bool y) μ := h
theorem e_attr {o : E} {a : String} {p : Pos} (h : wpE sg sc hd o ρ μ (attrK Q a) X) : wpE sg sc hd (.attr o a p) ρ μ Q X := h
theorem e_sub {o i : E} {p : Pos} (h : wpE sg sc hd o ρ μ (sub1 sg sc hd X ρ Q i) X) : wpE sg sc hd (.sub o i p) ρ μ Q X := h
theorem k_sub {i : E} {v : V} (h : wpE sg sc hd i ρ μ (subK Q v) X) : sub1 sg sc hd X ρ Q i v μ := h
theorem e_sliceL {o l : E} {ps p : Pos} (h : wpE sg sc hd o ρ μ (slL1 sg sc hd X ρ Q l) X) : wpE sg sc hd (.sliceL o l ps p) ρ μ Q X := h
theorem k_slL1 {l : E} {v : V} (h : wpE sg sc hd l ρ μ (slL Q v) X) : slL1 sg sc hd X ρ Q l v μ := h
theorem k_slL {v : V} {i : Int} (h : sliceW μ v (some i) none Q) : slL Q v (.int i) μ := h
theorem e_sliceU {o l : E} {ps p : Pos} (h : wpE sg sc hd o ρ μ (slU1 sg sc hd X ρ Q l) X) : wpE sg sc hd (.sliceU o l ps p) ρ μ Q X := h
theorem k_slU1 {l : E} {v : V} (h : wpE sg sc hd l ρ μ (slU Q v) X) : slU1 sg sc hd X ρ Q l v μ := h
theorem k_slU {v : V} {i : Int} (h : sliceW μ v none (some i) Q) : slU Q v (.int i) μ := h
theorem e_sliceLU {o l u : E} {ps p : Pos} (h : wpE sg sc hd o ρ μ (fun v μ₁ => wpE sg sc hd l ρ μ₁ (fun i μ₂ => wpE sg sc hd u ρ μ₂ (fun j μ₃ => asInt i fun i => asInt j fun j => sliceW μ₃ v (some i) (some j) Q) X) X) X) : wpE sg sc hd (.sliceLU o l u ps p) ρ μ Q X := h
theorem slice_t {l : List V} {i : Int} {hi : Option Int} (h1 : 1 ≤ i) (h2 : i ≤ l.length) (h3 : nn hi) (h : Q (.tup (cut (some i) hi l)) μ) : sliceW μ (.tup l) (some i) hi Q := ⟨h1, h2, h3, h⟩
theorem e_tup {es : List E} {k : Nat} {p : Pos} (h : wpEs sg sc hd es ρ μ (tupK Q) X) : wpE sg sc hd (.tup es k p) ρ μ Q X := h
theorem k_tup {vs : List V} (h : Q (.tup vs) μ) : tupK Q vs μ := h
theorem e_list {es : List E} {p : Pos} (h : wpEs sg sc hd es ρ μ (listK Q) X) : wpE sg sc hd (.list es p) ρ μ Q X := h
theorem k_list {vs : List V} (h : newL μ vs Q) : listK Q vs μ := h
theorem e_call {f : String} {es : List E} {pf p : Pos} (h : wpEs sg sc hd es ρ μ (callK sc hd X Q f) X) : wpE sg sc hd (.call f es pf p) ρ μ Q X := h
theorem k_call {f : String} {vs : List V} (h : sc hd f vs μ Q X) : callK sc hd X Q f vs μ := h
theorem e_new {f : String} {es : List E} {pf p : Pos} (h : wpEs sg sc hd es ρ μ (newW sc hd X Q f) X) : wpE sg sc hd (.new f es pf p) ρ μ Q X := h
theorem e_bltn {f : String} {es : List E} {pf p : Pos} (h : wpEs sg sc hd es ρ μ (bltnK hd Q f) X) : wpE sg sc hd (.bltn f es pf p) ρ μ Q X := h
theorem k_bltn {f : String} {vs : List V} (h : bltnW hd f vs μ Q) : bltnK hd Q f vs μ := h
theorem e_isi {e : E} {cl : Cl} {pf pc p : Pos} (h : wpE sg sc hd e ρ μ (isiW Q cl) X) : wpE sg sc hd (.isi e cl pf pc p) ρ μ Q X := h
theorem e_meth {o : E} {m : String} {es : List E} {pa p : Pos} (h : wpE sg sc hd o ρ μ (methW sg sc hd X ρ Q es m) X) : wpE sg sc hd (.meth o m es pa p) ρ μ Q X := h
theorem es_nil {Q : List V → Mem → Prop} (h : Q [] μ) : wpEs sg sc hd [] ρ μ Q X := h
theorem es_cons {e : E} {es : List E} {Q : List V → Mem → Prop} (h : wpE sg sc hd e ρ μ (es1 sg sc hd X ρ Q es) X) : wpEs sg sc hd (e :: es) ρ μ Q X := h
theorem k_es1 {Q : List V → Mem → Prop} {v : V} (h : Q [v] μ) : es1 sg sc hd X ρ Q [] v μ := h
theorem k_es {Q : List V → Mem → Prop} {es : List E} {v : V} (h : wpEs sg sc hd es ρ μ (consK Q v) X) : es1 sg sc hd X ρ Q es v μ := h
theorem k_cons {Q : List V → Mem → Prop} {v : V} {vs : List V} (h : Q (v :: vs) μ) : consK Q v vs μ := h

theorem asL_in {x : Addr} {l : List V} {k : Addr → List V → Prop} (hx : μ x = some (.list l)) (h : k x l) : asL μ (.ref x) k := by
  unfold asL; simp only [hx]; exact h
theorem tr_in {b : Bool} {k : Bool → Prop} (h : k b) : tr (.bool b) k := h
theorem br_t {A B : Prop} (h : A) : br true A B := ⟨fun _ => h, nofun⟩
theorem br_f {A B : Prop} (h : B) : br false A B := ⟨nofun, fun _ => h⟩
theorem br_nt {A B : Prop} (h : B) : br (!true) A B := ⟨nofun, fun _ => h⟩
theorem br_nf {A B : Prop} (h : A) : br (!false) A B := ⟨fun _ => h, nofun⟩
theorem br_d {p : Prop} [Decidable p] {A B : Prop} (h1 : p → A) (h2 : ¬ p → B) : br (decide p) A B := ⟨fun h => h1 (of_decide_eq_true h), fun h => h2 (of_decide_eq_false h)⟩
theorem br_nd {p : Prop} [Decidable p] {A B : Prop} (h1 : p → B) (h2 : ¬ p → A) : br (!decide p) A B := ⟨fun h => h2 (by simpa using h), fun h => h1 (by simpa using h)⟩
theorem br_dt {p : Prop} [Decidable p] {A B : Prop} (hp : p) (h : A) : br (decide p) A B := ⟨fun _ => h, fun q => absurd hp (of_decide_eq_false q)⟩
theorem br_df {p : Prop} [Decidable p] {A B : Prop} (hp : ¬ p) (h : B) : br (decide p) A B := ⟨fun q => absurd (of_decide_eq_true q) hp, fun _ => h⟩
theorem br_ndt {p : Prop} [Decidable p] {A B : Prop} (hp : p) (h : B) : br (!decide p) A B := br_nd (fun _ => h) fun q => absurd hp q
theorem br_ndf {p : Prop} [Decidable p] {A B : Prop} (hp : ¬ p) (h : A) : br (!decide p) A B := br_nd (fun q => absurd q hp) fun _ => h
theorem int_in {i : Int} {k : Int → Prop} (h : k i) : asInt (.int i) k := h
theorem getA_in {x d : Addr} {cl a : String} {fs : List (String × V)} {v : V} (hx : μ x = some (.inst cl d)) (hd : μ d = some (.attrs fs)) (hv : fs.lookup a = some v) (h : Q v μ) : attrK Q a (.ref x) μ := by unfold attrK getA; simp only [hx, hd, hv]; exact h
theorem sub_l {x : Addr} {i : Int} {l : List V} {v : V} (hx : μ x = some (.list l)) (hi : idx l i = some v) (h : Q v μ) : subK Q (.ref x) (.int i) μ := by unfold subK subO subI; simp only [hx, hi]; exact h
theorem sub_t {i : Int} {l : List V} {v : V} (hi : idx l i = some v) (h : Q v μ) : subK Q (.tup l) (.int i) μ := by unfold subK subO subI; simp only [hi]; exact h
theorem add_i {i j : Int} (h : Q (.int (i + j)) μ) : binK Q .Add (.int i) (.int j) μ := h
theorem sub_i {i j : Int} (h : Q (.int (i - j)) μ) : binK Q .Sub (.int i) (.int j) μ := h
theorem mul_i {i j : Int} (hb : i.natAbs < 2 ^ 63 ∨ j.natAbs < 2 ^ 63) (h : Q (.int (i * j)) μ) : binK Q .Mult (.int i) (.int j) μ := ⟨hb, h⟩
theorem div_i {i j : Int} (h0 : 0 < j) (h1 : j < 1000000000) (h : Q (.int (i / j)) μ) : binK Q .FloorDiv (.int i) (.int j) μ := ⟨h0, h1, h⟩
theorem mod_i {i j : Int} (h0 : 0 < j) (h : Q (.int (i % j)) μ) : binK Q .Mod (.int i) (.int j) μ := ⟨h0, h⟩
theorem pow_i {i j : Int} (h0 : 0 ≤ j) (h1 : j ≤ 1000) (h2 : i.natAbs < 2 ^ 63) (h : Q (.int (i ^ j.toNat)) μ) : binK Q .Pow (.int i) (.int j) μ := ⟨h0, h1, h2, h⟩
theorem cat_l {x y : Addr} {l k : List V} (hx : μ x = some (.list l)) (hy : μ y = some (.list k)) (h : newL μ (l ++ k) Q) : binK Q .Add (.ref x) (.ref y) μ := asL_in (k := fun _ l => asL μ (.ref y) fun _ k => newL μ (l ++ k) Q) hx (asL_in hy h)
theorem rep_l {x : Addr} {n : Int} {l : List V} (hx : μ x = some (.list l)) (h0 : 0 ≤ n) (h1 : n ≤ 1000000) (h2 : n.toNat * l.length ≤ lim) (h : newL μ (List.replicate n.toNat l).flatten Q) : binK Q .Mult (.ref x) (.int n) μ := asL_in (k := fun _ l => asInt (.int n) fun n => 0 ≤ n ∧ n ≤ 1000000 ∧ n.toNat * l.length ≤ lim ∧ newL μ (List.replicate n.toNat l).flatten Q) hx ⟨h0, h1, h2, h⟩
theorem newL_in {l : List V} (hz : l.length ≤ lim) (h : ∀ n, μ n = none → Q (.ref n) (updM μ n (.list l))) : newL μ l Q := ⟨hz, h⟩
theorem eq_i {i j : Int} (h : Q (.bool (decide (i = j))) μ) : cmpK Q .Eq (.int i) (.int j) μ := h
theorem ne_i {i j : Int} (h : Q (.bool (!decide (i = j))) μ) : cmpK Q .NotEq (.int i) (.int j) μ := h
theorem lt_i {i j : Int} (h : Q (.bool (decide (i < j))) μ) : cmpK Q .Lt (.int i) (.int j) μ := h
theorem le_i {i j : Int} (h : Q (.bool (decide (i ≤ j))) μ) : cmpK Q .LtE (.int i) (.int j) μ := h
theorem gt_i {i j : Int} (h : Q (.bool (decide (j < i))) μ) : cmpK Q .Gt (.int i) (.int j) μ := h
theorem ge_i {i j : Int} (h : Q (.bool (decide (j ≤ i))) μ) : cmpK Q .GtE (.int i) (.int j) μ := h
theorem cmp_in {op : CmpOp} {a b : V} {r : Bool} (e : cmpO op μ a b = some r) (h : Q (.bool r) μ) : cmpK Q op a b μ := by unfold cmpK cmpW; rw [e]; exact h
theorem len_l {x : Addr} {l : List V} (hx : μ x = some (.list l)) (h : Q (.int l.length) μ) : bltnW hd "len" [.ref x] μ Q := asL_in (k := fun _ l => Q (.int l.length) μ) hx h
theorem len_f {ns : List Int} (h : Q (.int ns.length) μ) : bltnW hd "len" [.frz ns] μ Q := h
theorem rng1 {b : Int} (h1 : b ≤ lim) (h2 : -2 ^ 62 < b) (h : Q (.rng 0 b 1) μ) : bltnW hd "range" [.int b] μ Q := ⟨h1, h2, h⟩
theorem app_l {x : Addr} {l : List V} {v : V} (hx : μ x = some (.list l)) (hz : l.length < lim) (h : Q .none (updM μ x (.list (l ++ [v])))) : lstK Q "append" x [v] μ := by unfold lstK lstW; exact asL_in hx ⟨hz, h⟩
theorem ext_l {x y : Addr} {l k : List V} (hx : μ x = some (.list l)) (hy : μ y = some (.list k)) (hn : y ≠ x) (hz : l.length + k.length ≤ lim) (h : Q .none (updM μ x (.list (l ++ k)))) : lstK Q "extend" x [.ref y] μ := by
  unfold lstK lstW
  exact asL_in hx (asL_in (k := fun b k => b ≠ x ∧ l.length + k.length ≤ lim ∧ Q .none (updM μ x (.list (l ++ k)))) hy ⟨hn, hz, h⟩)
theorem pop_l {x : Addr} {i : Int} {l : List V} {v : V} (hx : μ x = some (.list l)) (h0 : 0 ≤ i) (hv : l[i.toNat]? = some v) (h : Q v (updM μ x (.list (l.eraseIdx i.toNat)))) : lstK Q "pop" x [.int i] μ := by
  unfold lstK lstW
  refine asL_in hx (show 0 ≤ i ∧ _ from ⟨h0, ?_⟩)
  rw [hv]; exact h
theorem max_i {a b : Int} (h0 : hd = false) (h : Q (.int (max a b)) μ) : bltnW hd "max" [.int a, .int b] μ Q := ⟨h0, h⟩
theorem mul_s {x : Str} {n : Int} (h0 : MulOk x n) (h : Q (.str (Txt.mul x n)) μ) : binK Q .Mult (.str x) (.int n) μ := ⟨h0, h⟩
theorem upper_s {x : Str} (h0 : x.length ≤ lim) (h : Q (.str (Txt.upper x)) μ) : strK Q "upper" x [] μ := ⟨rfl, h0, h⟩
theorem min_i {a b : Int} (h0 : hd = false) (h : Q (.int (min a b)) μ) : bltnW hd "min" [.int a, .int b] μ Q := ⟨h0, h⟩
theorem slice_in {x : Addr} {l : List V} {lo hi : Option Int} (hx : μ x = some (.list l)) (h1 : nn lo) (h2 : nn hi) (h : newL μ (cut lo hi l) Q) (h3 : lo = none ∨ hi = none := by first | exact .inl rfl | exact .inr rfl) : sliceW μ (.ref x) lo hi Q := by
  unfold sliceW; simp only [hx]; exact ⟨h1, h2, h3, h⟩
theorem add_s {x y : Str} (h0 : x.length + y.length ≤ lim) (h : Q (.str (x ++ y)) μ) : binK Q .Add (.str x) (.str y) μ := ⟨h0, h⟩
theorem add_t {l k : List V} (h0 : l ≠ []) (h1 : k ≠ []) (h2 : (l ++ k).length ≤ lim) (h : Q (.tup (l ++ k)) μ) : binK Q .Add (.tup l) (.tup k) μ := ⟨h0, h1, h2, h⟩
theorem sub_s {x : Str} {i : Int} (h0 : 0 ≤ i ∧ i < x.length ∧ x.length ≤ lim) (h : Q (.str (Txt.item x i)) μ) : subK Q (.str x) (.int i) μ := by
  unfold subK subO subI; simp only [h0, and_self, if_true]; exact h
theorem sub_g {kvs : List (String × Int)} {x : Str} {i : Int} (e : sGet kvs x = some i) (h : Q (.int i) μ) : subK Q (.gd kvs) (.str x) μ := by
  unfold subK subO asSd; simp only [Option.bind_some, e, Option.map_some]; exact h
theorem notin_s {x y : Str} (h : Q (.bool (!Txt.contains y x)) μ) : cmpK Q .NotIn (.str x) (.str y) μ := h
theorem notin_g {kvs : List (String × Int)} {x : Str} (h : Q (.bool (!sIn kvs x)) μ) : cmpK Q .NotIn (.str x) (.gd kvs) μ := h
theorem deq_ss {x y : Str} (hx : PyData.strOk x = true) (hy : PyData.strOk y = true) : deq μ (.str x) (.str y) = some (decide (x = y)) := by
  unfold deq
  rw [show rd μ 8 (.str x) = some (.str x) from if_pos hx, show rd μ 8 (.str y) = some (.str y) from if_pos hy]
  rfl
theorem eq_s {x y : Str} (hx : PyData.strOk x = true) (hy : PyData.strOk y = true) (h : Q (.bool (decide (x = y))) μ) : cmpK Q .Eq (.str x) (.str y) μ := by
  unfold cmpK cmpW cmpO; simp only [deq_ss hx hy]; exact h
theorem ne_s {x y : Str} (hx : PyData.strOk x = true) (hy : PyData.strOk y = true) (h : Q (.bool (!decide (x = y))) μ) : cmpK Q .NotEq (.str x) (.str y) μ := by
  unfold cmpK cmpW cmpO; simp only [deq_ss hx hy, Option.map_some]; exact h
theorem slice_s {x : Str} {lo hi : Option Int} (h0 : x.length ≤ lim) (h : Q (.str (Txt.slice x lo hi)) μ) : sliceW μ (.str x) lo hi Q := ⟨h0, h⟩
theorem len_s {x : Str} (h0 : x.length ≤ lim) (h : Q (.int x.length) μ) : bltnW hd "len" [.str x] μ Q := ⟨h0, h⟩
theorem int_s {x : Str} {n : Int} (h0 : x.length ≤ 640) (e : intText? x = some n) (h : Q (.int n) μ) : bltnW hd "int" [.str x] μ Q := ⟨h0, by rw [e]; exact h⟩
theorem str_i {i : Int} (h0 : i.natAbs.log2 < 1920) (h : Q (.str (Str.ofString (toString i))) μ) : bltnW hd "str" [.int i] μ Q := ⟨h0, h⟩
theorem str_s {x : Str} (h : Q (.str x) μ) : bltnW hd "str" [.str x] μ Q := h
theorem tup_l {x : Addr} {l : List V} (hx : μ x = some (.list l)) (h : Q (.tup l) μ) : bltnW hd "tuple" [.ref x] μ Q := asL_in (k := fun _ l => Q (.tup l) μ) hx h
theorem split_s {x y : Str} (h0 : y.length ≠ 0) (h1 : x.length ≤ lim) (h : newL μ ((Txt.split x y).map V.str) Q) : strK Q "split" x [.str y] μ := ⟨h0, h1, h⟩
theorem join_s {x : Str} {a : Addr} {l : List V} {ts : List Str} (ha : μ a = some (.list l)) (e : txts l = some ts) (h0 : JoinOk x ts = true) (h : Q (.str (Txt.join x ts)) μ) : strK Q "join" x [.ref a] μ := by
  unfold strK strW
  refine asL_in (k := fun _ l => txtsW l fun ts => JoinOk x ts = true ∧ Q (.str (Txt.join x ts)) μ) ha ?_
  unfold txtsW; rw [e]; exact ⟨h0, h⟩
theorem isi_t {cl : Cl} {v : V} (e : isiO μ v cl = some true) (h : Q (.bool true) μ) : isiW Q cl v μ := isi_in e h
theorem isi_f {cl : Cl} {v : V} (e : isiO μ v cl = some false) (h : Q (.bool false) μ) : isiW Q cl v μ := isi_in e h
noncomputable def compW (sg : Sig) (sc : Bool → Sc) (hd : Bool) (X : String → Mem → Prop) (ρ : Loc) (Q : V → Mem → Prop) (elt : E) (x : String) (cs : List String) (ifs : List E) (v : V) (μ : Mem) : Prop := match itemsOf μ v with
  | some items => ∀ n, μ n = none → compI n (fun μ' => itemsOf μ' v = some items) (fun w μ₂ k => wpIf sg sc hd ifs (updL (capL cs ρ) x w) μ₂ fun b μ₃ =>
          br b (wpE sg sc hd elt (updL (capL cs ρ) x w) μ₃ (fun r μ' => k (some r) μ') X) (k none μ₃)) items (updM μ n (.list [])) (Q (.ref n))
  | none => False
theorem e_comp {elt it : E} {x : String} {cs : List String} {ifs : List E} {s : Scope} {px p : Pos} (h0 : hd = false) (h : wpE sg sc hd it ρ μ (compW sg sc hd X ρ Q elt x cs ifs) X) : wpE sg sc hd (.comp elt x cs it ifs s px p) ρ μ Q X := ⟨h0, h⟩
theorem comp_in {elt : E} {x : String} {cs : List String} {ifs : List E} {v : V} {items : List V} (e : itemsOf μ v = some items) (h : ∀ n, μ n = none → ∃ I : Nat → Mem → Prop, I 0 (updM μ n (.list [])) ∧ (∀ k μ, I k μ → itemsOf μ v = some items) ∧
    (∀ k w μ, items[k]? = some w → I k μ → wpIf sg sc hd ifs (updL (capL cs ρ) x w) μ fun b μ₃ => br b (wpE sg sc hd elt (updL (capL cs ρ) x w) μ₃ (fun r μ' => compT n (I (k + 1)) (some r) μ') X) (compT n (I (k + 1)) none μ₃)) ∧ ∀ μ, I items.length μ → Q (.ref n) μ) : compW sg sc hd X ρ Q elt x cs ifs v μ := by
  unfold compW
  rw [e]
  exact h
noncomputable def if1 (k : Bool → Mem → Prop) (v : V) (μ : Mem) : Prop := tr v fun b => k b μ
theorem if_nil {k : Bool → Mem → Prop} (h : k true μ) : wpIf sg sc hd [] ρ μ k := h
theorem if_one {e : E} {k : Bool → Mem → Prop} (h : wpE sg sc hd e ρ μ (if1 k) fun _ _ => False) : wpIf sg sc hd [e] ρ μ k := h
theorem itemsOf_new {n : Addr} {o : O} {v : V} {items : List V} (hn : μ n = none) (e : itemsOf μ v = some items) : itemsOf (updM μ n o) v = some items := by
  unfold itemsOf at e ⊢
  split at e
  · exact e
  · exact e
  · exact e
  · rename_i x
    have : (updM μ n o) x = μ x := by
      unfold updM
      split
      · rename_i q; subst q; rw [hn] at e; cases e
      · rfl
    rw [this]; exact e
  · first | exact ns e | exact fb e | cases e
theorem take_filter {α β : Type} (F : α → Option β) : ∀ (l : List α) (k : Nat) (w : α), l[k]? = some w → (l.take (k + 1)).filterMap F = (l.take k).filterMap F ++ (match F w with | some r => [r] | none => [])
  | [], k, w, h => by simp at h
  | a :: l, 0, w, h => by
    have : a = w := by simpa using h
    subst this
    simp only [List.take_succ_cons, List.take_zero, List.filterMap_nil, List.nil_append, List.filterMap_cons]
    cases F a <;> rfl
  | a :: l, k + 1, w, h => by
    have ih := take_filter F l k w (by simpa using h)
    rw [List.take_succ_cons, List.filterMap_cons, ih, List.take_succ_cons, List.filterMap_cons]
    cases F a <;> rfl
theorem comp_map {elt : E} {x : String} {cs : List String} {ifs : List E} {v : V} {items : List V} (F : V → Option V) (e : itemsOf μ v = some items) (hz : items.length ≤ lim)
    (turn : ∀ (k : Nat) (w : V) (μ' : Mem) (K : Option V → Mem → Prop), items[k]? = some w → (∀ b o, μ b = some o → μ' b = some o) → K (F w) μ' → wpIf sg sc hd ifs (updL (capL cs ρ) x w) μ' fun b μ₃ => br b (wpE sg sc hd elt (updL (capL cs ρ) x w) μ₃ (fun r μ'' => K (some r) μ'') X) (K none μ₃))
    (fin : ∀ n, μ n = none → Q (.ref n) (updM μ n (.list (items.filterMap F)))) : compW sg sc hd X ρ Q elt x cs ifs v μ := by
  refine comp_in e fun n hn => ⟨fun k μ' => k ≤ items.length ∧ μ' = updM μ n (.list ((items.take k).filterMap F)), ⟨Nat.zero_le _, rfl⟩, fun k μ' h => by rw [h.2]; exact itemsOf_new hn e, fun k w μ' hk h => ?_, fun μ' h => ?_⟩
  · obtain ⟨hk', rfl⟩ := h
    have hlt : k < items.length := (List.getElem?_eq_some_iff.mp hk).1
    have ht := take_filter F items k w hk
    refine turn k w _ (compT n fun μ' => k + 1 ≤ items.length ∧ μ' = updM μ n (.list ((items.take (k + 1)).filterMap F))) hk (fun b o hb => by
      unfold updM
      split
      · rename_i q; rw [q, hn] at hb; cases hb
      · exact hb) ?_
    rw [ht]
    cases hF : F w with
    | none => exact ⟨hlt, by rw [List.append_nil]⟩
    | some r =>
      refine ⟨(items.take k).filterMap F, by simp [updM], ?_, hlt, ?_⟩
      · have h1 := List.length_filterMap_le F (items.take k)
        rw [List.length_take] at h1
        omega
      · funext b
        simp only [updM]
        split <;> rfl
  · obtain ⟨_, rfl⟩ := h
    rw [List.take_length]
    exact fin n hn
end

section
variable (sg : Sig) (sc : Bool → Sc) (hd : Bool) (X : String → Loc → Mem → Prop) (Q : Fl → Loc → Mem → Prop) (ρ : Loc) (r : List S)
noncomputable def rW (ρ : Loc) (μ : Mem) : Prop := wpSs sg sc hd r ρ μ Q X
noncomputable def nextK (μ : Mem) : Prop := wpSs sg sc hd r ρ μ Q X
noncomputable def exprK (_ : V) (μ : Mem) : Prop := wpSs sg sc hd r ρ μ Q X
noncomputable def asgK (x : String) (v : V) (μ : Mem) : Prop := wpSs sg sc hd r (updL ρ x v) μ Q X
noncomputable def sa1 (o : E) (a : String) (v : V) (μ : Mem) : Prop := wpE sg sc hd o ρ μ (setA (nextK sg sc hd X Q ρ r) a v) (xW X ρ)
noncomputable def si2 (i : E) (v w : V) (μ : Mem) : Prop := wpE sg sc hd i ρ μ (setI (nextK sg sc hd X Q ρ r) v w) (xW X ρ)
noncomputable def si1 (o i : E) (v : V) (μ : Mem) : Prop := wpE sg sc hd o ρ μ (si2 sg sc hd X Q ρ r i v) (xW X ρ)
noncomputable def unpW (xs : List (String × Pos)) (v : V) (μ : Mem) : Prop := asT v fun l => match bindAll (xs.map (·.1)) l ρ with
        | some ρ' => wpSs sg sc hd r ρ' μ Q X
        | none => False
noncomputable def retK (v : V) (μ : Mem) : Prop := Q (.ret v) ρ μ
noncomputable def iteK (t f : List S) (v : V) (μ : Mem) : Prop := tr v fun b => br b (wpSs sg sc hd t ρ μ (sq (rW sg sc hd X Q r) Q) X) (wpSs sg sc hd f ρ μ (sq (rW sg sc hd X Q r) Q) X)
noncomputable def ifK (t : List S) (v : V) (μ : Mem) : Prop := tr v fun b => br b (wpSs sg sc hd t ρ μ (sq (rW sg sc hd X Q r) Q) X) (wpSs sg sc hd r ρ μ Q X)
end
section
variable {sg : Sig} {sc : Bool → Sc} {hd : Bool} {X : String → Loc → Mem → Prop} {Q : Fl → Loc → Mem → Prop} {ρ : Loc} {μ : Mem} {r : List S}
theorem s_nil (h : Q .next ρ μ) : wpSs sg sc hd [] ρ μ Q X := h
theorem s_expr {e : E} {p : Pos} (h : wpE sg sc hd e ρ μ (exprK sg sc hd X Q ρ r) (xW X ρ)) : wpSs sg sc hd (.expr e p :: r) ρ μ Q X := h
theorem k_expr {v : V} (h : wpSs sg sc hd r ρ μ Q X) : exprK sg sc hd X Q ρ r v μ := h
theorem s_assign {x : String} {e : E} {px p : Pos} (h : wpE sg sc hd e ρ μ (asgK sg sc hd X Q ρ r x) (xW X ρ)) : wpSs sg sc hd (.assign x e px p :: r) ρ μ Q X := h
theorem k_asg {x : String} {v : V} (h : wpSs sg sc hd r (updL ρ x v) μ Q X) : asgK sg sc hd X Q ρ r x v μ := h
theorem k_next (h : wpSs sg sc hd r ρ μ Q X) : nextK sg sc hd X Q ρ r μ := h
theorem s_setattr {o e : E} {a : String} {pa p : Pos} (h : wpE sg sc hd e ρ μ (sa1 sg sc hd X Q ρ r o a) (xW X ρ)) : wpSs sg sc hd (.setattr o a e pa p :: r) ρ μ Q X := h
theorem k_sa {o : E} {a : String} {v : V} (h : wpE sg sc hd o ρ μ (setA (nextK sg sc hd X Q ρ r) a v) (xW X ρ)) : sa1 sg sc hd X Q ρ r o a v μ := h
theorem s_setitem {o i e : E} {pa p : Pos} (h : wpE sg sc hd e ρ μ (si1 sg sc hd X Q ρ r o i) (xW X ρ)) : wpSs sg sc hd (.setitem o i e pa p :: r) ρ μ Q X := h
theorem k_si1 {o i : E} {v : V} (h : wpE sg sc hd o ρ μ (si2 sg sc hd X Q ρ r i v) (xW X ρ)) : si1 sg sc hd X Q ρ r o i v μ := h
theorem k_si2 {i : E} {v w : V} (h : wpE sg sc hd i ρ μ (setI (nextK sg sc hd X Q ρ r) v w) (xW X ρ)) : si2 sg sc hd X Q ρ r i v w μ := h
theorem unp_in {xs : List (String × Pos)} {ρ' : Loc} {l : List V} (e : bindAll (xs.map (·.1)) l ρ = some ρ') (h : wpSs sg sc hd r ρ' μ Q X) : unpW sg sc hd X Q ρ r xs (.tup l) μ := by
  show (match bindAll (xs.map (·.1)) l ρ with | some ρ' => wpSs sg sc hd r ρ' μ Q X | none => False)
  rw [e]; exact h
theorem s_unpack {xs : List (String × Pos)} {e : E} {k : Nat} {pt p : Pos} (h0 : hd = false) (h : wpE sg sc hd e ρ μ (unpW sg sc hd X Q ρ r xs) (xW X ρ)) : wpSs sg sc hd (.unpack xs e k pt p :: r) ρ μ Q X := ⟨h0, h⟩
theorem s_ret {e : E} {p : Pos} (h : wpE sg sc hd e ρ μ (retK Q ρ) (xW X ρ)) : wpSs sg sc hd (.ret e p :: r) ρ μ Q X := h
theorem k_retf {Q : V → Mem → Prop} {v : V} (h : Q v μ) : retK (fq Q) ρ v μ := h
theorem k_rets {R : Loc → Mem → Prop} {v : V} (h : retK Q ρ v μ) : retK (sq R Q) ρ v μ := h
theorem k_sqr {Q' : Fl → Loc → Mem → Prop} (h : wpSs sg sc hd r ρ μ Q X) : sq (rW sg sc hd X Q r) Q' .next ρ μ := h
theorem k_rW (h : wpSs sg sc hd r ρ μ Q X) : rW sg sc hd X Q r ρ μ := h
theorem s_raise {n m : String} {pf pm pc p : Pos} (h0 : hd = false) (h : X n ρ μ) : wpSs sg sc hd (.raise n m pf pm pc p :: r) ρ μ Q X := ⟨h0, h⟩

theorem s_ite {e : E} {t f : List S} {p : Pos} (h : wpE sg sc hd e ρ μ (iteK sg sc hd X Q ρ r t f) (xW X ρ)) : wpSs sg sc hd (.ite e t f p :: r) ρ μ Q X := h
theorem k_ite {t f : List S} {b : Bool} (h : br b (wpSs sg sc hd t ρ μ (sq (rW sg sc hd X Q r) Q) X) (wpSs sg sc hd f ρ μ (sq (rW sg sc hd X Q r) Q) X)) : iteK sg sc hd X Q ρ r t f (.bool b) μ := h
theorem s_if {e : E} {t : List S} {p : Pos} (h : wpE sg sc hd e ρ μ (ifK sg sc hd X Q ρ r t) (xW X ρ)) : wpSs sg sc hd (.ite e t [] p :: r) ρ μ Q X := h
theorem k_if {t : List S} {b : Bool} (h : br b (wpSs sg sc hd t ρ μ (sq (rW sg sc hd X Q r) Q) X) (wpSs sg sc hd r ρ μ Q X)) : ifK sg sc hd X Q ρ r t (.bool b) μ := h

noncomputable def forW (sg : Sig) (sc : Bool → Sc) (hd : Bool) (x : String) (body r : List S) (ρ : Loc) (Q : Fl → Loc → Mem → Prop) (X : String → Loc → Mem → Prop) (v : V) (μ : Mem) : Prop := match itemsOf μ v with
  | some items => forI (fun μ' => itemsOf μ' v = some items) x (fun ρ' μ' k => wpSs sg sc hd body ρ' μ' k X) items ρ μ (sq (rW sg sc hd X Q r) Q)
  | none => False
theorem s_for {x : String} {it : E} {body : List S} {px p : Pos} (h0 : hd = false) (h : wpE sg sc hd it ρ μ (forW sg sc hd x body r ρ Q X) (xW X ρ)) : wpSs sg sc hd (.for_ x it body px p :: r) ρ μ Q X := ⟨h0, h⟩
theorem for_in {x : String} {body : List S} {v : V} {items : List V} (e : itemsOf μ v = some items) (I : Nat → Loc → Mem → Prop) (i0 : I 0 ρ μ) (st : ∀ k ρ μ, I k ρ μ → itemsOf μ v = some items)
    (turn : ∀ k w ρ μ, items[k]? = some w → I k ρ μ → wpSs sg sc hd body (updL ρ x w) μ (sq (I (k + 1)) (sq (rW sg sc hd X Q r) Q)) X) (fin : ∀ ρ μ, I items.length ρ μ → wpSs sg sc hd r ρ μ Q X) : forW sg sc hd x body r ρ Q X v μ := by
  unfold forW
  rw [e]
  exact ⟨I, i0, st, turn, fin⟩
theorem for_rng {x : String} {body : List S} {a b : Int} (I : Int → Loc → Mem → Prop) (i0 : I a ρ μ) 
    (turn : ∀ i ρ μ, a ≤ i → i < b → I i ρ μ → wpSs sg sc hd body (updL ρ x (.int i)) μ (sq (I (i + 1)) (sq (rW sg sc hd X Q r) Q)) X) (fin : ∀ ρ μ, I (max a b) ρ μ → wpSs sg sc hd r ρ μ Q X) : forW sg sc hd x body r ρ Q X (.rng a b 1) μ := by
  refine for_in (items := rngItems a b 1) rfl (fun k ρ μ => I (a + k) ρ μ) (by simpa using i0) (fun _ _ _ _ => rfl) (fun k w ρ μ hk hi => ?_) (fun ρ μ hi => ?_)
  · rw [rngItems_get] at hk
    split at hk
    · rename_i hlt
      unfold rngLen at hlt
      cases hk
      have := turn (a + k) ρ μ (by omega) (by omega) hi
      have e : a + ((k + 1 : Nat) : Int) = a + k + 1 := by omega
      rw [e]
      exact this
    · first | exact ns hk | exact fb hk | cases hk
  · have : (rngItems a b 1).length = (b - a).toNat := by unfold rngItems; simp
    rw [this] at hi
    refine fin ρ μ ?_
    have e : max a b = a + ((b - a).toNat : Int) := by omega
    rw [e]; exact hi

noncomputable def tryX (sg : Sig) (sc : Bool → Sc) (more : List (String × Pos × E × Pos × Pos)) (Q : Fl → Loc → Mem → Prop) (x : String) (ρ₁ : Loc) (μ₁ : Mem) : Prop := moreW sg sc x ρ₁ μ₁ Q more
theorem s_try {body : List S} {more : List (String × Pos × E × Pos × Pos)} {p : Pos} (h0 : hd = false)
    (hh : wpSs sg sc false body ρ μ (sq (rW sg sc hd X Q r) Q) (tryX sg sc more (sq (rW sg sc hd X Q r) Q))) : wpSs sg sc hd (.try_ body more p :: r) ρ μ Q X := ⟨h0, hh⟩
theorem try_in {x : String} {more : List (String × Pos × E × Pos × Pos)} (h : moreW sg sc x ρ μ Q more) : tryX sg sc more Q x ρ μ := h
theorem more_y {n x : String} {e : E} {pc pr ph : Pos} {more : List (String × Pos × E × Pos × Pos)} (q : isSub x n = true) (hh : wpE sg sc true e ρ μ (fun v μ₁ => Q (.ret v) ρ μ₁) (fun _ _ => False)) : moreW sg sc x ρ μ Q ((n, pc, e, pr, ph) :: more) := by
  unfold moreW; rw [if_pos q]; exact hh
theorem more_n {n x : String} {e : E} {pc pr ph : Pos} {more : List (String × Pos × E × Pos × Pos)} (q : isSub x n = false) (hh : moreW sg sc x ρ μ Q more) : moreW sg sc x ρ μ Q ((n, pc, e, pr, ph) :: more) := by
  unfold moreW; rw [if_neg (by rw [q]; exact Bool.false_ne_true)]; exact hh
theorem loc_here {ρ : Loc} {x : String} {v : V} : updL ρ x v x = some v := by simp [updL]
theorem loc_skip {ρ : Loc} {x y : String} {v w : V} (h : x ≠ y) (e : ρ x = some w) : updL ρ y v x = some w := by simp [updL, h, e]
theorem mem_here {μ : Mem} {a : Addr} {o : O} : updM μ a o a = some o := by simp [updM]
theorem mem_skip {μ : Mem} {a b : Addr} {o o' : O} (h : b ≠ a) (e : μ b = some o') : updM μ a o b = some o' := by simp [updM, h, e]
end
end Mine

set_option autoImplicit false
namespace Mine
open PySem PySem.W PySem.Calls PyProof.Rows


noncomputable def nthS : List Stmt → Nat → Stmt
  | [], _ => .Pass ⟨0, 0, 0, 0⟩
  | s :: _, 0 => s
  | _ :: r, n + 1 => nthS r n
noncomputable def cBody : Stmt → List Stmt
  | .ClassDef _ _ _ b _ _ _ _ _ _ _ => b
  | _ => []
noncomputable def fArgs : Stmt → Arguments
  | .FunctionDef _ a _ _ _ _ _ _ _ _ => a
  | _ => ⟨[], [], none, [], [], none, []⟩
noncomputable def fBody : Stmt → List Stmt
  | .FunctionDef _ _ b _ _ _ _ _ _ _ => b
  | _ => []
noncomputable def fScope : Stmt → Scope
  | .FunctionDef _ _ _ _ _ _ sc _ _ _ => sc
  | _ => { kind := .function, names := [], isGenerator := false, isCoroutine := false }

section
variable {p : Program} {w : World} {n₀ N b : Nat} {ann : Option Value}
theorem segT_q {s : SharedT} {t : Thread} {r : Option (Flow × SharedT × Code × Pos)} (h : Fast.tw10110043849684766642 Fast.tw14364793385576792824 p w n₀ ann b N s t = r) : segRunT treeTable p w n₀ ann b N s t = r := by
  rw [Fast.te10110043849684766642, Fast.te14364793385576792824]; exact h
theorem seg_q {s : Shared} {t : Thread} {r : Option (Flow × Shared × Code × Pos)} (h : Fast.tw14374325043358763698 Fast.tw14364793385576792824 p w n₀ ann b N s t = r) : segRun treeTable p w n₀ ann b N s t = r := by
  rw [Fast.te14374325043358763698, Fast.te14364793385576792824]; exact h
theorem top_q {s : Shared} {t : Thread} {r : Option Shared} (h : Fast.tw14082659384304107361 Fast.tw14364793385576792824 p w n₀ ann N s t = r) : topRun treeTable p w n₀ ann N s t = r := by
  rw [Fast.te14082659384304107361, Fast.te14364793385576792824]; exact h
theorem go_q {s s' : Shared} {t : Thread} {c c' : Code} {q : Pos} {B : List Frame} (h : Fast.tw15667345088766844465 Fast.tw14364793385576792824 p w n₀ ann N s t = some (s', ⟨Fast.tw11892475500146522536 Fast.tw14364793385576792824 c, c', q, B⟩)) : topGo treeTable p w n₀ ann N s t = some (s', ⟨denote treeTable c, c', q, B⟩) := by
  rw [Fast.te15667345088766844465, Fast.te11892475500146522536, Fast.te14364793385576792824]; exact h
end
section
variable {p : Program} {w : World} {n₀ : Nat} {ann : Option Value} {env : Env} {q : Pos}
theorem piece_cut {n N k : Nat} {s s' r : Shared} {l : List Stmt} {c : Code} {pos p' : Pos} (h : segRun treeTable p w n₀ ann 1 n s (piecesOf (l.take k) env c pos [topFrame q]) = some (.next, s', c, p'))
    (z : topRun treeTable p w n₀ ann N s' (restOf (l.drop k) env c p' [topFrame q]) = some r) : topRun treeTable p w n₀ ann (n + N) s (restOf l env c pos [topFrame q]) = some r := by
  have := piece_app h z
  rwa [List.take_append_drop] at this
theorem piece_last {n N : Nat} {s s' r : Shared} {l : List Stmt} {c : Code} {pos p' : Pos} (h : segRun treeTable p w n₀ ann 1 n s (piecesOf l env c pos [topFrame q]) = some (.next, s', c, p'))
    (z : topRun treeTable p w n₀ ann N s' ⟨doneF .next, c, p', [topFrame q]⟩ = some r) : topRun treeTable p w n₀ ann (n + N) s (restOf l env c pos [topFrame q]) = some r := by
  have := piece_app (rest := []) h z
  rwa [List.append_nil] at this
end
end Mine

set_option autoImplicit false
set_option maxRecDepth 100000
set_option maxHeartbeats 8000000
set_option linter.unusedVariables false
namespace Mine
open PySem PySem.W PySem.Calls PyProof.Rows
noncomputable abbrev pq : Program := Challenge.pw_uf040019_14
theorem pq_eq : Challenge.pw_uf040019_14 = pq := rfl
noncomputable def bq : List Stmt := behindTheImports pq
noncomputable def sA (i : Nat) : Stmt := nthS bq i
noncomputable def mA (i j : Nat) : Stmt := nthS (cBody (sA i)) j
noncomputable def envq : Env := { scope := pq.main.scope, locals := mainNs, globals := mainNs, cells := [], code := .ref 13, frame := some 14 }
noncomputable def cdq : Code := .body (behindTheImports pq) envq
noncomputable def p0q : Pos := ⟨0, 0, 0, 0⟩
noncomputable def q0 : Str:=⟨⟨[60,109,111,100,117,108,101,62]⟩⟩
noncomputable def q1 : Str:=⟨⟨[47,99,108,97,105,109,47,99,117,116,46,112,121]⟩⟩
noncomputable def q2 : Str:=⟨⟨[95,95,109,97,105,110,95,95]⟩⟩
noncomputable def q3 : Str:=⟨⟨[95,95,110,97,109,101,95,95]⟩⟩
noncomputable def q4 : Str:=⟨⟨[100,101,98,116,116,114,101,101,46,101,114,114,111,114,115]⟩⟩
noncomputable def q5 : Str:=⟨⟨[95,95,100,111,99,95,95]⟩⟩
noncomputable def q6 : Str:=⟨⟨[95,95,112,97,99,107,97,103,101,95,95]⟩⟩
noncomputable def q7 : Str:=⟨⟨[95,95,108,111,97,100,101,114,95,95]⟩⟩
noncomputable def q8 : Str:=⟨⟨[95,95,115,112,101,99,95,95]⟩⟩
noncomputable def q9 : Str:=⟨⟨[95,95,97,110,110,111,116,97,116,105,111,110,115,95,95]⟩⟩
noncomputable def q10 : Str:=⟨⟨[95,95,98,117,105,108,116,105,110,115,95,95]⟩⟩
noncomputable def q11 : Str:=⟨⟨[95,95,102,105,108,101,95,95]⟩⟩
noncomputable def q12 : Str:=⟨⟨[95,95,99,97,99,104,101,100,95,95]⟩⟩
noncomputable def q13 : Str:=⟨⟨[95,119,97,108,108]⟩⟩
noncomputable def q14 : Str:=⟨⟨[68,101,98,116,69,114,114,111,114]⟩⟩
noncomputable def q15 : Str:=⟨⟨[78,111,67,111,109,112,97,110,121]⟩⟩
noncomputable def q16 : Str:=⟨⟨[95,95,109,111,100,117,108,101,95,95]⟩⟩
noncomputable def q17 : Str:=⟨⟨[95,95,102,105,114,115,116,108,105,110,101,110,111,95,95]⟩⟩
noncomputable def q18 : Str:=⟨⟨[95,95,115,116,97,116,105,99,95,97,116,116,114,105,98,117,116,101,115,95,95]⟩⟩
noncomputable def q19 : Str:=⟨⟨[107]⟩⟩
noncomputable def q20 : Str:=⟨⟨[95,95,113,117,97,108,110,97,109,101,95,95]⟩⟩
noncomputable def q21 : Str:=⟨⟨[95,95,119,101,97,107,114,101,102,95,95]⟩⟩
noncomputable def q22 : Str:=⟨⟨[78,111,72,97,110,100]⟩⟩
noncomputable def q23 : Str:=⟨⟨[78,111,87,111,114,107]⟩⟩
noncomputable def q24 : Str:=⟨⟨[78,111,80,108,97,99,101]⟩⟩
noncomputable def q25 : Str:=⟨⟨[66,101,103,117,110]⟩⟩
noncomputable def q26 : Str:=⟨⟨[100,101,98,116,116,114,101,101,46,112,111,115,116]⟩⟩
noncomputable def q27 : Str:=⟨⟨[78,111,82,111,119]⟩⟩
noncomputable def q28 : Str:=⟨⟨[105,115,95,102,114,111,109]⟩⟩
noncomputable def q29 : Str:=⟨⟨[100,101,98,116,116,114,101,101,46,119,104,111,108,101,115]⟩⟩
noncomputable def q30 : Str:=⟨⟨[116,104,105,110,103]⟩⟩
noncomputable def q31 : Str:=⟨⟨[108,101,97,115,116]⟩⟩
noncomputable def q32 : Str:=⟨⟨[109,111,115,116]⟩⟩
noncomputable def q33 : Str:=⟨⟨[100,101,98,116,116,114,101,101,46,99,111,109,112,97,110,121]⟩⟩
noncomputable def q34 : Str:=⟨⟨[80,111,115,116]⟩⟩
noncomputable def q35 : Str:=⟨⟨[77,79,83,84,95,72,65,78,68,83]⟩⟩
noncomputable def q36 : Str:=⟨⟨[77,79,83,84,95,80,73,69,67,69,83]⟩⟩
noncomputable def q37 : Str:=⟨⟨[95,95,105,110,105,116,95,95]⟩⟩
noncomputable def q38 : Str:=⟨⟨[80,111,115,116,46,95,95,105,110,105,116,95,95]⟩⟩
noncomputable def q39 : Str:=⟨⟨[117,110,100,101,114]⟩⟩
noncomputable def q40 : Str:=⟨⟨[80,111,115,116,46,117,110,100,101,114]⟩⟩
noncomputable def q41 : Str:=⟨⟨[116,97,107,101]⟩⟩
noncomputable def q42 : Str:=⟨⟨[80,111,115,116,46,116,97,107,101]⟩⟩
noncomputable def q43 : Str:=⟨⟨[115,101,108,102]⟩⟩
noncomputable def q44 : Str:=⟨⟨[112,108,97,99,101]⟩⟩
noncomputable def q45 : Str:=⟨⟨[114,111,119]⟩⟩
noncomputable def q46 : Str:=⟨⟨[112,117,116]⟩⟩
noncomputable def q47 : Str:=⟨⟨[80,111,115,116,46,112,117,116]⟩⟩
noncomputable def q48 : Str:=⟨⟨[114,111,119,115]⟩⟩
noncomputable def q49 : Str:=⟨⟨[95,95,100,105,99,116,95,95]⟩⟩
noncomputable def q50 : Str:=⟨⟨[67,111,109,112,97,110,121]⟩⟩
noncomputable def q51 : Str:=⟨⟨[104,97,110,100,95,111,110]⟩⟩
noncomputable def q52 : Str:=⟨⟨[67,111,109,112,97,110,121,46,104,97,110,100,95,111,110]⟩⟩
noncomputable def q53 : Str:=⟨⟨[112,105,101,99,101,115]⟩⟩
noncomputable def q54 : Str:=⟨⟨[115,105,122,101]⟩⟩
noncomputable def q55 : Str:=⟨⟨[67,111,109,112,97,110,121,46,115,105,122,101]⟩⟩
noncomputable def q56 : Str:=⟨⟨[99,97,114,114,121]⟩⟩
noncomputable def q57 : Str:=⟨⟨[67,111,109,112,97,110,121,46,99,97,114,114,121]⟩⟩
noncomputable def q58 : Str:=⟨⟨[67,111,109,112,97,110,121,46,95,95,105,110,105,116,95,95]⟩⟩
noncomputable def q59 : Str:=⟨⟨[108,101,116,116,101,114,95,99,97,109,101]⟩⟩
noncomputable def q60 : Str:=⟨⟨[67,111,109,112,97,110,121,46,108,101,116,116,101,114,95,99,97,109,101]⟩⟩
noncomputable def q61 : Str:=⟨⟨[110,101,101,100,95,104,97,110,100]⟩⟩
noncomputable def q62 : Str:=⟨⟨[67,111,109,112,97,110,121,46,110,101,101,100,95,104,97,110,100]⟩⟩
noncomputable def q63 : Str:=⟨⟨[114,117,110,115]⟩⟩
noncomputable def q64 : Str:=⟨⟨[67,111,109,112,97,110,121,46,114,117,110,115]⟩⟩
noncomputable def q65 : Str:=⟨⟨[110,111,116,101,100]⟩⟩
noncomputable def q66 : Str:=⟨⟨[67,111,109,112,97,110,121,46,110,111,116,101,100]⟩⟩
noncomputable def q67 : Str:=⟨⟨[98,101,103,105,110]⟩⟩
noncomputable def q68 : Str:=⟨⟨[67,111,109,112,97,110,121,46,98,101,103,105,110]⟩⟩
noncomputable def q69 : Str:=⟨⟨[110,117,109,98,101,114]⟩⟩
noncomputable def q70 : Str:=⟨⟨[108,111,103]⟩⟩
noncomputable def q71 : Str:=⟨⟨[67,111,109,112,97,110,121,46,108,111,103]⟩⟩
noncomputable def q72 : Str:=⟨⟨[115,101,116,116,108,101,100]⟩⟩
noncomputable def q73 : Str:=⟨⟨[67,111,109,112,97,110,121,46,115,101,116,116,108,101,100]⟩⟩
noncomputable def q74 : Str:=⟨⟨[67,111,109,112,97,110,121,46,117,110,100,101,114]⟩⟩
noncomputable def q75 : Str:=⟨⟨[100,111]⟩⟩
noncomputable def q76 : Str:=⟨⟨[67,111,109,112,97,110,121,46,100,111]⟩⟩
noncomputable def q77 : Str:=⟨⟨[109,97,110,121]⟩⟩
noncomputable def q78 : Str:=⟨⟨[104,97,110,100]⟩⟩
noncomputable def q79 : Str:=⟨⟨[67,111,109,112,97,110,121,46,104,97,110,100]⟩⟩
noncomputable def q80 : Str:=⟨⟨[105,115,95,105,110]⟩⟩
noncomputable def q81 : Str:=⟨⟨[111,116,104,101,114]⟩⟩
noncomputable def q82 : Str:=⟨⟨[67,111,109,112,97,110,121,46,105,115,95,105,110]⟩⟩
noncomputable def q83 : Str:=⟨⟨[116,97,108,108,121]⟩⟩
noncomputable def q84 : Str:=⟨⟨[119,111,114,100]⟩⟩
noncomputable def q85 : Str:=⟨⟨[115,101,110,100,101,114]⟩⟩
noncomputable def q86 : Str:=⟨⟨[103,111,105,110,103]⟩⟩
noncomputable def q87 : Str:=⟨⟨[107,110,111,119,110]⟩⟩
noncomputable def q88 : Str:=⟨⟨[112,111,115,116]⟩⟩
noncomputable def q89 : Str:=⟨⟨[116,97,108,108,105,101,115]⟩⟩
noncomputable def q90 : Str:=⟨⟨[119,97,105,116,115]⟩⟩
noncomputable def q91 : Str:=⟨⟨[119,97,107,101,114,115]⟩⟩
noncomputable def q92 : Str:=⟨⟨[108,97,119,95,117,102,48,52,48,48,49,57,95,49,52]⟩⟩
noncomputable def q93 : Str:=⟨⟨[100,111,110,101]⟩⟩
noncomputable def q94 : Str:=⟨⟨[116,114,105,101,100]⟩⟩
noncomputable def q95 : Str:=⟨⟨[70,73,71,85,82,69,83]⟩⟩
noncomputable def q96 : Str:=⟨⟨[48,49,50,51,52,53,54,55,56,57]⟩⟩
noncomputable def q97 : Str:=⟨⟨[77,79,83,84,95,70,73,71,85,82,69,83]⟩⟩
noncomputable def q98 : Str:=⟨⟨[80,65,82,84,83]⟩⟩
noncomputable def q99 : Str:=⟨⟨[115,104,111,119,110]⟩⟩
noncomputable def q100 : Str:=⟨⟨[110,117,109,98,101,114,95,111,102]⟩⟩
noncomputable def q101 : Str:=⟨⟨[114,101,97,100]⟩⟩
noncomputable def q102 : Str:=⟨⟨[99,111,109,112,97,110,121,95,111,102]⟩⟩
noncomputable def q103 : Str:=⟨⟨[97,110,115,119,101,114,95,111,102]⟩⟩
noncomputable def q104 : Str:=⟨⟨[97,110,115,119,101,114,101,100]⟩⟩
noncomputable def q105 : Str:=⟨⟨[95,108,97,119,95,99,101,108,108,95,97,116]⟩⟩
noncomputable def q106 : Str:=⟨⟨[100,101,98,116,116,114,101,101,46,110,111,116,101,115]⟩⟩
noncomputable def q107 : Str:=⟨⟨[102,105,103,117,114,101,115]⟩⟩
noncomputable def q108 : Str:=⟨⟨[115,105,103,110]⟩⟩
noncomputable def q109 : Str:=⟨⟨[100,101,98,116,116,114,101,101,46,112,108,97,121,115]⟩⟩
noncomputable def q110 : Str:=⟨⟨[99,111,109,112,97,110,121]⟩⟩
noncomputable def q111 : Str:=⟨⟨[100,101,101,100]⟩⟩
noncomputable def q112 : Str:=⟨⟨[108,105,110,101]⟩⟩
noncomputable def q113 : Str:=⟨⟨[119,111,114,100,115]⟩⟩
noncomputable def q114 : Str:=⟨⟨[95,108,97,119,95,115,99,114,105,112,116]⟩⟩
noncomputable def q115 : Str:=⟨⟨[95,108,97,119,95,107]⟩⟩
noncomputable def q116 : Str:=⟨⟨[95,108,97,119,95,109,105,120,101,100]⟩⟩
noncomputable def q117 : Str:=⟨⟨[95,108,97,119,95,119,104,111,108,101]⟩⟩
noncomputable def q118 : Str:=⟨⟨[95,108,97,119,95,97,108,105,107,101]⟩⟩
noncomputable def q119 : Str:=⟨⟨[95,108,97,119,95,109,97,110,121,95,98,121]⟩⟩
noncomputable def q120 : Str:=⟨⟨[95,108,97,119,95,102,114,101,115,104]⟩⟩
noncomputable def q121 : Str:=⟨⟨[95,108,97,119,95,102,114,101,101,100]⟩⟩
noncomputable def q122 : Str:=⟨⟨[95,108,97,119,95,99,97,114,114,105,101,100]⟩⟩
noncomputable def q123 : Str:=⟨⟨[95,108,97,119,95,98,101,103,117,110]⟩⟩
noncomputable def q124 : Str:=⟨⟨[95,108,97,119,95,100,117,101]⟩⟩
noncomputable def q125 : Str:=⟨⟨[95,108,97,119,95,119,114,111,110,103,95,98,121]⟩⟩
noncomputable def q126 : Str:=⟨⟨[95,108,97,119,95,100,101,101,100,95,98,121]⟩⟩
noncomputable def q127 : Str:=⟨⟨[95,108,97,119,95,116,101,120,116]⟩⟩
noncomputable def q128 : Str:=⟨⟨[95,108,97,119,95,110,111,95,114,111,119]⟩⟩
noncomputable def q129 : Str:=⟨⟨[95,108,97,119,95,102,105,114,115,116]⟩⟩
noncomputable def q130 : Str:=⟨⟨[95,108,97,119,95,97,110,115,119,101,114]⟩⟩
noncomputable def q131 : Str:=⟨⟨[108,97,119]⟩⟩
noncomputable def q132 : Str:=⟨⟨[95,108,97,119,95,108,105,110,101]⟩⟩
noncomputable def q133 : Str:=⟨⟨[95,108,97,119,95,114,101,115,116]⟩⟩
noncomputable def q134 : Str:=⟨⟨[95,108,97,119,95,115,111,109,101]⟩⟩
noncomputable def q135 : Str:=⟨⟨[95,108,97,119,95,115,116,97,116,101]⟩⟩
noncomputable def q136 : Str:=⟨⟨[95,108,97,119,95,112,108,97,99,101]⟩⟩
noncomputable def q137 : Str:=⟨⟨[95,108,97,119,95,114,111,119]⟩⟩
noncomputable def q138 : Str:=⟨⟨[95,108,97,119,95,104,97,110,100]⟩⟩
noncomputable def q139 : Str:=⟨⟨[95,108,97,119,95,102,111,117,110,100]⟩⟩
noncomputable def q140 : Str:=⟨⟨[95,108,97,119,95,100,117,101,95,104,101,114,101]⟩⟩
noncomputable def q141 : Str:=⟨⟨[95,108,97,119,95,109,97,110,121]⟩⟩
noncomputable def q142 : Str:=⟨⟨[95,108,97,119,95,100,101,101,100]⟩⟩
noncomputable def q143 : Str:=⟨⟨[95,108,97,119,95,111,110,101]⟩⟩
noncomputable def q144 : Str:=⟨⟨[95,108,97,119,95,112,105,101,99,101,115]⟩⟩
noncomputable def q145 : Str:=⟨⟨[95,108,97,119,95,99,101,108,108]⟩⟩
noncomputable def q146 : Str:=⟨⟨[95,108,97,119,95,110,101,97,114]⟩⟩
noncomputable def q147 : Str:=⟨⟨[95,108,97,119,95,115,105,103,110,115]⟩⟩
noncomputable def q148 : Str:=⟨⟨[95,108,97,119,95,112,97,114,116]⟩⟩
noncomputable def q149 : Str:=⟨⟨[95,108,97,119,95,114,111,119,115]⟩⟩
noncomputable def q150 : Str:=⟨⟨[95,108,97,119,95,109,111,114,101]⟩⟩
noncomputable def q151 : Str:=⟨⟨[95,108,97,119,95,102,97,114]⟩⟩
noncomputable def q152 : Str:=⟨⟨[95,108,97,119,95,100,101,101,100,115]⟩⟩
noncomputable def q153 : Str:=⟨⟨[95,108,97,119,95,108,105,110,101,115]⟩⟩
noncomputable def q154 : Str:=⟨⟨[95,108,97,119,95,100,117,101,115]⟩⟩
noncomputable def q155 : Str:=⟨⟨[95,108,97,119,95,110,117,109,98,101,114]⟩⟩
noncomputable def q156 : Str:=⟨⟨[95,108,97,119,95,116,101,120,116,95,104,101,114,101]⟩⟩
noncomputable def ob43 (P : Params) : Obj:={cls:=.type "tuple",data:=.seq #[]}
noncomputable def ob45 (P : Params) : Obj:={cls:=.type "code",data:=.fields #[.str q0 182,.str q0 183,.str q1 184,.int 1 0,.int 0 0,.int 0 0,.int 0 0,.int 0 0,.ref 11,.bool Bool.false,.int 181 0,.ref 12,.none,.none,.none,.none,.int 185 0,.int 1 0,.str q1 186]}
noncomputable def ob44 (P : Params) : Obj:={cls:=.none,data:=.fields #[]}
noncomputable def ob46 (P : Params) : Obj:={cls:=.type "frame",slots:=#[some (.ref 13),some (.ref 3),some (.ref 3),none,some (.str q2 164),none,some (.ref 0)]}
noncomputable def ob71 (P : Params) : Obj:={cls:=.type "dict",data:=.dict #[⟨PyData.keyHash P q3,.str q3 165,.str q4 194⟩,⟨PyData.keyHash P q5,.str q5 166,.none⟩,⟨PyData.keyHash P q6,.str q6 167,.none⟩,⟨PyData.keyHash P q7,.str q7 168,.builtin "__main__.__loader__#opaque"⟩,⟨PyData.keyHash P q8,.str q8 169,.none⟩,⟨PyData.keyHash P q9,.str q9 170,.ref 6⟩,⟨PyData.keyHash P q10,.str q10 171,.ref 4⟩,⟨PyData.keyHash P q11,.str q11 173,.str q1 172⟩,⟨PyData.keyHash P q12,.str q12 174,.none⟩,⟨PyData.keyHash P q13,.str q13 193,.ref 21⟩,⟨PyData.keyHash P q14,.str q14 213,.ref 31⟩,⟨PyData.keyHash P q15,.str q15 229,.ref 44⟩] 12}
noncomputable def ob51 (P : Params) : Obj:={cls:=.type "tuple",data:=.seq #[]}
noncomputable def ob73 (P : Params) : Obj:={cls:=.type "type",data:=.cls {name:=q14,bases:=[.type "ValueError"],mro:=[.ref 31,.type "ValueError",.type "Exception",.type "BaseException",.type "object"],ns:=30,qualname:=q14,subclasses:=[.ref 44]},slots:=#[some (.ref 22),none,some (.str q14 196),some (.str q14 204),some (.builtin "ValueError.__new__"),some (.bool Bool.true)]}
noncomputable def ob59 (P : Params) : Obj:={cls:=.type "builtin_function_or_method",data:=.fields #[.builtin "type.__prepare__",.type "type"]}
noncomputable def ob78 (P : Params) : Obj:={cls:=.none,data:=.fields #[]}
noncomputable def ob55 (P : Params) : Obj:={cls:=.none,data:=.func {name:=q13,qualname:=q13,params:=fArgs (sA 0),body:=.stmts (fBody (sA 0)),scope:=fScope (sA 0),globals:=0,closure:=[],defaults:=.none,kwdefaults:=.none}}
noncomputable def ob74 (P : Params) : Obj:={cls:=.type "tuple",data:=.seq #[.ref 31]}
noncomputable def ob63 (P : Params) : Obj:={cls:=.type "code",data:=.fields #[.str q14 198,.str q14 199,.str q1 200,.int 5 0,.int 0 0,.int 0 0,.int 0 0,.int 0 0,.ref 25,.bool Bool.false,.int 181 0,.ref 26,.none,.none,.none,.none,.int 201 0,.int 5 0,.str q1 202]}
noncomputable def ob82 (P : Params) : Obj:={cls:=.type "dict",data:=.dict #[⟨PyData.keyHash P q16,.str q16 221,.str q4 194⟩,⟨PyData.keyHash P q17,.str q17 225,.int 7 224⟩,⟨PyData.keyHash P q18,.str q18 226,.ref 42⟩,⟨PyData.keyHash P q5,.str q5 227,.none⟩] 2}
noncomputable def ob53 (P : Params) : Obj:={cls:=.type "tuple",data:=.seq #[.str q19 190]}
noncomputable def ob69 (P : Params) : Obj:={cls:=.type "super",data:=.fields #[.ref 31,.ref 31,.ref 31]}
noncomputable def ob61 (P : Params) : Obj:={cls:=.type "tuple",data:=.seq #[]}
noncomputable def ob80 (P : Params) : Obj:={cls:=.type "frame",slots:=#[some (.ref 40),some (.ref 3),some (.ref 37),none,some (.str q4 194),none,some (.ref 0)]}
noncomputable def ob57 (P : Params) : Obj:={cls:=.type "function",data:=.func {name:=q13,qualname:=q13,params:=fArgs (sA 0),body:=.stmts (fBody (sA 0)),scope:=fScope (sA 0),globals:=3,closure:=[],defaults:=.none,kwdefaults:=.none,pyModule:=.str q2 164,code:=.ref 20}}
noncomputable def ob76 (P : Params) : Obj:={cls:=.type "dict",data:=.dict #[⟨PyData.keyHash P q16,.str q16 221,.str q4 194⟩,⟨PyData.keyHash P q20,.str q20 223,.str q15 222⟩,⟨PyData.keyHash P q17,.str q17 225,.int 7 224⟩,⟨PyData.keyHash P q18,.str q18 226,.ref 42⟩] 4}
noncomputable def ob65 (P : Params) : Obj:={cls:=.type "tuple",data:=.seq #[]}
noncomputable def ob84 (P : Params) : Obj:={cls:=.type "super",data:=.fields #[.ref 44,.ref 44,.ref 44]}
noncomputable def ob52 (P : Params) : Obj:={cls:=.none,data:=.fields #[]}
noncomputable def ob68 (P : Params) : Obj:={cls:=.type "getset_descriptor",data:=.fields #[.str q21 209,.ref 31,.builtin "ExceptionGroup.__weakref__",.none]}
noncomputable def ob60 (P : Params) : Obj:={cls:=.type "dict",data:=.dict #[⟨PyData.keyHash P q16,.str q16 203,.str q4 194⟩,⟨PyData.keyHash P q20,.str q20 205,.str q14 204⟩,⟨PyData.keyHash P q17,.str q17 207,.int 5 206⟩,⟨PyData.keyHash P q18,.str q18 208,.ref 29⟩] 4}
noncomputable def ob79 (P : Params) : Obj:={cls:=.type "code",data:=.fields #[.str q15 216,.str q15 217,.str q1 218,.int 7 0,.int 0 0,.int 0 0,.int 0 0,.int 0 0,.ref 38,.bool Bool.false,.int 181 0,.ref 39,.none,.none,.none,.none,.int 219 0,.int 7 0,.str q1 220]}
noncomputable def ob72 (P : Params) : Obj:={cls:=.none,data:=.fields #[.int 1 0,.int 0 0,.ref 20,.int 5 0,.int 0 0,.ref 27,.int 7 0,.int 0 0,.ref 40]}
noncomputable def ob56 (P : Params) : Obj:={cls:=.type "code",data:=.fields #[.str q13 187,.str q13 188,.str q1 189,.int 1 0,.int 1 0,.int 0 0,.int 0 0,.int 3 0,.ref 15,.bool Bool.true,.int 181 0,.ref 16,.none,.ref 17,.ref 18,.ref 19,.int 191 0,.int 1 0,.str q1 192]}
noncomputable def ob75 (P : Params) : Obj:={cls:=.type "builtin_function_or_method",data:=.fields #[.builtin "type.__prepare__",.type "type"]}
noncomputable def ob64 (P : Params) : Obj:={cls:=.type "frame",slots:=#[some (.ref 27),some (.ref 3),some (.ref 24),none,some (.str q4 194),none,some (.ref 0)]}
noncomputable def ob83 (P : Params) : Obj:={cls:=.type "type",data:=.cls {name:=q15,bases:=[.ref 31],mro:=[.ref 44,.ref 31,.type "ValueError",.type "Exception",.type "BaseException",.type "object"],ns:=43,qualname:=q15},slots:=#[some (.ref 35),none,some (.str q15 214),some (.str q15 222),some (.builtin "ValueError.__new__"),some (.bool Bool.true)]}
noncomputable def ob54 (P : Params) : Obj:={cls:=.type "tuple",data:=.seq #[]}
noncomputable def ob70 (P : Params) : Obj:={cls:=.type "builtin_function_or_method",data:=.fields #[.builtin "object.__init_subclass__",.ref 31]}
noncomputable def ob62 (P : Params) : Obj:={cls:=.none,data:=.fields #[]}
noncomputable def ob81 (P : Params) : Obj:={cls:=.type "tuple",data:=.seq #[]}
noncomputable def ob58 (P : Params) : Obj:={cls:=.type "tuple",data:=.seq #[.type "ValueError"]}
noncomputable def ob77 (P : Params) : Obj:={cls:=.type "tuple",data:=.seq #[]}
noncomputable def ob66 (P : Params) : Obj:={cls:=.type "dict",data:=.dict #[⟨PyData.keyHash P q16,.str q16 203,.str q4 194⟩,⟨PyData.keyHash P q17,.str q17 207,.int 5 206⟩,⟨PyData.keyHash P q18,.str q18 208,.ref 29⟩,⟨PyData.keyHash P q21,.str q21 210,.ref 32⟩,⟨PyData.keyHash P q5,.str q5 211,.none⟩] 3}
noncomputable def ob85 (P : Params) : Obj:={cls:=.type "builtin_function_or_method",data:=.fields #[.builtin "object.__init_subclass__",.ref 44]}
noncomputable def ob101 (P : Params) : Obj:={cls:=.type "dict",data:=.dict #[⟨PyData.keyHash P q3,.str q3 165,.str q4 194⟩,⟨PyData.keyHash P q5,.str q5 166,.none⟩,⟨PyData.keyHash P q6,.str q6 167,.none⟩,⟨PyData.keyHash P q7,.str q7 168,.builtin "__main__.__loader__#opaque"⟩,⟨PyData.keyHash P q8,.str q8 169,.none⟩,⟨PyData.keyHash P q9,.str q9 170,.ref 6⟩,⟨PyData.keyHash P q10,.str q10 171,.ref 4⟩,⟨PyData.keyHash P q11,.str q11 173,.str q1 172⟩,⟨PyData.keyHash P q12,.str q12 174,.none⟩,⟨PyData.keyHash P q13,.str q13 193,.ref 21⟩,⟨PyData.keyHash P q14,.str q14 213,.ref 31⟩,⟨PyData.keyHash P q15,.str q15 229,.ref 44⟩,⟨PyData.keyHash P q22,.str q22 245,.ref 56⟩,⟨PyData.keyHash P q23,.str q23 261,.ref 68⟩] 14}
noncomputable def ob103 (P : Params) : Obj:={cls:=.type "type",data:=.cls {name:=q14,bases:=[.type "ValueError"],mro:=[.ref 31,.type "ValueError",.type "Exception",.type "BaseException",.type "object"],ns:=30,qualname:=q14,subclasses:=[.ref 44,.ref 56,.ref 68]},slots:=#[some (.ref 22),none,some (.str q14 196),some (.str q14 204),some (.builtin "ValueError.__new__"),some (.bool Bool.true)]}
noncomputable def ob108 (P : Params) : Obj:={cls:=.none,data:=.fields #[]}
noncomputable def ob89 (P : Params) : Obj:={cls:=.type "tuple",data:=.seq #[.ref 31]}
noncomputable def ob97 (P : Params) : Obj:={cls:=.type "dict",data:=.dict #[⟨PyData.keyHash P q16,.str q16 237,.str q4 194⟩,⟨PyData.keyHash P q17,.str q17 241,.int 9 240⟩,⟨PyData.keyHash P q18,.str q18 242,.ref 54⟩,⟨PyData.keyHash P q5,.str q5 243,.none⟩] 2}
noncomputable def ob112 (P : Params) : Obj:={cls:=.type "dict",data:=.dict #[⟨PyData.keyHash P q16,.str q16 253,.str q4 194⟩,⟨PyData.keyHash P q17,.str q17 257,.int 11 256⟩,⟨PyData.keyHash P q18,.str q18 258,.ref 66⟩,⟨PyData.keyHash P q5,.str q5 259,.none⟩] 2}
noncomputable def ob93 (P : Params) : Obj:={cls:=.none,data:=.fields #[]}
noncomputable def ob104 (P : Params) : Obj:={cls:=.type "tuple",data:=.seq #[.ref 31]}
noncomputable def ob110 (P : Params) : Obj:={cls:=.type "frame",slots:=#[some (.ref 64),some (.ref 3),some (.ref 61),none,some (.str q4 194),none,some (.ref 0)]}
noncomputable def ob91 (P : Params) : Obj:={cls:=.type "dict",data:=.dict #[⟨PyData.keyHash P q16,.str q16 237,.str q4 194⟩,⟨PyData.keyHash P q20,.str q20 239,.str q22 238⟩,⟨PyData.keyHash P q17,.str q17 241,.int 9 240⟩,⟨PyData.keyHash P q18,.str q18 242,.ref 54⟩] 4}
noncomputable def ob99 (P : Params) : Obj:={cls:=.type "super",data:=.fields #[.ref 56,.ref 56,.ref 56]}
noncomputable def ob114 (P : Params) : Obj:={cls:=.type "super",data:=.fields #[.ref 68,.ref 68,.ref 68]}
noncomputable def ob95 (P : Params) : Obj:={cls:=.type "frame",slots:=#[some (.ref 52),some (.ref 3),some (.ref 49),none,some (.str q4 194),none,some (.ref 0)]}
noncomputable def ob106 (P : Params) : Obj:={cls:=.type "dict",data:=.dict #[⟨PyData.keyHash P q16,.str q16 253,.str q4 194⟩,⟨PyData.keyHash P q20,.str q20 255,.str q23 254⟩,⟨PyData.keyHash P q17,.str q17 257,.int 11 256⟩,⟨PyData.keyHash P q18,.str q18 258,.ref 66⟩] 4}
noncomputable def ob109 (P : Params) : Obj:={cls:=.type "code",data:=.fields #[.str q23 248,.str q23 249,.str q1 250,.int 11 0,.int 0 0,.int 0 0,.int 0 0,.int 0 0,.ref 62,.bool Bool.false,.int 181 0,.ref 63,.none,.none,.none,.none,.int 251 0,.int 11 0,.str q1 252]}
noncomputable def ob90 (P : Params) : Obj:={cls:=.type "builtin_function_or_method",data:=.fields #[.builtin "type.__prepare__",.type "type"]}
noncomputable def ob98 (P : Params) : Obj:={cls:=.type "type",data:=.cls {name:=q22,bases:=[.ref 31],mro:=[.ref 56,.ref 31,.type "ValueError",.type "Exception",.type "BaseException",.type "object"],ns:=55,qualname:=q22},slots:=#[some (.ref 47),none,some (.str q22 230),some (.str q22 238),some (.builtin "ValueError.__new__"),some (.bool Bool.true)]}
noncomputable def ob102 (P : Params) : Obj:={cls:=.none,data:=.fields #[.int 1 0,.int 0 0,.ref 20,.int 5 0,.int 0 0,.ref 27,.int 7 0,.int 0 0,.ref 40,.int 9 0,.int 0 0,.ref 52,.int 11 0,.int 0 0,.ref 64]}
noncomputable def ob113 (P : Params) : Obj:={cls:=.type "type",data:=.cls {name:=q23,bases:=[.ref 31],mro:=[.ref 68,.ref 31,.type "ValueError",.type "Exception",.type "BaseException",.type "object"],ns:=67,qualname:=q23},slots:=#[some (.ref 59),none,some (.str q23 246),some (.str q23 254),some (.builtin "ValueError.__new__"),some (.bool Bool.true)]}
noncomputable def ob94 (P : Params) : Obj:={cls:=.type "code",data:=.fields #[.str q22 232,.str q22 233,.str q1 234,.int 9 0,.int 0 0,.int 0 0,.int 0 0,.int 0 0,.ref 50,.bool Bool.false,.int 181 0,.ref 51,.none,.none,.none,.none,.int 235 0,.int 9 0,.str q1 236]}
noncomputable def ob105 (P : Params) : Obj:={cls:=.type "builtin_function_or_method",data:=.fields #[.builtin "type.__prepare__",.type "type"]}
noncomputable def ob111 (P : Params) : Obj:={cls:=.type "tuple",data:=.seq #[]}
noncomputable def ob92 (P : Params) : Obj:={cls:=.type "tuple",data:=.seq #[]}
noncomputable def ob100 (P : Params) : Obj:={cls:=.type "builtin_function_or_method",data:=.fields #[.builtin "object.__init_subclass__",.ref 56]}
noncomputable def ob115 (P : Params) : Obj:={cls:=.type "builtin_function_or_method",data:=.fields #[.builtin "object.__init_subclass__",.ref 68]}
noncomputable def ob96 (P : Params) : Obj:={cls:=.type "tuple",data:=.seq #[]}
noncomputable def ob107 (P : Params) : Obj:={cls:=.type "tuple",data:=.seq #[]}
noncomputable def ob131 (P : Params) : Obj:={cls:=.type "dict",data:=.dict #[⟨PyData.keyHash P q3,.str q3 165,.str q4 194⟩,⟨PyData.keyHash P q5,.str q5 166,.none⟩,⟨PyData.keyHash P q6,.str q6 167,.none⟩,⟨PyData.keyHash P q7,.str q7 168,.builtin "__main__.__loader__#opaque"⟩,⟨PyData.keyHash P q8,.str q8 169,.none⟩,⟨PyData.keyHash P q9,.str q9 170,.ref 6⟩,⟨PyData.keyHash P q10,.str q10 171,.ref 4⟩,⟨PyData.keyHash P q11,.str q11 173,.str q1 172⟩,⟨PyData.keyHash P q12,.str q12 174,.none⟩,⟨PyData.keyHash P q13,.str q13 193,.ref 21⟩,⟨PyData.keyHash P q14,.str q14 213,.ref 31⟩,⟨PyData.keyHash P q15,.str q15 229,.ref 44⟩,⟨PyData.keyHash P q22,.str q22 245,.ref 56⟩,⟨PyData.keyHash P q23,.str q23 261,.ref 68⟩,⟨PyData.keyHash P q24,.str q24 277,.ref 80⟩,⟨PyData.keyHash P q25,.str q25 293,.ref 92⟩] 16}
noncomputable def ob133 (P : Params) : Obj:={cls:=.type "type",data:=.cls {name:=q14,bases:=[.type "ValueError"],mro:=[.ref 31,.type "ValueError",.type "Exception",.type "BaseException",.type "object"],ns:=30,qualname:=q14,subclasses:=[.ref 44,.ref 56,.ref 68,.ref 80,.ref 92]},slots:=#[some (.ref 22),none,some (.str q14 196),some (.str q14 204),some (.builtin "ValueError.__new__"),some (.bool Bool.true)]}
noncomputable def ob127 (P : Params) : Obj:={cls:=.type "dict",data:=.dict #[⟨PyData.keyHash P q16,.str q16 269,.str q4 194⟩,⟨PyData.keyHash P q17,.str q17 273,.int 13 272⟩,⟨PyData.keyHash P q18,.str q18 274,.ref 78⟩,⟨PyData.keyHash P q5,.str q5 275,.none⟩] 2}
noncomputable def ob119 (P : Params) : Obj:={cls:=.type "tuple",data:=.seq #[.ref 31]}
noncomputable def ob138 (P : Params) : Obj:={cls:=.none,data:=.fields #[]}
noncomputable def ob134 (P : Params) : Obj:={cls:=.type "tuple",data:=.seq #[.ref 31]}
noncomputable def ob123 (P : Params) : Obj:={cls:=.none,data:=.fields #[]}
noncomputable def ob142 (P : Params) : Obj:={cls:=.type "dict",data:=.dict #[⟨PyData.keyHash P q16,.str q16 285,.str q4 194⟩,⟨PyData.keyHash P q17,.str q17 289,.int 15 288⟩,⟨PyData.keyHash P q18,.str q18 290,.ref 90⟩,⟨PyData.keyHash P q5,.str q5 291,.none⟩] 2}
noncomputable def ob129 (P : Params) : Obj:={cls:=.type "super",data:=.fields #[.ref 80,.ref 80,.ref 80]}
noncomputable def ob121 (P : Params) : Obj:={cls:=.type "dict",data:=.dict #[⟨PyData.keyHash P q16,.str q16 269,.str q4 194⟩,⟨PyData.keyHash P q20,.str q20 271,.str q24 270⟩,⟨PyData.keyHash P q17,.str q17 273,.int 13 272⟩,⟨PyData.keyHash P q18,.str q18 274,.ref 78⟩] 4}
noncomputable def ob140 (P : Params) : Obj:={cls:=.type "frame",slots:=#[some (.ref 88),some (.ref 3),some (.ref 85),none,some (.str q4 194),none,some (.ref 0)]}
noncomputable def ob136 (P : Params) : Obj:={cls:=.type "dict",data:=.dict #[⟨PyData.keyHash P q16,.str q16 285,.str q4 194⟩,⟨PyData.keyHash P q20,.str q20 287,.str q25 286⟩,⟨PyData.keyHash P q17,.str q17 289,.int 15 288⟩,⟨PyData.keyHash P q18,.str q18 290,.ref 90⟩] 4}
noncomputable def ob125 (P : Params) : Obj:={cls:=.type "frame",slots:=#[some (.ref 76),some (.ref 3),some (.ref 73),none,some (.str q4 194),none,some (.ref 0)]}
noncomputable def ob144 (P : Params) : Obj:={cls:=.type "super",data:=.fields #[.ref 92,.ref 92,.ref 92]}
noncomputable def ob128 (P : Params) : Obj:={cls:=.type "type",data:=.cls {name:=q24,bases:=[.ref 31],mro:=[.ref 80,.ref 31,.type "ValueError",.type "Exception",.type "BaseException",.type "object"],ns:=79,qualname:=q24},slots:=#[some (.ref 71),none,some (.str q24 262),some (.str q24 270),some (.builtin "ValueError.__new__"),some (.bool Bool.true)]}
noncomputable def ob120 (P : Params) : Obj:={cls:=.type "builtin_function_or_method",data:=.fields #[.builtin "type.__prepare__",.type "type"]}
noncomputable def ob139 (P : Params) : Obj:={cls:=.type "code",data:=.fields #[.str q25 280,.str q25 281,.str q1 282,.int 15 0,.int 0 0,.int 0 0,.int 0 0,.int 0 0,.ref 86,.bool Bool.false,.int 181 0,.ref 87,.none,.none,.none,.none,.int 283 0,.int 15 0,.str q1 284]}
noncomputable def ob132 (P : Params) : Obj:={cls:=.none,data:=.fields #[.int 1 0,.int 0 0,.ref 20,.int 5 0,.int 0 0,.ref 27,.int 7 0,.int 0 0,.ref 40,.int 9 0,.int 0 0,.ref 52,.int 11 0,.int 0 0,.ref 64,.int 13 0,.int 0 0,.ref 76,.int 15 0,.int 0 0,.ref 88]}
noncomputable def ob135 (P : Params) : Obj:={cls:=.type "builtin_function_or_method",data:=.fields #[.builtin "type.__prepare__",.type "type"]}
noncomputable def ob124 (P : Params) : Obj:={cls:=.type "code",data:=.fields #[.str q24 264,.str q24 265,.str q1 266,.int 13 0,.int 0 0,.int 0 0,.int 0 0,.int 0 0,.ref 74,.bool Bool.false,.int 181 0,.ref 75,.none,.none,.none,.none,.int 267 0,.int 13 0,.str q1 268]}
noncomputable def ob143 (P : Params) : Obj:={cls:=.type "type",data:=.cls {name:=q25,bases:=[.ref 31],mro:=[.ref 92,.ref 31,.type "ValueError",.type "Exception",.type "BaseException",.type "object"],ns:=91,qualname:=q25},slots:=#[some (.ref 83),none,some (.str q25 278),some (.str q25 286),some (.builtin "ValueError.__new__"),some (.bool Bool.true)]}
noncomputable def ob130 (P : Params) : Obj:={cls:=.type "builtin_function_or_method",data:=.fields #[.builtin "object.__init_subclass__",.ref 80]}
noncomputable def ob122 (P : Params) : Obj:={cls:=.type "tuple",data:=.seq #[]}
noncomputable def ob141 (P : Params) : Obj:={cls:=.type "tuple",data:=.seq #[]}
noncomputable def ob137 (P : Params) : Obj:={cls:=.type "tuple",data:=.seq #[]}
noncomputable def ob126 (P : Params) : Obj:={cls:=.type "tuple",data:=.seq #[]}
noncomputable def ob145 (P : Params) : Obj:={cls:=.type "builtin_function_or_method",data:=.fields #[.builtin "object.__init_subclass__",.ref 92]}
noncomputable def ob146 (P : Params) : Obj:={cls:=.type "dict",data:=.dict #[⟨PyData.keyHash P q3,.str q3 165,.str q26 321⟩,⟨PyData.keyHash P q5,.str q5 166,.none⟩,⟨PyData.keyHash P q6,.str q6 167,.none⟩,⟨PyData.keyHash P q7,.str q7 168,.builtin "__main__.__loader__#opaque"⟩,⟨PyData.keyHash P q8,.str q8 169,.none⟩,⟨PyData.keyHash P q9,.str q9 170,.ref 6⟩,⟨PyData.keyHash P q10,.str q10 171,.ref 4⟩,⟨PyData.keyHash P q11,.str q11 173,.str q1 172⟩,⟨PyData.keyHash P q12,.str q12 174,.none⟩,⟨PyData.keyHash P q13,.str q13 193,.ref 21⟩,⟨PyData.keyHash P q14,.str q14 213,.ref 31⟩,⟨PyData.keyHash P q15,.str q15 229,.ref 44⟩,⟨PyData.keyHash P q22,.str q22 245,.ref 56⟩,⟨PyData.keyHash P q23,.str q23 261,.ref 68⟩,⟨PyData.keyHash P q24,.str q24 277,.ref 80⟩,⟨PyData.keyHash P q25,.str q25 293,.ref 92⟩,⟨PyData.keyHash P q27,.str q27 309,.ref 104⟩,⟨PyData.keyHash P q28,.str q28 320,.ref 113⟩] 18}
noncomputable def ob148 (P : Params) : Obj:={cls:=.type "type",data:=.cls {name:=q14,bases:=[.type "ValueError"],mro:=[.ref 31,.type "ValueError",.type "Exception",.type "BaseException",.type "object"],ns:=30,qualname:=q14,subclasses:=[.ref 44,.ref 56,.ref 68,.ref 80,.ref 92,.ref 104]},slots:=#[some (.ref 22),none,some (.str q14 196),some (.str q14 204),some (.builtin "ValueError.__new__"),some (.bool Bool.true)]}
noncomputable def ob149 (P : Params) : Obj:={cls:=.type "tuple",data:=.seq #[.ref 31]}
noncomputable def ob165 (P : Params) : Obj:={cls:=.none,data:=.func {name:=q28,qualname:=q28,params:=fArgs (sA 10),body:=.stmts (fBody (sA 10)),scope:=fScope (sA 10),globals:=0,closure:=[],defaults:=.none,kwdefaults:=.none}}
noncomputable def ob157 (P : Params) : Obj:={cls:=.type "dict",data:=.dict #[⟨PyData.keyHash P q16,.str q16 301,.str q4 194⟩,⟨PyData.keyHash P q17,.str q17 305,.int 17 304⟩,⟨PyData.keyHash P q18,.str q18 306,.ref 102⟩,⟨PyData.keyHash P q5,.str q5 307,.none⟩] 2}
noncomputable def ob153 (P : Params) : Obj:={cls:=.none,data:=.fields #[]}
noncomputable def ob161 (P : Params) : Obj:={cls:=.type "tuple",data:=.seq #[]}
noncomputable def ob151 (P : Params) : Obj:={cls:=.type "dict",data:=.dict #[⟨PyData.keyHash P q16,.str q16 301,.str q4 194⟩,⟨PyData.keyHash P q20,.str q20 303,.str q27 302⟩,⟨PyData.keyHash P q17,.str q17 305,.int 17 304⟩,⟨PyData.keyHash P q18,.str q18 306,.ref 102⟩] 4}
noncomputable def ob167 (P : Params) : Obj:={cls:=.type "function",data:=.func {name:=q28,qualname:=q28,params:=fArgs (sA 10),body:=.stmts (fBody (sA 10)),scope:=fScope (sA 10),globals:=3,closure:=[],defaults:=.none,kwdefaults:=.none,pyModule:=.str q29 310,code:=.ref 112}}
noncomputable def ob159 (P : Params) : Obj:={cls:=.type "super",data:=.fields #[.ref 104,.ref 104,.ref 104]}
noncomputable def ob155 (P : Params) : Obj:={cls:=.type "frame",slots:=#[some (.ref 100),some (.ref 3),some (.ref 97),none,some (.str q4 194),none,some (.ref 0)]}
noncomputable def ob163 (P : Params) : Obj:={cls:=.type "tuple",data:=.seq #[.str q30 315,.str q31 316,.str q32 317]}
noncomputable def ob150 (P : Params) : Obj:={cls:=.type "builtin_function_or_method",data:=.fields #[.builtin "type.__prepare__",.type "type"]}
noncomputable def ob166 (P : Params) : Obj:={cls:=.type "code",data:=.fields #[.str q28 312,.str q28 313,.str q1 314,.int 20 0,.int 3 0,.int 0 0,.int 0 0,.int 3 0,.ref 107,.bool Bool.true,.int 181 0,.ref 108,.none,.ref 109,.ref 110,.ref 111,.int 318 0,.int 20 0,.str q1 319]}
noncomputable def ob158 (P : Params) : Obj:={cls:=.type "type",data:=.cls {name:=q27,bases:=[.ref 31],mro:=[.ref 104,.ref 31,.type "ValueError",.type "Exception",.type "BaseException",.type "object"],ns:=103,qualname:=q27},slots:=#[some (.ref 95),none,some (.str q27 294),some (.str q27 302),some (.builtin "ValueError.__new__"),some (.bool Bool.true)]}
noncomputable def ob147 (P : Params) : Obj:={cls:=.none,data:=.fields #[.int 1 0,.int 0 0,.ref 20,.int 5 0,.int 0 0,.ref 27,.int 7 0,.int 0 0,.ref 40,.int 9 0,.int 0 0,.ref 52,.int 11 0,.int 0 0,.ref 64,.int 13 0,.int 0 0,.ref 76,.int 15 0,.int 0 0,.ref 88,.int 17 0,.int 0 0,.ref 100,.int 20 0,.int 0 0,.ref 112]}
noncomputable def ob154 (P : Params) : Obj:={cls:=.type "code",data:=.fields #[.str q27 296,.str q27 297,.str q1 298,.int 17 0,.int 0 0,.int 0 0,.int 0 0,.int 0 0,.ref 98,.bool Bool.false,.int 181 0,.ref 99,.none,.none,.none,.none,.int 299 0,.int 17 0,.str q1 300]}
noncomputable def ob162 (P : Params) : Obj:={cls:=.none,data:=.fields #[]}
noncomputable def ob152 (P : Params) : Obj:={cls:=.type "tuple",data:=.seq #[]}
noncomputable def ob160 (P : Params) : Obj:={cls:=.type "builtin_function_or_method",data:=.fields #[.builtin "object.__init_subclass__",.ref 104]}
noncomputable def ob156 (P : Params) : Obj:={cls:=.type "tuple",data:=.seq #[]}
noncomputable def ob164 (P : Params) : Obj:={cls:=.type "tuple",data:=.seq #[]}
noncomputable def ob168 (P : Params) : Obj:={cls:=.type "dict",data:=.dict #[⟨PyData.keyHash P q3,.str q3 165,.str q33 375⟩,⟨PyData.keyHash P q5,.str q5 166,.none⟩,⟨PyData.keyHash P q6,.str q6 167,.none⟩,⟨PyData.keyHash P q7,.str q7 168,.builtin "__main__.__loader__#opaque"⟩,⟨PyData.keyHash P q8,.str q8 169,.none⟩,⟨PyData.keyHash P q9,.str q9 170,.ref 6⟩,⟨PyData.keyHash P q10,.str q10 171,.ref 4⟩,⟨PyData.keyHash P q11,.str q11 173,.str q1 172⟩,⟨PyData.keyHash P q12,.str q12 174,.none⟩,⟨PyData.keyHash P q13,.str q13 193,.ref 21⟩,⟨PyData.keyHash P q14,.str q14 213,.ref 31⟩,⟨PyData.keyHash P q15,.str q15 229,.ref 44⟩,⟨PyData.keyHash P q22,.str q22 245,.ref 56⟩,⟨PyData.keyHash P q23,.str q23 261,.ref 68⟩,⟨PyData.keyHash P q24,.str q24 277,.ref 80⟩,⟨PyData.keyHash P q25,.str q25 293,.ref 92⟩,⟨PyData.keyHash P q27,.str q27 309,.ref 104⟩,⟨PyData.keyHash P q28,.str q28 320,.ref 113⟩,⟨PyData.keyHash P q34,.str q34 374,.ref 151⟩,⟨PyData.keyHash P q35,.str q35 378,.int 60 377⟩,⟨PyData.keyHash P q36,.str q36 380,.int 999999 379⟩] 21}
noncomputable def ob183 (P : Params) : Obj:={cls:=.type "function",data:=.func {name:=q37,qualname:=q38,params:=fArgs (mA 12 0),body:=.stmts (fBody (mA 12 0)),scope:=fScope (mA 12 0),globals:=3,closure:=[],defaults:=.none,kwdefaults:=.none,pyModule:=.str q26 321,code:=.ref 126}}
noncomputable def ob199 (P : Params) : Obj:={cls:=.none,data:=.fields #[]}
noncomputable def ob191 (P : Params) : Obj:={cls:=.type "tuple",data:=.seq #[]}
noncomputable def ob207 (P : Params) : Obj:={cls:=.type "type",data:=.cls {name:=q34,bases:=[.type "object"],mro:=[.ref 151,.type "object"],ns:=150,qualname:=q34},slots:=#[none,none,some (.str q34 323),some (.str q34 331),some (.builtin "object.__new__"),some (.bool Bool.true)]}
noncomputable def ob175 (P : Params) : Obj:={cls:=.type "code",data:=.fields #[.str q34 325,.str q34 326,.str q1 327,.int 23 0,.int 0 0,.int 0 0,.int 0 0,.int 0 0,.ref 117,.bool Bool.false,.int 181 0,.ref 118,.none,.none,.none,.none,.int 328 0,.int 23 0,.str q1 329]}
noncomputable def ob187 (P : Params) : Obj:={cls:=.type "tuple",data:=.seq #[]}
noncomputable def ob203 (P : Params) : Obj:={cls:=.type "code",data:=.fields #[.str q39 359,.str q40 360,.str q1 361,.int 38 0,.int 1 0,.int 0 0,.int 0 0,.int 3 0,.ref 142,.bool Bool.true,.int 181 0,.ref 143,.none,.ref 144,.ref 145,.ref 146,.int 363 0,.int 38 0,.str q1 364]}
noncomputable def ob171 (P : Params) : Obj:={cls:=.type "builtin_function_or_method",data:=.fields #[.builtin "type.__prepare__",.type "type"]}
noncomputable def ob195 (P : Params) : Obj:={cls:=.none,data:=.func {name:=q41,qualname:=q42,params:=fArgs (mA 12 2),body:=.stmts (fBody (mA 12 2)),scope:=fScope (mA 12 2),globals:=0,closure:=[],defaults:=.none,kwdefaults:=.none}}
noncomputable def ob211 (P : Params) : Obj:={cls:=.type "builtin_function_or_method",data:=.fields #[.builtin "object.__init_subclass__",.ref 151]}
noncomputable def ob179 (P : Params) : Obj:={cls:=.type "tuple",data:=.seq #[.str q43 338]}
noncomputable def ob185 (P : Params) : Obj:={cls:=.none,data:=.fields #[]}
noncomputable def ob201 (P : Params) : Obj:={cls:=.type "tuple",data:=.seq #[]}
noncomputable def ob193 (P : Params) : Obj:={cls:=.type "tuple",data:=.seq #[.str q43 353,.str q44 354,.str q45 355]}
noncomputable def ob209 (P : Params) : Obj:={cls:=.type "getset_descriptor",data:=.fields #[.str q21 370,.ref 151,.builtin "ExceptionGroup.__weakref__",.none]}
noncomputable def ob177 (P : Params) : Obj:={cls:=.type "tuple",data:=.seq #[]}
noncomputable def ob189 (P : Params) : Obj:={cls:=.type "code",data:=.fields #[.str q46 342,.str q47 343,.str q1 344,.int 28 0,.int 2 0,.int 0 0,.int 0 0,.int 3 0,.ref 128,.bool Bool.true,.int 181 0,.ref 129,.none,.ref 130,.ref 131,.ref 132,.int 347 0,.int 28 0,.str q1 348]}
noncomputable def ob205 (P : Params) : Obj:={cls:=.type "tuple",data:=.seq #[.str q48 366]}
noncomputable def ob173 (P : Params) : Obj:={cls:=.type "tuple",data:=.seq #[]}
noncomputable def ob197 (P : Params) : Obj:={cls:=.type "function",data:=.func {name:=q41,qualname:=q42,params:=fArgs (mA 12 2),body:=.stmts (fBody (mA 12 2)),scope:=fScope (mA 12 2),globals:=3,closure:=[],defaults:=.none,kwdefaults:=.none,pyModule:=.str q26 321,code:=.ref 140}}
noncomputable def ob181 (P : Params) : Obj:={cls:=.none,data:=.func {name:=q37,qualname:=q38,params:=fArgs (mA 12 0),body:=.stmts (fBody (mA 12 0)),scope:=fScope (mA 12 0),globals:=0,closure:=[],defaults:=.none,kwdefaults:=.none}}
noncomputable def ob184 (P : Params) : Obj:={cls:=.type "tuple",data:=.seq #[]}
noncomputable def ob200 (P : Params) : Obj:={cls:=.type "tuple",data:=.seq #[.str q43 362]}
noncomputable def ob192 (P : Params) : Obj:={cls:=.none,data:=.fields #[]}
noncomputable def ob208 (P : Params) : Obj:={cls:=.type "getset_descriptor",data:=.fields #[.str q49 368,.ref 151,.builtin "function.__dict__",.builtin "function.__dict__#set"]}
noncomputable def ob176 (P : Params) : Obj:={cls:=.type "frame",slots:=#[some (.ref 119),some (.ref 3),some (.ref 116),none,some (.str q26 321),none,some (.ref 0)]}
noncomputable def ob169 (P : Params) : Obj:={cls:=.none,data:=.fields #[.int 1 0,.int 0 0,.ref 20,.int 5 0,.int 0 0,.ref 27,.int 7 0,.int 0 0,.ref 40,.int 9 0,.int 0 0,.ref 52,.int 11 0,.int 0 0,.ref 64,.int 13 0,.int 0 0,.ref 76,.int 15 0,.int 0 0,.ref 88,.int 17 0,.int 0 0,.ref 100,.int 20 0,.int 0 0,.ref 112,.int 23 0,.int 0 0,.ref 119]}
noncomputable def ob188 (P : Params) : Obj:={cls:=.none,data:=.func {name:=q46,qualname:=q47,params:=fArgs (mA 12 1),body:=.stmts (fBody (mA 12 1)),scope:=fScope (mA 12 1),globals:=0,closure:=[],defaults:=.none,kwdefaults:=.none}}
noncomputable def ob204 (P : Params) : Obj:={cls:=.type "function",data:=.func {name:=q39,qualname:=q40,params:=fArgs (mA 12 3),body:=.stmts (fBody (mA 12 3)),scope:=fScope (mA 12 3),globals:=3,closure:=[],defaults:=.none,kwdefaults:=.none,pyModule:=.str q26 321,code:=.ref 147}}
noncomputable def ob172 (P : Params) : Obj:={cls:=.type "dict",data:=.dict #[⟨PyData.keyHash P q16,.str q16 330,.str q26 321⟩,⟨PyData.keyHash P q20,.str q20 332,.str q34 331⟩,⟨PyData.keyHash P q17,.str q17 334,.int 23 333⟩,⟨PyData.keyHash P q37,.str q37 341,.ref 127⟩,⟨PyData.keyHash P q46,.str q46 349,.ref 134⟩,⟨PyData.keyHash P q41,.str q41 358,.ref 141⟩,⟨PyData.keyHash P q39,.str q39 365,.ref 148⟩,⟨PyData.keyHash P q18,.str q18 367,.ref 149⟩] 8}
noncomputable def ob196 (P : Params) : Obj:={cls:=.type "code",data:=.fields #[.str q41 350,.str q42 351,.str q1 352,.int 31 0,.int 2 0,.int 0 0,.int 0 0,.int 3 0,.ref 135,.bool Bool.true,.int 181 0,.ref 136,.none,.ref 137,.ref 138,.ref 139,.int 356 0,.int 31 0,.str q1 357]}
noncomputable def ob180 (P : Params) : Obj:={cls:=.type "tuple",data:=.seq #[]}
noncomputable def ob186 (P : Params) : Obj:={cls:=.type "tuple",data:=.seq #[.str q43 345,.str q45 346]}
noncomputable def ob202 (P : Params) : Obj:={cls:=.none,data:=.func {name:=q39,qualname:=q40,params:=fArgs (mA 12 3),body:=.stmts (fBody (mA 12 3)),scope:=fScope (mA 12 3),globals:=0,closure:=[],defaults:=.none,kwdefaults:=.none}}
noncomputable def ob170 (P : Params) : Obj:={cls:=.type "tuple",data:=.seq #[]}
noncomputable def ob194 (P : Params) : Obj:={cls:=.type "tuple",data:=.seq #[]}
noncomputable def ob210 (P : Params) : Obj:={cls:=.type "super",data:=.fields #[.ref 151,.ref 151,.ref 151]}
noncomputable def ob178 (P : Params) : Obj:={cls:=.none,data:=.fields #[]}
noncomputable def ob190 (P : Params) : Obj:={cls:=.type "function",data:=.func {name:=q46,qualname:=q47,params:=fArgs (mA 12 1),body:=.stmts (fBody (mA 12 1)),scope:=fScope (mA 12 1),globals:=3,closure:=[],defaults:=.none,kwdefaults:=.none,pyModule:=.str q26 321,code:=.ref 133}}
noncomputable def ob206 (P : Params) : Obj:={cls:=.type "dict",data:=.dict #[⟨PyData.keyHash P q16,.str q16 330,.str q26 321⟩,⟨PyData.keyHash P q17,.str q17 334,.int 23 333⟩,⟨PyData.keyHash P q37,.str q37 341,.ref 127⟩,⟨PyData.keyHash P q46,.str q46 349,.ref 134⟩,⟨PyData.keyHash P q41,.str q41 358,.ref 141⟩,⟨PyData.keyHash P q39,.str q39 365,.ref 148⟩,⟨PyData.keyHash P q18,.str q18 367,.ref 149⟩,⟨PyData.keyHash P q49,.str q49 369,.ref 152⟩,⟨PyData.keyHash P q21,.str q21 371,.ref 153⟩,⟨PyData.keyHash P q5,.str q5 372,.none⟩] 4}
noncomputable def ob174 (P : Params) : Obj:={cls:=.none,data:=.fields #[.int 25 0,.int 4 0,.ref 126,.int 28 0,.int 4 0,.ref 133,.int 31 0,.int 4 0,.ref 140,.int 38 0,.int 4 0,.ref 147]}
noncomputable def ob198 (P : Params) : Obj:={cls:=.type "tuple",data:=.seq #[]}
noncomputable def ob182 (P : Params) : Obj:={cls:=.type "code",data:=.fields #[.str q37 335,.str q38 336,.str q1 337,.int 25 0,.int 1 0,.int 0 0,.int 0 0,.int 3 0,.ref 121,.bool Bool.true,.int 181 0,.ref 122,.none,.ref 123,.ref 124,.ref 125,.int 339 0,.int 25 0,.str q1 340]}
noncomputable def ob212 (P : Params) : Obj:={cls:=.type "dict",data:=.dict #[⟨PyData.keyHash P q3,.str q3 165,.str q33 375⟩,⟨PyData.keyHash P q5,.str q5 166,.none⟩,⟨PyData.keyHash P q6,.str q6 167,.none⟩,⟨PyData.keyHash P q7,.str q7 168,.builtin "__main__.__loader__#opaque"⟩,⟨PyData.keyHash P q8,.str q8 169,.none⟩,⟨PyData.keyHash P q9,.str q9 170,.ref 6⟩,⟨PyData.keyHash P q10,.str q10 171,.ref 4⟩,⟨PyData.keyHash P q11,.str q11 173,.str q1 172⟩,⟨PyData.keyHash P q12,.str q12 174,.none⟩,⟨PyData.keyHash P q13,.str q13 193,.ref 21⟩,⟨PyData.keyHash P q14,.str q14 213,.ref 31⟩,⟨PyData.keyHash P q15,.str q15 229,.ref 44⟩,⟨PyData.keyHash P q22,.str q22 245,.ref 56⟩,⟨PyData.keyHash P q23,.str q23 261,.ref 68⟩,⟨PyData.keyHash P q24,.str q24 277,.ref 80⟩,⟨PyData.keyHash P q25,.str q25 293,.ref 92⟩,⟨PyData.keyHash P q27,.str q27 309,.ref 104⟩,⟨PyData.keyHash P q28,.str q28 320,.ref 113⟩,⟨PyData.keyHash P q34,.str q34 374,.ref 151⟩,⟨PyData.keyHash P q35,.str q35 378,.int 60 377⟩,⟨PyData.keyHash P q36,.str q36 380,.int 999999 379⟩,⟨PyData.keyHash P q50,.str q50 534,.ref 270⟩] 22}
noncomputable def ob313 (P : Params) : Obj:={cls:=.none,data:=.fields #[]}
noncomputable def ob249 (P : Params) : Obj:={cls:=.type "tuple",data:=.seq #[]}
noncomputable def ob217 (P : Params) : Obj:={cls:=.type "tuple",data:=.seq #[]}
noncomputable def ob281 (P : Params) : Obj:={cls:=.none,data:=.func {name:=q51,qualname:=q52,params:=fArgs (mA 16 8),body:=.stmts (fBody (mA 16 8)),scope:=fScope (mA 16 8),globals:=0,closure:=[],defaults:=.none,kwdefaults:=.none}}
noncomputable def ob329 (P : Params) : Obj:={cls:=.type "getset_descriptor",data:=.fields #[.str q49 528,.ref 270,.builtin "function.__dict__",.builtin "function.__dict__#set"]}
noncomputable def ob265 (P : Params) : Obj:={cls:=.type "tuple",data:=.seq #[.str q43 445,.str q53 446]}
noncomputable def ob233 (P : Params) : Obj:={cls:=.type "code",data:=.fields #[.str q54 401,.str q55 402,.str q1 403,.int 56 0,.int 1 0,.int 0 0,.int 0 0,.int 3 0,.ref 170,.bool Bool.true,.int 181 0,.ref 171,.none,.ref 172,.ref 173,.ref 174,.int 405 0,.int 56 0,.str q1 406]}
noncomputable def ob297 (P : Params) : Obj:={cls:=.type "function",data:=.func {name:=q56,qualname:=q57,params:=fArgs (mA 16 10),body:=.stmts (fBody (mA 16 10)),scope:=fScope (mA 16 10),globals:=3,closure:=[],defaults:=.none,kwdefaults:=.none,pyModule:=.str q33 375,code:=.ref 238}}
noncomputable def ob321 (P : Params) : Obj:={cls:=.type "tuple",data:=.seq #[.str q43 516]}
noncomputable def ob257 (P : Params) : Obj:={cls:=.none,data:=.fields #[]}
noncomputable def ob225 (P : Params) : Obj:={cls:=.none,data:=.func {name:=q37,qualname:=q58,params:=fArgs (mA 16 0),body:=.stmts (fBody (mA 16 0)),scope:=fScope (mA 16 0),globals:=0,closure:=[],defaults:=.none,kwdefaults:=.none}}
noncomputable def ob289 (P : Params) : Obj:={cls:=.type "code",data:=.fields #[.str q59 469,.str q60 470,.str q1 471,.int 113 0,.int 2 0,.int 0 0,.int 0 0,.int 3 0,.ref 226,.bool Bool.true,.int 181 0,.ref 227,.none,.ref 228,.ref 229,.ref 230,.int 478 0,.int 113 0,.str q1 479]}
noncomputable def ob273 (P : Params) : Obj:={cls:=.type "tuple",data:=.seq #[]}
noncomputable def ob241 (P : Params) : Obj:={cls:=.type "function",data:=.func {name:=q61,qualname:=q62,params:=fArgs (mA 16 2),body:=.stmts (fBody (mA 16 2)),scope:=fScope (mA 16 2),globals:=3,closure:=[],defaults:=.none,kwdefaults:=.none,pyModule:=.str q33 375,code:=.ref 182}}
noncomputable def ob305 (P : Params) : Obj:={cls:=.type "tuple",data:=.seq #[]}
noncomputable def ob317 (P : Params) : Obj:={cls:=.type "code",data:=.fields #[.str q63 506,.str q64 507,.str q1 508,.int 139 0,.int 1 0,.int 0 0,.int 0 0,.int 3 0,.ref 254,.bool Bool.true,.int 181 0,.ref 255,.none,.ref 256,.ref 257,.ref 258,.int 510 0,.int 139 0,.str q1 511]}
noncomputable def ob253 (P : Params) : Obj:={cls:=.none,data:=.func {name:=q65,qualname:=q66,params:=fArgs (mA 16 4),body:=.stmts (fBody (mA 16 4)),scope:=fScope (mA 16 4),globals:=0,closure:=[],defaults:=.none,kwdefaults:=.none}}
noncomputable def ob221 (P : Params) : Obj:={cls:=.type "tuple",data:=.seq #[]}
noncomputable def ob285 (P : Params) : Obj:={cls:=.none,data:=.fields #[]}
noncomputable def ob269 (P : Params) : Obj:={cls:=.type "function",data:=.func {name:=q67,qualname:=q68,params:=fArgs (mA 16 6),body:=.stmts (fBody (mA 16 6)),scope:=fScope (mA 16 6),globals:=3,closure:=[],defaults:=.none,kwdefaults:=.none,pyModule:=.str q33 375,code:=.ref 210}}
noncomputable def ob237 (P : Params) : Obj:={cls:=.type "tuple",data:=.seq #[.str q43 411,.str q69 412]}
noncomputable def ob301 (P : Params) : Obj:={cls:=.type "tuple",data:=.seq #[]}
noncomputable def ob325 (P : Params) : Obj:={cls:=.type "function",data:=.func {name:=q70,qualname:=q71,params:=fArgs (mA 16 14),body:=.stmts (fBody (mA 16 14)),scope:=fScope (mA 16 14),globals:=3,closure:=[],defaults:=.none,kwdefaults:=.none,pyModule:=.str q33 375,code:=.ref 266}}
noncomputable def ob261 (P : Params) : Obj:={cls:=.type "code",data:=.fields #[.str q72 432,.str q73 433,.str q1 434,.int 72 0,.int 2 0,.int 0 0,.int 0 0,.int 3 0,.ref 198,.bool Bool.true,.int 181 0,.ref 199,.none,.ref 200,.ref 201,.ref 202,.int 439 0,.int 72 0,.str q1 440]}
noncomputable def ob229 (P : Params) : Obj:={cls:=.none,data:=.fields #[]}
noncomputable def ob293 (P : Params) : Obj:={cls:=.type "tuple",data:=.seq #[.str q43 484,.str q44 485,.str q45 486,.str q69 487]}
noncomputable def ob277 (P : Params) : Obj:={cls:=.type "tuple",data:=.seq #[]}
noncomputable def ob245 (P : Params) : Obj:={cls:=.type "tuple",data:=.seq #[]}
noncomputable def ob309 (P : Params) : Obj:={cls:=.none,data:=.func {name:=q39,qualname:=q74,params:=fArgs (mA 16 12),body:=.stmts (fBody (mA 16 12)),scope:=fScope (mA 16 12),globals:=0,closure:=[],defaults:=.none,kwdefaults:=.none}}
noncomputable def ob315 (P : Params) : Obj:={cls:=.type "tuple",data:=.seq #[]}
noncomputable def ob251 (P : Params) : Obj:={cls:=.type "tuple",data:=.seq #[.str q43 427,.str q48 428]}
noncomputable def ob219 (P : Params) : Obj:={cls:=.type "code",data:=.fields #[.str q50 383,.str q50 384,.str q1 385,.int 43 0,.int 0 0,.int 0 0,.int 0 0,.int 0 0,.ref 159,.bool Bool.false,.int 181 0,.ref 160,.none,.none,.none,.none,.int 386 0,.int 43 0,.str q1 387]}
noncomputable def ob283 (P : Params) : Obj:={cls:=.type "function",data:=.func {name:=q51,qualname:=q52,params:=fArgs (mA 16 8),body:=.stmts (fBody (mA 16 8)),scope:=fScope (mA 16 8),globals:=3,closure:=[],defaults:=.none,kwdefaults:=.none,pyModule:=.str q33 375,code:=.ref 224}}
noncomputable def ob331 (P : Params) : Obj:={cls:=.type "super",data:=.fields #[.ref 270,.ref 270,.ref 270]}
noncomputable def ob267 (P : Params) : Obj:={cls:=.none,data:=.func {name:=q67,qualname:=q68,params:=fArgs (mA 16 6),body:=.stmts (fBody (mA 16 6)),scope:=fScope (mA 16 6),globals:=0,closure:=[],defaults:=.none,kwdefaults:=.none}}
noncomputable def ob235 (P : Params) : Obj:={cls:=.type "tuple",data:=.seq #[]}
noncomputable def ob299 (P : Params) : Obj:={cls:=.none,data:=.fields #[]}
noncomputable def ob323 (P : Params) : Obj:={cls:=.none,data:=.func {name:=q70,qualname:=q71,params:=fArgs (mA 16 14),body:=.stmts (fBody (mA 16 14)),scope:=fScope (mA 16 14),globals:=0,closure:=[],defaults:=.none,kwdefaults:=.none}}
noncomputable def ob259 (P : Params) : Obj:={cls:=.type "tuple",data:=.seq #[]}
noncomputable def ob227 (P : Params) : Obj:={cls:=.type "function",data:=.func {name:=q37,qualname:=q58,params:=fArgs (mA 16 0),body:=.stmts (fBody (mA 16 0)),scope:=fScope (mA 16 0),globals:=3,closure:=[],defaults:=.none,kwdefaults:=.none,pyModule:=.str q33 375,code:=.ref 168}}
noncomputable def ob291 (P : Params) : Obj:={cls:=.type "tuple",data:=.seq #[]}
noncomputable def ob275 (P : Params) : Obj:={cls:=.type "code",data:=.fields #[.str q75 450,.str q76 451,.str q1 452,.int 94 0,.int 2 0,.int 0 0,.int 0 0,.int 3 0,.ref 212,.bool Bool.true,.int 181 0,.ref 213,.none,.ref 214,.ref 215,.ref 216,.int 455 0,.int 94 0,.str q1 456]}
noncomputable def ob243 (P : Params) : Obj:={cls:=.none,data:=.fields #[]}
noncomputable def ob307 (P : Params) : Obj:={cls:=.type "tuple",data:=.seq #[.str q43 502]}
noncomputable def ob319 (P : Params) : Obj:={cls:=.type "tuple",data:=.seq #[]}
noncomputable def ob255 (P : Params) : Obj:={cls:=.type "function",data:=.func {name:=q65,qualname:=q66,params:=fArgs (mA 16 4),body:=.stmts (fBody (mA 16 4)),scope:=fScope (mA 16 4),globals:=3,closure:=[],defaults:=.none,kwdefaults:=.none,pyModule:=.str q33 375,code:=.ref 196}}
noncomputable def ob223 (P : Params) : Obj:={cls:=.type "tuple",data:=.seq #[.str q43 396,.str q77 397]}
noncomputable def ob287 (P : Params) : Obj:={cls:=.type "tuple",data:=.seq #[]}
noncomputable def ob271 (P : Params) : Obj:={cls:=.none,data:=.fields #[]}
noncomputable def ob239 (P : Params) : Obj:={cls:=.none,data:=.func {name:=q61,qualname:=q62,params:=fArgs (mA 16 2),body:=.stmts (fBody (mA 16 2)),scope:=fScope (mA 16 2),globals:=0,closure:=[],defaults:=.none,kwdefaults:=.none}}
noncomputable def ob303 (P : Params) : Obj:={cls:=.type "code",data:=.fields #[.str q78 491,.str q79 492,.str q1 493,.int 132 0,.int 2 0,.int 0 0,.int 0 0,.int 3 0,.ref 240,.bool Bool.true,.int 181 0,.ref 241,.none,.ref 242,.ref 243,.ref 244,.int 496 0,.int 132 0,.str q1 497]}
noncomputable def ob327 (P : Params) : Obj:={cls:=.type "dict",data:=.dict #[⟨PyData.keyHash P q16,.str q16 388,.str q33 375⟩,⟨PyData.keyHash P q17,.str q17 392,.int 43 391⟩,⟨PyData.keyHash P q37,.str q37 400,.ref 169⟩,⟨PyData.keyHash P q54,.str q54 407,.ref 176⟩,⟨PyData.keyHash P q61,.str q61 415,.ref 183⟩,⟨PyData.keyHash P q80,.str q80 423,.ref 190⟩,⟨PyData.keyHash P q65,.str q65 431,.ref 197⟩,⟨PyData.keyHash P q72,.str q72 441,.ref 204⟩,⟨PyData.keyHash P q67,.str q67 449,.ref 211⟩,⟨PyData.keyHash P q75,.str q75 457,.ref 218⟩,⟨PyData.keyHash P q51,.str q51 468,.ref 225⟩,⟨PyData.keyHash P q59,.str q59 480,.ref 232⟩,⟨PyData.keyHash P q56,.str q56 490,.ref 239⟩,⟨PyData.keyHash P q78,.str q78 498,.ref 246⟩,⟨PyData.keyHash P q39,.str q39 505,.ref 253⟩,⟨PyData.keyHash P q63,.str q63 512,.ref 260⟩,⟨PyData.keyHash P q70,.str q70 519,.ref 267⟩,⟨PyData.keyHash P q18,.str q18 527,.ref 268⟩,⟨PyData.keyHash P q49,.str q49 529,.ref 271⟩,⟨PyData.keyHash P q21,.str q21 531,.ref 272⟩,⟨PyData.keyHash P q5,.str q5 532,.none⟩] 4}
noncomputable def ob263 (P : Params) : Obj:={cls:=.type "tuple",data:=.seq #[]}
noncomputable def ob231 (P : Params) : Obj:={cls:=.type "tuple",data:=.seq #[]}
noncomputable def ob295 (P : Params) : Obj:={cls:=.none,data:=.func {name:=q56,qualname:=q57,params:=fArgs (mA 16 10),body:=.stmts (fBody (mA 16 10)),scope:=fScope (mA 16 10),globals:=0,closure:=[],defaults:=.none,kwdefaults:=.none}}
noncomputable def ob215 (P : Params) : Obj:={cls:=.type "builtin_function_or_method",data:=.fields #[.builtin "type.__prepare__",.type "type"]}
noncomputable def ob279 (P : Params) : Obj:={cls:=.type "tuple",data:=.seq #[.str q43 461,.str q78 462,.str q81 463,.str q53 464,.str q45 465]}
noncomputable def ob247 (P : Params) : Obj:={cls:=.type "code",data:=.fields #[.str q80 416,.str q82 417,.str q1 418,.int 63 0,.int 2 0,.int 0 0,.int 0 0,.int 3 0,.ref 184,.bool Bool.true,.int 181 0,.ref 185,.none,.ref 186,.ref 187,.ref 188,.int 421 0,.int 63 0,.str q1 422]}
noncomputable def ob311 (P : Params) : Obj:={cls:=.type "function",data:=.func {name:=q39,qualname:=q74,params:=fArgs (mA 16 12),body:=.stmts (fBody (mA 16 12)),scope:=fScope (mA 16 12),globals:=3,closure:=[],defaults:=.none,kwdefaults:=.none,pyModule:=.str q33 375,code:=.ref 252}}
noncomputable def ob314 (P : Params) : Obj:={cls:=.type "tuple",data:=.seq #[.str q43 509]}
noncomputable def ob250 (P : Params) : Obj:={cls:=.none,data:=.fields #[]}
noncomputable def ob218 (P : Params) : Obj:={cls:=.none,data:=.fields #[.int 45 0,.int 4 0,.ref 168,.int 56 0,.int 4 0,.ref 175,.int 59 0,.int 4 0,.ref 182,.int 63 0,.int 4 0,.ref 189,.int 68 0,.int 4 0,.ref 196,.int 72 0,.int 4 0,.ref 203,.int 85 0,.int 4 0,.ref 210,.int 94 0,.int 4 0,.ref 217,.int 102 0,.int 4 0,.ref 224,.int 113 0,.int 4 0,.ref 231,.int 123 0,.int 4 0,.ref 238,.int 132 0,.int 4 0,.ref 245,.int 136 0,.int 4 0,.ref 252,.int 139 0,.int 4 0,.ref 259,.int 142 0,.int 4 0,.ref 266]}
noncomputable def ob282 (P : Params) : Obj:={cls:=.type "code",data:=.fields #[.str q51 458,.str q52 459,.str q1 460,.int 102 0,.int 4 0,.int 0 0,.int 0 0,.int 3 0,.ref 219,.bool Bool.true,.int 181 0,.ref 220,.none,.ref 221,.ref 222,.ref 223,.int 466 0,.int 102 0,.str q1 467]}
noncomputable def ob330 (P : Params) : Obj:={cls:=.type "getset_descriptor",data:=.fields #[.str q21 530,.ref 270,.builtin "ExceptionGroup.__weakref__",.none]}
noncomputable def ob266 (P : Params) : Obj:={cls:=.type "tuple",data:=.seq #[]}
noncomputable def ob234 (P : Params) : Obj:={cls:=.type "function",data:=.func {name:=q54,qualname:=q55,params:=fArgs (mA 16 1),body:=.stmts (fBody (mA 16 1)),scope:=fScope (mA 16 1),globals:=3,closure:=[],defaults:=.none,kwdefaults:=.none,pyModule:=.str q33 375,code:=.ref 175}}
noncomputable def ob298 (P : Params) : Obj:={cls:=.type "tuple",data:=.seq #[]}
noncomputable def ob322 (P : Params) : Obj:={cls:=.type "tuple",data:=.seq #[]}
noncomputable def ob258 (P : Params) : Obj:={cls:=.type "tuple",data:=.seq #[.str q43 435,.str q69 436,.str q83 437,.str q45 438]}
noncomputable def ob226 (P : Params) : Obj:={cls:=.type "code",data:=.fields #[.str q37 393,.str q58 394,.str q1 395,.int 45 0,.int 2 0,.int 0 0,.int 0 0,.int 3 0,.ref 163,.bool Bool.true,.int 181 0,.ref 164,.none,.ref 165,.ref 166,.ref 167,.int 398 0,.int 45 0,.str q1 399]}
noncomputable def ob290 (P : Params) : Obj:={cls:=.type "function",data:=.func {name:=q59,qualname:=q60,params:=fArgs (mA 16 9),body:=.stmts (fBody (mA 16 9)),scope:=fScope (mA 16 9),globals:=3,closure:=[],defaults:=.none,kwdefaults:=.none,pyModule:=.str q33 375,code:=.ref 231}}
noncomputable def ob274 (P : Params) : Obj:={cls:=.none,data:=.func {name:=q75,qualname:=q76,params:=fArgs (mA 16 7),body:=.stmts (fBody (mA 16 7)),scope:=fScope (mA 16 7),globals:=0,closure:=[],defaults:=.none,kwdefaults:=.none}}
noncomputable def ob242 (P : Params) : Obj:={cls:=.type "tuple",data:=.seq #[]}
noncomputable def ob306 (P : Params) : Obj:={cls:=.none,data:=.fields #[]}
noncomputable def ob213 (P : Params) : Obj:={cls:=.none,data:=.fields #[.int 1 0,.int 0 0,.ref 20,.int 5 0,.int 0 0,.ref 27,.int 7 0,.int 0 0,.ref 40,.int 9 0,.int 0 0,.ref 52,.int 11 0,.int 0 0,.ref 64,.int 13 0,.int 0 0,.ref 76,.int 15 0,.int 0 0,.ref 88,.int 17 0,.int 0 0,.ref 100,.int 20 0,.int 0 0,.ref 112,.int 23 0,.int 0 0,.ref 119,.int 43 0,.int 0 0,.ref 161]}
noncomputable def ob318 (P : Params) : Obj:={cls:=.type "function",data:=.func {name:=q63,qualname:=q64,params:=fArgs (mA 16 13),body:=.stmts (fBody (mA 16 13)),scope:=fScope (mA 16 13),globals:=3,closure:=[],defaults:=.none,kwdefaults:=.none,pyModule:=.str q33 375,code:=.ref 259}}
noncomputable def ob254 (P : Params) : Obj:={cls:=.type "code",data:=.fields #[.str q65 424,.str q66 425,.str q1 426,.int 68 0,.int 2 0,.int 0 0,.int 0 0,.int 3 0,.ref 191,.bool Bool.true,.int 181 0,.ref 192,.none,.ref 193,.ref 194,.ref 195,.int 429 0,.int 68 0,.str q1 430]}
noncomputable def ob222 (P : Params) : Obj:={cls:=.none,data:=.fields #[]}
noncomputable def ob286 (P : Params) : Obj:={cls:=.type "tuple",data:=.seq #[.str q43 472,.str q45 473,.str q84 474,.str q85 475,.str q69 476,.str q53 477]}
noncomputable def ob270 (P : Params) : Obj:={cls:=.type "tuple",data:=.seq #[]}
noncomputable def ob238 (P : Params) : Obj:={cls:=.type "tuple",data:=.seq #[]}
noncomputable def ob302 (P : Params) : Obj:={cls:=.none,data:=.func {name:=q78,qualname:=q79,params:=fArgs (mA 16 11),body:=.stmts (fBody (mA 16 11)),scope:=fScope (mA 16 11),globals:=0,closure:=[],defaults:=.none,kwdefaults:=.none}}
noncomputable def ob326 (P : Params) : Obj:={cls:=.type "tuple",data:=.seq #[.str q86 520,.str q87 521,.str q53 522,.str q88 523,.str q89 524,.str q90 525,.str q91 526]}
noncomputable def ob262 (P : Params) : Obj:={cls:=.type "function",data:=.func {name:=q72,qualname:=q73,params:=fArgs (mA 16 5),body:=.stmts (fBody (mA 16 5)),scope:=fScope (mA 16 5),globals:=3,closure:=[],defaults:=.none,kwdefaults:=.none,pyModule:=.str q33 375,code:=.ref 203}}
noncomputable def ob230 (P : Params) : Obj:={cls:=.type "tuple",data:=.seq #[.str q43 404]}
noncomputable def ob294 (P : Params) : Obj:={cls:=.type "tuple",data:=.seq #[]}
noncomputable def ob214 (P : Params) : Obj:={cls:=.type "tuple",data:=.seq #[]}
noncomputable def ob278 (P : Params) : Obj:={cls:=.none,data:=.fields #[]}
noncomputable def ob246 (P : Params) : Obj:={cls:=.none,data:=.func {name:=q80,qualname:=q82,params:=fArgs (mA 16 3),body:=.stmts (fBody (mA 16 3)),scope:=fScope (mA 16 3),globals:=0,closure:=[],defaults:=.none,kwdefaults:=.none}}
noncomputable def ob310 (P : Params) : Obj:={cls:=.type "code",data:=.fields #[.str q39 499,.str q74 500,.str q1 501,.int 136 0,.int 1 0,.int 0 0,.int 0 0,.int 3 0,.ref 247,.bool Bool.true,.int 181 0,.ref 248,.none,.ref 249,.ref 250,.ref 251,.int 503 0,.int 136 0,.str q1 504]}
noncomputable def ob316 (P : Params) : Obj:={cls:=.none,data:=.func {name:=q63,qualname:=q64,params:=fArgs (mA 16 13),body:=.stmts (fBody (mA 16 13)),scope:=fScope (mA 16 13),globals:=0,closure:=[],defaults:=.none,kwdefaults:=.none}}
noncomputable def ob252 (P : Params) : Obj:={cls:=.type "tuple",data:=.seq #[]}
noncomputable def ob220 (P : Params) : Obj:={cls:=.type "frame",slots:=#[some (.ref 161),some (.ref 3),some (.ref 158),none,some (.str q33 375),none,some (.ref 0)]}
noncomputable def ob284 (P : Params) : Obj:={cls:=.type "tuple",data:=.seq #[]}
noncomputable def ob332 (P : Params) : Obj:={cls:=.type "builtin_function_or_method",data:=.fields #[.builtin "object.__init_subclass__",.ref 270]}
noncomputable def ob268 (P : Params) : Obj:={cls:=.type "code",data:=.fields #[.str q67 442,.str q68 443,.str q1 444,.int 85 0,.int 2 0,.int 0 0,.int 0 0,.int 3 0,.ref 205,.bool Bool.true,.int 181 0,.ref 206,.none,.ref 207,.ref 208,.ref 209,.int 447 0,.int 85 0,.str q1 448]}
noncomputable def ob236 (P : Params) : Obj:={cls:=.none,data:=.fields #[]}
noncomputable def ob300 (P : Params) : Obj:={cls:=.type "tuple",data:=.seq #[.str q43 494,.str q69 495]}
noncomputable def ob324 (P : Params) : Obj:={cls:=.type "code",data:=.fields #[.str q70 513,.str q71 514,.str q1 515,.int 142 0,.int 1 0,.int 0 0,.int 0 0,.int 3 0,.ref 261,.bool Bool.true,.int 181 0,.ref 262,.none,.ref 263,.ref 264,.ref 265,.int 517 0,.int 142 0,.str q1 518]}
noncomputable def ob260 (P : Params) : Obj:={cls:=.none,data:=.func {name:=q72,qualname:=q73,params:=fArgs (mA 16 5),body:=.stmts (fBody (mA 16 5)),scope:=fScope (mA 16 5),globals:=0,closure:=[],defaults:=.none,kwdefaults:=.none}}
noncomputable def ob228 (P : Params) : Obj:={cls:=.type "tuple",data:=.seq #[]}
noncomputable def ob292 (P : Params) : Obj:={cls:=.none,data:=.fields #[]}
noncomputable def ob276 (P : Params) : Obj:={cls:=.type "function",data:=.func {name:=q75,qualname:=q76,params:=fArgs (mA 16 7),body:=.stmts (fBody (mA 16 7)),scope:=fScope (mA 16 7),globals:=3,closure:=[],defaults:=.none,kwdefaults:=.none,pyModule:=.str q33 375,code:=.ref 217}}
noncomputable def ob244 (P : Params) : Obj:={cls:=.type "tuple",data:=.seq #[.str q43 419,.str q69 420]}
noncomputable def ob308 (P : Params) : Obj:={cls:=.type "tuple",data:=.seq #[]}
noncomputable def ob320 (P : Params) : Obj:={cls:=.none,data:=.fields #[]}
noncomputable def ob256 (P : Params) : Obj:={cls:=.type "tuple",data:=.seq #[]}
noncomputable def ob224 (P : Params) : Obj:={cls:=.type "tuple",data:=.seq #[]}
noncomputable def ob288 (P : Params) : Obj:={cls:=.none,data:=.func {name:=q59,qualname:=q60,params:=fArgs (mA 16 9),body:=.stmts (fBody (mA 16 9)),scope:=fScope (mA 16 9),globals:=0,closure:=[],defaults:=.none,kwdefaults:=.none}}
noncomputable def ob272 (P : Params) : Obj:={cls:=.type "tuple",data:=.seq #[.str q43 453,.str q78 454]}
noncomputable def ob240 (P : Params) : Obj:={cls:=.type "code",data:=.fields #[.str q61 408,.str q62 409,.str q1 410,.int 59 0,.int 2 0,.int 0 0,.int 0 0,.int 3 0,.ref 177,.bool Bool.true,.int 181 0,.ref 178,.none,.ref 179,.ref 180,.ref 181,.int 413 0,.int 59 0,.str q1 414]}
noncomputable def ob304 (P : Params) : Obj:={cls:=.type "function",data:=.func {name:=q78,qualname:=q79,params:=fArgs (mA 16 11),body:=.stmts (fBody (mA 16 11)),scope:=fScope (mA 16 11),globals:=3,closure:=[],defaults:=.none,kwdefaults:=.none,pyModule:=.str q33 375,code:=.ref 245}}
noncomputable def ob328 (P : Params) : Obj:={cls:=.type "type",data:=.cls {name:=q50,bases:=[.type "object"],mro:=[.ref 270,.type "object"],ns:=269,qualname:=q50},slots:=#[none,none,some (.str q50 381),some (.str q50 389),some (.builtin "object.__new__"),some (.bool Bool.true)]}
noncomputable def ob264 (P : Params) : Obj:={cls:=.none,data:=.fields #[]}
noncomputable def ob232 (P : Params) : Obj:={cls:=.none,data:=.func {name:=q54,qualname:=q55,params:=fArgs (mA 16 1),body:=.stmts (fBody (mA 16 1)),scope:=fScope (mA 16 1),globals:=0,closure:=[],defaults:=.none,kwdefaults:=.none}}
noncomputable def ob296 (P : Params) : Obj:={cls:=.type "code",data:=.fields #[.str q56 481,.str q57 482,.str q1 483,.int 123 0,.int 2 0,.int 0 0,.int 0 0,.int 3 0,.ref 233,.bool Bool.true,.int 181 0,.ref 234,.none,.ref 235,.ref 236,.ref 237,.int 488 0,.int 123 0,.str q1 489]}
noncomputable def ob216 (P : Params) : Obj:={cls:=.type "dict",data:=.dict #[⟨PyData.keyHash P q16,.str q16 388,.str q33 375⟩,⟨PyData.keyHash P q20,.str q20 390,.str q50 389⟩,⟨PyData.keyHash P q17,.str q17 392,.int 43 391⟩,⟨PyData.keyHash P q37,.str q37 400,.ref 169⟩,⟨PyData.keyHash P q54,.str q54 407,.ref 176⟩,⟨PyData.keyHash P q61,.str q61 415,.ref 183⟩,⟨PyData.keyHash P q80,.str q80 423,.ref 190⟩,⟨PyData.keyHash P q65,.str q65 431,.ref 197⟩,⟨PyData.keyHash P q72,.str q72 441,.ref 204⟩,⟨PyData.keyHash P q67,.str q67 449,.ref 211⟩,⟨PyData.keyHash P q75,.str q75 457,.ref 218⟩,⟨PyData.keyHash P q51,.str q51 468,.ref 225⟩,⟨PyData.keyHash P q59,.str q59 480,.ref 232⟩,⟨PyData.keyHash P q56,.str q56 490,.ref 239⟩,⟨PyData.keyHash P q78,.str q78 498,.ref 246⟩,⟨PyData.keyHash P q39,.str q39 505,.ref 253⟩,⟨PyData.keyHash P q63,.str q63 512,.ref 260⟩,⟨PyData.keyHash P q70,.str q70 519,.ref 267⟩,⟨PyData.keyHash P q18,.str q18 527,.ref 268⟩] 19}
noncomputable def ob280 (P : Params) : Obj:={cls:=.type "tuple",data:=.seq #[]}
noncomputable def ob248 (P : Params) : Obj:={cls:=.type "function",data:=.func {name:=q80,qualname:=q82,params:=fArgs (mA 16 3),body:=.stmts (fBody (mA 16 3)),scope:=fScope (mA 16 3),globals:=3,closure:=[],defaults:=.none,kwdefaults:=.none,pyModule:=.str q33 375,code:=.ref 189}}
noncomputable def ob312 (P : Params) : Obj:={cls:=.type "tuple",data:=.seq #[]}
noncomputable def ob420 (P : Params) : Obj:={cls:=.type "dict",data:=.dict #[⟨PyData.keyHash P q3,.str q3 165,.str q92 613⟩,⟨PyData.keyHash P q5,.str q5 166,.none⟩,⟨PyData.keyHash P q6,.str q6 167,.none⟩,⟨PyData.keyHash P q7,.str q7 168,.builtin "__main__.__loader__#opaque"⟩,⟨PyData.keyHash P q8,.str q8 169,.none⟩,⟨PyData.keyHash P q9,.str q9 170,.ref 6⟩,⟨PyData.keyHash P q10,.str q10 171,.ref 4⟩,⟨PyData.keyHash P q11,.str q11 173,.str q1 172⟩,⟨PyData.keyHash P q12,.str q12 174,.none⟩,⟨PyData.keyHash P q13,.str q13 193,.ref 21⟩,⟨PyData.keyHash P q14,.str q14 213,.ref 31⟩,⟨PyData.keyHash P q15,.str q15 229,.ref 44⟩,⟨PyData.keyHash P q22,.str q22 245,.ref 56⟩,⟨PyData.keyHash P q23,.str q23 261,.ref 68⟩,⟨PyData.keyHash P q24,.str q24 277,.ref 80⟩,⟨PyData.keyHash P q25,.str q25 293,.ref 92⟩,⟨PyData.keyHash P q27,.str q27 309,.ref 104⟩,⟨PyData.keyHash P q28,.str q28 320,.ref 113⟩,⟨PyData.keyHash P q34,.str q34 374,.ref 151⟩,⟨PyData.keyHash P q35,.str q35 378,.int 60 377⟩,⟨PyData.keyHash P q36,.str q36 380,.int 999999 379⟩,⟨PyData.keyHash P q50,.str q50 534,.ref 270⟩,⟨PyData.keyHash P q93,.str q93 544,.ref 281⟩,⟨PyData.keyHash P q94,.str q94 552,.ref 288⟩,⟨PyData.keyHash P q95,.str q95 556,.str q96 555⟩,⟨PyData.keyHash P q97,.str q97 558,.int 60 557⟩,⟨PyData.keyHash P q98,.str q98 571,.ref 289⟩,⟨PyData.keyHash P q99,.str q99 577,.ref 294⟩,⟨PyData.keyHash P q100,.str q100 586,.ref 301⟩,⟨PyData.keyHash P q101,.str q101 592,.ref 306⟩,⟨PyData.keyHash P q102,.str q102 600,.ref 313⟩,⟨PyData.keyHash P q103,.str q103 606,.ref 318⟩,⟨PyData.keyHash P q104,.str q104 612,.ref 323⟩,⟨PyData.keyHash P q105,.str q105 622,.ref 330⟩] 34}
noncomputable def ob466 (P : Params) : Obj:={cls:=.type "tuple",data:=.seq #[]}
noncomputable def ob434 (P : Params) : Obj:={cls:=.type "code",data:=.fields #[.str q94 545,.str q94 546,.str q1 547,.int 153 0,.int 2 0,.int 0 0,.int 0 0,.int 3 0,.ref 282,.bool Bool.true,.int 181 0,.ref 283,.none,.ref 284,.ref 285,.ref 286,.int 550 0,.int 153 0,.str q1 551]}
noncomputable def ob450 (P : Params) : Obj:={cls:=.none,data:=.fields #[]}
noncomputable def ob474 (P : Params) : Obj:={cls:=.type "tuple",data:=.seq #[]}
noncomputable def ob442 (P : Params) : Obj:={cls:=.type "tuple",data:=.seq #[]}
noncomputable def ob426 (P : Params) : Obj:={cls:=.none,data:=.func {name:=q93,qualname:=q93,params:=fArgs (sA 18),body:=.stmts (fBody (sA 18)),scope:=fScope (sA 18),globals:=0,closure:=[],defaults:=.none,kwdefaults:=.none}}
noncomputable def ob458 (P : Params) : Obj:={cls:=.none,data:=.func {name:=q102,qualname:=q102,params:=fArgs (sA 27),body:=.stmts (fBody (sA 27)),scope:=fScope (sA 27),globals:=0,closure:=[],defaults:=.none,kwdefaults:=.none}}
noncomputable def ob470 (P : Params) : Obj:={cls:=.type "function",data:=.func {name:=q104,qualname:=q104,params:=fArgs (sA 29),body:=.stmts (fBody (sA 29)),scope:=fScope (sA 29),globals:=3,closure:=[],defaults:=.none,kwdefaults:=.none,pyModule:=.str q106 553,code:=.ref 322}}
noncomputable def ob438 (P : Params) : Obj:={cls:=.none,data:=.fields #[]}
noncomputable def ob422 (P : Params) : Obj:={cls:=.type "tuple",data:=.seq #[]}
noncomputable def ob454 (P : Params) : Obj:={cls:=.type "tuple",data:=.seq #[]}
noncomputable def ob446 (P : Params) : Obj:={cls:=.none,data:=.func {name:=q100,qualname:=q100,params:=fArgs (sA 25),body:=.stmts (fBody (sA 25)),scope:=fScope (sA 25),globals:=0,closure:=[],defaults:=.none,kwdefaults:=.none}}
noncomputable def ob430 (P : Params) : Obj:={cls:=.none,data:=.fields #[]}
noncomputable def ob462 (P : Params) : Obj:={cls:=.none,data:=.fields #[]}
noncomputable def ob468 (P : Params) : Obj:={cls:=.none,data:=.func {name:=q104,qualname:=q104,params:=fArgs (sA 29),body:=.stmts (fBody (sA 29)),scope:=fScope (sA 29),globals:=0,closure:=[],defaults:=.none,kwdefaults:=.none}}
noncomputable def ob436 (P : Params) : Obj:={cls:=.type "dict",data:=.dict #[⟨PyData.keyHash P q67,.str q67 559,.int 1 560⟩,⟨PyData.keyHash P q75,.str q75 561,.int 1 562⟩,⟨PyData.keyHash P q78,.str q78 563,.int 3 564⟩,⟨PyData.keyHash P q56,.str q56 565,.int 1 566⟩] 4}
noncomputable def ob452 (P : Params) : Obj:={cls:=.type "code",data:=.fields #[.str q101 587,.str q101 588,.str q1 589,.int 180 0,.int 1 0,.int 0 0,.int 0 0,.int 3 0,.ref 302,.bool Bool.true,.int 181 0,.ref 303,.none,.none,.none,.ref 304,.int 590 0,.int 180 0,.str q1 591]}
noncomputable def ob476 (P : Params) : Obj:={cls:=.type "code",data:=.fields #[.str q105 615,.str q105 616,.str q1 617,.int 211 0,.int 2 0,.int 0 0,.int 0 0,.int 3 0,.ref 324,.bool Bool.true,.int 181 0,.ref 325,.none,.ref 326,.ref 327,.ref 328,.int 620 0,.int 211 0,.str q1 621]}
noncomputable def ob444 (P : Params) : Obj:={cls:=.type "tuple",data:=.seq #[.str q84 581,.str q107 582,.str q108 583]}
noncomputable def ob428 (P : Params) : Obj:={cls:=.type "function",data:=.func {name:=q93,qualname:=q93,params:=fArgs (sA 18),body:=.stmts (fBody (sA 18)),scope:=fScope (sA 18),globals:=3,closure:=[],defaults:=.none,kwdefaults:=.none,pyModule:=.str q109 535,code:=.ref 280}}
noncomputable def ob460 (P : Params) : Obj:={cls:=.type "function",data:=.func {name:=q102,qualname:=q102,params:=fArgs (sA 27),body:=.stmts (fBody (sA 27)),scope:=fScope (sA 27),globals:=3,closure:=[],defaults:=.none,kwdefaults:=.none,pyModule:=.str q106 553,code:=.ref 312}}
noncomputable def ob472 (P : Params) : Obj:={cls:=.none,data:=.fields #[]}
noncomputable def ob440 (P : Params) : Obj:={cls:=.type "code",data:=.fields #[.str q99 572,.str q99 573,.str q1 574,.int 168 0,.int 1 0,.int 0 0,.int 0 0,.int 3 0,.ref 290,.bool Bool.true,.int 181 0,.ref 291,.none,.none,.none,.ref 292,.int 575 0,.int 168 0,.str q1 576]}
noncomputable def ob424 (P : Params) : Obj:={cls:=.type "tuple",data:=.seq #[.str q110 540,.str q111 541]}
noncomputable def ob456 (P : Params) : Obj:={cls:=.type "tuple",data:=.seq #[.str q112 596,.str q113 597]}
noncomputable def ob448 (P : Params) : Obj:={cls:=.type "function",data:=.func {name:=q100,qualname:=q100,params:=fArgs (sA 25),body:=.stmts (fBody (sA 25)),scope:=fScope (sA 25),globals:=3,closure:=[],defaults:=.none,kwdefaults:=.none,pyModule:=.str q106 553,code:=.ref 300}}
noncomputable def ob432 (P : Params) : Obj:={cls:=.type "tuple",data:=.seq #[]}
noncomputable def ob464 (P : Params) : Obj:={cls:=.type "code",data:=.fields #[.str q103 601,.str q103 602,.str q1 603,.int 190 0,.int 2 0,.int 0 0,.int 0 0,.int 3 0,.ref 314,.bool Bool.true,.int 181 0,.ref 315,.none,.none,.none,.ref 316,.int 604 0,.int 190 0,.str q1 605]}
noncomputable def ob467 (P : Params) : Obj:={cls:=.none,data:=.fields #[]}
noncomputable def ob435 (P : Params) : Obj:={cls:=.type "function",data:=.func {name:=q94,qualname:=q94,params:=fArgs (sA 19),body:=.stmts (fBody (sA 19)),scope:=fScope (sA 19),globals:=3,closure:=[],defaults:=.none,kwdefaults:=.none,pyModule:=.str q109 535,code:=.ref 287}}
noncomputable def ob451 (P : Params) : Obj:={cls:=.none,data:=.func {name:=q101,qualname:=q101,params:=fArgs (sA 26),body:=.stmts (fBody (sA 26)),scope:=fScope (sA 26),globals:=0,closure:=[],defaults:=.none,kwdefaults:=.none}}
noncomputable def ob475 (P : Params) : Obj:={cls:=.none,data:=.func {name:=q105,qualname:=q105,params:=fArgs (sA 31),body:=.stmts (fBody (sA 31)),scope:=fScope (sA 31),globals:=0,closure:=[],defaults:=.none,kwdefaults:=.none}}
noncomputable def ob443 (P : Params) : Obj:={cls:=.none,data:=.fields #[]}
noncomputable def ob427 (P : Params) : Obj:={cls:=.type "code",data:=.fields #[.str q93 537,.str q93 538,.str q1 539,.int 145 0,.int 2 0,.int 0 0,.int 0 0,.int 3 0,.ref 275,.bool Bool.true,.int 181 0,.ref 276,.none,.ref 277,.ref 278,.ref 279,.int 542 0,.int 145 0,.str q1 543]}
noncomputable def ob459 (P : Params) : Obj:={cls:=.type "code",data:=.fields #[.str q102 593,.str q102 594,.str q1 595,.int 185 0,.int 1 0,.int 0 0,.int 0 0,.int 3 0,.ref 307,.bool Bool.true,.int 181 0,.ref 308,.none,.ref 309,.ref 310,.ref 311,.int 598 0,.int 185 0,.str q1 599]}
noncomputable def ob421 (P : Params) : Obj:={cls:=.none,data:=.fields #[.int 1 0,.int 0 0,.ref 20,.int 5 0,.int 0 0,.ref 27,.int 7 0,.int 0 0,.ref 40,.int 9 0,.int 0 0,.ref 52,.int 11 0,.int 0 0,.ref 64,.int 13 0,.int 0 0,.ref 76,.int 15 0,.int 0 0,.ref 88,.int 17 0,.int 0 0,.ref 100,.int 20 0,.int 0 0,.ref 112,.int 23 0,.int 0 0,.ref 119,.int 43 0,.int 0 0,.ref 161,.int 145 0,.int 0 0,.ref 280,.int 153 0,.int 0 0,.ref 287,.int 168 0,.int 0 0,.ref 293,.int 170 0,.int 0 0,.ref 300,.int 180 0,.int 0 0,.ref 305,.int 185 0,.int 0 0,.ref 312,.int 190 0,.int 0 0,.ref 317,.int 201 0,.int 0 0,.ref 322,.int 211 0,.int 0 0,.ref 329]}
noncomputable def ob471 (P : Params) : Obj:={cls:=.type "tuple",data:=.seq #[]}
noncomputable def ob439 (P : Params) : Obj:={cls:=.none,data:=.func {name:=q99,qualname:=q99,params:=fArgs (sA 24),body:=.stmts (fBody (sA 24)),scope:=fScope (sA 24),globals:=0,closure:=[],defaults:=.none,kwdefaults:=.none}}
noncomputable def ob423 (P : Params) : Obj:={cls:=.none,data:=.fields #[]}
noncomputable def ob455 (P : Params) : Obj:={cls:=.none,data:=.fields #[]}
noncomputable def ob447 (P : Params) : Obj:={cls:=.type "code",data:=.fields #[.str q100 578,.str q100 579,.str q1 580,.int 170 0,.int 1 0,.int 0 0,.int 0 0,.int 3 0,.ref 295,.bool Bool.true,.int 181 0,.ref 296,.none,.ref 297,.ref 298,.ref 299,.int 584 0,.int 170 0,.str q1 585]}
noncomputable def ob431 (P : Params) : Obj:={cls:=.type "tuple",data:=.seq #[.str q110 548,.str q111 549]}
noncomputable def ob463 (P : Params) : Obj:={cls:=.none,data:=.func {name:=q103,qualname:=q103,params:=fArgs (sA 28),body:=.stmts (fBody (sA 28)),scope:=fScope (sA 28),globals:=0,closure:=[],defaults:=.none,kwdefaults:=.none}}
noncomputable def ob469 (P : Params) : Obj:={cls:=.type "code",data:=.fields #[.str q104 607,.str q104 608,.str q1 609,.int 201 0,.int 1 0,.int 0 0,.int 0 0,.int 3 0,.ref 319,.bool Bool.true,.int 181 0,.ref 320,.none,.none,.none,.ref 321,.int 610 0,.int 201 0,.str q1 611]}
noncomputable def ob437 (P : Params) : Obj:={cls:=.type "tuple",data:=.seq #[]}
noncomputable def ob453 (P : Params) : Obj:={cls:=.type "function",data:=.func {name:=q101,qualname:=q101,params:=fArgs (sA 26),body:=.stmts (fBody (sA 26)),scope:=fScope (sA 26),globals:=3,closure:=[],defaults:=.none,kwdefaults:=.none,pyModule:=.str q106 553,code:=.ref 305}}
noncomputable def ob477 (P : Params) : Obj:={cls:=.type "function",data:=.func {name:=q105,qualname:=q105,params:=fArgs (sA 31),body:=.stmts (fBody (sA 31)),scope:=fScope (sA 31),globals:=3,closure:=[],defaults:=.none,kwdefaults:=.none,pyModule:=.str q92 613,code:=.ref 329}}
noncomputable def ob445 (P : Params) : Obj:={cls:=.type "tuple",data:=.seq #[]}
noncomputable def ob429 (P : Params) : Obj:={cls:=.type "tuple",data:=.seq #[]}
noncomputable def ob461 (P : Params) : Obj:={cls:=.type "tuple",data:=.seq #[]}
noncomputable def ob473 (P : Params) : Obj:={cls:=.type "tuple",data:=.seq #[.str q114 618,.str q115 619]}
noncomputable def ob441 (P : Params) : Obj:={cls:=.type "function",data:=.func {name:=q99,qualname:=q99,params:=fArgs (sA 24),body:=.stmts (fBody (sA 24)),scope:=fScope (sA 24),globals:=3,closure:=[],defaults:=.none,kwdefaults:=.none,pyModule:=.str q106 553,code:=.ref 293}}
noncomputable def ob425 (P : Params) : Obj:={cls:=.type "tuple",data:=.seq #[]}
noncomputable def ob457 (P : Params) : Obj:={cls:=.type "tuple",data:=.seq #[]}
noncomputable def ob449 (P : Params) : Obj:={cls:=.type "tuple",data:=.seq #[]}
noncomputable def ob433 (P : Params) : Obj:={cls:=.none,data:=.func {name:=q94,qualname:=q94,params:=fArgs (sA 19),body:=.stmts (fBody (sA 19)),scope:=fScope (sA 19),globals:=0,closure:=[],defaults:=.none,kwdefaults:=.none}}
noncomputable def ob465 (P : Params) : Obj:={cls:=.type "function",data:=.func {name:=q103,qualname:=q103,params:=fArgs (sA 28),body:=.stmts (fBody (sA 28)),scope:=fScope (sA 28),globals:=3,closure:=[],defaults:=.none,kwdefaults:=.none,pyModule:=.str q106 553,code:=.ref 317}}
noncomputable def ob571 (P : Params) : Obj:={cls:=.type "dict",data:=.dict #[⟨PyData.keyHash P q3,.str q3 165,.str q92 613⟩,⟨PyData.keyHash P q5,.str q5 166,.none⟩,⟨PyData.keyHash P q6,.str q6 167,.none⟩,⟨PyData.keyHash P q7,.str q7 168,.builtin "__main__.__loader__#opaque"⟩,⟨PyData.keyHash P q8,.str q8 169,.none⟩,⟨PyData.keyHash P q9,.str q9 170,.ref 6⟩,⟨PyData.keyHash P q10,.str q10 171,.ref 4⟩,⟨PyData.keyHash P q11,.str q11 173,.str q1 172⟩,⟨PyData.keyHash P q12,.str q12 174,.none⟩,⟨PyData.keyHash P q13,.str q13 193,.ref 21⟩,⟨PyData.keyHash P q14,.str q14 213,.ref 31⟩,⟨PyData.keyHash P q15,.str q15 229,.ref 44⟩,⟨PyData.keyHash P q22,.str q22 245,.ref 56⟩,⟨PyData.keyHash P q23,.str q23 261,.ref 68⟩,⟨PyData.keyHash P q24,.str q24 277,.ref 80⟩,⟨PyData.keyHash P q25,.str q25 293,.ref 92⟩,⟨PyData.keyHash P q27,.str q27 309,.ref 104⟩,⟨PyData.keyHash P q28,.str q28 320,.ref 113⟩,⟨PyData.keyHash P q34,.str q34 374,.ref 151⟩,⟨PyData.keyHash P q35,.str q35 378,.int 60 377⟩,⟨PyData.keyHash P q36,.str q36 380,.int 999999 379⟩,⟨PyData.keyHash P q50,.str q50 534,.ref 270⟩,⟨PyData.keyHash P q93,.str q93 544,.ref 281⟩,⟨PyData.keyHash P q94,.str q94 552,.ref 288⟩,⟨PyData.keyHash P q95,.str q95 556,.str q96 555⟩,⟨PyData.keyHash P q97,.str q97 558,.int 60 557⟩,⟨PyData.keyHash P q98,.str q98 571,.ref 289⟩,⟨PyData.keyHash P q99,.str q99 577,.ref 294⟩,⟨PyData.keyHash P q100,.str q100 586,.ref 301⟩,⟨PyData.keyHash P q101,.str q101 592,.ref 306⟩,⟨PyData.keyHash P q102,.str q102 600,.ref 313⟩,⟨PyData.keyHash P q103,.str q103 606,.ref 318⟩,⟨PyData.keyHash P q104,.str q104 612,.ref 323⟩,⟨PyData.keyHash P q105,.str q105 622,.ref 330⟩,⟨PyData.keyHash P q116,.str q116 632,.ref 337⟩,⟨PyData.keyHash P q117,.str q117 639,.ref 344⟩,⟨PyData.keyHash P q118,.str q118 648,.ref 351⟩,⟨PyData.keyHash P q119,.str q119 655,.ref 358⟩,⟨PyData.keyHash P q120,.str q120 662,.ref 365⟩,⟨PyData.keyHash P q121,.str q121 671,.ref 372⟩,⟨PyData.keyHash P q122,.str q122 681,.ref 379⟩,⟨PyData.keyHash P q123,.str q123 689,.ref 386⟩,⟨PyData.keyHash P q124,.str q124 700,.ref 393⟩,⟨PyData.keyHash P q125,.str q125 713,.ref 400⟩,⟨PyData.keyHash P q126,.str q126 719,.ref 405⟩,⟨PyData.keyHash P q127,.str q127 728,.ref 412⟩,⟨PyData.keyHash P q128,.str q128 737,.ref 419⟩,⟨PyData.keyHash P q129,.str q129 746,.ref 426⟩,⟨PyData.keyHash P q130,.str q130 752,.ref 431⟩,⟨PyData.keyHash P q131,.str q131 768,.ref 438⟩] 50}
noncomputable def ob534 (P : Params) : Obj:={cls:=.type "tuple",data:=.seq #[]}
noncomputable def ob566 (P : Params) : Obj:={cls:=.type "tuple",data:=.seq #[.str q132 732,.str q133 733,.str q134 734]}
noncomputable def ob502 (P : Params) : Obj:={cls:=.type "function",data:=.func {name:=q118,qualname:=q118,params:=fArgs (sA 34),body:=.stmts (fBody (sA 34)),scope:=fScope (sA 34),globals:=3,closure:=[],defaults:=.none,kwdefaults:=.none,pyModule:=.str q92 613,code:=.ref 350}}
noncomputable def ob550 (P : Params) : Obj:={cls:=.type "code",data:=.fields #[.str q125 701,.str q125 702,.str q1 703,.int 303 0,.int 2 0,.int 0 0,.int 0 0,.int 3 0,.ref 394,.bool Bool.true,.int 181 0,.ref 395,.none,.ref 396,.ref 397,.ref 398,.int 711 0,.int 303 0,.str q1 712]}
noncomputable def ob486 (P : Params) : Obj:={cls:=.none,data:=.func {name:=q116,qualname:=q116,params:=fArgs (sA 32),body:=.stmts (fBody (sA 32)),scope:=fScope (sA 32),globals:=0,closure:=[],defaults:=.none,kwdefaults:=.none}}
noncomputable def ob584 (P : Params) : Obj:={cls:=.type "function",data:=.func {name:=q130,qualname:=q130,params:=fArgs (sA 46),body:=.stmts (fBody (sA 46)),scope:=fScope (sA 46),globals:=3,closure:=[],defaults:=.none,kwdefaults:=.none,pyModule:=.str q92 613,code:=.ref 430}}
noncomputable def ob518 (P : Params) : Obj:={cls:=.none,data:=.fields #[]}
noncomputable def ob542 (P : Params) : Obj:={cls:=.none,data:=.func {name:=q124,qualname:=q124,params:=fArgs (sA 40),body:=.stmts (fBody (sA 40)),scope:=fScope (sA 40),globals:=0,closure:=[],defaults:=.none,kwdefaults:=.none}}
noncomputable def ob576 (P : Params) : Obj:={cls:=.type "tuple",data:=.seq #[]}
noncomputable def ob510 (P : Params) : Obj:={cls:=.type "tuple",data:=.seq #[]}
noncomputable def ob558 (P : Params) : Obj:={cls:=.none,data:=.fields #[]}
noncomputable def ob494 (P : Params) : Obj:={cls:=.type "code",data:=.fields #[.str q117 633,.str q117 634,.str q1 635,.int 221 0,.int 1 0,.int 0 0,.int 0 0,.int 3 0,.ref 338,.bool Bool.true,.int 181 0,.ref 339,.none,.ref 340,.ref 341,.ref 342,.int 637 0,.int 221 0,.str q1 638]}
noncomputable def ob526 (P : Params) : Obj:={cls:=.type "tuple",data:=.seq #[.str q135 675,.str q136 676,.str q137 677,.str q138 678]}
noncomputable def ob538 (P : Params) : Obj:={cls:=.type "tuple",data:=.seq #[]}
noncomputable def ob570 (P : Params) : Obj:={cls:=.type "function",data:=.func {name:=q128,qualname:=q128,params:=fArgs (sA 44),body:=.stmts (fBody (sA 44)),scope:=fScope (sA 44),globals:=3,closure:=[],defaults:=.none,kwdefaults:=.none,pyModule:=.str q92 613,code:=.ref 418}}
noncomputable def ob506 (P : Params) : Obj:={cls:=.type "tuple",data:=.seq #[]}
noncomputable def ob554 (P : Params) : Obj:={cls:=.none,data:=.func {name:=q126,qualname:=q126,params:=fArgs (sA 42),body:=.stmts (fBody (sA 42)),scope:=fScope (sA 42),globals:=0,closure:=[],defaults:=.none,kwdefaults:=.none}}
noncomputable def ob490 (P : Params) : Obj:={cls:=.none,data:=.fields #[]}
noncomputable def ob588 (P : Params) : Obj:={cls:=.type "tuple",data:=.seq #[]}
noncomputable def ob522 (P : Params) : Obj:={cls:=.type "code",data:=.fields #[.str q121 663,.str q121 664,.str q1 665,.int 248 0,.int 2 0,.int 0 0,.int 0 0,.int 3 0,.ref 366,.bool Bool.true,.int 181 0,.ref 367,.none,.ref 368,.ref 369,.ref 370,.int 669 0,.int 248 0,.str q1 670]}
noncomputable def ob546 (P : Params) : Obj:={cls:=.none,data:=.fields #[]}
noncomputable def ob482 (P : Params) : Obj:={cls:=.type "tuple",data:=.seq #[]}
noncomputable def ob580 (P : Params) : Obj:={cls:=.type "tuple",data:=.seq #[]}
noncomputable def ob514 (P : Params) : Obj:={cls:=.none,data:=.func {name:=q120,qualname:=q120,params:=fArgs (sA 36),body:=.stmts (fBody (sA 36)),scope:=fScope (sA 36),globals:=0,closure:=[],defaults:=.none,kwdefaults:=.none}}
noncomputable def ob562 (P : Params) : Obj:={cls:=.type "code",data:=.fields #[.str q127 720,.str q127 721,.str q1 722,.int 326 0,.int 1 0,.int 0 0,.int 0 0,.int 3 0,.ref 406,.bool Bool.true,.int 181 0,.ref 407,.none,.ref 408,.ref 409,.ref 410,.int 726 0,.int 326 0,.str q1 727]}
noncomputable def ob498 (P : Params) : Obj:={cls:=.type "tuple",data:=.seq #[.str q139 643,.str q140 644,.str q115 645]}
noncomputable def ob530 (P : Params) : Obj:={cls:=.type "function",data:=.func {name:=q122,qualname:=q122,params:=fArgs (sA 38),body:=.stmts (fBody (sA 38)),scope:=fScope (sA 38),globals:=3,closure:=[],defaults:=.none,kwdefaults:=.none,pyModule:=.str q92 613,code:=.ref 378}}
noncomputable def ob536 (P : Params) : Obj:={cls:=.type "code",data:=.fields #[.str q123 682,.str q123 683,.str q1 684,.int 274 0,.int 2 0,.int 0 0,.int 0 0,.int 3 0,.ref 380,.bool Bool.true,.int 181 0,.ref 381,.none,.ref 382,.ref 383,.ref 384,.int 687 0,.int 274 0,.str q1 688]}
noncomputable def ob568 (P : Params) : Obj:={cls:=.none,data:=.func {name:=q128,qualname:=q128,params:=fArgs (sA 44),body:=.stmts (fBody (sA 44)),scope:=fScope (sA 44),globals:=0,closure:=[],defaults:=.none,kwdefaults:=.none}}
noncomputable def ob504 (P : Params) : Obj:={cls:=.none,data:=.fields #[]}
noncomputable def ob552 (P : Params) : Obj:={cls:=.type "tuple",data:=.seq #[]}
noncomputable def ob488 (P : Params) : Obj:={cls:=.type "function",data:=.func {name:=q116,qualname:=q116,params:=fArgs (sA 32),body:=.stmts (fBody (sA 32)),scope:=fScope (sA 32),globals:=3,closure:=[],defaults:=.none,kwdefaults:=.none,pyModule:=.str q92 613,code:=.ref 336}}
noncomputable def ob586 (P : Params) : Obj:={cls:=.none,data:=.fields #[]}
noncomputable def ob520 (P : Params) : Obj:={cls:=.type "tuple",data:=.seq #[]}
noncomputable def ob544 (P : Params) : Obj:={cls:=.type "function",data:=.func {name:=q124,qualname:=q124,params:=fArgs (sA 40),body:=.stmts (fBody (sA 40)),scope:=fScope (sA 40),globals:=3,closure:=[],defaults:=.none,kwdefaults:=.none,pyModule:=.str q92 613,code:=.ref 392}}
noncomputable def ob578 (P : Params) : Obj:={cls:=.type "code",data:=.fields #[.str q129 738,.str q129 739,.str q1 740,.int 335 0,.int 2 0,.int 0 0,.int 0 0,.int 3 0,.ref 420,.bool Bool.true,.int 181 0,.ref 421,.none,.ref 422,.ref 423,.ref 424,.int 744 0,.int 335 0,.str q1 745]}
noncomputable def ob512 (P : Params) : Obj:={cls:=.type "tuple",data:=.seq #[.str q141 659]}
noncomputable def ob560 (P : Params) : Obj:={cls:=.type "tuple",data:=.seq #[]}
noncomputable def ob496 (P : Params) : Obj:={cls:=.type "tuple",data:=.seq #[]}
noncomputable def ob528 (P : Params) : Obj:={cls:=.none,data:=.func {name:=q122,qualname:=q122,params:=fArgs (sA 38),body:=.stmts (fBody (sA 38)),scope:=fScope (sA 38),globals:=0,closure:=[],defaults:=.none,kwdefaults:=.none}}
noncomputable def ob540 (P : Params) : Obj:={cls:=.type "tuple",data:=.seq #[.str q135 693,.str q142 694,.str q143 695,.str q138 696,.str q144 697]}
noncomputable def ob574 (P : Params) : Obj:={cls:=.none,data:=.fields #[]}
noncomputable def ob508 (P : Params) : Obj:={cls:=.type "code",data:=.fields #[.str q119 649,.str q119 650,.str q1 651,.int 242 0,.int 1 0,.int 0 0,.int 0 0,.int 3 0,.ref 352,.bool Bool.true,.int 181 0,.ref 353,.none,.ref 354,.ref 355,.ref 356,.int 653 0,.int 242 0,.str q1 654]}
noncomputable def ob556 (P : Params) : Obj:={cls:=.type "function",data:=.func {name:=q126,qualname:=q126,params:=fArgs (sA 42),body:=.stmts (fBody (sA 42)),scope:=fScope (sA 42),globals:=3,closure:=[],defaults:=.none,kwdefaults:=.none,pyModule:=.str q92 613,code:=.ref 404}}
noncomputable def ob492 (P : Params) : Obj:={cls:=.type "tuple",data:=.seq #[]}
noncomputable def ob590 (P : Params) : Obj:={cls:=.type "code",data:=.fields #[.str q131 753,.str q131 754,.str q1 755,.int 347 0,.int 1 0,.int 0 0,.int 0 0,.int 3 0,.ref 432,.bool Bool.true,.int 181 0,.ref 433,.none,.ref 434,.ref 435,.ref 436,.int 766 0,.int 347 0,.str q1 767]}
noncomputable def ob524 (P : Params) : Obj:={cls:=.type "tuple",data:=.seq #[]}
noncomputable def ob548 (P : Params) : Obj:={cls:=.type "tuple",data:=.seq #[]}
noncomputable def ob484 (P : Params) : Obj:={cls:=.type "tuple",data:=.seq #[.str q114 626,.str q115 627,.str q145 628,.str q146 629]}
noncomputable def ob582 (P : Params) : Obj:={cls:=.none,data:=.func {name:=q130,qualname:=q130,params:=fArgs (sA 46),body:=.stmts (fBody (sA 46)),scope:=fScope (sA 46),globals:=0,closure:=[],defaults:=.none,kwdefaults:=.none}}
noncomputable def ob516 (P : Params) : Obj:={cls:=.type "function",data:=.func {name:=q120,qualname:=q120,params:=fArgs (sA 36),body:=.stmts (fBody (sA 36)),scope:=fScope (sA 36),globals:=3,closure:=[],defaults:=.none,kwdefaults:=.none,pyModule:=.str q92 613,code:=.ref 364}}
noncomputable def ob564 (P : Params) : Obj:={cls:=.type "tuple",data:=.seq #[]}
noncomputable def ob500 (P : Params) : Obj:={cls:=.none,data:=.func {name:=q118,qualname:=q118,params:=fArgs (sA 34),body:=.stmts (fBody (sA 34)),scope:=fScope (sA 34),globals:=0,closure:=[],defaults:=.none,kwdefaults:=.none}}
noncomputable def ob532 (P : Params) : Obj:={cls:=.none,data:=.fields #[]}
noncomputable def ob535 (P : Params) : Obj:={cls:=.none,data:=.func {name:=q123,qualname:=q123,params:=fArgs (sA 39),body:=.stmts (fBody (sA 39)),scope:=fScope (sA 39),globals:=0,closure:=[],defaults:=.none,kwdefaults:=.none}}
noncomputable def ob567 (P : Params) : Obj:={cls:=.type "tuple",data:=.seq #[]}
noncomputable def ob503 (P : Params) : Obj:={cls:=.type "tuple",data:=.seq #[]}
noncomputable def ob551 (P : Params) : Obj:={cls:=.type "function",data:=.func {name:=q125,qualname:=q125,params:=fArgs (sA 41),body:=.stmts (fBody (sA 41)),scope:=fScope (sA 41),globals:=3,closure:=[],defaults:=.none,kwdefaults:=.none,pyModule:=.str q92 613,code:=.ref 399}}
noncomputable def ob487 (P : Params) : Obj:={cls:=.type "code",data:=.fields #[.str q116 623,.str q116 624,.str q1 625,.int 215 0,.int 2 0,.int 0 0,.int 0 0,.int 3 0,.ref 331,.bool Bool.true,.int 181 0,.ref 332,.none,.ref 333,.ref 334,.ref 335,.int 630 0,.int 215 0,.str q1 631]}
noncomputable def ob585 (P : Params) : Obj:={cls:=.type "tuple",data:=.seq #[]}
noncomputable def ob519 (P : Params) : Obj:={cls:=.type "tuple",data:=.seq #[.str q135 666,.str q138 667,.str q137 668]}
noncomputable def ob543 (P : Params) : Obj:={cls:=.type "code",data:=.fields #[.str q124 690,.str q124 691,.str q1 692,.int 282 0,.int 2 0,.int 0 0,.int 0 0,.int 3 0,.ref 387,.bool Bool.true,.int 181 0,.ref 388,.none,.ref 389,.ref 390,.ref 391,.int 698 0,.int 282 0,.str q1 699]}
noncomputable def ob577 (P : Params) : Obj:={cls:=.none,data:=.func {name:=q129,qualname:=q129,params:=fArgs (sA 45),body:=.stmts (fBody (sA 45)),scope:=fScope (sA 45),globals:=0,closure:=[],defaults:=.none,kwdefaults:=.none}}
noncomputable def ob511 (P : Params) : Obj:={cls:=.none,data:=.fields #[]}
noncomputable def ob559 (P : Params) : Obj:={cls:=.type "tuple",data:=.seq #[.str q137 723,.str q147 724,.str q148 725]}
noncomputable def ob495 (P : Params) : Obj:={cls:=.type "function",data:=.func {name:=q117,qualname:=q117,params:=fArgs (sA 33),body:=.stmts (fBody (sA 33)),scope:=fScope (sA 33),globals:=3,closure:=[],defaults:=.none,kwdefaults:=.none,pyModule:=.str q92 613,code:=.ref 343}}
noncomputable def ob527 (P : Params) : Obj:={cls:=.type "tuple",data:=.seq #[]}
noncomputable def ob572 (P : Params) : Obj:={cls:=.none,data:=.fields #[.int 1 0,.int 0 0,.ref 20,.int 5 0,.int 0 0,.ref 27,.int 7 0,.int 0 0,.ref 40,.int 9 0,.int 0 0,.ref 52,.int 11 0,.int 0 0,.ref 64,.int 13 0,.int 0 0,.ref 76,.int 15 0,.int 0 0,.ref 88,.int 17 0,.int 0 0,.ref 100,.int 20 0,.int 0 0,.ref 112,.int 23 0,.int 0 0,.ref 119,.int 43 0,.int 0 0,.ref 161,.int 145 0,.int 0 0,.ref 280,.int 153 0,.int 0 0,.ref 287,.int 168 0,.int 0 0,.ref 293,.int 170 0,.int 0 0,.ref 300,.int 180 0,.int 0 0,.ref 305,.int 185 0,.int 0 0,.ref 312,.int 190 0,.int 0 0,.ref 317,.int 201 0,.int 0 0,.ref 322,.int 211 0,.int 0 0,.ref 329,.int 215 0,.int 0 0,.ref 336,.int 221 0,.int 0 0,.ref 343,.int 223 0,.int 0 0,.ref 350,.int 242 0,.int 0 0,.ref 357,.int 246 0,.int 0 0,.ref 364,.int 248 0,.int 0 0,.ref 371,.int 259 0,.int 0 0,.ref 378,.int 274 0,.int 0 0,.ref 385,.int 282 0,.int 0 0,.ref 392,.int 303 0,.int 0 0,.ref 399,.int 311 0,.int 0 0,.ref 404,.int 326 0,.int 0 0,.ref 411,.int 331 0,.int 0 0,.ref 418,.int 335 0,.int 0 0,.ref 425,.int 341 0,.int 0 0,.ref 430,.int 347 0,.int 0 0,.ref 437]}
noncomputable def ob539 (P : Params) : Obj:={cls:=.none,data:=.fields #[]}
noncomputable def ob573 (P : Params) : Obj:={cls:=.type "tuple",data:=.seq #[]}
noncomputable def ob507 (P : Params) : Obj:={cls:=.none,data:=.func {name:=q119,qualname:=q119,params:=fArgs (sA 35),body:=.stmts (fBody (sA 35)),scope:=fScope (sA 35),globals:=0,closure:=[],defaults:=.none,kwdefaults:=.none}}
noncomputable def ob555 (P : Params) : Obj:={cls:=.type "code",data:=.fields #[.str q126 714,.str q126 715,.str q1 716,.int 311 0,.int 2 0,.int 0 0,.int 0 0,.int 3 0,.ref 401,.bool Bool.true,.int 181 0,.ref 402,.none,.none,.none,.ref 403,.int 717 0,.int 311 0,.str q1 718]}
noncomputable def ob491 (P : Params) : Obj:={cls:=.type "tuple",data:=.seq #[.str q139 636]}
noncomputable def ob589 (P : Params) : Obj:={cls:=.none,data:=.func {name:=q131,qualname:=q131,params:=fArgs (sA 47),body:=.stmts (fBody (sA 47)),scope:=fScope (sA 47),globals:=0,closure:=[],defaults:=.none,kwdefaults:=.none}}
noncomputable def ob523 (P : Params) : Obj:={cls:=.type "function",data:=.func {name:=q121,qualname:=q121,params:=fArgs (sA 37),body:=.stmts (fBody (sA 37)),scope:=fScope (sA 37),globals:=3,closure:=[],defaults:=.none,kwdefaults:=.none,pyModule:=.str q92 613,code:=.ref 371}}
noncomputable def ob547 (P : Params) : Obj:={cls:=.type "tuple",data:=.seq #[.str q135 704,.str q133 705,.str q141 706,.str q149 707,.str q150 708,.str q151 709,.str q152 710]}
noncomputable def ob483 (P : Params) : Obj:={cls:=.none,data:=.fields #[]}
noncomputable def ob581 (P : Params) : Obj:={cls:=.none,data:=.fields #[]}
noncomputable def ob515 (P : Params) : Obj:={cls:=.type "code",data:=.fields #[.str q120 656,.str q120 657,.str q1 658,.int 246 0,.int 1 0,.int 0 0,.int 0 0,.int 3 0,.ref 359,.bool Bool.true,.int 181 0,.ref 360,.none,.ref 361,.ref 362,.ref 363,.int 660 0,.int 246 0,.str q1 661]}
noncomputable def ob563 (P : Params) : Obj:={cls:=.type "function",data:=.func {name:=q127,qualname:=q127,params:=fArgs (sA 43),body:=.stmts (fBody (sA 43)),scope:=fScope (sA 43),globals:=3,closure:=[],defaults:=.none,kwdefaults:=.none,pyModule:=.str q92 613,code:=.ref 411}}
noncomputable def ob499 (P : Params) : Obj:={cls:=.type "tuple",data:=.seq #[]}
noncomputable def ob531 (P : Params) : Obj:={cls:=.type "tuple",data:=.seq #[]}
noncomputable def ob537 (P : Params) : Obj:={cls:=.type "function",data:=.func {name:=q123,qualname:=q123,params:=fArgs (sA 39),body:=.stmts (fBody (sA 39)),scope:=fScope (sA 39),globals:=3,closure:=[],defaults:=.none,kwdefaults:=.none,pyModule:=.str q92 613,code:=.ref 385}}
noncomputable def ob569 (P : Params) : Obj:={cls:=.type "code",data:=.fields #[.str q128 729,.str q128 730,.str q1 731,.int 331 0,.int 2 0,.int 0 0,.int 0 0,.int 3 0,.ref 413,.bool Bool.true,.int 181 0,.ref 414,.none,.ref 415,.ref 416,.ref 417,.int 735 0,.int 331 0,.str q1 736]}
noncomputable def ob505 (P : Params) : Obj:={cls:=.type "tuple",data:=.seq #[.str q145 652]}
noncomputable def ob553 (P : Params) : Obj:={cls:=.none,data:=.fields #[]}
noncomputable def ob489 (P : Params) : Obj:={cls:=.type "tuple",data:=.seq #[]}
noncomputable def ob587 (P : Params) : Obj:={cls:=.type "tuple",data:=.seq #[.str q114 756,.str q141 757,.str q135 758,.str q153 759,.str q154 760,.str q115 761,.str q155 762,.str q142 763,.str q132 764,.str q156 765]}
noncomputable def ob521 (P : Params) : Obj:={cls:=.none,data:=.func {name:=q121,qualname:=q121,params:=fArgs (sA 37),body:=.stmts (fBody (sA 37)),scope:=fScope (sA 37),globals:=0,closure:=[],defaults:=.none,kwdefaults:=.none}}
noncomputable def ob545 (P : Params) : Obj:={cls:=.type "tuple",data:=.seq #[]}
noncomputable def ob579 (P : Params) : Obj:={cls:=.type "function",data:=.func {name:=q129,qualname:=q129,params:=fArgs (sA 45),body:=.stmts (fBody (sA 45)),scope:=fScope (sA 45),globals:=3,closure:=[],defaults:=.none,kwdefaults:=.none,pyModule:=.str q92 613,code:=.ref 425}}
noncomputable def ob513 (P : Params) : Obj:={cls:=.type "tuple",data:=.seq #[]}
noncomputable def ob561 (P : Params) : Obj:={cls:=.none,data:=.func {name:=q127,qualname:=q127,params:=fArgs (sA 43),body:=.stmts (fBody (sA 43)),scope:=fScope (sA 43),globals:=0,closure:=[],defaults:=.none,kwdefaults:=.none}}
noncomputable def ob497 (P : Params) : Obj:={cls:=.none,data:=.fields #[]}
noncomputable def ob529 (P : Params) : Obj:={cls:=.type "code",data:=.fields #[.str q122 672,.str q122 673,.str q1 674,.int 259 0,.int 2 0,.int 0 0,.int 0 0,.int 3 0,.ref 373,.bool Bool.true,.int 181 0,.ref 374,.none,.ref 375,.ref 376,.ref 377,.int 679 0,.int 259 0,.str q1 680]}
noncomputable def ob541 (P : Params) : Obj:={cls:=.type "tuple",data:=.seq #[]}
noncomputable def ob575 (P : Params) : Obj:={cls:=.type "tuple",data:=.seq #[.str q145 741,.str q141 742,.str q134 743]}
noncomputable def ob509 (P : Params) : Obj:={cls:=.type "function",data:=.func {name:=q119,qualname:=q119,params:=fArgs (sA 35),body:=.stmts (fBody (sA 35)),scope:=fScope (sA 35),globals:=3,closure:=[],defaults:=.none,kwdefaults:=.none,pyModule:=.str q92 613,code:=.ref 357}}
noncomputable def ob557 (P : Params) : Obj:={cls:=.type "tuple",data:=.seq #[]}
noncomputable def ob493 (P : Params) : Obj:={cls:=.none,data:=.func {name:=q117,qualname:=q117,params:=fArgs (sA 33),body:=.stmts (fBody (sA 33)),scope:=fScope (sA 33),globals:=0,closure:=[],defaults:=.none,kwdefaults:=.none}}
noncomputable def ob591 (P : Params) : Obj:={cls:=.type "function",data:=.func {name:=q131,qualname:=q131,params:=fArgs (sA 47),body:=.stmts (fBody (sA 47)),scope:=fScope (sA 47),globals:=3,closure:=[],defaults:=.none,kwdefaults:=.none,pyModule:=.str q92 613,code:=.ref 437}}
noncomputable def ob525 (P : Params) : Obj:={cls:=.none,data:=.fields #[]}
noncomputable def ob549 (P : Params) : Obj:={cls:=.none,data:=.func {name:=q125,qualname:=q125,params:=fArgs (sA 41),body:=.stmts (fBody (sA 41)),scope:=fScope (sA 41),globals:=0,closure:=[],defaults:=.none,kwdefaults:=.none}}
noncomputable def ob485 (P : Params) : Obj:={cls:=.type "tuple",data:=.seq #[]}
noncomputable def ob583 (P : Params) : Obj:={cls:=.type "code",data:=.fields #[.str q130 747,.str q130 748,.str q1 749,.int 341 0,.int 1 0,.int 0 0,.int 0 0,.int 3 0,.ref 427,.bool Bool.true,.int 181 0,.ref 428,.none,.none,.none,.ref 429,.int 750 0,.int 341 0,.str q1 751]}
noncomputable def ob517 (P : Params) : Obj:={cls:=.type "tuple",data:=.seq #[]}
noncomputable def ob565 (P : Params) : Obj:={cls:=.none,data:=.fields #[]}
noncomputable def ob501 (P : Params) : Obj:={cls:=.type "code",data:=.fields #[.str q118 640,.str q118 641,.str q1 642,.int 223 0,.int 2 0,.int 0 0,.int 0 0,.int 3 0,.ref 345,.bool Bool.true,.int 181 0,.ref 346,.none,.ref 347,.ref 348,.ref 349,.int 646 0,.int 223 0,.str q1 647]}
noncomputable def ob533 (P : Params) : Obj:={cls:=.type "tuple",data:=.seq #[.str q135 685,.str q144 686]}
noncomputable def heapA (P : Params) : Heap := ⟨⟨[boot_o_0 P, boot_o_1 P, boot_o_2 P, boot_o_3 P, boot_o_4 P, boot_o_5 P, boot_o_6 P, boot_o_7 P, boot_o_8 P, boot_o_9 P, boot_o_10 P, ob43 P, ob44 P, ob45 P, ob46 P]⟩, {}⟩
noncomputable def tr47 (P : Params) : BT:=.node (boot_o_0 P) (.node (boot_o_1 P) (.node (boot_o_3 P) (.node (boot_o_7 P) .nil .nil) (.node (ob43 P) .nil .nil)) (.node (boot_o_5 P) (.node (boot_o_9 P) .nil .nil) (.node (ob45 P) .nil .nil))) (.node (boot_o_2 P) (.node (boot_o_4 P) (.node (boot_o_8 P) .nil .nil) (.node (ob44 P) .nil .nil)) (.node (boot_o_6 P) (.node (boot_o_10 P) .nil .nil) (.node (ob46 P) .nil .nil)))
noncomputable def tr85 (P : Params) : BT:=.node (boot_o_0 P) (.node (boot_o_1 P) (.node (ob71 P) (.node (boot_o_7 P) (.node (ob51 P) (.node (ob73 P) .nil .nil) .nil) (.node (ob59 P) (.node (ob78 P) .nil .nil) .nil)) (.node (ob43 P) (.node (ob55 P) (.node (ob74 P) .nil .nil) .nil) (.node (ob63 P) (.node (ob82 P) .nil .nil) .nil))) (.node (boot_o_5 P) (.node (boot_o_9 P) (.node (ob53 P) (.node (ob69 P) .nil .nil) .nil) (.node (ob61 P) (.node (ob80 P) .nil .nil) .nil)) (.node (ob45 P) (.node (ob57 P) (.node (ob76 P) .nil .nil) .nil) (.node (ob65 P) (.node (ob84 P) .nil .nil) .nil)))) (.node (boot_o_2 P) (.node (boot_o_4 P) (.node (boot_o_8 P) (.node (ob52 P) (.node (ob68 P) .nil .nil) .nil) (.node (ob60 P) (.node (ob79 P) .nil .nil) .nil)) (.node (ob72 P) (.node (ob56 P) (.node (ob75 P) .nil .nil) .nil) (.node (ob64 P) (.node (ob83 P) .nil .nil) .nil))) (.node (boot_o_6 P) (.node (boot_o_10 P) (.node (ob54 P) (.node (ob70 P) .nil .nil) .nil) (.node (ob62 P) (.node (ob81 P) .nil .nil) .nil)) (.node (ob46 P) (.node (ob58 P) (.node (ob77 P) .nil .nil) .nil) (.node (ob66 P) (.node (ob85 P) .nil .nil) .nil))))
noncomputable def tr115 (P : Params) : BT:=.node (boot_o_0 P) (.node (boot_o_1 P) (.node (ob101 P) (.node (boot_o_7 P) (.node (ob51 P) (.node (ob103 P) (.node (ob108 P) .nil .nil) .nil) (.node (ob89 P) .nil .nil)) (.node (ob59 P) (.node (ob78 P) .nil .nil) (.node (ob97 P) .nil .nil))) (.node (ob43 P) (.node (ob55 P) (.node (ob74 P) (.node (ob112 P) .nil .nil) .nil) (.node (ob93 P) .nil .nil)) (.node (ob63 P) (.node (ob82 P) .nil .nil) (.node (ob104 P) .nil .nil)))) (.node (boot_o_5 P) (.node (boot_o_9 P) (.node (ob53 P) (.node (ob69 P) (.node (ob110 P) .nil .nil) .nil) (.node (ob91 P) .nil .nil)) (.node (ob61 P) (.node (ob80 P) .nil .nil) (.node (ob99 P) .nil .nil))) (.node (ob45 P) (.node (ob57 P) (.node (ob76 P) (.node (ob114 P) .nil .nil) .nil) (.node (ob95 P) .nil .nil)) (.node (ob65 P) (.node (ob84 P) .nil .nil) (.node (ob106 P) .nil .nil))))) (.node (boot_o_2 P) (.node (boot_o_4 P) (.node (boot_o_8 P) (.node (ob52 P) (.node (ob68 P) (.node (ob109 P) .nil .nil) .nil) (.node (ob90 P) .nil .nil)) (.node (ob60 P) (.node (ob79 P) .nil .nil) (.node (ob98 P) .nil .nil))) (.node (ob102 P) (.node (ob56 P) (.node (ob75 P) (.node (ob113 P) .nil .nil) .nil) (.node (ob94 P) .nil .nil)) (.node (ob64 P) (.node (ob83 P) .nil .nil) (.node (ob105 P) .nil .nil)))) (.node (boot_o_6 P) (.node (boot_o_10 P) (.node (ob54 P) (.node (ob70 P) (.node (ob111 P) .nil .nil) .nil) (.node (ob92 P) .nil .nil)) (.node (ob62 P) (.node (ob81 P) .nil .nil) (.node (ob100 P) .nil .nil))) (.node (ob46 P) (.node (ob58 P) (.node (ob77 P) (.node (ob115 P) .nil .nil) .nil) (.node (ob96 P) .nil .nil)) (.node (ob66 P) (.node (ob85 P) .nil .nil) (.node (ob107 P) .nil .nil)))))
noncomputable def tr145 (P : Params) : BT:=.node (boot_o_0 P) (.node (boot_o_1 P) (.node (ob131 P) (.node (boot_o_7 P) (.node (ob51 P) (.node (ob133 P) (.node (ob108 P) .nil .nil) .nil) (.node (ob89 P) (.node (ob127 P) .nil .nil) .nil)) (.node (ob59 P) (.node (ob78 P) (.node (ob119 P) .nil .nil) .nil) (.node (ob97 P) (.node (ob138 P) .nil .nil) .nil))) (.node (ob43 P) (.node (ob55 P) (.node (ob74 P) (.node (ob112 P) .nil .nil) .nil) (.node (ob93 P) (.node (ob134 P) .nil .nil) .nil)) (.node (ob63 P) (.node (ob82 P) (.node (ob123 P) .nil .nil) .nil) (.node (ob104 P) (.node (ob142 P) .nil .nil) .nil)))) (.node (boot_o_5 P) (.node (boot_o_9 P) (.node (ob53 P) (.node (ob69 P) (.node (ob110 P) .nil .nil) .nil) (.node (ob91 P) (.node (ob129 P) .nil .nil) .nil)) (.node (ob61 P) (.node (ob80 P) (.node (ob121 P) .nil .nil) .nil) (.node (ob99 P) (.node (ob140 P) .nil .nil) .nil))) (.node (ob45 P) (.node (ob57 P) (.node (ob76 P) (.node (ob114 P) .nil .nil) .nil) (.node (ob95 P) (.node (ob136 P) .nil .nil) .nil)) (.node (ob65 P) (.node (ob84 P) (.node (ob125 P) .nil .nil) .nil) (.node (ob106 P) (.node (ob144 P) .nil .nil) .nil))))) (.node (boot_o_2 P) (.node (boot_o_4 P) (.node (boot_o_8 P) (.node (ob52 P) (.node (ob68 P) (.node (ob109 P) .nil .nil) .nil) (.node (ob90 P) (.node (ob128 P) .nil .nil) .nil)) (.node (ob60 P) (.node (ob79 P) (.node (ob120 P) .nil .nil) .nil) (.node (ob98 P) (.node (ob139 P) .nil .nil) .nil))) (.node (ob132 P) (.node (ob56 P) (.node (ob75 P) (.node (ob113 P) .nil .nil) .nil) (.node (ob94 P) (.node (ob135 P) .nil .nil) .nil)) (.node (ob64 P) (.node (ob83 P) (.node (ob124 P) .nil .nil) .nil) (.node (ob105 P) (.node (ob143 P) .nil .nil) .nil)))) (.node (boot_o_6 P) (.node (boot_o_10 P) (.node (ob54 P) (.node (ob70 P) (.node (ob111 P) .nil .nil) .nil) (.node (ob92 P) (.node (ob130 P) .nil .nil) .nil)) (.node (ob62 P) (.node (ob81 P) (.node (ob122 P) .nil .nil) .nil) (.node (ob100 P) (.node (ob141 P) .nil .nil) .nil))) (.node (ob46 P) (.node (ob58 P) (.node (ob77 P) (.node (ob115 P) .nil .nil) .nil) (.node (ob96 P) (.node (ob137 P) .nil .nil) .nil)) (.node (ob66 P) (.node (ob85 P) (.node (ob126 P) .nil .nil) .nil) (.node (ob107 P) (.node (ob145 P) .nil .nil) .nil)))))
noncomputable def tr167 (P : Params) : BT:=.node (boot_o_0 P) (.node (boot_o_1 P) (.node (ob146 P) (.node (boot_o_7 P) (.node (ob51 P) (.node (ob148 P) (.node (ob108 P) .nil .nil) (.node (ob149 P) .nil .nil)) (.node (ob89 P) (.node (ob127 P) .nil .nil) (.node (ob165 P) .nil .nil))) (.node (ob59 P) (.node (ob78 P) (.node (ob119 P) .nil .nil) (.node (ob157 P) .nil .nil)) (.node (ob97 P) (.node (ob138 P) .nil .nil) .nil))) (.node (ob43 P) (.node (ob55 P) (.node (ob74 P) (.node (ob112 P) .nil .nil) (.node (ob153 P) .nil .nil)) (.node (ob93 P) (.node (ob134 P) .nil .nil) .nil)) (.node (ob63 P) (.node (ob82 P) (.node (ob123 P) .nil .nil) (.node (ob161 P) .nil .nil)) (.node (ob104 P) (.node (ob142 P) .nil .nil) .nil)))) (.node (boot_o_5 P) (.node (boot_o_9 P) (.node (ob53 P) (.node (ob69 P) (.node (ob110 P) .nil .nil) (.node (ob151 P) .nil .nil)) (.node (ob91 P) (.node (ob129 P) .nil .nil) (.node (ob167 P) .nil .nil))) (.node (ob61 P) (.node (ob80 P) (.node (ob121 P) .nil .nil) (.node (ob159 P) .nil .nil)) (.node (ob99 P) (.node (ob140 P) .nil .nil) .nil))) (.node (ob45 P) (.node (ob57 P) (.node (ob76 P) (.node (ob114 P) .nil .nil) (.node (ob155 P) .nil .nil)) (.node (ob95 P) (.node (ob136 P) .nil .nil) .nil)) (.node (ob65 P) (.node (ob84 P) (.node (ob125 P) .nil .nil) (.node (ob163 P) .nil .nil)) (.node (ob106 P) (.node (ob144 P) .nil .nil) .nil))))) (.node (boot_o_2 P) (.node (boot_o_4 P) (.node (boot_o_8 P) (.node (ob52 P) (.node (ob68 P) (.node (ob109 P) .nil .nil) (.node (ob150 P) .nil .nil)) (.node (ob90 P) (.node (ob128 P) .nil .nil) (.node (ob166 P) .nil .nil))) (.node (ob60 P) (.node (ob79 P) (.node (ob120 P) .nil .nil) (.node (ob158 P) .nil .nil)) (.node (ob98 P) (.node (ob139 P) .nil .nil) .nil))) (.node (ob147 P) (.node (ob56 P) (.node (ob75 P) (.node (ob113 P) .nil .nil) (.node (ob154 P) .nil .nil)) (.node (ob94 P) (.node (ob135 P) .nil .nil) .nil)) (.node (ob64 P) (.node (ob83 P) (.node (ob124 P) .nil .nil) (.node (ob162 P) .nil .nil)) (.node (ob105 P) (.node (ob143 P) .nil .nil) .nil)))) (.node (boot_o_6 P) (.node (boot_o_10 P) (.node (ob54 P) (.node (ob70 P) (.node (ob111 P) .nil .nil) (.node (ob152 P) .nil .nil)) (.node (ob92 P) (.node (ob130 P) .nil .nil) .nil)) (.node (ob62 P) (.node (ob81 P) (.node (ob122 P) .nil .nil) (.node (ob160 P) .nil .nil)) (.node (ob100 P) (.node (ob141 P) .nil .nil) .nil))) (.node (ob46 P) (.node (ob58 P) (.node (ob77 P) (.node (ob115 P) .nil .nil) (.node (ob156 P) .nil .nil)) (.node (ob96 P) (.node (ob137 P) .nil .nil) .nil)) (.node (ob66 P) (.node (ob85 P) (.node (ob126 P) .nil .nil) (.node (ob164 P) .nil .nil)) (.node (ob107 P) (.node (ob145 P) .nil .nil) .nil)))))
noncomputable def tr211 (P : Params) : BT:=.node (boot_o_0 P) (.node (boot_o_1 P) (.node (ob168 P) (.node (boot_o_7 P) (.node (ob51 P) (.node (ob148 P) (.node (ob108 P) (.node (ob183 P) .nil .nil) .nil) (.node (ob149 P) .nil .nil)) (.node (ob89 P) (.node (ob127 P) (.node (ob199 P) .nil .nil) .nil) (.node (ob165 P) .nil .nil))) (.node (ob59 P) (.node (ob78 P) (.node (ob119 P) (.node (ob191 P) .nil .nil) .nil) (.node (ob157 P) .nil .nil)) (.node (ob97 P) (.node (ob138 P) (.node (ob207 P) .nil .nil) .nil) (.node (ob175 P) .nil .nil)))) (.node (ob43 P) (.node (ob55 P) (.node (ob74 P) (.node (ob112 P) (.node (ob187 P) .nil .nil) .nil) (.node (ob153 P) .nil .nil)) (.node (ob93 P) (.node (ob134 P) (.node (ob203 P) .nil .nil) .nil) (.node (ob171 P) .nil .nil))) (.node (ob63 P) (.node (ob82 P) (.node (ob123 P) (.node (ob195 P) .nil .nil) .nil) (.node (ob161 P) .nil .nil)) (.node (ob104 P) (.node (ob142 P) (.node (ob211 P) .nil .nil) .nil) (.node (ob179 P) .nil .nil))))) (.node (boot_o_5 P) (.node (boot_o_9 P) (.node (ob53 P) (.node (ob69 P) (.node (ob110 P) (.node (ob185 P) .nil .nil) .nil) (.node (ob151 P) .nil .nil)) (.node (ob91 P) (.node (ob129 P) (.node (ob201 P) .nil .nil) .nil) (.node (ob167 P) .nil .nil))) (.node (ob61 P) (.node (ob80 P) (.node (ob121 P) (.node (ob193 P) .nil .nil) .nil) (.node (ob159 P) .nil .nil)) (.node (ob99 P) (.node (ob140 P) (.node (ob209 P) .nil .nil) .nil) (.node (ob177 P) .nil .nil)))) (.node (ob45 P) (.node (ob57 P) (.node (ob76 P) (.node (ob114 P) (.node (ob189 P) .nil .nil) .nil) (.node (ob155 P) .nil .nil)) (.node (ob95 P) (.node (ob136 P) (.node (ob205 P) .nil .nil) .nil) (.node (ob173 P) .nil .nil))) (.node (ob65 P) (.node (ob84 P) (.node (ob125 P) (.node (ob197 P) .nil .nil) .nil) (.node (ob163 P) .nil .nil)) (.node (ob106 P) (.node (ob144 P) .nil .nil) (.node (ob181 P) .nil .nil)))))) (.node (boot_o_2 P) (.node (boot_o_4 P) (.node (boot_o_8 P) (.node (ob52 P) (.node (ob68 P) (.node (ob109 P) (.node (ob184 P) .nil .nil) .nil) (.node (ob150 P) .nil .nil)) (.node (ob90 P) (.node (ob128 P) (.node (ob200 P) .nil .nil) .nil) (.node (ob166 P) .nil .nil))) (.node (ob60 P) (.node (ob79 P) (.node (ob120 P) (.node (ob192 P) .nil .nil) .nil) (.node (ob158 P) .nil .nil)) (.node (ob98 P) (.node (ob139 P) (.node (ob208 P) .nil .nil) .nil) (.node (ob176 P) .nil .nil)))) (.node (ob169 P) (.node (ob56 P) (.node (ob75 P) (.node (ob113 P) (.node (ob188 P) .nil .nil) .nil) (.node (ob154 P) .nil .nil)) (.node (ob94 P) (.node (ob135 P) (.node (ob204 P) .nil .nil) .nil) (.node (ob172 P) .nil .nil))) (.node (ob64 P) (.node (ob83 P) (.node (ob124 P) (.node (ob196 P) .nil .nil) .nil) (.node (ob162 P) .nil .nil)) (.node (ob105 P) (.node (ob143 P) .nil .nil) (.node (ob180 P) .nil .nil))))) (.node (boot_o_6 P) (.node (boot_o_10 P) (.node (ob54 P) (.node (ob70 P) (.node (ob111 P) (.node (ob186 P) .nil .nil) .nil) (.node (ob152 P) .nil .nil)) (.node (ob92 P) (.node (ob130 P) (.node (ob202 P) .nil .nil) .nil) (.node (ob170 P) .nil .nil))) (.node (ob62 P) (.node (ob81 P) (.node (ob122 P) (.node (ob194 P) .nil .nil) .nil) (.node (ob160 P) .nil .nil)) (.node (ob100 P) (.node (ob141 P) (.node (ob210 P) .nil .nil) .nil) (.node (ob178 P) .nil .nil)))) (.node (ob46 P) (.node (ob58 P) (.node (ob77 P) (.node (ob115 P) (.node (ob190 P) .nil .nil) .nil) (.node (ob156 P) .nil .nil)) (.node (ob96 P) (.node (ob137 P) (.node (ob206 P) .nil .nil) .nil) (.node (ob174 P) .nil .nil))) (.node (ob66 P) (.node (ob85 P) (.node (ob126 P) (.node (ob198 P) .nil .nil) .nil) (.node (ob164 P) .nil .nil)) (.node (ob107 P) (.node (ob145 P) .nil .nil) (.node (ob182 P) .nil .nil))))))
noncomputable def tr332 (P : Params) : BT:=.node (boot_o_0 P) (.node (boot_o_1 P) (.node (ob212 P) (.node (boot_o_7 P) (.node (ob51 P) (.node (ob148 P) (.node (ob108 P) (.node (ob183 P) (.node (ob313 P) .nil .nil) .nil) (.node (ob249 P) .nil .nil)) (.node (ob149 P) (.node (ob217 P) .nil .nil) (.node (ob281 P) .nil .nil))) (.node (ob89 P) (.node (ob127 P) (.node (ob199 P) (.node (ob329 P) .nil .nil) .nil) (.node (ob265 P) .nil .nil)) (.node (ob165 P) (.node (ob233 P) .nil .nil) (.node (ob297 P) .nil .nil)))) (.node (ob59 P) (.node (ob78 P) (.node (ob119 P) (.node (ob191 P) (.node (ob321 P) .nil .nil) .nil) (.node (ob257 P) .nil .nil)) (.node (ob157 P) (.node (ob225 P) .nil .nil) (.node (ob289 P) .nil .nil))) (.node (ob97 P) (.node (ob138 P) (.node (ob207 P) .nil .nil) (.node (ob273 P) .nil .nil)) (.node (ob175 P) (.node (ob241 P) .nil .nil) (.node (ob305 P) .nil .nil))))) (.node (ob43 P) (.node (ob55 P) (.node (ob74 P) (.node (ob112 P) (.node (ob187 P) (.node (ob317 P) .nil .nil) .nil) (.node (ob253 P) .nil .nil)) (.node (ob153 P) (.node (ob221 P) .nil .nil) (.node (ob285 P) .nil .nil))) (.node (ob93 P) (.node (ob134 P) (.node (ob203 P) .nil .nil) (.node (ob269 P) .nil .nil)) (.node (ob171 P) (.node (ob237 P) .nil .nil) (.node (ob301 P) .nil .nil)))) (.node (ob63 P) (.node (ob82 P) (.node (ob123 P) (.node (ob195 P) (.node (ob325 P) .nil .nil) .nil) (.node (ob261 P) .nil .nil)) (.node (ob161 P) (.node (ob229 P) .nil .nil) (.node (ob293 P) .nil .nil))) (.node (ob104 P) (.node (ob142 P) (.node (ob211 P) .nil .nil) (.node (ob277 P) .nil .nil)) (.node (ob179 P) (.node (ob245 P) .nil .nil) (.node (ob309 P) .nil .nil)))))) (.node (boot_o_5 P) (.node (boot_o_9 P) (.node (ob53 P) (.node (ob69 P) (.node (ob110 P) (.node (ob185 P) (.node (ob315 P) .nil .nil) .nil) (.node (ob251 P) .nil .nil)) (.node (ob151 P) (.node (ob219 P) .nil .nil) (.node (ob283 P) .nil .nil))) (.node (ob91 P) (.node (ob129 P) (.node (ob201 P) (.node (ob331 P) .nil .nil) .nil) (.node (ob267 P) .nil .nil)) (.node (ob167 P) (.node (ob235 P) .nil .nil) (.node (ob299 P) .nil .nil)))) (.node (ob61 P) (.node (ob80 P) (.node (ob121 P) (.node (ob193 P) (.node (ob323 P) .nil .nil) .nil) (.node (ob259 P) .nil .nil)) (.node (ob159 P) (.node (ob227 P) .nil .nil) (.node (ob291 P) .nil .nil))) (.node (ob99 P) (.node (ob140 P) (.node (ob209 P) .nil .nil) (.node (ob275 P) .nil .nil)) (.node (ob177 P) (.node (ob243 P) .nil .nil) (.node (ob307 P) .nil .nil))))) (.node (ob45 P) (.node (ob57 P) (.node (ob76 P) (.node (ob114 P) (.node (ob189 P) (.node (ob319 P) .nil .nil) .nil) (.node (ob255 P) .nil .nil)) (.node (ob155 P) (.node (ob223 P) .nil .nil) (.node (ob287 P) .nil .nil))) (.node (ob95 P) (.node (ob136 P) (.node (ob205 P) .nil .nil) (.node (ob271 P) .nil .nil)) (.node (ob173 P) (.node (ob239 P) .nil .nil) (.node (ob303 P) .nil .nil)))) (.node (ob65 P) (.node (ob84 P) (.node (ob125 P) (.node (ob197 P) (.node (ob327 P) .nil .nil) .nil) (.node (ob263 P) .nil .nil)) (.node (ob163 P) (.node (ob231 P) .nil .nil) (.node (ob295 P) .nil .nil))) (.node (ob106 P) (.node (ob144 P) (.node (ob215 P) .nil .nil) (.node (ob279 P) .nil .nil)) (.node (ob181 P) (.node (ob247 P) .nil .nil) (.node (ob311 P) .nil .nil))))))) (.node (boot_o_2 P) (.node (boot_o_4 P) (.node (boot_o_8 P) (.node (ob52 P) (.node (ob68 P) (.node (ob109 P) (.node (ob184 P) (.node (ob314 P) .nil .nil) .nil) (.node (ob250 P) .nil .nil)) (.node (ob150 P) (.node (ob218 P) .nil .nil) (.node (ob282 P) .nil .nil))) (.node (ob90 P) (.node (ob128 P) (.node (ob200 P) (.node (ob330 P) .nil .nil) .nil) (.node (ob266 P) .nil .nil)) (.node (ob166 P) (.node (ob234 P) .nil .nil) (.node (ob298 P) .nil .nil)))) (.node (ob60 P) (.node (ob79 P) (.node (ob120 P) (.node (ob192 P) (.node (ob322 P) .nil .nil) .nil) (.node (ob258 P) .nil .nil)) (.node (ob158 P) (.node (ob226 P) .nil .nil) (.node (ob290 P) .nil .nil))) (.node (ob98 P) (.node (ob139 P) (.node (ob208 P) .nil .nil) (.node (ob274 P) .nil .nil)) (.node (ob176 P) (.node (ob242 P) .nil .nil) (.node (ob306 P) .nil .nil))))) (.node (ob213 P) (.node (ob56 P) (.node (ob75 P) (.node (ob113 P) (.node (ob188 P) (.node (ob318 P) .nil .nil) .nil) (.node (ob254 P) .nil .nil)) (.node (ob154 P) (.node (ob222 P) .nil .nil) (.node (ob286 P) .nil .nil))) (.node (ob94 P) (.node (ob135 P) (.node (ob204 P) .nil .nil) (.node (ob270 P) .nil .nil)) (.node (ob172 P) (.node (ob238 P) .nil .nil) (.node (ob302 P) .nil .nil)))) (.node (ob64 P) (.node (ob83 P) (.node (ob124 P) (.node (ob196 P) (.node (ob326 P) .nil .nil) .nil) (.node (ob262 P) .nil .nil)) (.node (ob162 P) (.node (ob230 P) .nil .nil) (.node (ob294 P) .nil .nil))) (.node (ob105 P) (.node (ob143 P) (.node (ob214 P) .nil .nil) (.node (ob278 P) .nil .nil)) (.node (ob180 P) (.node (ob246 P) .nil .nil) (.node (ob310 P) .nil .nil)))))) (.node (boot_o_6 P) (.node (boot_o_10 P) (.node (ob54 P) (.node (ob70 P) (.node (ob111 P) (.node (ob186 P) (.node (ob316 P) .nil .nil) .nil) (.node (ob252 P) .nil .nil)) (.node (ob152 P) (.node (ob220 P) .nil .nil) (.node (ob284 P) .nil .nil))) (.node (ob92 P) (.node (ob130 P) (.node (ob202 P) (.node (ob332 P) .nil .nil) .nil) (.node (ob268 P) .nil .nil)) (.node (ob170 P) (.node (ob236 P) .nil .nil) (.node (ob300 P) .nil .nil)))) (.node (ob62 P) (.node (ob81 P) (.node (ob122 P) (.node (ob194 P) (.node (ob324 P) .nil .nil) .nil) (.node (ob260 P) .nil .nil)) (.node (ob160 P) (.node (ob228 P) .nil .nil) (.node (ob292 P) .nil .nil))) (.node (ob100 P) (.node (ob141 P) (.node (ob210 P) .nil .nil) (.node (ob276 P) .nil .nil)) (.node (ob178 P) (.node (ob244 P) .nil .nil) (.node (ob308 P) .nil .nil))))) (.node (ob46 P) (.node (ob58 P) (.node (ob77 P) (.node (ob115 P) (.node (ob190 P) (.node (ob320 P) .nil .nil) .nil) (.node (ob256 P) .nil .nil)) (.node (ob156 P) (.node (ob224 P) .nil .nil) (.node (ob288 P) .nil .nil))) (.node (ob96 P) (.node (ob137 P) (.node (ob206 P) .nil .nil) (.node (ob272 P) .nil .nil)) (.node (ob174 P) (.node (ob240 P) .nil .nil) (.node (ob304 P) .nil .nil)))) (.node (ob66 P) (.node (ob85 P) (.node (ob126 P) (.node (ob198 P) (.node (ob328 P) .nil .nil) .nil) (.node (ob264 P) .nil .nil)) (.node (ob164 P) (.node (ob232 P) .nil .nil) (.node (ob296 P) .nil .nil))) (.node (ob107 P) (.node (ob145 P) (.node (ob216 P) .nil .nil) (.node (ob280 P) .nil .nil)) (.node (ob182 P) (.node (ob248 P) .nil .nil) (.node (ob312 P) .nil .nil)))))))
noncomputable def tr477 (P : Params) : BT:=.node (boot_o_0 P) (.node (boot_o_1 P) (.node (ob420 P) (.node (boot_o_7 P) (.node (ob51 P) (.node (ob148 P) (.node (ob108 P) (.node (ob183 P) (.node (ob313 P) .nil .nil) .nil) (.node (ob249 P) (.node (ob466 P) .nil .nil) .nil)) (.node (ob149 P) (.node (ob217 P) (.node (ob434 P) .nil .nil) .nil) (.node (ob281 P) .nil .nil))) (.node (ob89 P) (.node (ob127 P) (.node (ob199 P) (.node (ob329 P) .nil .nil) .nil) (.node (ob265 P) .nil .nil)) (.node (ob165 P) (.node (ob233 P) (.node (ob450 P) .nil .nil) .nil) (.node (ob297 P) .nil .nil)))) (.node (ob59 P) (.node (ob78 P) (.node (ob119 P) (.node (ob191 P) (.node (ob321 P) .nil .nil) .nil) (.node (ob257 P) (.node (ob474 P) .nil .nil) .nil)) (.node (ob157 P) (.node (ob225 P) (.node (ob442 P) .nil .nil) .nil) (.node (ob289 P) .nil .nil))) (.node (ob97 P) (.node (ob138 P) (.node (ob207 P) (.node (ob426 P) .nil .nil) .nil) (.node (ob273 P) .nil .nil)) (.node (ob175 P) (.node (ob241 P) (.node (ob458 P) .nil .nil) .nil) (.node (ob305 P) .nil .nil))))) (.node (ob43 P) (.node (ob55 P) (.node (ob74 P) (.node (ob112 P) (.node (ob187 P) (.node (ob317 P) .nil .nil) .nil) (.node (ob253 P) (.node (ob470 P) .nil .nil) .nil)) (.node (ob153 P) (.node (ob221 P) (.node (ob438 P) .nil .nil) .nil) (.node (ob285 P) .nil .nil))) (.node (ob93 P) (.node (ob134 P) (.node (ob203 P) (.node (ob422 P) .nil .nil) .nil) (.node (ob269 P) .nil .nil)) (.node (ob171 P) (.node (ob237 P) (.node (ob454 P) .nil .nil) .nil) (.node (ob301 P) .nil .nil)))) (.node (ob63 P) (.node (ob82 P) (.node (ob123 P) (.node (ob195 P) (.node (ob325 P) .nil .nil) .nil) (.node (ob261 P) .nil .nil)) (.node (ob161 P) (.node (ob229 P) (.node (ob446 P) .nil .nil) .nil) (.node (ob293 P) .nil .nil))) (.node (ob104 P) (.node (ob142 P) (.node (ob211 P) (.node (ob430 P) .nil .nil) .nil) (.node (ob277 P) .nil .nil)) (.node (ob179 P) (.node (ob245 P) (.node (ob462 P) .nil .nil) .nil) (.node (ob309 P) .nil .nil)))))) (.node (boot_o_5 P) (.node (boot_o_9 P) (.node (ob53 P) (.node (ob69 P) (.node (ob110 P) (.node (ob185 P) (.node (ob315 P) .nil .nil) .nil) (.node (ob251 P) (.node (ob468 P) .nil .nil) .nil)) (.node (ob151 P) (.node (ob219 P) (.node (ob436 P) .nil .nil) .nil) (.node (ob283 P) .nil .nil))) (.node (ob91 P) (.node (ob129 P) (.node (ob201 P) (.node (ob331 P) .nil .nil) .nil) (.node (ob267 P) .nil .nil)) (.node (ob167 P) (.node (ob235 P) (.node (ob452 P) .nil .nil) .nil) (.node (ob299 P) .nil .nil)))) (.node (ob61 P) (.node (ob80 P) (.node (ob121 P) (.node (ob193 P) (.node (ob323 P) .nil .nil) .nil) (.node (ob259 P) (.node (ob476 P) .nil .nil) .nil)) (.node (ob159 P) (.node (ob227 P) (.node (ob444 P) .nil .nil) .nil) (.node (ob291 P) .nil .nil))) (.node (ob99 P) (.node (ob140 P) (.node (ob209 P) (.node (ob428 P) .nil .nil) .nil) (.node (ob275 P) .nil .nil)) (.node (ob177 P) (.node (ob243 P) (.node (ob460 P) .nil .nil) .nil) (.node (ob307 P) .nil .nil))))) (.node (ob45 P) (.node (ob57 P) (.node (ob76 P) (.node (ob114 P) (.node (ob189 P) (.node (ob319 P) .nil .nil) .nil) (.node (ob255 P) (.node (ob472 P) .nil .nil) .nil)) (.node (ob155 P) (.node (ob223 P) (.node (ob440 P) .nil .nil) .nil) (.node (ob287 P) .nil .nil))) (.node (ob95 P) (.node (ob136 P) (.node (ob205 P) (.node (ob424 P) .nil .nil) .nil) (.node (ob271 P) .nil .nil)) (.node (ob173 P) (.node (ob239 P) (.node (ob456 P) .nil .nil) .nil) (.node (ob303 P) .nil .nil)))) (.node (ob65 P) (.node (ob84 P) (.node (ob125 P) (.node (ob197 P) (.node (ob327 P) .nil .nil) .nil) (.node (ob263 P) .nil .nil)) (.node (ob163 P) (.node (ob231 P) (.node (ob448 P) .nil .nil) .nil) (.node (ob295 P) .nil .nil))) (.node (ob106 P) (.node (ob144 P) (.node (ob215 P) (.node (ob432 P) .nil .nil) .nil) (.node (ob279 P) .nil .nil)) (.node (ob181 P) (.node (ob247 P) (.node (ob464 P) .nil .nil) .nil) (.node (ob311 P) .nil .nil))))))) (.node (boot_o_2 P) (.node (boot_o_4 P) (.node (boot_o_8 P) (.node (ob52 P) (.node (ob68 P) (.node (ob109 P) (.node (ob184 P) (.node (ob314 P) .nil .nil) .nil) (.node (ob250 P) (.node (ob467 P) .nil .nil) .nil)) (.node (ob150 P) (.node (ob218 P) (.node (ob435 P) .nil .nil) .nil) (.node (ob282 P) .nil .nil))) (.node (ob90 P) (.node (ob128 P) (.node (ob200 P) (.node (ob330 P) .nil .nil) .nil) (.node (ob266 P) .nil .nil)) (.node (ob166 P) (.node (ob234 P) (.node (ob451 P) .nil .nil) .nil) (.node (ob298 P) .nil .nil)))) (.node (ob60 P) (.node (ob79 P) (.node (ob120 P) (.node (ob192 P) (.node (ob322 P) .nil .nil) .nil) (.node (ob258 P) (.node (ob475 P) .nil .nil) .nil)) (.node (ob158 P) (.node (ob226 P) (.node (ob443 P) .nil .nil) .nil) (.node (ob290 P) .nil .nil))) (.node (ob98 P) (.node (ob139 P) (.node (ob208 P) (.node (ob427 P) .nil .nil) .nil) (.node (ob274 P) .nil .nil)) (.node (ob176 P) (.node (ob242 P) (.node (ob459 P) .nil .nil) .nil) (.node (ob306 P) .nil .nil))))) (.node (ob421 P) (.node (ob56 P) (.node (ob75 P) (.node (ob113 P) (.node (ob188 P) (.node (ob318 P) .nil .nil) .nil) (.node (ob254 P) (.node (ob471 P) .nil .nil) .nil)) (.node (ob154 P) (.node (ob222 P) (.node (ob439 P) .nil .nil) .nil) (.node (ob286 P) .nil .nil))) (.node (ob94 P) (.node (ob135 P) (.node (ob204 P) (.node (ob423 P) .nil .nil) .nil) (.node (ob270 P) .nil .nil)) (.node (ob172 P) (.node (ob238 P) (.node (ob455 P) .nil .nil) .nil) (.node (ob302 P) .nil .nil)))) (.node (ob64 P) (.node (ob83 P) (.node (ob124 P) (.node (ob196 P) (.node (ob326 P) .nil .nil) .nil) (.node (ob262 P) .nil .nil)) (.node (ob162 P) (.node (ob230 P) (.node (ob447 P) .nil .nil) .nil) (.node (ob294 P) .nil .nil))) (.node (ob105 P) (.node (ob143 P) (.node (ob214 P) (.node (ob431 P) .nil .nil) .nil) (.node (ob278 P) .nil .nil)) (.node (ob180 P) (.node (ob246 P) (.node (ob463 P) .nil .nil) .nil) (.node (ob310 P) .nil .nil)))))) (.node (boot_o_6 P) (.node (boot_o_10 P) (.node (ob54 P) (.node (ob70 P) (.node (ob111 P) (.node (ob186 P) (.node (ob316 P) .nil .nil) .nil) (.node (ob252 P) (.node (ob469 P) .nil .nil) .nil)) (.node (ob152 P) (.node (ob220 P) (.node (ob437 P) .nil .nil) .nil) (.node (ob284 P) .nil .nil))) (.node (ob92 P) (.node (ob130 P) (.node (ob202 P) (.node (ob332 P) .nil .nil) .nil) (.node (ob268 P) .nil .nil)) (.node (ob170 P) (.node (ob236 P) (.node (ob453 P) .nil .nil) .nil) (.node (ob300 P) .nil .nil)))) (.node (ob62 P) (.node (ob81 P) (.node (ob122 P) (.node (ob194 P) (.node (ob324 P) .nil .nil) .nil) (.node (ob260 P) (.node (ob477 P) .nil .nil) .nil)) (.node (ob160 P) (.node (ob228 P) (.node (ob445 P) .nil .nil) .nil) (.node (ob292 P) .nil .nil))) (.node (ob100 P) (.node (ob141 P) (.node (ob210 P) (.node (ob429 P) .nil .nil) .nil) (.node (ob276 P) .nil .nil)) (.node (ob178 P) (.node (ob244 P) (.node (ob461 P) .nil .nil) .nil) (.node (ob308 P) .nil .nil))))) (.node (ob46 P) (.node (ob58 P) (.node (ob77 P) (.node (ob115 P) (.node (ob190 P) (.node (ob320 P) .nil .nil) .nil) (.node (ob256 P) (.node (ob473 P) .nil .nil) .nil)) (.node (ob156 P) (.node (ob224 P) (.node (ob441 P) .nil .nil) .nil) (.node (ob288 P) .nil .nil))) (.node (ob96 P) (.node (ob137 P) (.node (ob206 P) (.node (ob425 P) .nil .nil) .nil) (.node (ob272 P) .nil .nil)) (.node (ob174 P) (.node (ob240 P) (.node (ob457 P) .nil .nil) .nil) (.node (ob304 P) .nil .nil)))) (.node (ob66 P) (.node (ob85 P) (.node (ob126 P) (.node (ob198 P) (.node (ob328 P) .nil .nil) .nil) (.node (ob264 P) .nil .nil)) (.node (ob164 P) (.node (ob232 P) (.node (ob449 P) .nil .nil) .nil) (.node (ob296 P) .nil .nil))) (.node (ob107 P) (.node (ob145 P) (.node (ob216 P) (.node (ob433 P) .nil .nil) .nil) (.node (ob280 P) .nil .nil)) (.node (ob182 P) (.node (ob248 P) (.node (ob465 P) .nil .nil) .nil) (.node (ob312 P) .nil .nil)))))))
noncomputable def tr591 (P : Params) : BT:=.node (boot_o_0 P) (.node (boot_o_1 P) (.node (ob571 P) (.node (boot_o_7 P) (.node (ob51 P) (.node (ob148 P) (.node (ob108 P) (.node (ob183 P) (.node (ob313 P) .nil .nil) (.node (ob534 P) .nil .nil)) (.node (ob249 P) (.node (ob466 P) .nil .nil) .nil)) (.node (ob149 P) (.node (ob217 P) (.node (ob434 P) .nil .nil) (.node (ob566 P) .nil .nil)) (.node (ob281 P) (.node (ob502 P) .nil .nil) .nil))) (.node (ob89 P) (.node (ob127 P) (.node (ob199 P) (.node (ob329 P) .nil .nil) (.node (ob550 P) .nil .nil)) (.node (ob265 P) (.node (ob486 P) .nil .nil) .nil)) (.node (ob165 P) (.node (ob233 P) (.node (ob450 P) .nil .nil) (.node (ob584 P) .nil .nil)) (.node (ob297 P) (.node (ob518 P) .nil .nil) .nil)))) (.node (ob59 P) (.node (ob78 P) (.node (ob119 P) (.node (ob191 P) (.node (ob321 P) .nil .nil) (.node (ob542 P) .nil .nil)) (.node (ob257 P) (.node (ob474 P) .nil .nil) .nil)) (.node (ob157 P) (.node (ob225 P) (.node (ob442 P) .nil .nil) (.node (ob576 P) .nil .nil)) (.node (ob289 P) (.node (ob510 P) .nil .nil) .nil))) (.node (ob97 P) (.node (ob138 P) (.node (ob207 P) (.node (ob426 P) .nil .nil) (.node (ob558 P) .nil .nil)) (.node (ob273 P) (.node (ob494 P) .nil .nil) .nil)) (.node (ob175 P) (.node (ob241 P) (.node (ob458 P) .nil .nil) .nil) (.node (ob305 P) (.node (ob526 P) .nil .nil) .nil))))) (.node (ob43 P) (.node (ob55 P) (.node (ob74 P) (.node (ob112 P) (.node (ob187 P) (.node (ob317 P) .nil .nil) (.node (ob538 P) .nil .nil)) (.node (ob253 P) (.node (ob470 P) .nil .nil) .nil)) (.node (ob153 P) (.node (ob221 P) (.node (ob438 P) .nil .nil) (.node (ob570 P) .nil .nil)) (.node (ob285 P) (.node (ob506 P) .nil .nil) .nil))) (.node (ob93 P) (.node (ob134 P) (.node (ob203 P) (.node (ob422 P) .nil .nil) (.node (ob554 P) .nil .nil)) (.node (ob269 P) (.node (ob490 P) .nil .nil) .nil)) (.node (ob171 P) (.node (ob237 P) (.node (ob454 P) .nil .nil) (.node (ob588 P) .nil .nil)) (.node (ob301 P) (.node (ob522 P) .nil .nil) .nil)))) (.node (ob63 P) (.node (ob82 P) (.node (ob123 P) (.node (ob195 P) (.node (ob325 P) .nil .nil) (.node (ob546 P) .nil .nil)) (.node (ob261 P) (.node (ob482 P) .nil .nil) .nil)) (.node (ob161 P) (.node (ob229 P) (.node (ob446 P) .nil .nil) (.node (ob580 P) .nil .nil)) (.node (ob293 P) (.node (ob514 P) .nil .nil) .nil))) (.node (ob104 P) (.node (ob142 P) (.node (ob211 P) (.node (ob430 P) .nil .nil) (.node (ob562 P) .nil .nil)) (.node (ob277 P) (.node (ob498 P) .nil .nil) .nil)) (.node (ob179 P) (.node (ob245 P) (.node (ob462 P) .nil .nil) .nil) (.node (ob309 P) (.node (ob530 P) .nil .nil) .nil)))))) (.node (boot_o_5 P) (.node (boot_o_9 P) (.node (ob53 P) (.node (ob69 P) (.node (ob110 P) (.node (ob185 P) (.node (ob315 P) .nil .nil) (.node (ob536 P) .nil .nil)) (.node (ob251 P) (.node (ob468 P) .nil .nil) .nil)) (.node (ob151 P) (.node (ob219 P) (.node (ob436 P) .nil .nil) (.node (ob568 P) .nil .nil)) (.node (ob283 P) (.node (ob504 P) .nil .nil) .nil))) (.node (ob91 P) (.node (ob129 P) (.node (ob201 P) (.node (ob331 P) .nil .nil) (.node (ob552 P) .nil .nil)) (.node (ob267 P) (.node (ob488 P) .nil .nil) .nil)) (.node (ob167 P) (.node (ob235 P) (.node (ob452 P) .nil .nil) (.node (ob586 P) .nil .nil)) (.node (ob299 P) (.node (ob520 P) .nil .nil) .nil)))) (.node (ob61 P) (.node (ob80 P) (.node (ob121 P) (.node (ob193 P) (.node (ob323 P) .nil .nil) (.node (ob544 P) .nil .nil)) (.node (ob259 P) (.node (ob476 P) .nil .nil) .nil)) (.node (ob159 P) (.node (ob227 P) (.node (ob444 P) .nil .nil) (.node (ob578 P) .nil .nil)) (.node (ob291 P) (.node (ob512 P) .nil .nil) .nil))) (.node (ob99 P) (.node (ob140 P) (.node (ob209 P) (.node (ob428 P) .nil .nil) (.node (ob560 P) .nil .nil)) (.node (ob275 P) (.node (ob496 P) .nil .nil) .nil)) (.node (ob177 P) (.node (ob243 P) (.node (ob460 P) .nil .nil) .nil) (.node (ob307 P) (.node (ob528 P) .nil .nil) .nil))))) (.node (ob45 P) (.node (ob57 P) (.node (ob76 P) (.node (ob114 P) (.node (ob189 P) (.node (ob319 P) .nil .nil) (.node (ob540 P) .nil .nil)) (.node (ob255 P) (.node (ob472 P) .nil .nil) .nil)) (.node (ob155 P) (.node (ob223 P) (.node (ob440 P) .nil .nil) (.node (ob574 P) .nil .nil)) (.node (ob287 P) (.node (ob508 P) .nil .nil) .nil))) (.node (ob95 P) (.node (ob136 P) (.node (ob205 P) (.node (ob424 P) .nil .nil) (.node (ob556 P) .nil .nil)) (.node (ob271 P) (.node (ob492 P) .nil .nil) .nil)) (.node (ob173 P) (.node (ob239 P) (.node (ob456 P) .nil .nil) (.node (ob590 P) .nil .nil)) (.node (ob303 P) (.node (ob524 P) .nil .nil) .nil)))) (.node (ob65 P) (.node (ob84 P) (.node (ob125 P) (.node (ob197 P) (.node (ob327 P) .nil .nil) (.node (ob548 P) .nil .nil)) (.node (ob263 P) (.node (ob484 P) .nil .nil) .nil)) (.node (ob163 P) (.node (ob231 P) (.node (ob448 P) .nil .nil) (.node (ob582 P) .nil .nil)) (.node (ob295 P) (.node (ob516 P) .nil .nil) .nil))) (.node (ob106 P) (.node (ob144 P) (.node (ob215 P) (.node (ob432 P) .nil .nil) (.node (ob564 P) .nil .nil)) (.node (ob279 P) (.node (ob500 P) .nil .nil) .nil)) (.node (ob181 P) (.node (ob247 P) (.node (ob464 P) .nil .nil) .nil) (.node (ob311 P) (.node (ob532 P) .nil .nil) .nil))))))) (.node (boot_o_2 P) (.node (boot_o_4 P) (.node (boot_o_8 P) (.node (ob52 P) (.node (ob68 P) (.node (ob109 P) (.node (ob184 P) (.node (ob314 P) .nil .nil) (.node (ob535 P) .nil .nil)) (.node (ob250 P) (.node (ob467 P) .nil .nil) .nil)) (.node (ob150 P) (.node (ob218 P) (.node (ob435 P) .nil .nil) (.node (ob567 P) .nil .nil)) (.node (ob282 P) (.node (ob503 P) .nil .nil) .nil))) (.node (ob90 P) (.node (ob128 P) (.node (ob200 P) (.node (ob330 P) .nil .nil) (.node (ob551 P) .nil .nil)) (.node (ob266 P) (.node (ob487 P) .nil .nil) .nil)) (.node (ob166 P) (.node (ob234 P) (.node (ob451 P) .nil .nil) (.node (ob585 P) .nil .nil)) (.node (ob298 P) (.node (ob519 P) .nil .nil) .nil)))) (.node (ob60 P) (.node (ob79 P) (.node (ob120 P) (.node (ob192 P) (.node (ob322 P) .nil .nil) (.node (ob543 P) .nil .nil)) (.node (ob258 P) (.node (ob475 P) .nil .nil) .nil)) (.node (ob158 P) (.node (ob226 P) (.node (ob443 P) .nil .nil) (.node (ob577 P) .nil .nil)) (.node (ob290 P) (.node (ob511 P) .nil .nil) .nil))) (.node (ob98 P) (.node (ob139 P) (.node (ob208 P) (.node (ob427 P) .nil .nil) (.node (ob559 P) .nil .nil)) (.node (ob274 P) (.node (ob495 P) .nil .nil) .nil)) (.node (ob176 P) (.node (ob242 P) (.node (ob459 P) .nil .nil) .nil) (.node (ob306 P) (.node (ob527 P) .nil .nil) .nil))))) (.node (ob572 P) (.node (ob56 P) (.node (ob75 P) (.node (ob113 P) (.node (ob188 P) (.node (ob318 P) .nil .nil) (.node (ob539 P) .nil .nil)) (.node (ob254 P) (.node (ob471 P) .nil .nil) .nil)) (.node (ob154 P) (.node (ob222 P) (.node (ob439 P) .nil .nil) (.node (ob573 P) .nil .nil)) (.node (ob286 P) (.node (ob507 P) .nil .nil) .nil))) (.node (ob94 P) (.node (ob135 P) (.node (ob204 P) (.node (ob423 P) .nil .nil) (.node (ob555 P) .nil .nil)) (.node (ob270 P) (.node (ob491 P) .nil .nil) .nil)) (.node (ob172 P) (.node (ob238 P) (.node (ob455 P) .nil .nil) (.node (ob589 P) .nil .nil)) (.node (ob302 P) (.node (ob523 P) .nil .nil) .nil)))) (.node (ob64 P) (.node (ob83 P) (.node (ob124 P) (.node (ob196 P) (.node (ob326 P) .nil .nil) (.node (ob547 P) .nil .nil)) (.node (ob262 P) (.node (ob483 P) .nil .nil) .nil)) (.node (ob162 P) (.node (ob230 P) (.node (ob447 P) .nil .nil) (.node (ob581 P) .nil .nil)) (.node (ob294 P) (.node (ob515 P) .nil .nil) .nil))) (.node (ob105 P) (.node (ob143 P) (.node (ob214 P) (.node (ob431 P) .nil .nil) (.node (ob563 P) .nil .nil)) (.node (ob278 P) (.node (ob499 P) .nil .nil) .nil)) (.node (ob180 P) (.node (ob246 P) (.node (ob463 P) .nil .nil) .nil) (.node (ob310 P) (.node (ob531 P) .nil .nil) .nil)))))) (.node (boot_o_6 P) (.node (boot_o_10 P) (.node (ob54 P) (.node (ob70 P) (.node (ob111 P) (.node (ob186 P) (.node (ob316 P) .nil .nil) (.node (ob537 P) .nil .nil)) (.node (ob252 P) (.node (ob469 P) .nil .nil) .nil)) (.node (ob152 P) (.node (ob220 P) (.node (ob437 P) .nil .nil) (.node (ob569 P) .nil .nil)) (.node (ob284 P) (.node (ob505 P) .nil .nil) .nil))) (.node (ob92 P) (.node (ob130 P) (.node (ob202 P) (.node (ob332 P) .nil .nil) (.node (ob553 P) .nil .nil)) (.node (ob268 P) (.node (ob489 P) .nil .nil) .nil)) (.node (ob170 P) (.node (ob236 P) (.node (ob453 P) .nil .nil) (.node (ob587 P) .nil .nil)) (.node (ob300 P) (.node (ob521 P) .nil .nil) .nil)))) (.node (ob62 P) (.node (ob81 P) (.node (ob122 P) (.node (ob194 P) (.node (ob324 P) .nil .nil) (.node (ob545 P) .nil .nil)) (.node (ob260 P) (.node (ob477 P) .nil .nil) .nil)) (.node (ob160 P) (.node (ob228 P) (.node (ob445 P) .nil .nil) (.node (ob579 P) .nil .nil)) (.node (ob292 P) (.node (ob513 P) .nil .nil) .nil))) (.node (ob100 P) (.node (ob141 P) (.node (ob210 P) (.node (ob429 P) .nil .nil) (.node (ob561 P) .nil .nil)) (.node (ob276 P) (.node (ob497 P) .nil .nil) .nil)) (.node (ob178 P) (.node (ob244 P) (.node (ob461 P) .nil .nil) .nil) (.node (ob308 P) (.node (ob529 P) .nil .nil) .nil))))) (.node (ob46 P) (.node (ob58 P) (.node (ob77 P) (.node (ob115 P) (.node (ob190 P) (.node (ob320 P) .nil .nil) (.node (ob541 P) .nil .nil)) (.node (ob256 P) (.node (ob473 P) .nil .nil) .nil)) (.node (ob156 P) (.node (ob224 P) (.node (ob441 P) .nil .nil) (.node (ob575 P) .nil .nil)) (.node (ob288 P) (.node (ob509 P) .nil .nil) .nil))) (.node (ob96 P) (.node (ob137 P) (.node (ob206 P) (.node (ob425 P) .nil .nil) (.node (ob557 P) .nil .nil)) (.node (ob272 P) (.node (ob493 P) .nil .nil) .nil)) (.node (ob174 P) (.node (ob240 P) (.node (ob457 P) .nil .nil) (.node (ob591 P) .nil .nil)) (.node (ob304 P) (.node (ob525 P) .nil .nil) .nil)))) (.node (ob66 P) (.node (ob85 P) (.node (ob126 P) (.node (ob198 P) (.node (ob328 P) .nil .nil) (.node (ob549 P) .nil .nil)) (.node (ob264 P) (.node (ob485 P) .nil .nil) .nil)) (.node (ob164 P) (.node (ob232 P) (.node (ob449 P) .nil .nil) (.node (ob583 P) .nil .nil)) (.node (ob296 P) (.node (ob517 P) .nil .nil) .nil))) (.node (ob107 P) (.node (ob145 P) (.node (ob216 P) (.node (ob433 P) .nil .nil) (.node (ob565 P) .nil .nil)) (.node (ob280 P) (.node (ob501 P) .nil .nil) .nil)) (.node (ob182 P) (.node (ob248 P) (.node (ob465 P) .nil .nil) .nil) (.node (ob312 P) (.node (ob533 P) .nil .nil) .nil)))))))
noncomputable def Kq (P : Params) : Frag:=[(2,boot_o_2 P),(3,ob571 P),(15,ob51 P),(17,ob53 P),(18,ob54 P),(20,ob56 P),(21,ob57 P),(22,ob58 P),(29,ob65 P),(30,ob66 P),(31,ob148 P),(32,ob68 P),(35,ob74 P),(42,ob81 P),(43,ob82 P),(44,ob83 P),(47,ob89 P),(54,ob96 P),(55,ob97 P),(56,ob98 P),(59,ob104 P),(66,ob111 P),(67,ob112 P),(68,ob113 P),(71,ob119 P),(78,ob126 P),(79,ob127 P),(80,ob128 P),(83,ob134 P),(90,ob141 P),(91,ob142 P),(92,ob143 P),(95,ob149 P),(102,ob156 P),(103,ob157 P),(104,ob158 P),(107,ob161 P),(109,ob163 P),(110,ob164 P),(112,ob166 P),(113,ob167 P),(121,ob177 P),(123,ob179 P),(124,ob180 P),(126,ob182 P),(127,ob183 P),(128,ob184 P),(130,ob186 P),(131,ob187 P),(133,ob189 P),(134,ob190 P),(135,ob191 P),(137,ob193 P),(138,ob194 P),(140,ob196 P),(141,ob197 P),(142,ob198 P),(144,ob200 P),(145,ob201 P),(147,ob203 P),(148,ob204 P),(149,ob205 P),(150,ob206 P),(151,ob207 P),(152,ob208 P),(153,ob209 P),(163,ob221 P),(165,ob223 P),(166,ob224 P),(168,ob226 P),(169,ob227 P),(170,ob228 P),(172,ob230 P),(173,ob231 P),(175,ob233 P),(176,ob234 P),(177,ob235 P),(179,ob237 P),(180,ob238 P),(182,ob240 P),(183,ob241 P),(184,ob242 P),(186,ob244 P),(187,ob245 P),(189,ob247 P),(190,ob248 P),(191,ob249 P),(193,ob251 P),(194,ob252 P),(196,ob254 P),(197,ob255 P),(198,ob256 P),(200,ob258 P),(201,ob259 P),(203,ob261 P),(204,ob262 P),(205,ob263 P),(207,ob265 P),(208,ob266 P),(210,ob268 P),(211,ob269 P),(212,ob270 P),(214,ob272 P),(215,ob273 P),(217,ob275 P),(218,ob276 P),(219,ob277 P),(221,ob279 P),(222,ob280 P),(224,ob282 P),(225,ob283 P),(226,ob284 P),(228,ob286 P),(229,ob287 P),(231,ob289 P),(232,ob290 P),(233,ob291 P),(235,ob293 P),(236,ob294 P),(238,ob296 P),(239,ob297 P),(240,ob298 P),(242,ob300 P),(243,ob301 P),(245,ob303 P),(246,ob304 P),(247,ob305 P),(249,ob307 P),(250,ob308 P),(252,ob310 P),(253,ob311 P),(254,ob312 P),(256,ob314 P),(257,ob315 P),(259,ob317 P),(260,ob318 P),(261,ob319 P),(263,ob321 P),(264,ob322 P),(266,ob324 P),(267,ob325 P),(268,ob326 P),(269,ob327 P),(270,ob328 P),(271,ob329 P),(272,ob330 P),(275,ob422 P),(277,ob424 P),(278,ob425 P),(280,ob427 P),(281,ob428 P),(282,ob429 P),(284,ob431 P),(285,ob432 P),(287,ob434 P),(288,ob435 P),(289,ob436 P),(290,ob437 P),(293,ob440 P),(294,ob441 P),(295,ob442 P),(297,ob444 P),(298,ob445 P),(300,ob447 P),(301,ob448 P),(302,ob449 P),(305,ob452 P),(306,ob453 P),(307,ob454 P),(309,ob456 P),(310,ob457 P),(312,ob459 P),(313,ob460 P),(314,ob461 P),(317,ob464 P),(318,ob465 P),(319,ob466 P),(322,ob469 P),(323,ob470 P),(324,ob471 P),(326,ob473 P),(327,ob474 P),(329,ob476 P),(330,ob477 P),(331,ob482 P),(333,ob484 P),(334,ob485 P),(336,ob487 P),(337,ob488 P),(338,ob489 P),(340,ob491 P),(341,ob492 P),(343,ob494 P),(344,ob495 P),(345,ob496 P),(347,ob498 P),(348,ob499 P),(350,ob501 P),(351,ob502 P),(352,ob503 P),(354,ob505 P),(355,ob506 P),(357,ob508 P),(358,ob509 P),(359,ob510 P),(361,ob512 P),(362,ob513 P),(364,ob515 P),(365,ob516 P),(366,ob517 P),(368,ob519 P),(369,ob520 P),(371,ob522 P),(372,ob523 P),(373,ob524 P),(375,ob526 P),(376,ob527 P),(378,ob529 P),(379,ob530 P),(380,ob531 P),(382,ob533 P),(383,ob534 P),(385,ob536 P),(386,ob537 P),(387,ob538 P),(389,ob540 P),(390,ob541 P),(392,ob543 P),(393,ob544 P),(394,ob545 P),(396,ob547 P),(397,ob548 P),(399,ob550 P),(400,ob551 P),(401,ob552 P),(404,ob555 P),(405,ob556 P),(406,ob557 P),(408,ob559 P),(409,ob560 P),(411,ob562 P),(412,ob563 P),(413,ob564 P),(415,ob566 P),(416,ob567 P),(418,ob569 P),(419,ob570 P),(420,ob573 P),(422,ob575 P),(423,ob576 P),(425,ob578 P),(426,ob579 P),(427,ob580 P),(430,ob583 P),(431,ob584 P),(432,ob585 P),(434,ob587 P),(435,ob588 P),(437,ob590 P),(438,ob591 P)]
noncomputable def asq : List Addr := [2, 3, 15, 17, 18, 20, 21, 22, 29, 30, 31, 32, 35, 42, 43, 44, 47, 54, 55, 56, 59, 66, 67, 68, 71, 78, 79, 80, 83, 90, 91, 92, 95, 102, 103, 104, 107, 109, 110, 112, 113, 121, 123, 124, 126, 127, 128, 130, 131, 133, 134, 135, 137, 138, 140, 141, 142, 144, 145, 147, 148, 149, 150, 151, 152, 153, 163, 165, 166, 168, 169, 170, 172, 173, 175, 176, 177, 179, 180, 182, 183, 184, 186, 187, 189, 190, 191, 193, 194, 196, 197, 198, 200, 201, 203, 204, 205, 207, 208, 210, 211, 212, 214, 215, 217, 218, 219, 221, 222, 224, 225, 226, 228, 229, 231, 232, 233, 235, 236, 238, 239, 240, 242, 243, 245, 246, 247, 249, 250, 252, 253, 254, 256, 257, 259, 260, 261, 263, 264, 266, 267, 268, 269, 270, 271, 272, 275, 277, 278, 280, 281, 282, 284, 285, 287, 288, 289, 290, 293, 294, 295, 297, 298, 300, 301, 302, 305, 306, 307, 309, 310, 312, 313, 314, 317, 318, 319, 322, 323, 324, 326, 327, 329, 330, 331, 333, 334, 336, 337, 338, 340, 341, 343, 344, 345, 347, 348, 350, 351, 352, 354, 355, 357, 358, 359, 361, 362, 364, 365, 366, 368, 369, 371, 372, 373, 375, 376, 378, 379, 380, 382, 383, 385, 386, 387, 389, 390, 392, 393, 394, 396, 397, 399, 400, 401, 404, 405, 406, 408, 409, 411, 412, 413, 415, 416, 418, 419, 420, 422, 423, 425, 426, 427, 430, 431, 432, 434, 435, 437, 438]
noncomputable def heapE (P : Params) : Heap := absHeap (tr591 P) 439 {}
section
variable (w : World) (os : OsState)
theorem pre_q : topGo treeTable pq w 11 (some (.ref 6)) 12 ⟨boot_heap w.params, ⟨[]⟩, boot_drawn, boot_toks, os⟩ (topStub pq) = some (⟨heapA w.params, ⟨[]⟩, {}, 187, os⟩, ⟨denote treeTable cdq, cdq, p0q, [topFrame p0q]⟩) := go_q (by kernel_rfl)
theorem blk_q : segRun treeTable pq w 11 (some (.ref 6)) 1 1 ⟨heapA w.params, ⟨[]⟩, {}, 187, os⟩ (blockOf bq envq cdq p0q [topFrame p0q]) = some (.next, SharedT.abs ⟨tr47 w.params, 15, {}, ⟨[]⟩, {}, 187, os⟩, cdq, p0q) := seg_q (by kernel_rfl)
theorem pc0_q : segRunT treeTable pq w 11 (some (.ref 6)) 1 438 ⟨tr47 w.params, 15, {}, ⟨[]⟩, {}, 187, os⟩ (piecesOf (bq.take 4) envq cdq p0q [topFrame p0q]) = some (.next, ⟨tr85 w.params, 47, {}, ⟨[]⟩, {}, 230, os⟩, cdq, ⟨7, 0, 8, 8⟩) := segT_q (by kernel_rfl)
theorem pc1_q : segRunT treeTable pq w 11 (some (.ref 6)) 1 427 ⟨tr85 w.params, 47, {}, ⟨[]⟩, {}, 230, os⟩ (piecesOf ((bq.drop 4).take 2) envq cdq ⟨7, 0, 8, 8⟩ [topFrame p0q]) = some (.next, ⟨tr115 w.params, 71, {}, ⟨[]⟩, {}, 262, os⟩, cdq, ⟨11, 0, 12, 8⟩) := segT_q (by kernel_rfl)
theorem pc2_q : segRunT treeTable pq w 11 (some (.ref 6)) 1 427 ⟨tr115 w.params, 71, {}, ⟨[]⟩, {}, 262, os⟩ (piecesOf (((bq.drop 4).drop 2).take 2) envq cdq ⟨11, 0, 12, 8⟩ [topFrame p0q]) = some (.next, ⟨tr145 w.params, 95, {}, ⟨[]⟩, {}, 294, os⟩, cdq, ⟨15, 0, 16, 8⟩) := segT_q (by kernel_rfl)
theorem pc3_q : segRunT treeTable pq w 11 (some (.ref 6)) 1 263 ⟨tr145 w.params, 95, {}, ⟨[]⟩, {}, 294, os⟩ (piecesOf ((((bq.drop 4).drop 2).drop 2).take 4) envq cdq ⟨15, 0, 16, 8⟩ [topFrame p0q]) = some (.next, ⟨tr167 w.params, 114, {}, ⟨[]⟩, {}, 323, os⟩, cdq, ⟨22, 0, 22, 8⟩) := segT_q (by kernel_rfl)
theorem pc4_q : segRunT treeTable pq w 11 (some (.ref 6)) 1 345 ⟨tr167 w.params, 114, {}, ⟨[]⟩, {}, 323, os⟩ (piecesOf (((((bq.drop 4).drop 2).drop 2).drop 4).take 4) envq cdq ⟨22, 0, 22, 8⟩ [topFrame p0q]) = some (.next, ⟨tr211 w.params, 156, {}, ⟨[]⟩, {}, 381, os⟩, cdq, ⟨42, 0, 42, 11⟩) := segT_q (by kernel_rfl)
theorem pc5_q : segRunT treeTable pq w 11 (some (.ref 6)) 1 684 ⟨tr211 w.params, 156, {}, ⟨[]⟩, {}, 381, os⟩ (piecesOf ((((((bq.drop 4).drop 2).drop 2).drop 4).drop 4).take 1) envq cdq ⟨42, 0, 42, 11⟩ [topFrame p0q]) = some (.next, ⟨tr332 w.params, 275, {}, ⟨[]⟩, {}, 535, os⟩, cdq, ⟨43, 0, 143, 31⟩) := segT_q (by kernel_rfl)
theorem pc6_q : segRunT treeTable pq w 11 (some (.ref 6)) 1 371 ⟨tr332 w.params, 275, {}, ⟨[]⟩, {}, 535, os⟩ (piecesOf (((((((bq.drop 4).drop 2).drop 2).drop 4).drop 4).drop 1).take 15) envq cdq ⟨43, 0, 143, 31⟩ [topFrame p0q]) = some (.next, ⟨tr477 w.params, 331, {}, ⟨[]⟩, {}, 623, os⟩, cdq, ⟨211, 0, 214, 12⟩) := byRow2 "special-get-raises" (P := fun w => segRunT treeTable pq w 11 (some (.ref 6)) 1 371 ⟨tr332 w.params, 275, {}, ⟨[]⟩, {}, 535, os⟩ (piecesOf (((((((bq.drop 4).drop 2).drop 2).drop 4).drop 4).drop 1).take 15) envq cdq ⟨43, 0, 143, 31⟩ [topFrame p0q]) = some (.next, ⟨tr477 w.params, 331, {}, ⟨[]⟩, {}, 623, os⟩, cdq, ⟨211, 0, 214, 12⟩)) (fun w => segT_q (by kernel_rfl)) (fun w => segT_q (by kernel_rfl)) w
theorem pc7_q : segRunT treeTable pq w 11 (some (.ref 6)) 1 495 ⟨tr477 w.params, 331, {}, ⟨[]⟩, {}, 623, os⟩ (piecesOf (((((((bq.drop 4).drop 2).drop 2).drop 4).drop 4).drop 1).drop 15) envq cdq ⟨211, 0, 214, 12⟩ [topFrame p0q]) = some (.next, ⟨tr591 w.params, 439, {}, ⟨[]⟩, {}, 769, os⟩, cdq, ⟨347, 0, 369, 58⟩) := segT_q (by kernel_rfl)
theorem fin_q : topRun treeTable pq w 11 (some (.ref 6)) 2 (SharedT.abs ⟨tr591 w.params, 439, {}, ⟨[]⟩, {}, 769, os⟩) ⟨doneF .next, cdq, ⟨347, 0, 369, 58⟩, [topFrame p0q]⟩ = some ⟨heapE w.params, ⟨[]⟩, {}, 769, os⟩ := top_q (by kernel_rfl)
theorem rest_q : topRun treeTable pq w 11 (some (.ref 6)) (438 + (427 + (427 + (263 + (345 + (684 + (371 + (495 + (2))))))))) (SharedT.abs ⟨tr47 w.params, 15, {}, ⟨[]⟩, {}, 187, os⟩) (restOf bq envq cdq p0q [topFrame p0q]) = some ⟨heapE w.params, ⟨[]⟩, {}, 769, os⟩ := piece_cut (segRun_of (pc0_q w os)) (piece_cut (segRun_of (pc1_q w os)) (piece_cut (segRun_of (pc2_q w os)) (piece_cut (segRun_of (pc3_q w os)) (piece_cut (segRun_of (pc4_q w os)) (piece_cut (segRun_of (pc5_q w os)) (piece_cut (segRun_of (pc6_q w os)) (piece_last (segRun_of (pc7_q w os)) (fin_q w os))))))))
theorem run_q : topRun treeTable pq w 11 (some (.ref 6)) (12 + (1 + (438 + (427 + (427 + (263 + (345 + (684 + (371 + (495 + (2))))))))))) ⟨boot_heap w.params, ⟨[]⟩, boot_drawn, boot_toks, os⟩ (topStub pq) = some ⟨heapE w.params, ⟨[]⟩, {}, 769, os⟩ :=
  go_top (pre_q w os) (piece_block (blk_q w os) (rest_q w os))
end
noncomputable def lq : List Str := [⟨⟨[80, 65, 82, 84, 83]⟩⟩]
theorem opn_q : ∀ w : World, (fencedOpening treeTable pq w 7010).map (fun s => (s.heap, s.gens, s.drawn, s.toks)) = some (boot_heap w.params, ⟨[]⟩, boot_drawn, boot_toks) :=
  boot_open (by kernel_rfl) (by decide) (fun s => by kernel_rfl)
theorem size_q : ∀ w : World, ((boot_heap w.params).isNs mainGlobals && (⟨[]⟩ : Array GenState).size == 0, (boot_heap w.params).objs.size, (boot_heap w.params).nsMap mainGlobals "__annotations__") = (true, 11, (some (.ref 6))) := fun w => by kernel_rfl
noncomputable def vq : Program := { pq with main := { pq.main with body := [sA 0, sA 2, sA 3, sA 4, sA 5, sA 6, sA 7, sA 8, sA 10, sA 12, sA 14, sA 15, sA 16, sA 18, sA 19, sA 21, sA 22, sA 23, sA 24, sA 25, sA 26, sA 27, sA 28, sA 29, sA 31, sA 32, sA 33, sA 34, sA 35, sA 36, sA 37, sA 38, sA 39, sA 40, sA 41, sA 42, sA 43, sA 44, sA 45, sA 46, sA 47] } }
section
variable (w : World) (os : OsState)
noncomputable abbrev sE : Shared := ⟨heapE w.params, ⟨[]⟩, {}, 769, os⟩
theorem l1 : staticsOk (importedModules pq.main.body) (boot_heap w.params) (heapE w.params) = true := by kernel_rfl
theorem l2 : namesBound pq (heapE w.params) = true := by kernel_rfl
theorem l3 : gensDone (sE w os) = true := by kernel_rfl
theorem l4 : laidKept (boot_heap w.params) (heapE w.params) = true := by kernel_rfl
theorem l5 : seen ((recsOf vq).map (·.name)) (ownsOf vq) [] { sE w os with gens := #[] } = expectedOf vq := by kernel_rfl
theorem l6 : (sE w os).heap.bltView = bltViewBooted := by kernel_rfl
noncomputable def xq (s : Shared) : Bool := xlAt vq [] s && recOk (RowW.records (OpenRow.toRowW (OpenLaw.row Challenge.rw_uf040019_14))) s
theorem l7 : ((sE w os).heap.keysOk (looseW vq lq) ((recsOf vq).map (·.name)) ((litsOf vq).map (·.1)) ((clssOf vq (looseW vq lq)).map (·.name)) && (sE w os).heap.accountedOkI (importedModules pq.main.body) && (sE w os).heap.isNs mainGlobals && (sE w os).heap.isNs builtinsNs && tablesOk vq (sE w os).heap && xq (sE w os) && (if true then (sE w os).gens.size == 0 else !leftWithCleanup (sE w os).gens)) = true := by kernel_rfl
theorem l8 : tabsOk vq (sE w os) = true := by kernel_rfl
theorem l9 : pinSeenD vq (drecsOf vq) (sE w os) = pinGoodD (drecsOf vq) := by kernel_rfl
theorem l10 : plainSeenE vq (looseW vq lq) (sE w os) = plainGoodE vq (looseW vq lq) := by kernel_rfl
theorem l11 : plainSeenD vq lq (sE w os) = plainGoodD vq lq := by kernel_rfl
theorem l12 : wideSeen vq (sE w os) = wideGood vq := by kernel_rfl
theorem l13 : clsSeenW vq lq (sE w os) = clsGoodW vq lq := by kernel_rfl
theorem l14 : asq.map (sE w os).heap.get? = (Kq w.params).map fun p => some p.2 := by kernel_rfl
theorem as_q (P : Params) : asq = (Kq P).map (·.1) := by kernel_rfl
end
noncomputable def Hq : Hook := kHook Kq asq as_q
theorem looks_q : ∀ w : World, (fun os => ((staticsOk (importedModules pq.main.body) (boot_heap w.params) (heapE w.params) && namesBound pq (heapE w.params) && gensDone ⟨heapE w.params, ⟨[]⟩, {}, 769, os⟩ && laidKept (boot_heap w.params) (heapE w.params)),
        openSeen vq lq (importedModules pq.main.body) xq true ⟨heapE w.params, ⟨[]⟩, {}, 769, os⟩, Hook.obs Hq ⟨heapE w.params, ⟨[]⟩, {}, 769, os⟩)) = fun _ => (true, openGood vq lq, Hook.val Hq w) := fun w => funext fun os =>
  looks_pair (by rw [l1, l2, l3 w os, l4]; rfl) (looks_pair (looks_pair (l5 w os) (looks_pair (l6 w os) (looks_pair (l7 w os) (looks_pair (l8 w os) (looks_pair (l9 w os) (looks_pair (l10 w os) (looks_pair (l11 w os) (looks_pair (l12 w os) (l13 w os))))))))) (l14 w os))
theorem prog_q : (OpenLaw.row Challenge.rw_uf040019_14).prog = pq := pq_eq
theorem left_q : LeftO (OpenLaw.row Challenge.rw_uf040019_14).prog vq lq xq (Hook.obs Hq) (Hook.val Hq) 7010 := by
  rw [prog_q]
  exact LeftO.of_pieces opn_q size_q run_q (by decide) looks_q
noncomputable def dq : DefRec := ⟨Str.ofString "law", fArgs (sA 47), fBody (sA 47), fScope (sA 47), (sA 47).pos⟩
theorem dof_q : defOf vq (OpenLaw.row Challenge.rw_uf040019_14).name = some (dq, []) := by kernel_rfl
theorem dthe_q : (OpenLaw.row Challenge.rw_uf040019_14).prog.theDef (OpenLaw.row Challenge.rw_uf040019_14).name = some (dq.params, dq.body, dq.scope) := by kernel_rfl
theorem dkw_q : kwWritten? dq.params.kwonlyargs dq.params.kw_defaults = some [] := by kernel_rfl
theorem xl_q (s : Shared) (e : xq s = true) : XL vq [] (s.heap.nsMap mainGlobals) s.heap := xl_of s (Bool.and_eq_true_iff.mp e).1
theorem rec_q (s : Shared) (e : xq s = true) : RecFacts (OpenLaw.row Challenge.rw_uf040019_14).records s.heap := recFacts_of (Bool.and_eq_true_iff.mp e).2
theorem wr_q : (!(OpenLaw.row Challenge.rw_uf040019_14).writes || List.isEmpty (OpenLaw.row Challenge.rw_uf040019_14).records) = true := by kernel_rfl
theorem ch_q : (chainsOk vq && opensWell (OpenLaw.row Challenge.rw_uf040019_14).prog && (frees (OpenLaw.row Challenge.rw_uf040019_14).toRowW && (OpenLaw.row Challenge.rw_uf040019_14).within.isEmpty)) = true := by kernel_rfl
theorem bare_q : (OpenLaw.row Challenge.rw_uf040019_14).prog.bare := ⟨rfl, rfl, rfl, rfl, rfl, by decide +kernel⟩
theorem own_head (said : (OpenLaw.row Challenge.rw_uf040019_14).wellSaid = true) (hw : (OpenLaw.row Challenge.rw_uf040019_14).promised) (hc : WalkO vq lq (XL vq []) (Hook.says Hq) (OpenLaw.row Challenge.rw_uf040019_14).toRowW dq [] fun f vs => call f vs) : (OpenLaw.row Challenge.rw_uf040019_14).Holds :=
  PySem.W.holds_open left_q (Hook.of Hq) (Hook.keeps Hq) xl_q XL.keeps dof_q dthe_q dkw_q rec_q wr_q said ch_q bare_q hw hc
theorem law_ns (P : Params) : nsIn (Kq P) mainGlobals (Str.ofString "law") = some (some (.ref 438)) := by kernel_rfl
theorem law_at {w : World} {base : Heap} {p : Program} {loose : List Str} {mg mb : Str → Option Value} (X : (Kq w.params).In base) (T : TopRead p loose mg mb base) : mg (Str.ofString "law") = some (.ref 438) := mg_of X T.g (law_ns w.params)
theorem kq_of {w : World} {h : Heap} (Y : Hook.says Hq w h) : (Kq w.params).In h := Y
end Mine

set_option autoImplicit false
namespace Mine
set_option linter.unusedVariables false
set_option maxRecDepth 100000
set_option maxHeartbeats 4000000
open PySem PySem.W PySem.Calls PyProof.Rows

noncomputable def parts : List (String × Int) := [("begin", 1), ("do", 1), ("hand", 3), ("carry", 1)]
noncomputable def b_Post___init__ : List S:=[
  .setattr (.loc "self" ⟨26,8,26,12⟩) "rows" (.list [] ⟨26,20,26,22⟩) ⟨26,8,26,17⟩ ⟨26,8,26,22⟩]
noncomputable def p_Post___init__ : List String:=["self"]
noncomputable def b_Post_put : List S:=[
  .expr (.meth (.attr (.loc "self" ⟨29,8,29,12⟩) "rows" ⟨29,8,29,17⟩) "append" [.loc "row" ⟨29,25,29,28⟩] ⟨29,8,29,24⟩ ⟨29,8,29,29⟩) ⟨29,8,29,29⟩]
noncomputable def p_Post_put : List String:=["self","row"]
noncomputable def b_Post_take : List S:=[
  .ite (.not (.call "is_from" [.loc "place" ⟨32,23,32,28⟩,.int 0 ⟨32,30,32,31⟩,.bin .Sub (.bltn "len" [.attr (.loc "self" ⟨32,37,32,41⟩) "rows" ⟨32,37,32,46⟩] ⟨32,33,32,36⟩ ⟨32,33,32,47⟩) (.int 1 ⟨32,50,32,51⟩) ⟨32,33,32,51⟩] ⟨32,15,32,22⟩ ⟨32,15,32,52⟩) ⟨32,11,32,52⟩) [
    .raise "NoPlace" "no such place" ⟨33,18,33,25⟩ ⟨33,26,33,41⟩ ⟨33,18,33,42⟩ ⟨33,12,33,42⟩] [] ⟨32,8,33,42⟩,
  .assign "row" (.sub (.attr (.loc "self" ⟨34,14,34,18⟩) "rows" ⟨34,14,34,23⟩) (.loc "place" ⟨34,24,34,29⟩) ⟨34,14,34,30⟩) ⟨34,8,34,11⟩ ⟨34,8,34,30⟩,
  .setattr (.loc "self" ⟨35,8,35,12⟩) "rows" (.bin .Add (.sliceU (.attr (.loc "self" ⟨35,20,35,24⟩) "rows" ⟨35,20,35,29⟩) (.loc "place" ⟨35,31,35,36⟩) ⟨35,30,35,36⟩ ⟨35,20,35,37⟩) (.sliceL (.attr (.loc "self" ⟨35,40,35,44⟩) "rows" ⟨35,40,35,49⟩) (.bin .Add (.loc "place" ⟨35,50,35,55⟩) (.int 1 ⟨35,58,35,59⟩) ⟨35,50,35,59⟩) ⟨35,50,35,60⟩ ⟨35,40,35,61⟩) ⟨35,20,35,61⟩) ⟨35,8,35,17⟩ ⟨35,8,35,61⟩,
  .ret (.loc "row" ⟨36,15,36,18⟩) ⟨36,8,36,18⟩]
noncomputable def p_Post_take : List String:=["self","place"]
noncomputable def b_Company___init__ : List S:=[
  .ite (.not (.call "is_from" [.loc "many" ⟨46,23,46,27⟩,.int 1 ⟨46,29,46,30⟩,.glob "MOST_HANDS" ⟨46,32,46,42⟩] ⟨46,15,46,22⟩ ⟨46,15,46,43⟩) ⟨46,11,46,43⟩) [
    .raise "NoCompany" "no company of so many hands" ⟨47,18,47,27⟩ ⟨47,28,47,57⟩ ⟨47,18,47,58⟩ ⟨47,12,47,58⟩] [] ⟨46,8,47,58⟩,
  .setattr (.loc "self" ⟨48,8,48,12⟩) "pieces" (.bin .Mult (.list [.int 0 ⟨48,23,48,24⟩] ⟨48,22,48,25⟩) (.loc "many" ⟨48,28,48,32⟩) ⟨48,22,48,32⟩) ⟨48,8,48,19⟩ ⟨48,8,48,32⟩,
  .setattr (.loc "self" ⟨49,8,49,12⟩) "waits" (.bin .Mult (.list [.int 0 ⟨49,22,49,23⟩] ⟨49,21,49,24⟩) (.loc "many" ⟨49,27,49,31⟩) ⟨49,21,49,31⟩) ⟨49,8,49,18⟩ ⟨49,8,49,31⟩,
  .setattr (.loc "self" ⟨50,8,50,12⟩) "wakers" (.bin .Mult (.list [.none ⟨50,23,50,27⟩] ⟨50,22,50,28⟩) (.loc "many" ⟨50,31,50,35⟩) ⟨50,22,50,35⟩) ⟨50,8,50,19⟩ ⟨50,8,50,35⟩,
  .setattr (.loc "self" ⟨51,8,51,12⟩) "tallies" (.bin .Mult (.list [.int 0 ⟨51,24,51,25⟩] ⟨51,23,51,26⟩) (.loc "many" ⟨51,29,51,33⟩) ⟨51,23,51,33⟩) ⟨51,8,51,20⟩ ⟨51,8,51,33⟩,
  .setattr (.loc "self" ⟨52,8,52,12⟩) "post" (.new "Post" [] ⟨52,20,52,24⟩ ⟨52,20,52,26⟩) ⟨52,8,52,17⟩ ⟨52,8,52,26⟩,
  .setattr (.loc "self" ⟨53,8,53,12⟩) "going" (.bool false ⟨53,21,53,26⟩) ⟨53,8,53,18⟩ ⟨53,8,53,26⟩,
  .setattr (.loc "self" ⟨54,8,54,12⟩) "known" (.list [] ⟨54,21,54,23⟩) ⟨54,8,54,18⟩ ⟨54,8,54,23⟩]
noncomputable def p_Company___init__ : List String:=["self","many"]
noncomputable def b_Company_need_hand : List S:=[
  .ite (.not (.call "is_from" [.loc "number" ⟨60,23,60,29⟩,.int 0 ⟨60,31,60,32⟩,.bin .Sub (.bltn "len" [.attr (.loc "self" ⟨60,38,60,42⟩) "pieces" ⟨60,38,60,49⟩] ⟨60,34,60,37⟩ ⟨60,34,60,50⟩) (.int 1 ⟨60,53,60,54⟩) ⟨60,34,60,54⟩] ⟨60,15,60,22⟩ ⟨60,15,60,55⟩) ⟨60,11,60,55⟩) [
    .raise "NoHand" "no such hand" ⟨61,18,61,24⟩ ⟨61,25,61,39⟩ ⟨61,18,61,40⟩ ⟨61,12,61,40⟩] [] ⟨60,8,61,40⟩]
noncomputable def p_Company_need_hand : List String:=["self","number"]
noncomputable def b_Company_is_in : List S:=[
  .ite (.cmp .Eq (.loc "number" ⟨64,11,64,17⟩) (.int 0 ⟨64,21,64,22⟩) ⟨64,11,64,22⟩) [
    .ret (.attr (.loc "self" ⟨65,19,65,23⟩) "going" ⟨65,19,65,29⟩) ⟨65,12,65,29⟩] [] ⟨64,8,65,29⟩,
  .ret (.cmp .IsNot (.sub (.attr (.loc "self" ⟨66,15,66,19⟩) "wakers" ⟨66,15,66,26⟩) (.loc "number" ⟨66,27,66,33⟩) ⟨66,15,66,34⟩) (.none ⟨66,42,66,46⟩) ⟨66,15,66,46⟩) ⟨66,8,66,46⟩]
noncomputable def p_Company_is_in : List String:=["self","number"]
noncomputable def b_Company_noted : List S:=[
  .expr (.meth (.attr (.loc "self" ⟨69,8,69,12⟩) "known" ⟨69,8,69,18⟩) "extend" [.loc "rows" ⟨69,26,69,30⟩] ⟨69,8,69,25⟩ ⟨69,8,69,31⟩) ⟨69,8,69,31⟩,
  .ret (.loc "rows" ⟨70,15,70,19⟩) ⟨70,8,70,19⟩]
noncomputable def p_Company_noted : List String:=["self","rows"]
noncomputable def b_Company_settled : List S:=[
  .ite (.or [.cmp .Gt (.sub (.attr (.loc "self" ⟨73,11,73,15⟩) "pieces" ⟨73,11,73,22⟩) (.loc "number" ⟨73,23,73,29⟩) ⟨73,11,73,30⟩) (.int 0 ⟨73,33,73,34⟩) ⟨73,11,73,34⟩,.cmp .Gt (.sub (.attr (.loc "self" ⟨73,38,73,42⟩) "waits" ⟨73,38,73,48⟩) (.loc "number" ⟨73,49,73,55⟩) ⟨73,38,73,56⟩) (.int 0 ⟨73,59,73,60⟩) ⟨73,38,73,60⟩,.not (.meth (.loc "self" ⟨73,69,73,73⟩) "is_in" [.loc "number" ⟨73,80,73,86⟩] ⟨73,69,73,79⟩ ⟨73,69,73,87⟩) ⟨73,65,73,87⟩] ⟨73,11,73,88⟩) [
    .ret (.list [] ⟨74,19,74,21⟩) ⟨74,12,74,21⟩] [] ⟨73,8,74,21⟩,
  .assign "tally" (.sub (.attr (.loc "self" ⟨75,16,75,20⟩) "tallies" ⟨75,16,75,28⟩) (.loc "number" ⟨75,29,75,35⟩) ⟨75,16,75,36⟩) ⟨75,8,75,13⟩ ⟨75,8,75,36⟩,
  .setitem (.attr (.loc "self" ⟨76,8,76,12⟩) "tallies" ⟨76,8,76,20⟩) (.loc "number" ⟨76,21,76,27⟩) (.int 0 ⟨76,31,76,32⟩) ⟨76,8,76,28⟩ ⟨76,8,76,32⟩,
  .ite (.cmp .Eq (.loc "number" ⟨77,11,77,17⟩) (.int 0 ⟨77,21,77,22⟩) ⟨77,11,77,22⟩) [
    .setattr (.loc "self" ⟨78,12,78,16⟩) "going" (.bool false ⟨78,25,78,30⟩) ⟨78,12,78,22⟩ ⟨78,12,78,30⟩,
    .ret (.list [.tup [.str "end" ⟨79,21,79,26⟩,.loc "tally" ⟨79,28,79,33⟩] 0 ⟨79,20,79,34⟩] ⟨79,19,79,35⟩) ⟨79,12,79,35⟩] [] ⟨77,8,79,35⟩,
  .assign "row" (.tup [.str "answer" ⟨80,15,80,23⟩,.loc "number" ⟨80,25,80,31⟩,.sub (.attr (.loc "self" ⟨80,33,80,37⟩) "wakers" ⟨80,33,80,44⟩) (.loc "number" ⟨80,45,80,51⟩) ⟨80,33,80,52⟩,.loc "tally" ⟨80,54,80,59⟩] 0 ⟨80,14,80,60⟩) ⟨80,8,80,11⟩ ⟨80,8,80,60⟩,
  .setitem (.attr (.loc "self" ⟨81,8,81,12⟩) "wakers" ⟨81,8,81,19⟩) (.loc "number" ⟨81,20,81,26⟩) (.none ⟨81,30,81,34⟩) ⟨81,8,81,27⟩ ⟨81,8,81,34⟩,
  .expr (.meth (.attr (.loc "self" ⟨82,8,82,12⟩) "post" ⟨82,8,82,17⟩) "put" [.loc "row" ⟨82,22,82,25⟩] ⟨82,8,82,21⟩ ⟨82,8,82,26⟩) ⟨82,8,82,26⟩,
  .ret (.list [.loc "row" ⟨83,16,83,19⟩] ⟨83,15,83,20⟩) ⟨83,8,83,20⟩]
noncomputable def p_Company_settled : List String:=["self","number"]
noncomputable def b_Company_begin : List S:=[
  .ite (.attr (.loc "self" ⟨86,11,86,15⟩) "going" ⟨86,11,86,21⟩) [
    .raise "Begun" "a round runs" ⟨87,18,87,23⟩ ⟨87,24,87,38⟩ ⟨87,18,87,39⟩ ⟨87,12,87,39⟩] [] ⟨86,8,87,39⟩,
  .ite (.not (.call "is_from" [.loc "pieces" ⟨88,23,88,29⟩,.int 1 ⟨88,31,88,32⟩,.glob "MOST_PIECES" ⟨88,34,88,45⟩] ⟨88,15,88,22⟩ ⟨88,15,88,46⟩) ⟨88,11,88,46⟩) [
    .raise "NoWork" "no such number of pieces" ⟨89,18,89,24⟩ ⟨89,25,89,51⟩ ⟨89,18,89,52⟩ ⟨89,12,89,52⟩] [] ⟨88,8,89,52⟩,
  .setattr (.loc "self" ⟨90,8,90,12⟩) "going" (.bool true ⟨90,21,90,25⟩) ⟨90,8,90,18⟩ ⟨90,8,90,25⟩,
  .setitem (.attr (.loc "self" ⟨91,8,91,12⟩) "pieces" ⟨91,8,91,19⟩) (.int 0 ⟨91,20,91,21⟩) (.loc "pieces" ⟨91,25,91,31⟩) ⟨91,8,91,22⟩ ⟨91,8,91,31⟩,
  .ret (.meth (.loc "self" ⟨92,15,92,19⟩) "noted" [.list [.tup [.str "begun" ⟨92,28,92,35⟩,.loc "pieces" ⟨92,37,92,43⟩] 0 ⟨92,27,92,44⟩] ⟨92,26,92,45⟩] ⟨92,15,92,25⟩ ⟨92,15,92,46⟩) ⟨92,8,92,46⟩]
noncomputable def p_Company_begin : List String:=["self","pieces"]
noncomputable def b_Company_do : List S:=[
  .expr (.meth (.loc "self" ⟨95,8,95,12⟩) "need_hand" [.loc "hand" ⟨95,23,95,27⟩] ⟨95,8,95,22⟩ ⟨95,8,95,28⟩) ⟨95,8,95,28⟩,
  .ite (.cmp .Eq (.sub (.attr (.loc "self" ⟨96,11,96,15⟩) "pieces" ⟨96,11,96,22⟩) (.loc "hand" ⟨96,23,96,27⟩) ⟨96,11,96,28⟩) (.int 0 ⟨96,32,96,33⟩) ⟨96,11,96,33⟩) [
    .raise "NoWork" "no piece" ⟨97,18,97,24⟩ ⟨97,25,97,35⟩ ⟨97,18,97,36⟩ ⟨97,12,97,36⟩] [] ⟨96,8,97,36⟩,
  .setitem (.attr (.loc "self" ⟨98,8,98,12⟩) "pieces" ⟨98,8,98,19⟩) (.loc "hand" ⟨98,20,98,24⟩) (.bin .Sub (.sub (.attr (.loc "self" ⟨98,28,98,32⟩) "pieces" ⟨98,28,98,39⟩) (.loc "hand" ⟨98,40,98,44⟩) ⟨98,28,98,45⟩) (.int 1 ⟨98,48,98,49⟩) ⟨98,28,98,49⟩) ⟨98,8,98,25⟩ ⟨98,8,98,49⟩,
  .setitem (.attr (.loc "self" ⟨99,8,99,12⟩) "tallies" ⟨99,8,99,20⟩) (.loc "hand" ⟨99,21,99,25⟩) (.bin .Add (.sub (.attr (.loc "self" ⟨99,29,99,33⟩) "tallies" ⟨99,29,99,41⟩) (.loc "hand" ⟨99,42,99,46⟩) ⟨99,29,99,47⟩) (.int 1 ⟨99,50,99,51⟩) ⟨99,29,99,51⟩) ⟨99,8,99,26⟩ ⟨99,8,99,51⟩,
  .ret (.meth (.loc "self" ⟨100,15,100,19⟩) "noted" [.meth (.loc "self" ⟨100,26,100,30⟩) "settled" [.loc "hand" ⟨100,39,100,43⟩] ⟨100,26,100,38⟩ ⟨100,26,100,44⟩] ⟨100,15,100,25⟩ ⟨100,15,100,45⟩) ⟨100,8,100,45⟩]
noncomputable def p_Company_do : List String:=["self","hand"]
noncomputable def b_Company_hand_on : List S:=[
  .expr (.meth (.loc "self" ⟨103,8,103,12⟩) "need_hand" [.loc "hand" ⟨103,23,103,27⟩] ⟨103,8,103,22⟩ ⟨103,8,103,28⟩) ⟨103,8,103,28⟩,
  .expr (.meth (.loc "self" ⟨104,8,104,12⟩) "need_hand" [.loc "other" ⟨104,23,104,28⟩] ⟨104,8,104,22⟩ ⟨104,8,104,29⟩) ⟨104,8,104,29⟩,
  .ite (.not (.call "is_from" [.loc "pieces" ⟨105,23,105,29⟩,.int 1 ⟨105,31,105,32⟩,.sub (.attr (.loc "self" ⟨105,34,105,38⟩) "pieces" ⟨105,34,105,45⟩) (.loc "hand" ⟨105,46,105,50⟩) ⟨105,34,105,51⟩] ⟨105,15,105,22⟩ ⟨105,15,105,52⟩) ⟨105,11,105,52⟩) [
    .raise "NoWork" "no such number of pieces" ⟨106,18,106,24⟩ ⟨106,25,106,51⟩ ⟨106,18,106,52⟩ ⟨106,12,106,52⟩] [] ⟨105,8,106,52⟩,
  .setitem (.attr (.loc "self" ⟨107,8,107,12⟩) "pieces" ⟨107,8,107,19⟩) (.loc "hand" ⟨107,20,107,24⟩) (.bin .Sub (.sub (.attr (.loc "self" ⟨107,28,107,32⟩) "pieces" ⟨107,28,107,39⟩) (.loc "hand" ⟨107,40,107,44⟩) ⟨107,28,107,45⟩) (.loc "pieces" ⟨107,48,107,54⟩) ⟨107,28,107,54⟩) ⟨107,8,107,25⟩ ⟨107,8,107,54⟩,
  .setitem (.attr (.loc "self" ⟨108,8,108,12⟩) "waits" ⟨108,8,108,18⟩) (.loc "hand" ⟨108,19,108,23⟩) (.bin .Add (.sub (.attr (.loc "self" ⟨108,27,108,31⟩) "waits" ⟨108,27,108,37⟩) (.loc "hand" ⟨108,38,108,42⟩) ⟨108,27,108,43⟩) (.int 1 ⟨108,46,108,47⟩) ⟨108,27,108,47⟩) ⟨108,8,108,24⟩ ⟨108,8,108,47⟩,
  .assign "row" (.tup [.str "letter" ⟨109,15,109,23⟩,.loc "hand" ⟨109,25,109,29⟩,.loc "other" ⟨109,31,109,36⟩,.loc "pieces" ⟨109,38,109,44⟩] 0 ⟨109,14,109,45⟩) ⟨109,8,109,11⟩ ⟨109,8,109,45⟩,
  .expr (.meth (.attr (.loc "self" ⟨110,8,110,12⟩) "post" ⟨110,8,110,17⟩) "put" [.loc "row" ⟨110,22,110,25⟩] ⟨110,8,110,21⟩ ⟨110,8,110,26⟩) ⟨110,8,110,26⟩,
  .ret (.meth (.loc "self" ⟨111,15,111,19⟩) "noted" [.list [.loc "row" ⟨111,27,111,30⟩] ⟨111,26,111,31⟩] ⟨111,15,111,25⟩ ⟨111,15,111,32⟩) ⟨111,8,111,32⟩]
noncomputable def p_Company_hand_on : List String:=["self","hand","other","pieces"]
noncomputable def b_Company_letter_came : List S:=[
  .unpack [("word",⟨114,8,114,12⟩),("sender",⟨114,14,114,20⟩),("number",⟨114,22,114,28⟩),("pieces",⟨114,30,114,36⟩)] (.loc "row" ⟨114,39,114,42⟩) 0 ⟨114,8,114,36⟩ ⟨114,8,114,42⟩,
  .setitem (.attr (.loc "self" ⟨115,8,115,12⟩) "pieces" ⟨115,8,115,19⟩) (.loc "number" ⟨115,20,115,26⟩) (.bin .Add (.sub (.attr (.loc "self" ⟨115,30,115,34⟩) "pieces" ⟨115,30,115,41⟩) (.loc "number" ⟨115,42,115,48⟩) ⟨115,30,115,49⟩) (.loc "pieces" ⟨115,52,115,58⟩) ⟨115,30,115,58⟩) ⟨115,8,115,27⟩ ⟨115,8,115,58⟩,
  .ite (.meth (.loc "self" ⟨116,11,116,15⟩) "is_in" [.loc "number" ⟨116,22,116,28⟩] ⟨116,11,116,21⟩ ⟨116,11,116,29⟩) [
    .assign "row" (.tup [.str "answer" ⟨117,19,117,27⟩,.loc "number" ⟨117,29,117,35⟩,.loc "sender" ⟨117,37,117,43⟩,.int 0 ⟨117,45,117,46⟩] 0 ⟨117,18,117,47⟩) ⟨117,12,117,15⟩ ⟨117,12,117,47⟩,
    .expr (.meth (.attr (.loc "self" ⟨118,12,118,16⟩) "post" ⟨118,12,118,21⟩) "put" [.loc "row" ⟨118,26,118,29⟩] ⟨118,12,118,25⟩ ⟨118,12,118,30⟩) ⟨118,12,118,30⟩,
    .ret (.list [.loc "row" ⟨119,20,119,23⟩] ⟨119,19,119,24⟩) ⟨119,12,119,24⟩] [] ⟨116,8,119,24⟩,
  .setitem (.attr (.loc "self" ⟨120,8,120,12⟩) "wakers" ⟨120,8,120,19⟩) (.loc "number" ⟨120,20,120,26⟩) (.loc "sender" ⟨120,30,120,36⟩) ⟨120,8,120,27⟩ ⟨120,8,120,36⟩,
  .ret (.list [.tup [.str "woken" ⟨121,17,121,24⟩,.loc "number" ⟨121,26,121,32⟩,.loc "sender" ⟨121,34,121,40⟩] 0 ⟨121,16,121,41⟩] ⟨121,15,121,42⟩) ⟨121,8,121,42⟩]
noncomputable def p_Company_letter_came : List String:=["self","row"]
noncomputable def b_Company_carry : List S:=[
  .assign "row" (.meth (.attr (.loc "self" ⟨124,14,124,18⟩) "post" ⟨124,14,124,23⟩) "take" [.loc "place" ⟨124,29,124,34⟩] ⟨124,14,124,28⟩ ⟨124,14,124,35⟩) ⟨124,8,124,11⟩ ⟨124,8,124,35⟩,
  .ite (.cmp .Eq (.sub (.loc "row" ⟨125,11,125,14⟩) (.int 0 ⟨125,15,125,16⟩) ⟨125,11,125,17⟩) (.str "letter" ⟨125,21,125,29⟩) ⟨125,11,125,29⟩) [
    .ret (.meth (.loc "self" ⟨126,19,126,23⟩) "noted" [.meth (.loc "self" ⟨126,30,126,34⟩) "letter_came" [.loc "row" ⟨126,47,126,50⟩] ⟨126,30,126,46⟩ ⟨126,30,126,51⟩] ⟨126,19,126,29⟩ ⟨126,19,126,52⟩) ⟨126,12,126,52⟩] [] ⟨125,8,126,52⟩,
  .assign "number" (.sub (.loc "row" ⟨127,17,127,20⟩) (.int 2 ⟨127,21,127,22⟩) ⟨127,17,127,23⟩) ⟨127,8,127,14⟩ ⟨127,8,127,23⟩,
  .setitem (.attr (.loc "self" ⟨128,8,128,12⟩) "waits" ⟨128,8,128,18⟩) (.loc "number" ⟨128,19,128,25⟩) (.bin .Sub (.sub (.attr (.loc "self" ⟨128,29,128,33⟩) "waits" ⟨128,29,128,39⟩) (.loc "number" ⟨128,40,128,46⟩) ⟨128,29,128,47⟩) (.int 1 ⟨128,50,128,51⟩) ⟨128,29,128,51⟩) ⟨128,8,128,26⟩ ⟨128,8,128,51⟩,
  .setitem (.attr (.loc "self" ⟨129,8,129,12⟩) "tallies" ⟨129,8,129,20⟩) (.loc "number" ⟨129,21,129,27⟩) (.bin .Add (.sub (.attr (.loc "self" ⟨129,31,129,35⟩) "tallies" ⟨129,31,129,43⟩) (.loc "number" ⟨129,44,129,50⟩) ⟨129,31,129,51⟩) (.sub (.loc "row" ⟨129,54,129,57⟩) (.int 3 ⟨129,58,129,59⟩) ⟨129,54,129,60⟩) ⟨129,31,129,60⟩) ⟨129,8,129,28⟩ ⟨129,8,129,60⟩,
  .ret (.meth (.loc "self" ⟨130,15,130,19⟩) "noted" [.meth (.loc "self" ⟨130,26,130,30⟩) "settled" [.loc "number" ⟨130,39,130,45⟩] ⟨130,26,130,38⟩ ⟨130,26,130,46⟩] ⟨130,15,130,25⟩ ⟨130,15,130,47⟩) ⟨130,8,130,47⟩]
noncomputable def p_Company_carry : List String:=["self","place"]
noncomputable def b_is_from : List S:=[
  .ret (.and [.isi (.loc "thing" ⟨21,22,21,27⟩) (.ty "int") ⟨21,11,21,21⟩ ⟨21,29,21,32⟩ ⟨21,11,21,33⟩,.not (.isi (.loc "thing" ⟨21,54,21,59⟩) (.ty "bool") ⟨21,43,21,53⟩ ⟨21,61,21,65⟩ ⟨21,43,21,66⟩) ⟨21,39,21,66⟩,.cmp2 .LtE .LtE (.loc "least" ⟨21,73,21,78⟩) (.loc "thing" ⟨21,82,21,87⟩) (.loc "most" ⟨21,91,21,95⟩) ⟨21,73,21,95⟩] ⟨21,11,21,96⟩) ⟨21,4,21,96⟩]
noncomputable def p_is_from : List String:=["thing","least","most"]
noncomputable def b_done : List S:=[
  .ite (.cmp .Eq (.sub (.loc "deed" ⟨146,7,146,11⟩) (.int 0 ⟨146,12,146,13⟩) ⟨146,7,146,14⟩) (.str "begin" ⟨146,18,146,25⟩) ⟨146,7,146,25⟩) [
    .ret (.meth (.loc "company" ⟨147,15,147,22⟩) "begin" [.sub (.loc "deed" ⟨147,29,147,33⟩) (.int 1 ⟨147,34,147,35⟩) ⟨147,29,147,36⟩] ⟨147,15,147,28⟩ ⟨147,15,147,37⟩) ⟨147,8,147,37⟩] [] ⟨146,4,147,37⟩,
  .ite (.cmp .Eq (.sub (.loc "deed" ⟨148,7,148,11⟩) (.int 0 ⟨148,12,148,13⟩) ⟨148,7,148,14⟩) (.str "do" ⟨148,18,148,22⟩) ⟨148,7,148,22⟩) [
    .ret (.meth (.loc "company" ⟨149,15,149,22⟩) "do" [.sub (.loc "deed" ⟨149,26,149,30⟩) (.int 1 ⟨149,31,149,32⟩) ⟨149,26,149,33⟩] ⟨149,15,149,25⟩ ⟨149,15,149,34⟩) ⟨149,8,149,34⟩] [] ⟨148,4,149,34⟩,
  .ite (.cmp .Eq (.sub (.loc "deed" ⟨150,7,150,11⟩) (.int 0 ⟨150,12,150,13⟩) ⟨150,7,150,14⟩) (.str "hand" ⟨150,18,150,24⟩) ⟨150,7,150,24⟩) [
    .ret (.meth (.loc "company" ⟨151,15,151,22⟩) "hand_on" [.sub (.loc "deed" ⟨151,31,151,35⟩) (.int 1 ⟨151,36,151,37⟩) ⟨151,31,151,38⟩,.sub (.loc "deed" ⟨151,40,151,44⟩) (.int 2 ⟨151,45,151,46⟩) ⟨151,40,151,47⟩,.sub (.loc "deed" ⟨151,49,151,53⟩) (.int 3 ⟨151,54,151,55⟩) ⟨151,49,151,56⟩] ⟨151,15,151,30⟩ ⟨151,15,151,57⟩) ⟨151,8,151,57⟩] [] ⟨150,4,151,57⟩,
  .ret (.meth (.loc "company" ⟨152,11,152,18⟩) "carry" [.sub (.loc "deed" ⟨152,25,152,29⟩) (.int 1 ⟨152,30,152,31⟩) ⟨152,25,152,32⟩] ⟨152,11,152,24⟩ ⟨152,11,152,33⟩) ⟨152,4,152,33⟩]
noncomputable def p_done : List String:=["company","deed"]
noncomputable def b_tried : List S:=[
  .try_ [
    .ret (.call "done" [.loc "company" ⟨155,20,155,27⟩,.loc "deed" ⟨155,29,155,33⟩] ⟨155,15,155,19⟩ ⟨155,15,155,34⟩) ⟨155,8,155,34⟩] [("NoHand",⟨156,11,156,17⟩,.tup [.str "refused" ⟨157,16,157,25⟩,.str "hand" ⟨157,27,157,33⟩] 0 ⟨157,15,157,34⟩,⟨157,8,157,34⟩,⟨156,4,157,34⟩),("NoWork",⟨158,11,158,17⟩,.tup [.str "refused" ⟨159,16,159,25⟩,.str "work" ⟨159,27,159,33⟩] 0 ⟨159,15,159,34⟩,⟨159,8,159,34⟩,⟨158,4,159,34⟩),("NoPlace",⟨160,11,160,18⟩,.tup [.str "refused" ⟨161,16,161,25⟩,.str "place" ⟨161,27,161,34⟩] 0 ⟨161,15,161,35⟩,⟨161,8,161,35⟩,⟨160,4,161,35⟩),("Begun",⟨162,11,162,16⟩,.tup [.str "refused" ⟨163,16,163,25⟩,.str "begun" ⟨163,27,163,34⟩] 0 ⟨163,15,163,35⟩,⟨163,8,163,35⟩,⟨162,4,163,35⟩)] ⟨154,4,163,35⟩]
noncomputable def p_tried : List String:=["company","deed"]
noncomputable def b_shown : List S:=[
  .ret (.meth (.str " " ⟨169,11,169,14⟩) "join" [.comp (.bltn "str" [.loc "part" ⟨169,25,169,29⟩] ⟨169,21,169,24⟩ ⟨169,21,169,30⟩) "part" [] (.loc "row" ⟨169,43,169,46⟩) [] ({kind:=.function,names:=[(Str.ofString ".0",.local),(Str.ofString "part",.local),(Str.ofString "str",.globalImplicit)],isGenerator:=false,isCoroutine:=false,more:=[]}) ⟨169,35,169,39⟩ ⟨169,20,169,47⟩] ⟨169,11,169,19⟩ ⟨169,11,169,48⟩) ⟨169,4,169,48⟩]
noncomputable def p_shown : List String:=["row"]
noncomputable def b_number_of : List S:=[
  .assign "figures" (.loc "word" ⟨171,14,171,18⟩) ⟨171,4,171,11⟩ ⟨171,4,171,18⟩,
  .ite (.cmp .Eq (.sliceU (.loc "word" ⟨172,7,172,11⟩) (.int 1 ⟨172,13,172,14⟩) ⟨172,12,172,14⟩ ⟨172,7,172,15⟩) (.str "-" ⟨172,19,172,22⟩) ⟨172,7,172,22⟩) [
    .assign "figures" (.sliceL (.loc "word" ⟨173,18,173,22⟩) (.int 1 ⟨173,23,173,24⟩) ⟨173,23,173,25⟩ ⟨173,18,173,26⟩) ⟨173,8,173,15⟩ ⟨173,8,173,26⟩] [] ⟨172,4,173,26⟩,
  .ite (.or [.cmp .Eq (.loc "figures" ⟨174,7,174,14⟩) (.str "" ⟨174,18,174,20⟩) ⟨174,7,174,20⟩,.cmp .Gt (.bltn "len" [.loc "figures" ⟨174,28,174,35⟩] ⟨174,24,174,27⟩ ⟨174,24,174,36⟩) (.glob "MOST_FIGURES" ⟨174,39,174,51⟩) ⟨174,24,174,51⟩,.cmp .Eq (.loc "word" ⟨174,55,174,59⟩) (.str "-0" ⟨174,63,174,67⟩) ⟨174,55,174,67⟩,.and [.cmp .Eq (.sub (.loc "figures" ⟨174,72,174,79⟩) (.int 0 ⟨174,80,174,81⟩) ⟨174,72,174,82⟩) (.str "0" ⟨174,86,174,89⟩) ⟨174,72,174,89⟩,.cmp .NotEq (.loc "figures" ⟨174,94,174,101⟩) (.str "0" ⟨174,105,174,108⟩) ⟨174,94,174,108⟩] ⟨174,72,174,108⟩] ⟨174,7,174,109⟩) [
    .raise "NoRow" "no number" ⟨175,14,175,19⟩ ⟨175,20,175,31⟩ ⟨175,14,175,32⟩ ⟨175,8,175,32⟩] [] ⟨174,4,175,32⟩,
  .for_ "sign" (.loc "figures" ⟨176,16,176,23⟩) [
    .ite (.cmp .NotIn (.loc "sign" ⟨177,11,177,15⟩) (.glob "FIGURES" ⟨177,23,177,30⟩) ⟨177,11,177,30⟩) [
      .raise "NoRow" "no number" ⟨178,18,178,23⟩ ⟨178,24,178,35⟩ ⟨178,18,178,36⟩ ⟨178,12,178,36⟩] [] ⟨177,8,178,36⟩] ⟨176,8,176,12⟩ ⟨176,4,178,36⟩,
  .ret (.bltn "int" [.loc "word" ⟨179,15,179,19⟩] ⟨179,11,179,14⟩ ⟨179,11,179,20⟩) ⟨179,4,179,20⟩]
noncomputable def p_number_of : List String:=["word"]
noncomputable def b_read : List S:=[
  .assign "words" (.meth (.loc "line" ⟨181,12,181,16⟩) "split" [.str " " ⟨181,23,181,26⟩] ⟨181,12,181,22⟩ ⟨181,12,181,27⟩) ⟨181,4,181,9⟩ ⟨181,4,181,27⟩,
  .ite (.or [.cmp .NotIn (.sub (.loc "words" ⟨182,7,182,12⟩) (.int 0 ⟨182,13,182,14⟩) ⟨182,7,182,15⟩) (.glob "PARTS" ⟨182,23,182,28⟩) ⟨182,7,182,28⟩,.cmp .NotEq (.bltn "len" [.loc "words" ⟨182,36,182,41⟩] ⟨182,32,182,35⟩ ⟨182,32,182,42⟩) (.bin .Add (.sub (.glob "PARTS" ⟨182,46,182,51⟩) (.sub (.loc "words" ⟨182,52,182,57⟩) (.int 0 ⟨182,58,182,59⟩) ⟨182,52,182,60⟩) ⟨182,46,182,61⟩) (.int 1 ⟨182,64,182,65⟩) ⟨182,46,182,65⟩) ⟨182,32,182,65⟩] ⟨182,7,182,65⟩) [
    .raise "NoRow" "no deed" ⟨183,14,183,19⟩ ⟨183,20,183,29⟩ ⟨183,14,183,30⟩ ⟨183,8,183,30⟩] [] ⟨182,4,183,30⟩,
  .ret (.bin .Add (.tup [.sub (.loc "words" ⟨184,12,184,17⟩) (.int 0 ⟨184,18,184,19⟩) ⟨184,12,184,20⟩] 0 ⟨184,11,184,22⟩) (.bltn "tuple" [.comp (.call "number_of" [.loc "word" ⟨184,42,184,46⟩] ⟨184,32,184,41⟩ ⟨184,32,184,47⟩) "word" [] (.sliceL (.loc "words" ⟨184,60,184,65⟩) (.int 1 ⟨184,66,184,67⟩) ⟨184,66,184,68⟩ ⟨184,60,184,69⟩) [] ({kind:=.function,names:=[(Str.ofString ".0",.local),(Str.ofString "word",.local),(Str.ofString "number_of",.globalImplicit)],isGenerator:=false,isCoroutine:=false,more:=[]}) ⟨184,52,184,56⟩ ⟨184,31,184,70⟩] ⟨184,25,184,30⟩ ⟨184,25,184,71⟩) ⟨184,11,184,71⟩) ⟨184,4,184,71⟩]
noncomputable def p_read : List String:=["line"]
noncomputable def b_company_of : List S:=[
  .assign "words" (.meth (.loc "line" ⟨186,12,186,16⟩) "split" [.str " " ⟨186,23,186,26⟩] ⟨186,12,186,22⟩ ⟨186,12,186,27⟩) ⟨186,4,186,9⟩ ⟨186,4,186,27⟩,
  .ite (.or [.cmp .NotEq (.sub (.loc "words" ⟨187,7,187,12⟩) (.int 0 ⟨187,13,187,14⟩) ⟨187,7,187,15⟩) (.str "hands" ⟨187,19,187,26⟩) ⟨187,7,187,26⟩,.cmp .NotEq (.bltn "len" [.loc "words" ⟨187,34,187,39⟩] ⟨187,30,187,33⟩ ⟨187,30,187,40⟩) (.int 2 ⟨187,44,187,45⟩) ⟨187,30,187,45⟩] ⟨187,7,187,45⟩) [
    .raise "NoRow" "no hands" ⟨188,14,188,19⟩ ⟨188,20,188,30⟩ ⟨188,14,188,31⟩ ⟨188,8,188,31⟩] [] ⟨187,4,188,31⟩,
  .ret (.new "Company" [.call "number_of" [.sub (.loc "words" ⟨189,29,189,34⟩) (.int 1 ⟨189,35,189,36⟩) ⟨189,29,189,37⟩] ⟨189,19,189,28⟩ ⟨189,19,189,38⟩] ⟨189,11,189,18⟩ ⟨189,11,189,39⟩) ⟨189,4,189,39⟩]
noncomputable def p_company_of : List String:=["line"]
noncomputable def b_answer_of : List S:=[
  .try_ [
    .assign "deed" (.call "read" [.loc "line" ⟨192,20,192,24⟩] ⟨192,15,192,19⟩ ⟨192,15,192,25⟩) ⟨192,8,192,12⟩ ⟨192,8,192,25⟩] [("NoRow",⟨193,11,193,16⟩,.str "no row" ⟨194,15,194,23⟩,⟨194,8,194,23⟩,⟨193,4,194,23⟩)] ⟨191,4,194,23⟩,
  .assign "found" (.call "tried" [.loc "company" ⟨195,18,195,25⟩,.loc "deed" ⟨195,27,195,31⟩] ⟨195,12,195,17⟩ ⟨195,12,195,32⟩) ⟨195,4,195,9⟩ ⟨195,4,195,32⟩,
  .ite (.isi (.loc "found" ⟨196,18,196,23⟩) (.ty "tuple") ⟨196,7,196,17⟩ ⟨196,25,196,30⟩ ⟨196,7,196,31⟩) [
    .ret (.call "shown" [.loc "found" ⟨197,21,197,26⟩] ⟨197,15,197,20⟩ ⟨197,15,197,27⟩) ⟨197,8,197,27⟩] [] ⟨196,4,197,27⟩,
  .ite (.cmp .Eq (.loc "found" ⟨198,7,198,12⟩) (.list [] ⟨198,16,198,18⟩) ⟨198,7,198,18⟩) [
    .ret (.str "nothing" ⟨199,15,199,24⟩) ⟨199,8,199,24⟩] [] ⟨198,4,199,24⟩,
  .ret (.meth (.str "; " ⟨200,11,200,15⟩) "join" [.comp (.call "shown" [.loc "row" ⟨200,28,200,31⟩] ⟨200,22,200,27⟩ ⟨200,22,200,32⟩) "row" [] (.loc "found" ⟨200,44,200,49⟩) [] ({kind:=.function,names:=[(Str.ofString ".0",.local),(Str.ofString "row",.local),(Str.ofString "shown",.globalImplicit)],isGenerator:=false,isCoroutine:=false,more:=[]}) ⟨200,37,200,40⟩ ⟨200,21,200,50⟩] ⟨200,11,200,20⟩ ⟨200,11,200,51⟩) ⟨200,4,200,51⟩]
noncomputable def p_answer_of : List String:=["company","line"]
noncomputable def b_answered : List S:=[
  .assign "lines" (.meth (.loc "text" ⟨202,12,202,16⟩) "split" [.str "\n" ⟨202,23,202,27⟩] ⟨202,12,202,22⟩ ⟨202,12,202,28⟩) ⟨202,4,202,9⟩ ⟨202,4,202,28⟩,
  .try_ [
    .assign "company" (.call "company_of" [.sub (.loc "lines" ⟨204,29,204,34⟩) (.int 0 ⟨204,35,204,36⟩) ⟨204,29,204,37⟩] ⟨204,18,204,28⟩ ⟨204,18,204,38⟩) ⟨204,8,204,15⟩ ⟨204,8,204,38⟩] [("NoRow",⟨205,11,205,16⟩,.list [.str "no hands" ⟨206,16,206,26⟩] ⟨206,15,206,27⟩,⟨206,8,206,27⟩,⟨205,4,206,27⟩),("NoCompany",⟨207,11,207,20⟩,.list [.str "no hands" ⟨208,16,208,26⟩] ⟨208,15,208,27⟩,⟨208,8,208,27⟩,⟨207,4,208,27⟩)] ⟨203,4,208,27⟩,
  .ret (.comp (.call "answer_of" [.loc "company" ⟨209,22,209,29⟩,.loc "line" ⟨209,31,209,35⟩] ⟨209,12,209,21⟩ ⟨209,12,209,36⟩) "line" ["company"] (.sliceL (.loc "lines" ⟨209,49,209,54⟩) (.int 1 ⟨209,55,209,56⟩) ⟨209,55,209,57⟩ ⟨209,49,209,58⟩) [] ({kind:=.function,names:=[(Str.ofString ".0",.local),(Str.ofString "line",.local),(Str.ofString "answer_of",.globalImplicit),(Str.ofString "company",.free)],isGenerator:=false,isCoroutine:=false,more:=[]}) ⟨209,41,209,45⟩ ⟨209,11,209,59⟩) ⟨209,4,209,59⟩]
noncomputable def p_answered : List String:=["text"]
noncomputable def b__law_cell_at : List S:=[
  .ite (.cmp .Lt (.loc "_law_k" ⟨212,7,212,13⟩) (.bltn "len" [.loc "_law_script" ⟨212,20,212,31⟩] ⟨212,16,212,19⟩ ⟨212,16,212,32⟩) ⟨212,7,212,32⟩) [
    .ret (.sub (.loc "_law_script" ⟨213,15,213,26⟩) (.loc "_law_k" ⟨213,27,213,33⟩) ⟨213,15,213,34⟩) ⟨213,8,213,34⟩] [] ⟨212,4,213,34⟩,
  .ret (.int 0 ⟨214,11,214,12⟩) ⟨214,4,214,12⟩]
noncomputable def p__law_cell_at : List String:=["_law_script","_law_k"]
noncomputable def b__law_mixed : List S:=[
  .assign "_law_cell" (.int 0 ⟨216,16,216,17⟩) ⟨216,4,216,13⟩ ⟨216,4,216,17⟩,
  .ite (.cmp .Gt (.bltn "len" [.loc "_law_script" ⟨217,11,217,22⟩] ⟨217,7,217,10⟩ ⟨217,7,217,23⟩) (.int 0 ⟨217,26,217,27⟩) ⟨217,7,217,27⟩) [
    .assign "_law_cell" (.sub (.loc "_law_script" ⟨218,20,218,31⟩) (.bin .Mod (.loc "_law_k" ⟨218,32,218,38⟩) (.bltn "len" [.loc "_law_script" ⟨218,45,218,56⟩] ⟨218,41,218,44⟩ ⟨218,41,218,57⟩) ⟨218,32,218,57⟩) ⟨218,20,218,58⟩) ⟨218,8,218,17⟩ ⟨218,8,218,58⟩] [] ⟨217,4,218,58⟩,
  .assign "_law_near" (.bin .Mod (.bin .Mult (.bin .Add (.loc "_law_cell" ⟨219,17,219,26⟩) (.bin .Mult (.int 7919 ⟨219,29,219,33⟩) (.loc "_law_k" ⟨219,36,219,42⟩) ⟨219,29,219,42⟩) ⟨219,17,219,42⟩) (.int 48271 ⟨219,46,219,51⟩) ⟨219,16,219,51⟩) (.int 2147483647 ⟨219,54,219,64⟩) ⟨219,16,219,64⟩) ⟨219,4,219,13⟩ ⟨219,4,219,64⟩,
  .ret (.bin .Mod (.bin .Add (.bin .Mult (.loc "_law_near" ⟨220,12,220,21⟩) (.loc "_law_near" ⟨220,24,220,33⟩) ⟨220,12,220,33⟩) (.bin .Mult (.int 69621 ⟨220,36,220,41⟩) (.loc "_law_k" ⟨220,44,220,50⟩) ⟨220,36,220,50⟩) ⟨220,12,220,50⟩) (.int 2147483647 ⟨220,54,220,64⟩) ⟨220,11,220,64⟩) ⟨220,4,220,64⟩]
noncomputable def p__law_mixed : List String:=["_law_script","_law_k"]
noncomputable def b__law_whole : List S:=[
  .ret (.and [.isi (.loc "_law_found" ⟨222,22,222,32⟩) (.ty "int") ⟨222,11,222,21⟩ ⟨222,34,222,37⟩ ⟨222,11,222,38⟩,.not (.isi (.loc "_law_found" ⟨222,59,222,69⟩) (.ty "bool") ⟨222,48,222,58⟩ ⟨222,71,222,75⟩ ⟨222,48,222,76⟩) ⟨222,44,222,76⟩] ⟨222,11,222,77⟩) ⟨222,4,222,77⟩]
noncomputable def p__law_whole : List String:=["_law_found"]
noncomputable def b__law_alike : List S:=[
  .ite (.cmp .Is (.loc "_law_due_here" ⟨224,7,224,20⟩) (.none ⟨224,24,224,28⟩) ⟨224,7,224,28⟩) [
    .ret (.cmp .Is (.loc "_law_found" ⟨225,15,225,25⟩) (.none ⟨225,29,225,33⟩) ⟨225,15,225,33⟩) ⟨225,8,225,33⟩] [] ⟨224,4,225,33⟩,
  .ite (.isi (.loc "_law_due_here" ⟨226,18,226,31⟩) (.ty "str") ⟨226,7,226,17⟩ ⟨226,33,226,36⟩ ⟨226,7,226,37⟩) [
    .ret (.and [.isi (.loc "_law_found" ⟨227,26,227,36⟩) (.ty "str") ⟨227,15,227,25⟩ ⟨227,38,227,41⟩ ⟨227,15,227,42⟩,.cmp .Eq (.loc "_law_found" ⟨227,47,227,57⟩) (.loc "_law_due_here" ⟨227,61,227,74⟩) ⟨227,47,227,74⟩] ⟨227,15,227,74⟩) ⟨227,8,227,74⟩] [] ⟨226,4,227,74⟩,
  .ite (.isi (.loc "_law_due_here" ⟨228,18,228,31⟩) (.ty "bool") ⟨228,7,228,17⟩ ⟨228,33,228,37⟩ ⟨228,7,228,38⟩) [
    .ret (.and [.isi (.loc "_law_found" ⟨229,26,229,36⟩) (.ty "bool") ⟨229,15,229,25⟩ ⟨229,38,229,42⟩ ⟨229,15,229,43⟩,.cmp .Eq (.loc "_law_found" ⟨229,48,229,58⟩) (.loc "_law_due_here" ⟨229,62,229,75⟩) ⟨229,48,229,75⟩] ⟨229,15,229,75⟩) ⟨229,8,229,75⟩] [] ⟨228,4,229,75⟩,
  .ite (.isi (.loc "_law_due_here" ⟨230,18,230,31⟩) (.ty "int") ⟨230,7,230,17⟩ ⟨230,33,230,36⟩ ⟨230,7,230,37⟩) [
    .ret (.and [.call "_law_whole" [.loc "_law_found" ⟨231,26,231,36⟩] ⟨231,15,231,25⟩ ⟨231,15,231,37⟩,.cmp .Eq (.loc "_law_found" ⟨231,42,231,52⟩) (.loc "_law_due_here" ⟨231,56,231,69⟩) ⟨231,42,231,69⟩] ⟨231,15,231,69⟩) ⟨231,8,231,69⟩] [] ⟨230,4,231,69⟩,
  .ite (.and [.isi (.loc "_law_due_here" ⟨232,18,232,31⟩) (.ty "tuple") ⟨232,7,232,17⟩ ⟨232,33,232,38⟩ ⟨232,7,232,39⟩,.not (.isi (.loc "_law_found" ⟨232,60,232,70⟩) (.ty "tuple") ⟨232,49,232,59⟩ ⟨232,72,232,77⟩ ⟨232,49,232,78⟩) ⟨232,45,232,78⟩] ⟨232,7,232,79⟩) [
    .ret (.bool false ⟨233,15,233,20⟩) ⟨233,8,233,20⟩] [] ⟨232,4,233,20⟩,
  .ite (.and [.isi (.loc "_law_due_here" ⟨234,18,234,31⟩) (.ty "list") ⟨234,7,234,17⟩ ⟨234,33,234,37⟩ ⟨234,7,234,38⟩,.not (.isi (.loc "_law_found" ⟨234,59,234,69⟩) (.ty "list") ⟨234,48,234,58⟩ ⟨234,71,234,75⟩ ⟨234,48,234,76⟩) ⟨234,44,234,76⟩] ⟨234,7,234,77⟩) [
    .ret (.bool false ⟨235,15,235,20⟩) ⟨235,8,235,20⟩] [] ⟨234,4,235,20⟩,
  .ite (.cmp .NotEq (.bltn "len" [.loc "_law_found" ⟨236,11,236,21⟩] ⟨236,7,236,10⟩ ⟨236,7,236,22⟩) (.bltn "len" [.loc "_law_due_here" ⟨236,30,236,43⟩] ⟨236,26,236,29⟩ ⟨236,26,236,44⟩) ⟨236,7,236,44⟩) [
    .ret (.bool false ⟨237,15,237,20⟩) ⟨237,8,237,20⟩] [] ⟨236,4,237,20⟩,
  .for_ "_law_k" (.bltn "range" [.bltn "len" [.loc "_law_due_here" ⟨238,28,238,41⟩] ⟨238,24,238,27⟩ ⟨238,24,238,42⟩] ⟨238,18,238,23⟩ ⟨238,18,238,43⟩) [
    .ite (.not (.call "_law_alike" [.sub (.loc "_law_found" ⟨239,26,239,36⟩) (.loc "_law_k" ⟨239,37,239,43⟩) ⟨239,26,239,44⟩,.sub (.loc "_law_due_here" ⟨239,46,239,59⟩) (.loc "_law_k" ⟨239,60,239,66⟩) ⟨239,46,239,67⟩] ⟨239,15,239,25⟩ ⟨239,15,239,68⟩) ⟨239,11,239,68⟩) [
      .ret (.bool false ⟨240,19,240,24⟩) ⟨240,12,240,24⟩] [] ⟨239,8,240,24⟩] ⟨238,8,238,14⟩ ⟨238,4,240,24⟩,
  .ret (.bool true ⟨241,11,241,15⟩) ⟨241,4,241,15⟩]
noncomputable def p__law_alike : List String:=["_law_found","_law_due_here"]
noncomputable def b__law_many_by : List S:=[
  .ite (.cmp .Eq (.bin .Mod (.loc "_law_cell" ⟨243,7,243,16⟩) (.int 8 ⟨243,19,243,20⟩) ⟨243,7,243,20⟩) (.int 5 ⟨243,24,243,25⟩) ⟨243,7,243,25⟩) [
    .ret (.bin .Add (.int 1 ⟨244,15,244,16⟩) (.bin .Mod (.bin .FloorDiv (.loc "_law_cell" ⟨244,19,244,28⟩) (.int 8 ⟨244,32,244,33⟩) ⟨244,19,244,33⟩) (.int 60 ⟨244,36,244,38⟩) ⟨244,19,244,38⟩) ⟨244,15,244,38⟩) ⟨244,8,244,38⟩] [] ⟨243,4,244,38⟩,
  .ret (.bin .Add (.int 1 ⟨245,11,245,12⟩) (.bin .Mod (.bin .FloorDiv (.loc "_law_cell" ⟨245,15,245,24⟩) (.int 8 ⟨245,28,245,29⟩) ⟨245,15,245,29⟩) (.int 6 ⟨245,32,245,33⟩) ⟨245,15,245,33⟩) ⟨245,11,245,33⟩) ⟨245,4,245,33⟩]
noncomputable def p__law_many_by : List String:=["_law_cell"]
noncomputable def b__law_fresh : List S:=[
  .ret (.list [.bin .Mult (.list [.int 0 ⟨247,13,247,14⟩] ⟨247,12,247,15⟩) (.loc "_law_many" ⟨247,18,247,27⟩) ⟨247,12,247,27⟩,.bin .Mult (.list [.int 0 ⟨247,30,247,31⟩] ⟨247,29,247,32⟩) (.loc "_law_many" ⟨247,35,247,44⟩) ⟨247,29,247,44⟩,.bin .Mult (.list [.none ⟨247,47,247,51⟩] ⟨247,46,247,52⟩) (.loc "_law_many" ⟨247,55,247,64⟩) ⟨247,46,247,64⟩,.bin .Mult (.list [.int 0 ⟨247,67,247,68⟩] ⟨247,66,247,69⟩) (.loc "_law_many" ⟨247,72,247,81⟩) ⟨247,66,247,81⟩,.list [] ⟨247,83,247,85⟩,.list [.bool false ⟨247,88,247,93⟩] ⟨247,87,247,94⟩] ⟨247,11,247,95⟩) ⟨247,4,247,95⟩]
noncomputable def p__law_fresh : List String:=["_law_many"]
noncomputable def b__law_freed : List S:=[
  .ite (.or [.cmp .Gt (.sub (.sub (.loc "_law_state" ⟨249,7,249,17⟩) (.int 0 ⟨249,18,249,19⟩) ⟨249,7,249,20⟩) (.loc "_law_hand" ⟨249,21,249,30⟩) ⟨249,7,249,31⟩) (.int 0 ⟨249,34,249,35⟩) ⟨249,7,249,35⟩,.cmp .Gt (.sub (.sub (.loc "_law_state" ⟨249,39,249,49⟩) (.int 1 ⟨249,50,249,51⟩) ⟨249,39,249,52⟩) (.loc "_law_hand" ⟨249,53,249,62⟩) ⟨249,39,249,63⟩) (.int 0 ⟨249,66,249,67⟩) ⟨249,39,249,67⟩] ⟨249,7,249,67⟩) [
    .ret (.list [] ⟨250,15,250,17⟩) ⟨250,8,250,17⟩] [] ⟨249,4,250,17⟩,
  .assign "_law_row" (.tup [.str "answer" ⟨251,16,251,24⟩,.loc "_law_hand" ⟨251,26,251,35⟩,.sub (.sub (.loc "_law_state" ⟨251,37,251,47⟩) (.int 2 ⟨251,48,251,49⟩) ⟨251,37,251,50⟩) (.loc "_law_hand" ⟨251,51,251,60⟩) ⟨251,37,251,61⟩,.sub (.sub (.loc "_law_state" ⟨251,63,251,73⟩) (.int 3 ⟨251,74,251,75⟩) ⟨251,63,251,76⟩) (.loc "_law_hand" ⟨251,77,251,86⟩) ⟨251,63,251,87⟩] 0 ⟨251,15,251,88⟩) ⟨251,4,251,12⟩ ⟨251,4,251,88⟩,
  .setitem (.sub (.loc "_law_state" ⟨252,4,252,14⟩) (.int 2 ⟨252,15,252,16⟩) ⟨252,4,252,17⟩) (.loc "_law_hand" ⟨252,18,252,27⟩) (.none ⟨252,31,252,35⟩) ⟨252,4,252,28⟩ ⟨252,4,252,35⟩,
  .setitem (.sub (.loc "_law_state" ⟨253,4,253,14⟩) (.int 3 ⟨253,15,253,16⟩) ⟨253,4,253,17⟩) (.loc "_law_hand" ⟨253,18,253,27⟩) (.int 0 ⟨253,31,253,32⟩) ⟨253,4,253,28⟩ ⟨253,4,253,32⟩,
  .ite (.cmp .Eq (.loc "_law_hand" ⟨254,7,254,16⟩) (.int 0 ⟨254,20,254,21⟩) ⟨254,7,254,21⟩) [
    .setitem (.sub (.loc "_law_state" ⟨255,8,255,18⟩) (.int 5 ⟨255,19,255,20⟩) ⟨255,8,255,21⟩) (.int 0 ⟨255,22,255,23⟩) (.bool false ⟨255,27,255,32⟩) ⟨255,8,255,24⟩ ⟨255,8,255,32⟩,
    .ret (.list [.tup [.str "end" ⟨256,17,256,22⟩,.sub (.loc "_law_row" ⟨256,24,256,32⟩) (.int 3 ⟨256,33,256,34⟩) ⟨256,24,256,35⟩] 0 ⟨256,16,256,36⟩] ⟨256,15,256,37⟩) ⟨256,8,256,37⟩] [] ⟨254,4,256,37⟩,
  .expr (.meth (.sub (.loc "_law_state" ⟨257,4,257,14⟩) (.int 4 ⟨257,15,257,16⟩) ⟨257,4,257,17⟩) "append" [.loc "_law_row" ⟨257,25,257,33⟩] ⟨257,4,257,24⟩ ⟨257,4,257,34⟩) ⟨257,4,257,34⟩,
  .ret (.list [.loc "_law_row" ⟨258,12,258,20⟩] ⟨258,11,258,21⟩) ⟨258,4,258,21⟩]
noncomputable def p__law_freed : List String:=["_law_state","_law_hand"]
noncomputable def b__law_carried : List S:=[
  .ite (.or [.cmp .Lt (.loc "_law_place" ⟨260,7,260,17⟩) (.int 0 ⟨260,20,260,21⟩) ⟨260,7,260,21⟩,.cmp .GtE (.loc "_law_place" ⟨260,25,260,35⟩) (.bltn "len" [.sub (.loc "_law_state" ⟨260,43,260,53⟩) (.int 4 ⟨260,54,260,55⟩) ⟨260,43,260,56⟩] ⟨260,39,260,42⟩ ⟨260,39,260,57⟩) ⟨260,25,260,57⟩] ⟨260,7,260,57⟩) [
    .ret (.tup [.str "refused" ⟨261,16,261,25⟩,.str "place" ⟨261,27,261,34⟩] 0 ⟨261,15,261,35⟩) ⟨261,8,261,35⟩] [] ⟨260,4,261,35⟩,
  .assign "_law_row" (.meth (.sub (.loc "_law_state" ⟨262,15,262,25⟩) (.int 4 ⟨262,26,262,27⟩) ⟨262,15,262,28⟩) "pop" [.loc "_law_place" ⟨262,33,262,43⟩] ⟨262,15,262,32⟩ ⟨262,15,262,44⟩) ⟨262,4,262,12⟩ ⟨262,4,262,44⟩,
  .assign "_law_hand" (.sub (.loc "_law_row" ⟨263,16,263,24⟩) (.int 2 ⟨263,25,263,26⟩) ⟨263,16,263,27⟩) ⟨263,4,263,13⟩ ⟨263,4,263,27⟩,
  .ite (.cmp .Eq (.sub (.loc "_law_row" ⟨264,7,264,15⟩) (.int 0 ⟨264,16,264,17⟩) ⟨264,7,264,18⟩) (.str "answer" ⟨264,22,264,30⟩) ⟨264,7,264,30⟩) [
    .setitem (.sub (.loc "_law_state" ⟨265,8,265,18⟩) (.int 1 ⟨265,19,265,20⟩) ⟨265,8,265,21⟩) (.loc "_law_hand" ⟨265,22,265,31⟩) (.bin .Sub (.sub (.sub (.loc "_law_state" ⟨265,35,265,45⟩) (.int 1 ⟨265,46,265,47⟩) ⟨265,35,265,48⟩) (.loc "_law_hand" ⟨265,49,265,58⟩) ⟨265,35,265,59⟩) (.int 1 ⟨265,62,265,63⟩) ⟨265,35,265,63⟩) ⟨265,8,265,32⟩ ⟨265,8,265,63⟩,
    .setitem (.sub (.loc "_law_state" ⟨266,8,266,18⟩) (.int 3 ⟨266,19,266,20⟩) ⟨266,8,266,21⟩) (.loc "_law_hand" ⟨266,22,266,31⟩) (.bin .Add (.sub (.sub (.loc "_law_state" ⟨266,35,266,45⟩) (.int 3 ⟨266,46,266,47⟩) ⟨266,35,266,48⟩) (.loc "_law_hand" ⟨266,49,266,58⟩) ⟨266,35,266,59⟩) (.sub (.loc "_law_row" ⟨266,62,266,70⟩) (.int 3 ⟨266,71,266,72⟩) ⟨266,62,266,73⟩) ⟨266,35,266,73⟩) ⟨266,8,266,32⟩ ⟨266,8,266,73⟩,
    .ret (.call "_law_freed" [.loc "_law_state" ⟨267,26,267,36⟩,.loc "_law_hand" ⟨267,38,267,47⟩] ⟨267,15,267,25⟩ ⟨267,15,267,48⟩) ⟨267,8,267,48⟩] [] ⟨264,4,267,48⟩,
  .setitem (.sub (.loc "_law_state" ⟨268,4,268,14⟩) (.int 0 ⟨268,15,268,16⟩) ⟨268,4,268,17⟩) (.loc "_law_hand" ⟨268,18,268,27⟩) (.bin .Add (.sub (.sub (.loc "_law_state" ⟨268,31,268,41⟩) (.int 0 ⟨268,42,268,43⟩) ⟨268,31,268,44⟩) (.loc "_law_hand" ⟨268,45,268,54⟩) ⟨268,31,268,55⟩) (.sub (.loc "_law_row" ⟨268,58,268,66⟩) (.int 3 ⟨268,67,268,68⟩) ⟨268,58,268,69⟩) ⟨268,31,268,69⟩) ⟨268,4,268,28⟩ ⟨268,4,268,69⟩,
  .ite (.or [.cmp .Eq (.loc "_law_hand" ⟨269,7,269,16⟩) (.int 0 ⟨269,20,269,21⟩) ⟨269,7,269,21⟩,.cmp .IsNot (.sub (.sub (.loc "_law_state" ⟨269,25,269,35⟩) (.int 2 ⟨269,36,269,37⟩) ⟨269,25,269,38⟩) (.loc "_law_hand" ⟨269,39,269,48⟩) ⟨269,25,269,49⟩) (.none ⟨269,57,269,61⟩) ⟨269,25,269,61⟩] ⟨269,7,269,61⟩) [
    .expr (.meth (.sub (.loc "_law_state" ⟨270,8,270,18⟩) (.int 4 ⟨270,19,270,20⟩) ⟨270,8,270,21⟩) "append" [.tup [.str "answer" ⟨270,30,270,38⟩,.loc "_law_hand" ⟨270,40,270,49⟩,.sub (.loc "_law_row" ⟨270,51,270,59⟩) (.int 1 ⟨270,60,270,61⟩) ⟨270,51,270,62⟩,.int 0 ⟨270,64,270,65⟩] 0 ⟨270,29,270,66⟩] ⟨270,8,270,28⟩ ⟨270,8,270,67⟩) ⟨270,8,270,67⟩,
    .ret (.list [.sub (.sub (.loc "_law_state" ⟨271,16,271,26⟩) (.int 4 ⟨271,27,271,28⟩) ⟨271,16,271,29⟩) (.neg (.int 1 ⟨271,31,271,32⟩) ⟨271,30,271,32⟩) ⟨271,16,271,33⟩] ⟨271,15,271,34⟩) ⟨271,8,271,34⟩] [] ⟨269,4,271,34⟩,
  .setitem (.sub (.loc "_law_state" ⟨272,4,272,14⟩) (.int 2 ⟨272,15,272,16⟩) ⟨272,4,272,17⟩) (.loc "_law_hand" ⟨272,18,272,27⟩) (.sub (.loc "_law_row" ⟨272,31,272,39⟩) (.int 1 ⟨272,40,272,41⟩) ⟨272,31,272,42⟩) ⟨272,4,272,28⟩ ⟨272,4,272,42⟩,
  .ret (.list [.tup [.str "woken" ⟨273,13,273,20⟩,.loc "_law_hand" ⟨273,22,273,31⟩,.sub (.loc "_law_row" ⟨273,33,273,41⟩) (.int 1 ⟨273,42,273,43⟩) ⟨273,33,273,44⟩] 0 ⟨273,12,273,45⟩] ⟨273,11,273,46⟩) ⟨273,4,273,46⟩]
noncomputable def p__law_carried : List String:=["_law_state","_law_place"]
noncomputable def b__law_begun : List S:=[
  .ite (.sub (.sub (.loc "_law_state" ⟨275,7,275,17⟩) (.int 5 ⟨275,18,275,19⟩) ⟨275,7,275,20⟩) (.int 0 ⟨275,21,275,22⟩) ⟨275,7,275,23⟩) [
    .ret (.tup [.str "refused" ⟨276,16,276,25⟩,.str "begun" ⟨276,27,276,34⟩] 0 ⟨276,15,276,35⟩) ⟨276,8,276,35⟩] [] ⟨275,4,276,35⟩,
  .ite (.or [.cmp .Lt (.loc "_law_pieces" ⟨277,7,277,18⟩) (.int 1 ⟨277,21,277,22⟩) ⟨277,7,277,22⟩,.cmp .Gt (.loc "_law_pieces" ⟨277,26,277,37⟩) (.int 999999 ⟨277,40,277,46⟩) ⟨277,26,277,46⟩] ⟨277,7,277,46⟩) [
    .ret (.tup [.str "refused" ⟨278,16,278,25⟩,.str "work" ⟨278,27,278,33⟩] 0 ⟨278,15,278,34⟩) ⟨278,8,278,34⟩] [] ⟨277,4,278,34⟩,
  .setitem (.sub (.loc "_law_state" ⟨279,4,279,14⟩) (.int 5 ⟨279,15,279,16⟩) ⟨279,4,279,17⟩) (.int 0 ⟨279,18,279,19⟩) (.bool true ⟨279,23,279,27⟩) ⟨279,4,279,20⟩ ⟨279,4,279,27⟩,
  .setitem (.sub (.loc "_law_state" ⟨280,4,280,14⟩) (.int 0 ⟨280,15,280,16⟩) ⟨280,4,280,17⟩) (.int 0 ⟨280,18,280,19⟩) (.loc "_law_pieces" ⟨280,23,280,34⟩) ⟨280,4,280,20⟩ ⟨280,4,280,34⟩,
  .ret (.list [.tup [.str "begun" ⟨281,13,281,20⟩,.loc "_law_pieces" ⟨281,22,281,33⟩] 0 ⟨281,12,281,34⟩] ⟨281,11,281,35⟩) ⟨281,4,281,35⟩]
noncomputable def p__law_begun : List String:=["_law_state","_law_pieces"]
noncomputable def b__law_due : List S:=[
  .ite (.cmp .Eq (.sub (.loc "_law_deed" ⟨283,7,283,16⟩) (.int 0 ⟨283,17,283,18⟩) ⟨283,7,283,19⟩) (.str "begin" ⟨283,23,283,30⟩) ⟨283,7,283,30⟩) [
    .ret (.call "_law_begun" [.loc "_law_state" ⟨284,26,284,36⟩,.sub (.loc "_law_deed" ⟨284,38,284,47⟩) (.int 1 ⟨284,48,284,49⟩) ⟨284,38,284,50⟩] ⟨284,15,284,25⟩ ⟨284,15,284,51⟩) ⟨284,8,284,51⟩] [] ⟨283,4,284,51⟩,
  .ite (.cmp .Eq (.sub (.loc "_law_deed" ⟨285,7,285,16⟩) (.int 0 ⟨285,17,285,18⟩) ⟨285,7,285,19⟩) (.str "carry" ⟨285,23,285,30⟩) ⟨285,7,285,30⟩) [
    .ret (.call "_law_carried" [.loc "_law_state" ⟨286,28,286,38⟩,.sub (.loc "_law_deed" ⟨286,40,286,49⟩) (.int 1 ⟨286,50,286,51⟩) ⟨286,40,286,52⟩] ⟨286,15,286,27⟩ ⟨286,15,286,53⟩) ⟨286,8,286,53⟩] [] ⟨285,4,286,53⟩,
  .for_ "_law_one" (.sliceLU (.loc "_law_deed" ⟨287,20,287,29⟩) (.int 1 ⟨287,30,287,31⟩) (.int 3 ⟨287,32,287,33⟩) ⟨287,30,287,33⟩ ⟨287,20,287,34⟩) [
    .ite (.or [.cmp .Lt (.loc "_law_one" ⟨288,11,288,19⟩) (.int 0 ⟨288,22,288,23⟩) ⟨288,11,288,23⟩,.cmp .GtE (.loc "_law_one" ⟨288,27,288,35⟩) (.bltn "len" [.sub (.loc "_law_state" ⟨288,43,288,53⟩) (.int 0 ⟨288,54,288,55⟩) ⟨288,43,288,56⟩] ⟨288,39,288,42⟩ ⟨288,39,288,57⟩) ⟨288,27,288,57⟩] ⟨288,11,288,57⟩) [
      .ret (.tup [.str "refused" ⟨289,20,289,29⟩,.str "hand" ⟨289,31,289,37⟩] 0 ⟨289,19,289,38⟩) ⟨289,12,289,38⟩] [] ⟨288,8,289,38⟩] ⟨287,8,287,16⟩ ⟨287,4,289,38⟩,
  .assign "_law_hand" (.sub (.loc "_law_deed" ⟨290,16,290,25⟩) (.int 1 ⟨290,26,290,27⟩) ⟨290,16,290,28⟩) ⟨290,4,290,13⟩ ⟨290,4,290,28⟩,
  .assign "_law_pieces" (.int 1 ⟨291,18,291,19⟩) ⟨291,4,291,15⟩ ⟨291,4,291,19⟩,
  .ite (.cmp .Eq (.sub (.loc "_law_deed" ⟨292,7,292,16⟩) (.int 0 ⟨292,17,292,18⟩) ⟨292,7,292,19⟩) (.str "hand" ⟨292,23,292,29⟩) ⟨292,7,292,29⟩) [
    .assign "_law_pieces" (.sub (.loc "_law_deed" ⟨293,22,293,31⟩) (.int 3 ⟨293,32,293,33⟩) ⟨293,22,293,34⟩) ⟨293,8,293,19⟩ ⟨293,8,293,34⟩] [] ⟨292,4,293,34⟩,
  .ite (.or [.cmp .Lt (.loc "_law_pieces" ⟨294,7,294,18⟩) (.int 1 ⟨294,21,294,22⟩) ⟨294,7,294,22⟩,.cmp .Gt (.loc "_law_pieces" ⟨294,26,294,37⟩) (.sub (.sub (.loc "_law_state" ⟨294,40,294,50⟩) (.int 0 ⟨294,51,294,52⟩) ⟨294,40,294,53⟩) (.loc "_law_hand" ⟨294,54,294,63⟩) ⟨294,40,294,64⟩) ⟨294,26,294,64⟩] ⟨294,7,294,64⟩) [
    .ret (.tup [.str "refused" ⟨295,16,295,25⟩,.str "work" ⟨295,27,295,33⟩] 0 ⟨295,15,295,34⟩) ⟨295,8,295,34⟩] [] ⟨294,4,295,34⟩,
  .setitem (.sub (.loc "_law_state" ⟨296,4,296,14⟩) (.int 0 ⟨296,15,296,16⟩) ⟨296,4,296,17⟩) (.loc "_law_hand" ⟨296,18,296,27⟩) (.bin .Sub (.sub (.sub (.loc "_law_state" ⟨296,31,296,41⟩) (.int 0 ⟨296,42,296,43⟩) ⟨296,31,296,44⟩) (.loc "_law_hand" ⟨296,45,296,54⟩) ⟨296,31,296,55⟩) (.loc "_law_pieces" ⟨296,58,296,69⟩) ⟨296,31,296,69⟩) ⟨296,4,296,28⟩ ⟨296,4,296,69⟩,
  .ite (.cmp .Eq (.sub (.loc "_law_deed" ⟨297,7,297,16⟩) (.int 0 ⟨297,17,297,18⟩) ⟨297,7,297,19⟩) (.str "do" ⟨297,23,297,27⟩) ⟨297,7,297,27⟩) [
    .setitem (.sub (.loc "_law_state" ⟨298,8,298,18⟩) (.int 3 ⟨298,19,298,20⟩) ⟨298,8,298,21⟩) (.loc "_law_hand" ⟨298,22,298,31⟩) (.bin .Add (.sub (.sub (.loc "_law_state" ⟨298,35,298,45⟩) (.int 3 ⟨298,46,298,47⟩) ⟨298,35,298,48⟩) (.loc "_law_hand" ⟨298,49,298,58⟩) ⟨298,35,298,59⟩) (.int 1 ⟨298,62,298,63⟩) ⟨298,35,298,63⟩) ⟨298,8,298,32⟩ ⟨298,8,298,63⟩,
    .ret (.call "_law_freed" [.loc "_law_state" ⟨299,26,299,36⟩,.loc "_law_hand" ⟨299,38,299,47⟩] ⟨299,15,299,25⟩ ⟨299,15,299,48⟩) ⟨299,8,299,48⟩] [] ⟨297,4,299,48⟩,
  .setitem (.sub (.loc "_law_state" ⟨300,4,300,14⟩) (.int 1 ⟨300,15,300,16⟩) ⟨300,4,300,17⟩) (.loc "_law_hand" ⟨300,18,300,27⟩) (.bin .Add (.sub (.sub (.loc "_law_state" ⟨300,31,300,41⟩) (.int 1 ⟨300,42,300,43⟩) ⟨300,31,300,44⟩) (.loc "_law_hand" ⟨300,45,300,54⟩) ⟨300,31,300,55⟩) (.int 1 ⟨300,58,300,59⟩) ⟨300,31,300,59⟩) ⟨300,4,300,28⟩ ⟨300,4,300,59⟩,
  .expr (.meth (.sub (.loc "_law_state" ⟨301,4,301,14⟩) (.int 4 ⟨301,15,301,16⟩) ⟨301,4,301,17⟩) "append" [.tup [.str "letter" ⟨301,26,301,34⟩,.loc "_law_hand" ⟨301,36,301,45⟩,.sub (.loc "_law_deed" ⟨301,47,301,56⟩) (.int 2 ⟨301,57,301,58⟩) ⟨301,47,301,59⟩,.loc "_law_pieces" ⟨301,61,301,72⟩] 0 ⟨301,25,301,73⟩] ⟨301,4,301,24⟩ ⟨301,4,301,74⟩) ⟨301,4,301,74⟩,
  .ret (.list [.sub (.sub (.loc "_law_state" ⟨302,12,302,22⟩) (.int 4 ⟨302,23,302,24⟩) ⟨302,12,302,25⟩) (.neg (.int 1 ⟨302,27,302,28⟩) ⟨302,26,302,28⟩) ⟨302,12,302,29⟩] ⟨302,11,302,30⟩) ⟨302,4,302,30⟩]
noncomputable def p__law_due : List String:=["_law_state","_law_deed"]
noncomputable def b__law_wrong_by : List S:=[
  .assign "_law_many" (.bltn "len" [.sub (.loc "_law_state" ⟨304,20,304,30⟩) (.int 0 ⟨304,31,304,32⟩) ⟨304,20,304,33⟩] ⟨304,16,304,19⟩ ⟨304,16,304,34⟩) ⟨304,4,304,13⟩ ⟨304,4,304,34⟩,
  .assign "_law_rows" (.bltn "len" [.sub (.loc "_law_state" ⟨305,20,305,30⟩) (.int 4 ⟨305,31,305,32⟩) ⟨305,20,305,33⟩] ⟨305,16,305,19⟩ ⟨305,16,305,34⟩) ⟨305,4,305,13⟩ ⟨305,4,305,34⟩,
  .assign "_law_more" (.bin .FloorDiv (.loc "_law_rest" ⟨306,16,306,25⟩) (.int 32 ⟨306,29,306,31⟩) ⟨306,16,306,31⟩) ⟨306,4,306,13⟩ ⟨306,4,306,31⟩,
  .assign "_law_far" (.sub (.list [.neg (.int 1 ⟨307,17,307,18⟩) ⟨307,16,307,18⟩,.loc "_law_many" ⟨307,20,307,29⟩,.bin .Add (.loc "_law_many" ⟨307,31,307,40⟩) (.bin .Mod (.loc "_law_more" ⟨307,43,307,52⟩) (.bin .Pow (.int 10 ⟨307,55,307,57⟩) (.int 6 ⟨307,61,307,62⟩) ⟨307,55,307,62⟩) ⟨307,43,307,62⟩) ⟨307,31,307,62⟩,.bin .Sub (.neg (.int 1 ⟨307,65,307,66⟩) ⟨307,64,307,66⟩) (.bin .Mod (.loc "_law_more" ⟨307,69,307,78⟩) (.bin .Pow (.int 10 ⟨307,81,307,83⟩) (.int 6 ⟨307,87,307,88⟩) ⟨307,81,307,88⟩) ⟨307,69,307,88⟩) ⟨307,64,307,88⟩] ⟨307,15,307,89⟩) (.bin .Mod (.bin .FloorDiv (.loc "_law_rest" ⟨307,90,307,99⟩) (.int 8 ⟨307,103,307,104⟩) ⟨307,90,307,104⟩) (.int 4 ⟨307,107,307,108⟩) ⟨307,90,307,108⟩) ⟨307,15,307,109⟩) ⟨307,4,307,12⟩ ⟨307,4,307,109⟩,
  .assign "_law_deeds" (.list [.tup [.str "do" ⟨308,19,308,23⟩,.loc "_law_far" ⟨308,25,308,33⟩] 0 ⟨308,18,308,34⟩,.tup [.str "hand" ⟨308,37,308,43⟩,.loc "_law_far" ⟨308,45,308,53⟩,.int 0 ⟨308,55,308,56⟩,.int 1 ⟨308,58,308,59⟩] 0 ⟨308,36,308,60⟩,.tup [.str "hand" ⟨308,63,308,69⟩,.int 0 ⟨308,71,308,72⟩,.loc "_law_far" ⟨308,74,308,82⟩,.int 1 ⟨308,84,308,85⟩] 0 ⟨308,62,308,86⟩,.tup [.str "hand" ⟨308,89,308,95⟩,.bin .Mod (.loc "_law_more" ⟨308,97,308,106⟩) (.loc "_law_many" ⟨308,109,308,118⟩) ⟨308,97,308,118⟩,.int 0 ⟨308,120,308,121⟩,.int 0 ⟨308,123,308,124⟩] 0 ⟨308,88,308,125⟩] ⟨308,17,308,126⟩) ⟨308,4,308,14⟩ ⟨308,4,308,126⟩,
  .assign "_law_deeds" (.bin .Add (.loc "_law_deeds" ⟨309,17,309,27⟩) (.list [.tup [.str "hand" ⟨309,32,309,38⟩,.int 0 ⟨309,40,309,41⟩,.bin .Mod (.loc "_law_more" ⟨309,43,309,52⟩) (.loc "_law_many" ⟨309,55,309,64⟩) ⟨309,43,309,64⟩,.int 1000000 ⟨309,66,309,73⟩] 0 ⟨309,31,309,74⟩,.tup [.str "carry" ⟨309,77,309,84⟩,.bin .Add (.loc "_law_rows" ⟨309,86,309,95⟩) (.bin .Mod (.loc "_law_more" ⟨309,98,309,107⟩) (.int 3 ⟨309,110,309,111⟩) ⟨309,98,309,111⟩) ⟨309,86,309,111⟩] 0 ⟨309,76,309,112⟩,.tup [.str "carry" ⟨309,115,309,122⟩,.bin .Sub (.neg (.int 1 ⟨309,125,309,126⟩) ⟨309,124,309,126⟩) (.bin .Mod (.loc "_law_more" ⟨309,129,309,138⟩) (.int 9 ⟨309,141,309,142⟩) ⟨309,129,309,142⟩) ⟨309,124,309,142⟩] 0 ⟨309,114,309,143⟩] ⟨309,30,309,144⟩) ⟨309,17,309,144⟩) ⟨309,4,309,14⟩ ⟨309,4,309,144⟩,
  .ret (.sub (.bin .Add (.loc "_law_deeds" ⟨310,12,310,22⟩) (.list [.tup [.str "do" ⟨310,27,310,31⟩,.bin .Mod (.loc "_law_more" ⟨310,33,310,42⟩) (.loc "_law_many" ⟨310,45,310,54⟩) ⟨310,33,310,54⟩] 0 ⟨310,26,310,55⟩] ⟨310,25,310,56⟩) ⟨310,12,310,56⟩) (.bin .Mod (.loc "_law_rest" ⟨310,58,310,67⟩) (.int 8 ⟨310,70,310,71⟩) ⟨310,58,310,71⟩) ⟨310,11,310,72⟩) ⟨310,4,310,72⟩]
noncomputable def p__law_wrong_by : List String:=["_law_state","_law_rest"]
noncomputable def b__law_deed_by : List S:=[
  .assign "_law_many" (.bltn "len" [.sub (.loc "_law_state" ⟨312,20,312,30⟩) (.int 0 ⟨312,31,312,32⟩) ⟨312,20,312,33⟩] ⟨312,16,312,19⟩ ⟨312,16,312,34⟩) ⟨312,4,312,13⟩ ⟨312,4,312,34⟩,
  .assign "_law_rows" (.bltn "len" [.sub (.loc "_law_state" ⟨313,20,313,30⟩) (.int 4 ⟨313,31,313,32⟩) ⟨313,20,313,33⟩] ⟨313,16,313,19⟩ ⟨313,16,313,34⟩) ⟨313,4,313,13⟩ ⟨313,4,313,34⟩,
  .assign "_law_rest" (.bin .FloorDiv (.loc "_law_number" ⟨314,16,314,27⟩) (.int 16 ⟨314,31,314,33⟩) ⟨314,16,314,33⟩) ⟨314,4,314,13⟩ ⟨314,4,314,33⟩,
  .assign "_law_workers" (.comp (.loc "_law_k" ⟨315,20,315,26⟩) "_law_k" ["_law_state"] (.bltn "range" [.loc "_law_many" ⟨315,47,315,56⟩] ⟨315,41,315,46⟩ ⟨315,41,315,57⟩) [.cmp .Gt (.sub (.sub (.loc "_law_state" ⟨315,61,315,71⟩) (.int 0 ⟨315,72,315,73⟩) ⟨315,61,315,74⟩) (.loc "_law_k" ⟨315,75,315,81⟩) ⟨315,61,315,82⟩) (.int 0 ⟨315,85,315,86⟩) ⟨315,61,315,86⟩] ({kind:=.function,names:=[(Str.ofString ".0",.local),(Str.ofString "_law_k",.local),(Str.ofString "_law_state",.free)],isGenerator:=false,isCoroutine:=false,more:=[]}) ⟨315,31,315,37⟩ ⟨315,19,315,87⟩) ⟨315,4,315,16⟩ ⟨315,4,315,87⟩,
  .ite (.cmp .Eq (.bin .Mod (.loc "_law_number" ⟨316,7,316,18⟩) (.int 16 ⟨316,21,316,23⟩) ⟨316,7,316,23⟩) (.int 14 ⟨316,27,316,29⟩) ⟨316,7,316,29⟩) [
    .ret (.call "_law_wrong_by" [.loc "_law_state" ⟨317,29,317,39⟩,.loc "_law_rest" ⟨317,41,317,50⟩] ⟨317,15,317,28⟩ ⟨317,15,317,51⟩) ⟨317,8,317,51⟩] [] ⟨316,4,317,51⟩,
  .ite (.or [.not (.sub (.sub (.loc "_law_state" ⟨318,11,318,21⟩) (.int 5 ⟨318,22,318,23⟩) ⟨318,11,318,24⟩) (.int 0 ⟨318,25,318,26⟩) ⟨318,11,318,27⟩) ⟨318,7,318,27⟩,.cmp .Eq (.bin .Mod (.loc "_law_number" ⟨318,31,318,42⟩) (.int 16 ⟨318,45,318,47⟩) ⟨318,31,318,47⟩) (.int 15 ⟨318,51,318,53⟩) ⟨318,31,318,53⟩] ⟨318,7,318,53⟩) [
    .ret (.tup [.str "begin" ⟨319,16,319,23⟩,.sub (.list [.bin .Sub (.bin .Mod (.bin .FloorDiv (.loc "_law_rest" ⟨319,26,319,35⟩) (.int 8 ⟨319,39,319,40⟩) ⟨319,26,319,40⟩) (.int 1000003 ⟨319,43,319,50⟩) ⟨319,26,319,50⟩) (.int 1 ⟨319,53,319,54⟩) ⟨319,26,319,54⟩,.bin .Add (.int 1 ⟨319,56,319,57⟩) (.bin .Mod (.bin .FloorDiv (.loc "_law_rest" ⟨319,60,319,69⟩) (.int 8 ⟨319,73,319,74⟩) ⟨319,60,319,74⟩) (.int 60 ⟨319,77,319,79⟩) ⟨319,60,319,79⟩) ⟨319,56,319,79⟩,.bin .Add (.int 1 ⟨319,81,319,82⟩) (.bin .Mod (.bin .FloorDiv (.loc "_law_rest" ⟨319,85,319,94⟩) (.int 8 ⟨319,98,319,99⟩) ⟨319,85,319,99⟩) (.int 5 ⟨319,102,319,103⟩) ⟨319,85,319,103⟩) ⟨319,81,319,103⟩] ⟨319,25,319,104⟩) (.bltn "min" [.bin .Mod (.loc "_law_rest" ⟨319,109,319,118⟩) (.int 8 ⟨319,121,319,122⟩) ⟨319,109,319,122⟩,.int 2 ⟨319,124,319,125⟩] ⟨319,105,319,108⟩ ⟨319,105,319,126⟩) ⟨319,25,319,127⟩] 0 ⟨319,15,319,128⟩) ⟨319,8,319,128⟩] [] ⟨318,4,319,128⟩,
  .ite (.and [.cmp .Gt (.bltn "len" [.loc "_law_workers" ⟨320,11,320,23⟩] ⟨320,7,320,10⟩ ⟨320,7,320,24⟩) (.int 0 ⟨320,27,320,28⟩) ⟨320,7,320,28⟩,.or [.cmp .Lt (.bin .Mod (.loc "_law_number" ⟨320,34,320,45⟩) (.int 16 ⟨320,48,320,50⟩) ⟨320,34,320,50⟩) (.int 9 ⟨320,53,320,54⟩) ⟨320,34,320,54⟩,.cmp .Eq (.loc "_law_rows" ⟨320,58,320,67⟩) (.int 0 ⟨320,71,320,72⟩) ⟨320,58,320,72⟩] ⟨320,34,320,72⟩] ⟨320,7,320,73⟩) [
    .assign "_law_hand" (.sub (.loc "_law_workers" ⟨321,20,321,32⟩) (.bin .Mod (.loc "_law_rest" ⟨321,33,321,42⟩) (.bltn "len" [.loc "_law_workers" ⟨321,49,321,61⟩] ⟨321,45,321,48⟩ ⟨321,45,321,62⟩) ⟨321,33,321,62⟩) ⟨321,20,321,63⟩) ⟨321,8,321,17⟩ ⟨321,8,321,63⟩,
    .ite (.cmp .Lt (.bin .Mod (.loc "_law_number" ⟨322,11,322,22⟩) (.int 16 ⟨322,25,322,27⟩) ⟨322,11,322,27⟩) (.int 4 ⟨322,30,322,31⟩) ⟨322,11,322,31⟩) [
      .ret (.tup [.str "hand" ⟨323,20,323,26⟩,.loc "_law_hand" ⟨323,28,323,37⟩,.bin .Mod (.bin .FloorDiv (.loc "_law_rest" ⟨323,39,323,48⟩) (.int 61 ⟨323,52,323,54⟩) ⟨323,39,323,54⟩) (.loc "_law_many" ⟨323,57,323,66⟩) ⟨323,39,323,66⟩,.bin .Add (.int 1 ⟨323,68,323,69⟩) (.bin .Mod (.bin .FloorDiv (.loc "_law_rest" ⟨323,72,323,81⟩) (.int 5 ⟨323,85,323,86⟩) ⟨323,72,323,86⟩) (.sub (.sub (.loc "_law_state" ⟨323,89,323,99⟩) (.int 0 ⟨323,100,323,101⟩) ⟨323,89,323,102⟩) (.loc "_law_hand" ⟨323,103,323,112⟩) ⟨323,89,323,113⟩) ⟨323,72,323,113⟩) ⟨323,68,323,113⟩] 0 ⟨323,19,323,114⟩) ⟨323,12,323,114⟩] [] ⟨322,8,323,114⟩,
    .ret (.tup [.str "do" ⟨324,16,324,20⟩,.loc "_law_hand" ⟨324,22,324,31⟩] 0 ⟨324,15,324,32⟩) ⟨324,8,324,32⟩] [] ⟨320,4,324,32⟩,
  .ret (.tup [.str "carry" ⟨325,12,325,19⟩,.bin .Mod (.loc "_law_rest" ⟨325,21,325,30⟩) (.bltn "max" [.int 1 ⟨325,37,325,38⟩,.loc "_law_rows" ⟨325,40,325,49⟩] ⟨325,33,325,36⟩ ⟨325,33,325,50⟩) ⟨325,21,325,50⟩] 0 ⟨325,11,325,51⟩) ⟨325,4,325,51⟩]
noncomputable def p__law_deed_by : List String:=["_law_state","_law_number"]
noncomputable def b__law_text : List S:=[
  .assign "_law_signs" (.sub (.loc "_law_row" ⟨327,17,327,25⟩) (.int 0 ⟨327,26,327,27⟩) ⟨327,17,327,28⟩) ⟨327,4,327,14⟩ ⟨327,4,327,28⟩,
  .for_ "_law_part" (.sliceL (.loc "_law_row" ⟨328,21,328,29⟩) (.int 1 ⟨328,30,328,31⟩) ⟨328,30,328,32⟩ ⟨328,21,328,33⟩) [
    .assign "_law_signs" (.bin .Add (.bin .Add (.loc "_law_signs" ⟨329,21,329,31⟩) (.str " " ⟨329,34,329,37⟩) ⟨329,21,329,37⟩) (.bltn "str" [.loc "_law_part" ⟨329,44,329,53⟩] ⟨329,40,329,43⟩ ⟨329,40,329,54⟩) ⟨329,21,329,54⟩) ⟨329,8,329,18⟩ ⟨329,8,329,54⟩] ⟨328,8,328,17⟩ ⟨328,4,329,54⟩,
  .ret (.loc "_law_signs" ⟨330,11,330,21⟩) ⟨330,4,330,21⟩]
noncomputable def p__law_text : List String:=["_law_row"]
noncomputable def b__law_no_row : List S:=[
  .assign "_law_some" (.list [.str "" ⟨332,17,332,19⟩,.str " " ⟨332,21,332,24⟩,.str "play" ⟨332,26,332,32⟩,.str "do" ⟨332,34,332,38⟩,.str "do 01" ⟨332,40,332,47⟩,.str "do +1" ⟨332,49,332,56⟩,.str "begin 1." ⟨332,58,332,68⟩,.str "hands 2" ⟨332,70,332,79⟩,.bin .Add (.loc "_law_line" ⟨332,81,332,90⟩) (.str " " ⟨332,93,332,96⟩) ⟨332,81,332,96⟩,.bin .Add (.str " " ⟨332,98,332,101⟩) (.loc "_law_line" ⟨332,104,332,113⟩) ⟨332,98,332,113⟩,.bin .Add (.loc "_law_line" ⟨332,115,332,124⟩) (.str " 1" ⟨332,127,332,131⟩) ⟨332,115,332,131⟩] ⟨332,16,332,132⟩) ⟨332,4,332,13⟩ ⟨332,4,332,132⟩,
  .assign "_law_some" (.bin .Add (.loc "_law_some" ⟨333,16,333,25⟩) (.list [.repl (.loc "_law_line" ⟨333,29,333,38⟩) " " "  " ⟨333,47,333,50⟩ ⟨333,52,333,56⟩ ⟨333,29,333,46⟩ ⟨333,29,333,57⟩,.meth (.loc "_law_line" ⟨333,59,333,68⟩) "upper" [] ⟨333,59,333,74⟩ ⟨333,59,333,76⟩,.bin .Add (.str "# " ⟨333,78,333,82⟩) (.loc "_law_line" ⟨333,85,333,94⟩) ⟨333,78,333,94⟩,.str "end 1" ⟨333,96,333,103⟩,.str "nothing" ⟨333,105,333,114⟩,.str "hand 0 1" ⟨333,116,333,126⟩,.str "carry x" ⟨333,128,333,137⟩] ⟨333,28,333,138⟩) ⟨333,16,333,138⟩) ⟨333,4,333,13⟩ ⟨333,4,333,138⟩,
  .ret (.sub (.loc "_law_some" ⟨334,11,334,20⟩) (.bin .Mod (.loc "_law_rest" ⟨334,21,334,30⟩) (.bltn "len" [.loc "_law_some" ⟨334,37,334,46⟩] ⟨334,33,334,36⟩ ⟨334,33,334,47⟩) ⟨334,21,334,47⟩) ⟨334,11,334,48⟩) ⟨334,4,334,48⟩]
noncomputable def p__law_no_row : List String:=["_law_line","_law_rest"]
noncomputable def b__law_first : List S:=[
  .ite (.cmp .NotEq (.bin .Mod (.loc "_law_cell" ⟨336,7,336,16⟩) (.int 8 ⟨336,19,336,20⟩) ⟨336,7,336,20⟩) (.int 1 ⟨336,24,336,25⟩) ⟨336,7,336,25⟩) [
    .ret (.bin .Add (.str "hands " ⟨337,15,337,23⟩) (.bltn "str" [.loc "_law_many" ⟨337,30,337,39⟩] ⟨337,26,337,29⟩ ⟨337,26,337,40⟩) ⟨337,15,337,40⟩) ⟨337,8,337,40⟩] [] ⟨336,4,337,40⟩,
  .assign "_law_some" (.list [.str "" ⟨338,17,338,19⟩,.str "hands" ⟨338,21,338,28⟩,.str "hands 0" ⟨338,30,338,39⟩,.str "hands 61" ⟨338,41,338,51⟩,.str "hands -1" ⟨338,53,338,63⟩,.str "hands 01" ⟨338,65,338,75⟩,.str "hand 3" ⟨338,77,338,85⟩,.str "hands 3 " ⟨338,87,338,97⟩,.str "Hands 3" ⟨338,99,338,108⟩,.str "hands  3" ⟨338,110,338,120⟩] ⟨338,16,338,121⟩) ⟨338,4,338,13⟩ ⟨338,4,338,121⟩,
  .assign "_law_some" (.bin .Add (.loc "_law_some" ⟨339,16,339,25⟩) (.list [.str "hands x" ⟨339,29,339,38⟩,.str "begin 3" ⟨339,40,339,49⟩,.str " hands 3" ⟨339,51,339,61⟩,.str "hands 3 3" ⟨339,63,339,74⟩,.bin .Add (.str "hands 1" ⟨339,76,339,85⟩) (.bin .Mult (.str "0" ⟨339,88,339,91⟩) (.int 60 ⟨339,94,339,96⟩) ⟨339,88,339,96⟩) ⟨339,76,339,96⟩] ⟨339,28,339,97⟩) ⟨339,16,339,97⟩) ⟨339,4,339,13⟩ ⟨339,4,339,97⟩,
  .ret (.sub (.loc "_law_some" ⟨340,11,340,20⟩) (.bin .Mod (.bin .FloorDiv (.loc "_law_cell" ⟨340,21,340,30⟩) (.int 8 ⟨340,34,340,35⟩) ⟨340,21,340,35⟩) (.bltn "len" [.loc "_law_some" ⟨340,42,340,51⟩] ⟨340,38,340,41⟩ ⟨340,38,340,52⟩) ⟨340,21,340,52⟩) ⟨340,11,340,53⟩) ⟨340,4,340,53⟩]
noncomputable def p__law_first : List String:=["_law_cell","_law_many"]
noncomputable def b__law_answer : List S:=[
  .ite (.isi (.loc "_law_found" ⟨342,18,342,28⟩) (.ty "list") ⟨342,7,342,17⟩ ⟨342,30,342,34⟩ ⟨342,7,342,35⟩) [
    .ite (.cmp .Eq (.loc "_law_found" ⟨343,11,343,21⟩) (.list [] ⟨343,25,343,27⟩) ⟨343,11,343,27⟩) [
      .ret (.str "nothing" ⟨344,19,344,28⟩) ⟨344,12,344,28⟩] [] ⟨343,8,344,28⟩,
    .ret (.meth (.str "; " ⟨345,15,345,19⟩) "join" [.comp (.call "_law_text" [.loc "_law_row" ⟨345,36,345,44⟩] ⟨345,26,345,35⟩ ⟨345,26,345,45⟩) "_law_row" [] (.loc "_law_found" ⟨345,62,345,72⟩) [] ({kind:=.function,names:=[(Str.ofString ".0",.local),(Str.ofString "_law_row",.local),(Str.ofString "_law_text",.globalImplicit)],isGenerator:=false,isCoroutine:=false,more:=[]}) ⟨345,50,345,58⟩ ⟨345,25,345,73⟩] ⟨345,15,345,24⟩ ⟨345,15,345,74⟩) ⟨345,8,345,74⟩] [] ⟨342,4,345,74⟩,
  .ret (.bin .Add (.str "refused " ⟨346,11,346,21⟩) (.sub (.loc "_law_found" ⟨346,24,346,34⟩) (.int 1 ⟨346,35,346,36⟩) ⟨346,24,346,37⟩) ⟨346,11,346,37⟩) ⟨346,4,346,37⟩]
noncomputable def p__law_answer : List String:=["_law_found"]
noncomputable def b_law : List S:=[
  .assign "_law_many" (.call "_law_many_by" [.call "_law_cell_at" [.loc "_law_script" ⟨348,42,348,53⟩,.int 0 ⟨348,55,348,56⟩] ⟨348,29,348,41⟩ ⟨348,29,348,57⟩] ⟨348,16,348,28⟩ ⟨348,16,348,58⟩) ⟨348,4,348,13⟩ ⟨348,4,348,58⟩,
  .assign "_law_state" (.call "_law_fresh" [.loc "_law_many" ⟨349,28,349,37⟩] ⟨349,17,349,27⟩ ⟨349,17,349,38⟩) ⟨349,4,349,14⟩ ⟨349,4,349,38⟩,
  .assign "_law_lines" (.list [.call "_law_first" [.call "_law_cell_at" [.loc "_law_script" ⟨350,42,350,53⟩,.int 1 ⟨350,55,350,56⟩] ⟨350,29,350,41⟩ ⟨350,29,350,57⟩,.loc "_law_many" ⟨350,59,350,68⟩] ⟨350,18,350,28⟩ ⟨350,18,350,69⟩] ⟨350,17,350,70⟩) ⟨350,4,350,14⟩ ⟨350,4,350,70⟩,
  .assign "_law_dues" (.list [] ⟨351,16,351,18⟩) ⟨351,4,351,13⟩ ⟨351,4,351,18⟩,
  .for_ "_law_k" (.bltn "range" [.bin .Mod (.call "_law_cell_at" [.loc "_law_script" ⟨352,37,352,48⟩,.int 2 ⟨352,50,352,51⟩] ⟨352,24,352,36⟩ ⟨352,24,352,52⟩) (.int 51 ⟨352,55,352,57⟩) ⟨352,24,352,57⟩] ⟨352,18,352,23⟩ ⟨352,18,352,58⟩) [
    .assign "_law_number" (.call "_law_mixed" [.loc "_law_script" ⟨353,33,353,44⟩,.bin .Add (.int 3 ⟨353,46,353,47⟩) (.loc "_law_k" ⟨353,50,353,56⟩) ⟨353,46,353,56⟩] ⟨353,22,353,32⟩ ⟨353,22,353,57⟩) ⟨353,8,353,19⟩ ⟨353,8,353,57⟩,
    .assign "_law_deed" (.call "_law_deed_by" [.loc "_law_state" ⟨354,33,354,43⟩,.bin .FloorDiv (.loc "_law_number" ⟨354,45,354,56⟩) (.int 8 ⟨354,60,354,61⟩) ⟨354,45,354,61⟩] ⟨354,20,354,32⟩ ⟨354,20,354,62⟩) ⟨354,8,354,17⟩ ⟨354,8,354,62⟩,
    .assign "_law_line" (.call "_law_text" [.loc "_law_deed" ⟨355,30,355,39⟩] ⟨355,20,355,29⟩ ⟨355,20,355,40⟩) ⟨355,8,355,17⟩ ⟨355,8,355,40⟩,
    .ite (.cmp .Eq (.bin .Mod (.loc "_law_number" ⟨356,11,356,22⟩) (.int 8 ⟨356,25,356,26⟩) ⟨356,11,356,26⟩) (.int 5 ⟨356,30,356,31⟩) ⟨356,11,356,31⟩) [
      .expr (.meth (.loc "_law_lines" ⟨357,12,357,22⟩) "append" [.call "_law_no_row" [.loc "_law_line" ⟨357,42,357,51⟩,.bin .FloorDiv (.loc "_law_number" ⟨357,53,357,64⟩) (.int 8 ⟨357,68,357,69⟩) ⟨357,53,357,69⟩] ⟨357,30,357,41⟩ ⟨357,30,357,70⟩] ⟨357,12,357,29⟩ ⟨357,12,357,71⟩) ⟨357,12,357,71⟩,
      .expr (.meth (.loc "_law_dues" ⟨358,12,358,21⟩) "append" [.str "no row" ⟨358,29,358,37⟩] ⟨358,12,358,28⟩ ⟨358,12,358,38⟩) ⟨358,12,358,38⟩] [
      .expr (.meth (.loc "_law_lines" ⟨360,12,360,22⟩) "append" [.loc "_law_line" ⟨360,30,360,39⟩] ⟨360,12,360,29⟩ ⟨360,12,360,40⟩) ⟨360,12,360,40⟩,
      .expr (.meth (.loc "_law_dues" ⟨361,12,361,21⟩) "append" [.call "_law_answer" [.call "_law_due" [.loc "_law_state" ⟨361,50,361,60⟩,.loc "_law_deed" ⟨361,62,361,71⟩] ⟨361,41,361,49⟩ ⟨361,41,361,72⟩] ⟨361,29,361,40⟩ ⟨361,29,361,73⟩] ⟨361,12,361,28⟩ ⟨361,12,361,74⟩) ⟨361,12,361,74⟩] ⟨356,8,361,74⟩] ⟨352,8,352,14⟩ ⟨352,4,361,74⟩,
  .ite (.cmp .Eq (.bin .Mod (.call "_law_cell_at" [.loc "_law_script" ⟨362,20,362,31⟩,.int 1 ⟨362,33,362,34⟩] ⟨362,7,362,19⟩ ⟨362,7,362,35⟩) (.int 8 ⟨362,38,362,39⟩) ⟨362,7,362,39⟩) (.int 1 ⟨362,43,362,44⟩) ⟨362,7,362,44⟩) [
    .assign "_law_dues" (.list [.str "no hands" ⟨363,21,363,31⟩] ⟨363,20,363,32⟩) ⟨363,8,363,17⟩ ⟨363,8,363,32⟩] [] ⟨362,4,363,32⟩,
  .assign "_law_text_here" (.meth (.str "\n" ⟨364,21,364,25⟩) "join" [.loc "_law_lines" ⟨364,31,364,41⟩] ⟨364,21,364,30⟩ ⟨364,21,364,42⟩) ⟨364,4,364,18⟩ ⟨364,4,364,42⟩,
  .ite (.not (.call "_law_alike" [.call "answered" [.loc "_law_text_here" ⟨365,31,365,45⟩] ⟨365,22,365,30⟩ ⟨365,22,365,46⟩,.loc "_law_dues" ⟨365,48,365,57⟩] ⟨365,11,365,21⟩ ⟨365,11,365,58⟩) ⟨365,7,365,58⟩) [
    .ret (.bool false ⟨366,15,366,20⟩) ⟨366,8,366,20⟩] [] ⟨365,4,366,20⟩,
  .ite (.not (.call "_law_alike" [.call "answered" [.str "hands 1\nbegin 2\ndo 0\n" ⟨367,31,367,57⟩] ⟨367,22,367,30⟩ ⟨367,22,367,58⟩,.list [.str "begun 2" ⟨367,61,367,70⟩,.str "nothing" ⟨367,72,367,81⟩,.str "no row" ⟨367,83,367,91⟩] ⟨367,60,367,92⟩] ⟨367,11,367,21⟩ ⟨367,11,367,93⟩) ⟨367,7,367,93⟩) [
    .ret (.bool false ⟨368,15,368,20⟩) ⟨368,8,368,20⟩] [] ⟨367,4,368,20⟩,
  .ret (.call "_law_alike" [.call "answered" [.loc "_law_text_here" ⟨369,31,369,45⟩] ⟨369,22,369,30⟩ ⟨369,22,369,46⟩,.loc "_law_dues" ⟨369,48,369,57⟩] ⟨369,11,369,21⟩ ⟨369,11,369,58⟩) ⟨369,4,369,58⟩]
noncomputable def p_law : List String:=["_law_script"]
noncomputable def sg : Sig := { fns := ["_law_alike", "_law_answer", "_law_begun", "_law_carried", "_law_cell_at", "_law_deed_by", "_law_due", "_law_first", "_law_freed", "_law_fresh", "_law_many_by", "_law_mixed", "_law_no_row", "_law_text", "_law_whole", "_law_wrong_by", "answer_of", "answered", "company_of", "done", "is_from", "number_of", "read", "shown", "tried"], clss := ["Company", "Post"], attrs := ["going", "known", "pieces", "post", "rows", "tallies", "waits", "wakers"], meths := [("Post", "put"), ("Post", "take"), ("Post", "under"), ("Company", "need_hand"), ("Company", "is_in"), ("Company", "noted"), ("Company", "settled"), ("Company", "begin"), ("Company", "do"), ("Company", "hand_on"), ("Company", "letter_came"), ("Company", "carry"), ("Company", "hand"), ("Company", "under"), ("Company", "runs"), ("Company", "log")], excs := ["Begun", "DebtError", "NoCompany", "NoHand", "NoPlace", "NoRow", "NoWork"], consts := [("FIGURES", .str (Str.ofString "0123456789")), ("MOST_FIGURES", .int 60), ("MOST_HANDS", .int 60), ("MOST_PIECES", .int 999999), ("PARTS", .gd parts)] }
noncomputable def clsT : List (String × Addr) := [("Company", 270), ("Post", 151)]
noncomputable def excT : List (String × Addr) := [("Begun", 92), ("DebtError", 31), ("NoCompany", 44), ("NoHand", 56), ("NoPlace", 80), ("NoRow", 104), ("NoWork", 68)]
noncomputable def fnT : List (String × Addr) := [("Post.__init__", 127), ("Post.put", 134), ("Post.take", 141), ("Post.under", 148), ("Company.__init__", 169), ("Company.need_hand", 183), ("Company.is_in", 190), ("Company.noted", 197), ("Company.settled", 204), ("Company.begin", 211), ("Company.do", 218), ("Company.hand_on", 225), ("Company.letter_came", 232), ("Company.carry", 239), ("Company.hand", 246), ("Company.under", 253), ("Company.runs", 260), ("Company.log", 267), ("is_from", 113), ("done", 281), ("tried", 288), ("shown", 294), ("number_of", 301), ("read", 306), ("company_of", 313), ("answer_of", 318), ("answered", 323), ("_law_cell_at", 330), ("_law_mixed", 337), ("_law_whole", 344), ("_law_alike", 351), ("_law_many_by", 358), ("_law_fresh", 365), ("_law_freed", 372), ("_law_carried", 379), ("_law_begun", 386), ("_law_due", 393), ("_law_wrong_by", 400), ("_law_deed_by", 405), ("_law_text", 412), ("_law_no_row", 419), ("_law_first", 426), ("_law_answer", 431), ("law", 438)]
noncomputable abbrev ctx (w : World) (base : Heap) : Ctx := ctxOf Challenge.rw_uf040019_14.row.prog w (Kq w.params) base clsT excT fnT
theorem chk (P : Params) : chkGood (Kq P) sg clsT excT fnT = true := by kernel_rfl
section
variable {w : World} {base : Heap} {p : Program} {loose : List Str} {mg mb : Str → Option Value}
theorem gdq (X : (Kq w.params).In base) : ∀ x kvs, sg.consts.lookup x = some (.gd kvs) → GdOk Challenge.rw_uf040019_14.row.prog w (Kq w.params) base x kvs := by
  intro x kvs h
  have hm := lookup_mem h
  simp only [sg, List.mem_cons, Prod.mk.injEq, List.not_mem_nil, or_false, reduceCtorEq, and_false, false_or, V.gd.injEq] at hm
  obtain ⟨rfl, rfl⟩ := hm
  exact gd_of (a := 289) (es := [⟨PyData.keyHash w.params (Str.ofString "begin"), .str (Str.ofString "begin") 559, .int 1 560⟩, ⟨PyData.keyHash w.params (Str.ofString "do"), .str (Str.ofString "do") 561, .int 1 562⟩, ⟨PyData.keyHash w.params (Str.ofString "hand"), .str (Str.ofString "hand") 563, .int 3 564⟩, ⟨PyData.keyHash w.params (Str.ofString "carry"), .str (Str.ofString "carry") 565, .int 1 566⟩]) (ep := 4) X (by kernel_rfl) (by kernel_rfl) (.cons (.cons (.cons (.cons .nil)))) (by decide) (by decide)
theorem good (X : (Kq w.params).In base) (T : TopRead p loose mg mb base) : Good (ctx w base) sg := good_of X T (chk w.params) (gdq X)
theorem d_Post___init__ (X : (Kq w.params).In base) (T : TopRead p loose mg mb base) : Def (ctx w base) sg "Post.__init__" p_Post___init__ b_Post___init__ := def_of (fa := 127) X T.nolimit rfl (by kernel_rfl) (by kernel_rfl) (by kernel_rfl) (len1 fun a0 => by kernel_rfl)
theorem d_Post_put (X : (Kq w.params).In base) (T : TopRead p loose mg mb base) : Def (ctx w base) sg "Post.put" p_Post_put b_Post_put := def_of (fa := 134) X T.nolimit rfl (by kernel_rfl) (by kernel_rfl) (by kernel_rfl) (len2 fun a0 a1 => by kernel_rfl)
theorem d_Post_take (X : (Kq w.params).In base) (T : TopRead p loose mg mb base) : Def (ctx w base) sg "Post.take" p_Post_take b_Post_take := def_of (fa := 141) X T.nolimit rfl (by kernel_rfl) (by kernel_rfl) (by kernel_rfl) (len2 fun a0 a1 => by kernel_rfl)
theorem d_Company___init__ (X : (Kq w.params).In base) (T : TopRead p loose mg mb base) : Def (ctx w base) sg "Company.__init__" p_Company___init__ b_Company___init__ := def_of (fa := 169) X T.nolimit rfl (by kernel_rfl) (by kernel_rfl) (by kernel_rfl) (len2 fun a0 a1 => by kernel_rfl)
theorem d_Company_need_hand (X : (Kq w.params).In base) (T : TopRead p loose mg mb base) : Def (ctx w base) sg "Company.need_hand" p_Company_need_hand b_Company_need_hand := def_of (fa := 183) X T.nolimit rfl (by kernel_rfl) (by kernel_rfl) (by kernel_rfl) (len2 fun a0 a1 => by kernel_rfl)
theorem d_Company_is_in (X : (Kq w.params).In base) (T : TopRead p loose mg mb base) : Def (ctx w base) sg "Company.is_in" p_Company_is_in b_Company_is_in := def_of (fa := 190) X T.nolimit rfl (by kernel_rfl) (by kernel_rfl) (by kernel_rfl) (len2 fun a0 a1 => by kernel_rfl)
theorem d_Company_noted (X : (Kq w.params).In base) (T : TopRead p loose mg mb base) : Def (ctx w base) sg "Company.noted" p_Company_noted b_Company_noted := def_of (fa := 197) X T.nolimit rfl (by kernel_rfl) (by kernel_rfl) (by kernel_rfl) (len2 fun a0 a1 => by kernel_rfl)
theorem d_Company_settled (X : (Kq w.params).In base) (T : TopRead p loose mg mb base) : Def (ctx w base) sg "Company.settled" p_Company_settled b_Company_settled := def_of (fa := 204) X T.nolimit rfl (by kernel_rfl) (by kernel_rfl) (by kernel_rfl) (len2 fun a0 a1 => by kernel_rfl)
theorem d_Company_begin (X : (Kq w.params).In base) (T : TopRead p loose mg mb base) : Def (ctx w base) sg "Company.begin" p_Company_begin b_Company_begin := def_of (fa := 211) X T.nolimit rfl (by kernel_rfl) (by kernel_rfl) (by kernel_rfl) (len2 fun a0 a1 => by kernel_rfl)
theorem d_Company_do (X : (Kq w.params).In base) (T : TopRead p loose mg mb base) : Def (ctx w base) sg "Company.do" p_Company_do b_Company_do := def_of (fa := 218) X T.nolimit rfl (by kernel_rfl) (by kernel_rfl) (by kernel_rfl) (len2 fun a0 a1 => by kernel_rfl)
theorem d_Company_hand_on (X : (Kq w.params).In base) (T : TopRead p loose mg mb base) : Def (ctx w base) sg "Company.hand_on" p_Company_hand_on b_Company_hand_on := def_of (fa := 225) X T.nolimit rfl (by kernel_rfl) (by kernel_rfl) (by kernel_rfl) (len4 fun a0 a1 a2 a3 => by kernel_rfl)
theorem d_Company_letter_came (X : (Kq w.params).In base) (T : TopRead p loose mg mb base) : Def (ctx w base) sg "Company.letter_came" p_Company_letter_came b_Company_letter_came := def_of (fa := 232) X T.nolimit rfl (by kernel_rfl) (by kernel_rfl) (by kernel_rfl) (len2 fun a0 a1 => by kernel_rfl)
theorem d_Company_carry (X : (Kq w.params).In base) (T : TopRead p loose mg mb base) : Def (ctx w base) sg "Company.carry" p_Company_carry b_Company_carry := def_of (fa := 239) X T.nolimit rfl (by kernel_rfl) (by kernel_rfl) (by kernel_rfl) (len2 fun a0 a1 => by kernel_rfl)
theorem d_is_from (X : (Kq w.params).In base) (T : TopRead p loose mg mb base) : Def (ctx w base) sg "is_from" p_is_from b_is_from := def_of (fa := 113) X T.nolimit rfl (by kernel_rfl) (by kernel_rfl) (by kernel_rfl) (len3 fun a0 a1 a2 => by kernel_rfl)
theorem d_done (X : (Kq w.params).In base) (T : TopRead p loose mg mb base) : Def (ctx w base) sg "done" p_done b_done := def_of (fa := 281) X T.nolimit rfl (by kernel_rfl) (by kernel_rfl) (by kernel_rfl) (len2 fun a0 a1 => by kernel_rfl)
theorem d_tried (X : (Kq w.params).In base) (T : TopRead p loose mg mb base) : Def (ctx w base) sg "tried" p_tried b_tried := def_of (fa := 288) X T.nolimit rfl (by kernel_rfl) (by kernel_rfl) (by kernel_rfl) (len2 fun a0 a1 => by kernel_rfl)
theorem d_shown (X : (Kq w.params).In base) (T : TopRead p loose mg mb base) : Def (ctx w base) sg "shown" p_shown b_shown := def_of (fa := 294) X T.nolimit rfl (by kernel_rfl) (by kernel_rfl) (by kernel_rfl) (len1 fun a0 => by kernel_rfl)
theorem d_number_of (X : (Kq w.params).In base) (T : TopRead p loose mg mb base) : Def (ctx w base) sg "number_of" p_number_of b_number_of := def_of (fa := 301) X T.nolimit rfl (by kernel_rfl) (by kernel_rfl) (by kernel_rfl) (len1 fun a0 => by kernel_rfl)
theorem d_read (X : (Kq w.params).In base) (T : TopRead p loose mg mb base) : Def (ctx w base) sg "read" p_read b_read := def_of (fa := 306) X T.nolimit rfl (by kernel_rfl) (by kernel_rfl) (by kernel_rfl) (len1 fun a0 => by kernel_rfl)
theorem d_company_of (X : (Kq w.params).In base) (T : TopRead p loose mg mb base) : Def (ctx w base) sg "company_of" p_company_of b_company_of := def_of (fa := 313) X T.nolimit rfl (by kernel_rfl) (by kernel_rfl) (by kernel_rfl) (len1 fun a0 => by kernel_rfl)
theorem d_answer_of (X : (Kq w.params).In base) (T : TopRead p loose mg mb base) : Def (ctx w base) sg "answer_of" p_answer_of b_answer_of := def_of (fa := 318) X T.nolimit rfl (by kernel_rfl) (by kernel_rfl) (by kernel_rfl) (len2 fun a0 a1 => by kernel_rfl)
theorem d_answered (X : (Kq w.params).In base) (T : TopRead p loose mg mb base) : Def (ctx w base) sg "answered" p_answered b_answered := def_of (fa := 323) X T.nolimit rfl (by kernel_rfl) (by kernel_rfl) (by kernel_rfl) (len1 fun a0 => by kernel_rfl)
theorem d__law_cell_at (X : (Kq w.params).In base) (T : TopRead p loose mg mb base) : Def (ctx w base) sg "_law_cell_at" p__law_cell_at b__law_cell_at := def_of (fa := 330) X T.nolimit rfl (by kernel_rfl) (by kernel_rfl) (by kernel_rfl) (len2 fun a0 a1 => by kernel_rfl)
theorem d__law_mixed (X : (Kq w.params).In base) (T : TopRead p loose mg mb base) : Def (ctx w base) sg "_law_mixed" p__law_mixed b__law_mixed := def_of (fa := 337) X T.nolimit rfl (by kernel_rfl) (by kernel_rfl) (by kernel_rfl) (len2 fun a0 a1 => by kernel_rfl)
theorem d__law_alike (X : (Kq w.params).In base) (T : TopRead p loose mg mb base) : Def (ctx w base) sg "_law_alike" p__law_alike b__law_alike := def_of (fa := 351) X T.nolimit rfl (by kernel_rfl) (by kernel_rfl) (by kernel_rfl) (len2 fun a0 a1 => by kernel_rfl)
theorem d__law_many_by (X : (Kq w.params).In base) (T : TopRead p loose mg mb base) : Def (ctx w base) sg "_law_many_by" p__law_many_by b__law_many_by := def_of (fa := 358) X T.nolimit rfl (by kernel_rfl) (by kernel_rfl) (by kernel_rfl) (len1 fun a0 => by kernel_rfl)
theorem d__law_fresh (X : (Kq w.params).In base) (T : TopRead p loose mg mb base) : Def (ctx w base) sg "_law_fresh" p__law_fresh b__law_fresh := def_of (fa := 365) X T.nolimit rfl (by kernel_rfl) (by kernel_rfl) (by kernel_rfl) (len1 fun a0 => by kernel_rfl)
theorem d__law_freed (X : (Kq w.params).In base) (T : TopRead p loose mg mb base) : Def (ctx w base) sg "_law_freed" p__law_freed b__law_freed := def_of (fa := 372) X T.nolimit rfl (by kernel_rfl) (by kernel_rfl) (by kernel_rfl) (len2 fun a0 a1 => by kernel_rfl)
theorem d__law_carried (X : (Kq w.params).In base) (T : TopRead p loose mg mb base) : Def (ctx w base) sg "_law_carried" p__law_carried b__law_carried := def_of (fa := 379) X T.nolimit rfl (by kernel_rfl) (by kernel_rfl) (by kernel_rfl) (len2 fun a0 a1 => by kernel_rfl)
theorem d__law_begun (X : (Kq w.params).In base) (T : TopRead p loose mg mb base) : Def (ctx w base) sg "_law_begun" p__law_begun b__law_begun := def_of (fa := 386) X T.nolimit rfl (by kernel_rfl) (by kernel_rfl) (by kernel_rfl) (len2 fun a0 a1 => by kernel_rfl)
theorem d__law_due (X : (Kq w.params).In base) (T : TopRead p loose mg mb base) : Def (ctx w base) sg "_law_due" p__law_due b__law_due := def_of (fa := 393) X T.nolimit rfl (by kernel_rfl) (by kernel_rfl) (by kernel_rfl) (len2 fun a0 a1 => by kernel_rfl)
theorem d__law_wrong_by (X : (Kq w.params).In base) (T : TopRead p loose mg mb base) : Def (ctx w base) sg "_law_wrong_by" p__law_wrong_by b__law_wrong_by := def_of (fa := 400) X T.nolimit rfl (by kernel_rfl) (by kernel_rfl) (by kernel_rfl) (len2 fun a0 a1 => by kernel_rfl)
theorem d__law_deed_by (X : (Kq w.params).In base) (T : TopRead p loose mg mb base) : Def (ctx w base) sg "_law_deed_by" p__law_deed_by b__law_deed_by := def_of (fa := 405) X T.nolimit rfl (by kernel_rfl) (by kernel_rfl) (by kernel_rfl) (len2 fun a0 a1 => by kernel_rfl)
theorem d__law_text (X : (Kq w.params).In base) (T : TopRead p loose mg mb base) : Def (ctx w base) sg "_law_text" p__law_text b__law_text := def_of (fa := 412) X T.nolimit rfl (by kernel_rfl) (by kernel_rfl) (by kernel_rfl) (len1 fun a0 => by kernel_rfl)
theorem d__law_no_row (X : (Kq w.params).In base) (T : TopRead p loose mg mb base) : Def (ctx w base) sg "_law_no_row" p__law_no_row b__law_no_row := def_of (fa := 419) X T.nolimit rfl (by kernel_rfl) (by kernel_rfl) (by kernel_rfl) (len2 fun a0 a1 => by kernel_rfl)
theorem d__law_first (X : (Kq w.params).In base) (T : TopRead p loose mg mb base) : Def (ctx w base) sg "_law_first" p__law_first b__law_first := def_of (fa := 426) X T.nolimit rfl (by kernel_rfl) (by kernel_rfl) (by kernel_rfl) (len2 fun a0 a1 => by kernel_rfl)
theorem d__law_answer (X : (Kq w.params).In base) (T : TopRead p loose mg mb base) : Def (ctx w base) sg "_law_answer" p__law_answer b__law_answer := def_of (fa := 431) X T.nolimit rfl (by kernel_rfl) (by kernel_rfl) (by kernel_rfl) (len1 fun a0 => by kernel_rfl)
theorem d_law (X : (Kq w.params).In base) (T : TopRead p loose mg mb base) : Def (ctx w base) sg "law" p_law b_law := def_of (fa := 438) X T.nolimit rfl (by kernel_rfl) (by kernel_rfl) (by kernel_rfl) (len1 fun a0 => by kernel_rfl)
end
end Mine

namespace Mine
open PySem
set_option hygiene false
local macro_rules | `(tactic| walk_at "w") => do
  let f := fun (s : String) (k : Lean.Ident → Lean.TSyntax `tactic) => (s.splitOn " ").toArray.map fun s => k (Lean.mkIdent s.toName)
  let g := fun (l : Array Lean.Term) (s : Lean.Ident) => (⟨Lean.mkNode `Lean.Parser.Tactic.refine #[Lean.mkAtom "refine", (Lean.Syntax.mkApp s l).raw]⟩ : Lean.TSyntax `tactic)
  let h ← `(?_)
  `(tactic| first | (with_reducible first $[| $(f "e_here k_es1 k_es k_cons k_sub k_cmp k_bin k_asg k_if k_call k_own k_tup k_list k_bltn k_next k_expr k_not k_and k_or k_neg k_retf k_rets k_sqr k_rW k_ite k_si1 k_si2 k_sa k_if1 k_c2a k_c2b k_c2c k_slL1 k_slL k_slU1 k_slU e_int e_bool e_none e_str e_bin e_neg e_not e_and e_or a_one a_cons o_one o_cons e_cmp e_cmp2 e_attr e_sub e_sliceL e_sliceU e_tup e_list e_call e_new e_bltn e_isi e_meth es_nil es_cons tr_in br_t br_f br_nt br_nf int_in add_i sub_i eq_i ne_i lt_i le_i gt_i ge_i len_t len_f s_nil s_expr s_assign s_setattr s_setitem s_if s_ite s_ret fq_ret fq_next sq_next sq_ret str_s notin_s notin_g" (g #[h]) ++ f "e_loc br_dt br_df br_ndt br_ndf" (g #[(← `(by assumption)), h])):tactic]*) | ((with_reducible apply e_loc); · exact rfl) | ((with_reducible apply e_loc); · assumption) | ((with_reducible apply e_glob); · exact rfl) | ((with_reducible apply len_l); · assumption) | ((with_reducible refine e_skip ?_ ?_); · decide) | ((with_reducible refine e_cap ?_ ?_); · decide) | ((with_reducible apply isi_t); · exact rfl) | ((with_reducible apply isi_f); · exact rfl) | ((with_reducible apply getA_in); (· assumption); (· assumption); · exact rfl))
local macro_rules | `(tactic| walk_at "ww") => `(tactic| repeat walk_at "w")
local macro_rules | `(tactic| walk_at "ro") => `(tactic| first | exact loc_here | assumption | (refine loc_skip (by decide) ?_; walk_at "ro"))
local macro_rules | `(tactic| walk_at "x") => `(tactic| first | walk_at "w" | ((with_reducible refine mod_i ?_ ?_); · decide) | ((with_reducible refine div_i ?_ ?_ ?_); (· decide); · decide) | ((with_reducible apply sub_t); · exact rfl) | ((with_reducible apply sub_l); (· assumption); · exact rfl) | ((with_reducible apply meth_lst); (· assumption); · simp) | ((with_reducible apply meth_str); · simp))
local macro_rules | `(tactic| walk_at "xx") => `(tactic| repeat walk_at "x")
set_option hygiene true
set_option autoImplicit false

set_option linter.unusedVariables false
set_option linter.unusedSimpArgs false
open PySem

structure Ad where
  c : Addr
  cd : Addr
  p : Addr
  w : Addr
  k : Addr
  t : Addr
  ps : Addr
  pd : Addr
  rl : Addr
  kn : Addr
noncomputable def Ad.list (a : Ad) : List Addr := [a.c, a.cd, a.p, a.w, a.k, a.t, a.ps, a.pd, a.rl, a.kn]
structure Co where
  P : List Int
  W : List Int
  K : List (Option Int)
  T : List Int
  go : Bool
  kn : List V
  rl : List V
noncomputable def iL (l : List Int) : List V := l.map .int
noncomputable def oV : Option Int → V
  | none => .none
  | some i => .int i
noncomputable def oL (l : List (Option Int)) : List V := l.map oV
noncomputable def atts (a : Ad) (go : Bool) : List (String × V) := [("pieces", .ref a.p), ("waits", .ref a.w), ("wakers", .ref a.k), ("tallies", .ref a.t), ("post", .ref a.ps), ("going", .bool go), ("known", .ref a.kn)]
structure Comp (μ : Mem) (a : Ad) (C : Co) : Prop where
  nd : a.list.Nodup
  c : μ a.c = some (.inst "Company" a.cd)
  cd : μ a.cd = some (.attrs (atts a C.go))
  p : μ a.p = some (.list (iL C.P))
  w : μ a.w = some (.list (iL C.W))
  k : μ a.k = some (.list (oL C.K))
  t : μ a.t = some (.list (iL C.T))
  ps : μ a.ps = some (.inst "Post" a.pd)
  pd : μ a.pd = some (.attrs [("rows", .ref a.rl)])
  rl : μ a.rl = some (.list C.rl)
  kn : μ a.kn = some (.list C.kn)
noncomputable def Off (l : List Addr) (μ μ' : Mem) : Prop := ∀ b o, μ b = some o → b ∉ l → μ' b = some o
theorem Off.trans {l : List Addr} {μ₁ μ₂ μ₃ : Mem} (x : Off l μ₁ μ₂) (y : Off l μ₂ μ₃) : Off l μ₁ μ₃ := fun b o h n => y b o (x b o h n) n
theorem Off.upd {l : List Addr} {μ : Mem} {a : Addr} (h : a ∈ l) (o : O) : Off l μ (updM μ a o) := fun b o' hb n => by
  rw [updM_ne (fun q : b = a => n (q ▸ h))]; exact hb
theorem Off.new {l : List Addr} {μ : Mem} {n : Addr} (h : μ n = none) (o : O) : Off l μ (updM μ n o) := fun b o' hb _ => by
  rw [updM_ne fun q => by rw [q, h] at hb; cases hb]; exact hb
theorem Off.none {l : List Addr} {μ : Mem} {n : Addr} (h : μ n = none) (o : O) {b : Addr} {o' : O} (hb : μ b = some o') : updM μ n o b = some o' := by
  rw [updM_ne fun q => by rw [q, h] at hb; cases hb]; exact hb
theorem Comp.mono {μ μ' : Mem} {a : Ad} {C : Co} (h : Comp μ a C) (k : ∀ b o, μ b = some o → b ∈ a.list → μ' b = some o) : Comp μ' a C :=
  ⟨h.nd, k _ _ h.c (by simp [Ad.list]), k _ _ h.cd (by simp [Ad.list]), k _ _ h.p (by simp [Ad.list]), k _ _ h.w (by simp [Ad.list]), k _ _ h.k (by simp [Ad.list]), k _ _ h.t (by simp [Ad.list]), k _ _ h.ps (by simp [Ad.list]), k _ _ h.pd (by simp [Ad.list]), k _ _ h.rl (by simp [Ad.list]), k _ _ h.kn (by simp [Ad.list])⟩
theorem Comp.new {μ : Mem} {a : Ad} {C : Co} (h : Comp μ a C) {n : Addr} (hn : μ n = none) (o : O) : Comp (updM μ n o) a C := h.mono fun b o' hb _ => Off.none (l := []) hn o hb
theorem Comp.other {μ : Mem} {a : Ad} {C : Co} (h : Comp μ a C) {n : Addr} (hn : n ∉ a.list) (o : O) : Comp (updM μ n o) a C := h.mono fun b o' hb hm => by
  rw [updM_ne (fun q : b = n => hn (q ▸ hm))]; exact hb
theorem Comp.notin {μ : Mem} {a : Ad} {C : Co} (h : Comp μ a C) {n : Addr} (hn : μ n = none) : n ∉ a.list := fun q => by
  simp only [Ad.list, List.mem_cons, List.not_mem_nil, or_false] at q
  rcases q with rfl | rfl | rfl | rfl | rfl | rfl | rfl | rfl | rfl | rfl
  · have := h.c; rw [hn] at this; cases this
  · have := h.cd; rw [hn] at this; cases this
  · have := h.p; rw [hn] at this; cases this
  · have := h.w; rw [hn] at this; cases this
  · have := h.k; rw [hn] at this; cases this
  · have := h.t; rw [hn] at this; cases this
  · have := h.ps; rw [hn] at this; cases this
  · have := h.pd; rw [hn] at this; cases this
  · have := h.rl; rw [hn] at this; cases this
  · have := h.kn; rw [hn] at this; cases this

theorem nd_ne {l : List Addr} (h : l.Nodup) {i j : Nat} {x y : Addr} (hi : l[i]? = some x) (hj : l[j]? = some y) (n : (i == j) = false) : x ≠ y := fun q => by
  obtain ⟨h1, e1⟩ := List.getElem?_eq_some_iff.mp hi
  obtain ⟨h2, e2⟩ := List.getElem?_eq_some_iff.mp hj
  have : i = j := (List.getElem_inj h).mp (by rw [e1, e2, q])
  subst this
  simp at n
theorem nd_set : ∀ (l : List Addr) (i : Nat) (n : Addr), l.Nodup → n ∉ l → (l.set i n).Nodup
  | [], _, _, h, _ => h
  | a :: l, 0, n, h, hn => by
    rw [List.set_cons_zero, List.nodup_cons]
    exact ⟨fun q => hn (.tail _ q), (List.nodup_cons.mp h).2⟩
  | a :: l, i + 1, n, h, hn => by
    have h := List.nodup_cons.mp h
    rw [List.set_cons_succ, List.nodup_cons]
    refine ⟨fun q => ?_, nd_set l i n h.2 fun q => hn (.tail _ q)⟩
    rcases List.mem_or_eq_of_mem_set q with q | q
    · exact h.1 q
    · exact hn (q ▸ .head _)
section
variable {μ : Mem} {a : Ad} {C : Co}
theorem Comp.setP (h : Comp μ a C) (l : List Int) : Comp (updM μ a.p (.list (iL l))) a { C with P := l } := ⟨h.nd, mem_skip (nd_ne h.nd (i := 0) (j := 2) rfl rfl rfl) h.c, mem_skip (nd_ne h.nd (i := 1) (j := 2) rfl rfl rfl) h.cd, mem_here, mem_skip (nd_ne h.nd (i := 3) (j := 2) rfl rfl rfl) h.w, mem_skip (nd_ne h.nd (i := 4) (j := 2) rfl rfl rfl) h.k, mem_skip (nd_ne h.nd (i := 5) (j := 2) rfl rfl rfl) h.t, mem_skip (nd_ne h.nd (i := 6) (j := 2) rfl rfl rfl) h.ps, mem_skip (nd_ne h.nd (i := 7) (j := 2) rfl rfl rfl) h.pd, mem_skip (nd_ne h.nd (i := 8) (j := 2) rfl rfl rfl) h.rl, mem_skip (nd_ne h.nd (i := 9) (j := 2) rfl rfl rfl) h.kn⟩
theorem Comp.setW (h : Comp μ a C) (l : List Int) : Comp (updM μ a.w (.list (iL l))) a { C with W := l } := ⟨h.nd, mem_skip (nd_ne h.nd (i := 0) (j := 3) rfl rfl rfl) h.c, mem_skip (nd_ne h.nd (i := 1) (j := 3) rfl rfl rfl) h.cd, mem_skip (nd_ne h.nd (i := 2) (j := 3) rfl rfl rfl) h.p, mem_here, mem_skip (nd_ne h.nd (i := 4) (j := 3) rfl rfl rfl) h.k, mem_skip (nd_ne h.nd (i := 5) (j := 3) rfl rfl rfl) h.t, mem_skip (nd_ne h.nd (i := 6) (j := 3) rfl rfl rfl) h.ps, mem_skip (nd_ne h.nd (i := 7) (j := 3) rfl rfl rfl) h.pd, mem_skip (nd_ne h.nd (i := 8) (j := 3) rfl rfl rfl) h.rl, mem_skip (nd_ne h.nd (i := 9) (j := 3) rfl rfl rfl) h.kn⟩
theorem Comp.setK (h : Comp μ a C) (l : List (Option Int)) : Comp (updM μ a.k (.list (oL l))) a { C with K := l } := ⟨h.nd, mem_skip (nd_ne h.nd (i := 0) (j := 4) rfl rfl rfl) h.c, mem_skip (nd_ne h.nd (i := 1) (j := 4) rfl rfl rfl) h.cd, mem_skip (nd_ne h.nd (i := 2) (j := 4) rfl rfl rfl) h.p, mem_skip (nd_ne h.nd (i := 3) (j := 4) rfl rfl rfl) h.w, mem_here, mem_skip (nd_ne h.nd (i := 5) (j := 4) rfl rfl rfl) h.t, mem_skip (nd_ne h.nd (i := 6) (j := 4) rfl rfl rfl) h.ps, mem_skip (nd_ne h.nd (i := 7) (j := 4) rfl rfl rfl) h.pd, mem_skip (nd_ne h.nd (i := 8) (j := 4) rfl rfl rfl) h.rl, mem_skip (nd_ne h.nd (i := 9) (j := 4) rfl rfl rfl) h.kn⟩
theorem Comp.setT (h : Comp μ a C) (l : List Int) : Comp (updM μ a.t (.list (iL l))) a { C with T := l } := ⟨h.nd, mem_skip (nd_ne h.nd (i := 0) (j := 5) rfl rfl rfl) h.c, mem_skip (nd_ne h.nd (i := 1) (j := 5) rfl rfl rfl) h.cd, mem_skip (nd_ne h.nd (i := 2) (j := 5) rfl rfl rfl) h.p, mem_skip (nd_ne h.nd (i := 3) (j := 5) rfl rfl rfl) h.w, mem_skip (nd_ne h.nd (i := 4) (j := 5) rfl rfl rfl) h.k, mem_here, mem_skip (nd_ne h.nd (i := 6) (j := 5) rfl rfl rfl) h.ps, mem_skip (nd_ne h.nd (i := 7) (j := 5) rfl rfl rfl) h.pd, mem_skip (nd_ne h.nd (i := 8) (j := 5) rfl rfl rfl) h.rl, mem_skip (nd_ne h.nd (i := 9) (j := 5) rfl rfl rfl) h.kn⟩
theorem Comp.setRl (h : Comp μ a C) (l : List V) : Comp (updM μ a.rl (.list l)) a { C with rl := l } := ⟨h.nd, mem_skip (nd_ne h.nd (i := 0) (j := 8) rfl rfl rfl) h.c, mem_skip (nd_ne h.nd (i := 1) (j := 8) rfl rfl rfl) h.cd, mem_skip (nd_ne h.nd (i := 2) (j := 8) rfl rfl rfl) h.p, mem_skip (nd_ne h.nd (i := 3) (j := 8) rfl rfl rfl) h.w, mem_skip (nd_ne h.nd (i := 4) (j := 8) rfl rfl rfl) h.k, mem_skip (nd_ne h.nd (i := 5) (j := 8) rfl rfl rfl) h.t, mem_skip (nd_ne h.nd (i := 6) (j := 8) rfl rfl rfl) h.ps, mem_skip (nd_ne h.nd (i := 7) (j := 8) rfl rfl rfl) h.pd, mem_here, mem_skip (nd_ne h.nd (i := 9) (j := 8) rfl rfl rfl) h.kn⟩
theorem Comp.setKn (h : Comp μ a C) (l : List V) : Comp (updM μ a.kn (.list l)) a { C with kn := l } := ⟨h.nd, mem_skip (nd_ne h.nd (i := 0) (j := 9) rfl rfl rfl) h.c, mem_skip (nd_ne h.nd (i := 1) (j := 9) rfl rfl rfl) h.cd, mem_skip (nd_ne h.nd (i := 2) (j := 9) rfl rfl rfl) h.p, mem_skip (nd_ne h.nd (i := 3) (j := 9) rfl rfl rfl) h.w, mem_skip (nd_ne h.nd (i := 4) (j := 9) rfl rfl rfl) h.k, mem_skip (nd_ne h.nd (i := 5) (j := 9) rfl rfl rfl) h.t, mem_skip (nd_ne h.nd (i := 6) (j := 9) rfl rfl rfl) h.ps, mem_skip (nd_ne h.nd (i := 7) (j := 9) rfl rfl rfl) h.pd, mem_skip (nd_ne h.nd (i := 8) (j := 9) rfl rfl rfl) h.rl, mem_here⟩
theorem Comp.setGo (h : Comp μ a C) (b : Bool) : Comp (updM μ a.cd (.attrs (atts a b))) a { C with go := b } := ⟨h.nd, mem_skip (nd_ne h.nd (i := 0) (j := 1) rfl rfl rfl) h.c, mem_here, mem_skip (nd_ne h.nd (i := 2) (j := 1) rfl rfl rfl) h.p, mem_skip (nd_ne h.nd (i := 3) (j := 1) rfl rfl rfl) h.w, mem_skip (nd_ne h.nd (i := 4) (j := 1) rfl rfl rfl) h.k, mem_skip (nd_ne h.nd (i := 5) (j := 1) rfl rfl rfl) h.t, mem_skip (nd_ne h.nd (i := 6) (j := 1) rfl rfl rfl) h.ps, mem_skip (nd_ne h.nd (i := 7) (j := 1) rfl rfl rfl) h.pd, mem_skip (nd_ne h.nd (i := 8) (j := 1) rfl rfl rfl) h.rl, mem_skip (nd_ne h.nd (i := 9) (j := 1) rfl rfl rfl) h.kn⟩
end
theorem iL_length (l : List Int) : (iL l).length = l.length := List.length_map ..
theorem oL_length (l : List (Option Int)) : (oL l).length = l.length := List.length_map ..
theorem idx_iL {l : List Int} {i : Int} (h0 : 0 ≤ i) (h1 : i < l.length) : idx (iL l) i = some (.int (l.getD i.toNat 0)) := by
  unfold idx iL
  rw [if_pos h0, List.getElem?_map, List.getD_eq_getElem?_getD, List.getElem?_eq_getElem (by omega)]; rfl
theorem idx_oL {l : List (Option Int)} {i : Int} (h0 : 0 ≤ i) (h1 : i < l.length) : idx (oL l) i = some (oV (l.getD i.toNat none)) := by
  unfold idx oL
  rw [if_pos h0, List.getElem?_map, List.getD_eq_getElem?_getD, List.getElem?_eq_getElem (by omega)]; rfl
theorem iL_set (l : List Int) (n : Nat) (v : Int) : (iL l).set n (.int v) = iL (l.set n v) := by unfold iL; rw [List.map_set]
theorem oL_set (l : List (Option Int)) (n : Nat) (v : Option Int) : (oL l).set n (oV v) = oL (l.set n v) := by unfold oL; rw [List.map_set]
theorem iL_rep (n : Nat) (i : Int) : (List.replicate n [V.int i]).flatten = iL (List.replicate n i) := by
  induction n with
  | zero => rfl
  | succ n ih => rw [List.replicate_succ, List.flatten_cons, ih]; rfl
theorem oL_rep (n : Nat) : (List.replicate n [V.none]).flatten = oL (List.replicate n none) := by
  induction n with
  | zero => rfl
  | succ n ih => rw [List.replicate_succ, List.flatten_cons, ih]; rfl

noncomputable def Co.inB (C : Co) (i : Int) : Bool := if i = 0 then C.go else (C.K.getD i.toNat none).isSome
structure Co.Ok (C : Co) : Prop where
  w : C.W.length = C.P.length
  k : C.K.length = C.P.length
  t : C.T.length = C.P.length
  lo : 1 ≤ C.P.length
  hi : C.P.length ≤ 60
noncomputable def sV (s : String) : V := .str (Str.ofString s)
noncomputable def Co.settle (C : Co) (i : Int) : Co × List V :=
  if 0 < C.P.getD i.toNat 0 ∨ 0 < C.W.getD i.toNat 0 ∨ C.inB i = false then (C, [])
  else
    let t := C.T.getD i.toNat 0
    if i = 0 then ({ C with T := C.T.set i.toNat 0, go := false }, [.tup [sV "end", .int t]])
    else
      let row := V.tup [sV "answer", .int i, oV (C.K.getD i.toNat none), .int t]
      ({ C with T := C.T.set i.toNat 0, K := C.K.set i.toNat none, rl := C.rl ++ [row] }, [row])

set_option autoImplicit false

set_option linter.unusedVariables false
set_option linter.unusedSimpArgs false
open PySem

section
variable {c : Ctx} (G : Good c sg)
include G
variable {hd : Bool} {μ : Mem} {Q : V → Mem → Prop} {X : String → Mem → Prop} {a : Ad} {C : Co}

theorem is_from_spec (D : Def c sg "is_from" p_is_from b_is_from) {i a b : Int} (h : Q (.bool (decide (a ≤ i ∧ i ≤ b))) μ) : SC c 1 hd "is_from" [.int i, .int a, .int b] μ Q X := by
  refine call_in G D rfl ?_
  unfold b_is_from
  walk_at "ww"
  refine br_d (fun h1 => ?_) (fun h1 => ?_)
  · walk_at "ww"
    simpa [h1] using h
  · walk_at "ww"
    simpa [h1] using h

theorem need_spec (D1 : Def c sg "is_from" p_is_from b_is_from) (D : Def c sg "Company.need_hand" p_Company_need_hand b_Company_need_hand) (hC : Comp μ a C) {i : Int} (hy : 0 ≤ i ∧ i < C.P.length → Q .none μ) (hn : ¬ (0 ≤ i ∧ i < C.P.length) → hd = false ∧ X "NoHand" μ) :
    SC c 2 hd "Company.need_hand" [.ref a.c, .int i] μ Q X := by
  refine call_in G D rfl ?_
  unfold b_Company_need_hand
  have h1 := hC.c
  have h2 := hC.cd
  have h3 := hC.p
  walk_at "ww"
  refine is_from_spec G D1 ?_
  rw [iL_length]
  walk_at "ww"
  refine br_nd (fun h => ?_) (fun h => ?_)
  · walk_at "ww"
    exact hy (by omega)
  · obtain ⟨q1, q2⟩ := hn (by omega)
    exact s_raise q1 q2

theorem noted_spec (D : Def c sg "Company.noted" p_Company_noted b_Company_noted) (hC : Comp μ a C) {r : Addr} {rows : List V} (hr : μ r = some (.list rows)) (hn : r ∉ a.list) (hz : C.kn.length + rows.length ≤ lim)
    (h : ∀ μ', Comp μ' a { C with kn := C.kn ++ rows } → Off a.list μ μ' → Q (.ref r) μ') : SC c 1 hd "Company.noted" [.ref a.c, .ref r] μ Q X := by
  refine call_in G D rfl ?_
  unfold b_Company_noted
  have h1 := hC.c
  have h2 := hC.cd
  have h3 := hC.kn
  walk_at "ww"
  refine meth_lst h3 (by simp) ?_
  walk_at "ww"
  refine ext_l h3 hr (fun q => hn (by rw [q]; simp [Ad.list])) hz ?_
  walk_at "ww"
  exact h _ (hC.setKn _) (Off.upd (by simp [Ad.list]) _)

theorem is_in_spec (D : Def c sg "Company.is_in" p_Company_is_in b_Company_is_in) (hC : Comp μ a C) {i : Int} (h0 : 0 ≤ i) (h1 : i < C.K.length) (h : Q (.bool (C.inB i)) μ) : SC c 1 hd "Company.is_in" [.ref a.c, .int i] μ Q X := by
  refine call_in G D rfl ?_
  unfold b_Company_is_in
  have h2 := hC.c
  have h3 := hC.cd
  have h4 := hC.k
  walk_at "ww"
  refine br_d (fun hi => ?_) (fun hi => ?_)
  · walk_at "ww"
    simpa [Co.inB, hi] using h
  · walk_at "ww"
    refine sub_l h4 (idx_oL h0 h1) ?_
    walk_at "ww"
    refine cmp_in (r := (C.K.getD i.toNat none).isSome) ?_ ?_
    · cases C.K.getD i.toNat none <;> rfl
    · walk_at "ww"
      simpa [Co.inB, hi] using h

theorem put_spec (D : Def c sg "Post.put" p_Post_put b_Post_put) (hC : Comp μ a C) {row : V} (hz : C.rl.length < lim) (h : ∀ μ', Comp μ' a { C with rl := C.rl ++ [row] } → Off a.list μ μ' → Q .none μ') : SC c 1 hd "Post.put" [.ref a.ps, row] μ Q X := by
  refine call_in G D rfl ?_
  unfold b_Post_put
  have h1 := hC.ps
  have h2 := hC.pd
  have h3 := hC.rl
  walk_at "ww"
  refine meth_lst h3 (by simp) ?_
  walk_at "ww"
  refine app_l h3 hz ?_
  walk_at "ww"
  exact h _ (hC.setRl _) (Off.upd (by simp [Ad.list]) _)

end

set_option autoImplicit false

set_option linter.unusedVariables false
set_option linter.unusedSimpArgs false
open PySem

section
variable {c : Ctx} (G : Good c sg)
include G
variable {hd : Bool} {μ : Mem} {Q : V → Mem → Prop} {X : String → Mem → Prop} {a : Ad} {C : Co}

theorem settled_spec (D1 : Def c sg "Company.is_in" p_Company_is_in b_Company_is_in) (D2 : Def c sg "Post.put" p_Post_put b_Post_put) (D : Def c sg "Company.settled" p_Company_settled b_Company_settled) (hC : Comp μ a C) (ok : C.Ok) (hz : C.rl.length < lim) {i : Int} (h0 : 0 ≤ i) (h1 : i < C.P.length)
    (h : ∀ μ' r, Comp μ' a (C.settle i).1 → Off a.list μ μ' → μ' r = some (.list (C.settle i).2) → r ∉ a.list → μ r = none → Q (.ref r) μ') : SC c 2 hd "Company.settled" [.ref a.c, .int i] μ Q X := by
  refine call_in G D rfl ?_
  unfold b_Company_settled
  have h2 := hC.c
  have h3 := hC.cd
  have h4 := hC.p
  have h5 := hC.w
  have h6 := hC.k
  have h7 := hC.t
  have w0 := ok.w
  have k0 := ok.k
  have t0 := ok.t
  have early : 0 < C.P.getD i.toNat 0 ∨ 0 < C.W.getD i.toNat 0 ∨ C.inB i = false → ∀ n, μ n = none → Q (.ref n) (updM μ n (.list [])) := fun hc n hn => by
    have e : C.settle i = (C, []) := by unfold Co.settle; rw [if_pos hc]
    rw [e] at h
    exact h _ n (hC.new hn _) (Off.new hn _) mem_here (hC.notin hn) hn
  walk_at "ww"
  refine sub_l h4 (idx_iL h0 h1) ?_
  walk_at "ww"
  refine br_d (fun q1 => ?_) (fun q1 => ?_)
  · walk_at "ww"
    exact newL_in (by decide) fun n hn => early (.inl q1) n hn
  walk_at "ww"
  refine sub_l h5 (idx_iL h0 (by omega)) ?_
  walk_at "ww"
  refine br_d (fun q2 => ?_) (fun q2 => ?_)
  · walk_at "ww"
    exact newL_in (by decide) fun n hn => early (.inr (.inl q2)) n hn
  walk_at "ww"
  refine meth_own "Company.is_in" h2 h3 (by rfl) (by rfl) (by rfl) ?_
  walk_at "ww"
  refine is_in_spec G D1 hC h0 (by omega) ?_
  cases q3 : C.inB i with
  | false =>
    walk_at "ww"
    exact newL_in (by decide) fun n hn => early (.inr (.inr q3)) n hn
  | true =>
  have hc : ¬ (0 < C.P.getD i.toNat 0 ∨ 0 < C.W.getD i.toNat 0 ∨ C.inB i = false) := by rw [q3]; exact fun z => z.elim q1 fun z => z.elim q2 fun z => Bool.noConfusion z
  walk_at "ww"
  refine sub_l h7 (idx_iL h0 (by omega)) ?_
  walk_at "ww"
  refine setI_in h7 h0 (by rw [iL_length]; omega) ?_
  rw [iL_set]
  have hC1 := hC.setT (C.T.set i.toNat 0)
  have o1 : Off a.list μ (updM μ a.t (.list (iL (C.T.set i.toNat 0)))) := Off.upd (by simp [Ad.list]) _
  have n1 : ∀ b, updM μ a.t (.list (iL (C.T.set i.toNat 0))) b = none → μ b = none := fun b hb => by
    unfold updM at hb; split at hb
    · cases hb
    · exact hb
  generalize updM μ a.t (.list (iL (C.T.set i.toNat 0))) = μ₁ at *
  have g1 := hC1.c
  have g2 := hC1.cd
  have g3 := hC1.k
  have g4 := hC1.ps
  have g5 := hC1.pd
  clear h2 h3 h4 h5 h6 h7
  walk_at "ww"
  refine br_d (fun q4 => ?_) (fun q4 => ?_)
  · have e : C.settle i = ({ C with T := C.T.set i.toNat 0, go := false }, [.tup [sV "end", .int (C.T.getD i.toNat 0)]]) := by unfold Co.settle; rw [if_neg hc]; simp only [q4, if_true]
    rw [e] at h
    walk_at "ww"
    refine setA_in g1 g2 (by show 7 < 900; decide) ?_
    show wpSs _ _ _ _ _ (updM μ₁ a.cd (.attrs (atts a false))) _ _
    have hC2 := hC1.setGo false
    have o2 := o1.trans (Off.upd (μ := μ₁) (a := a.cd) (l := a.list) (by simp [Ad.list]) (.attrs (atts a false)))
    have n2 : ∀ b, updM μ₁ a.cd (.attrs (atts a false)) b = none → μ b = none := fun b hb => by
      unfold updM at hb; split at hb
      · cases hb
      · exact n1 b hb
    generalize updM μ₁ a.cd (.attrs (atts a false)) = μ₂ at *
    walk_at "ww"
    exact newL_in (by show 1 ≤ 1048576; decide) fun n hn => h _ n (hC2.new hn _) (o2.trans (Off.new hn _)) mem_here (hC2.notin hn) (n2 n hn)
  · have e : C.settle i = ({ C with T := C.T.set i.toNat 0, K := C.K.set i.toNat none, rl := C.rl ++ [V.tup [sV "answer", .int i, oV (C.K.getD i.toNat none), .int (C.T.getD i.toNat 0)]] }, [V.tup [sV "answer", .int i, oV (C.K.getD i.toNat none), .int (C.T.getD i.toNat 0)]]) := by
      unfold Co.settle; rw [if_neg hc]; simp only [q4, if_false]
    rw [e] at h
    walk_at "ww"
    refine sub_l g3 (idx_oL h0 (by show i < (C.K.length : Int); omega)) ?_
    walk_at "ww"
    refine setI_in g3 h0 (by rw [oL_length]; show i < (C.K.length : Int); omega) ?_
    have es : (oL C.K).set i.toNat V.none = oL (C.K.set i.toNat none) := oL_set C.K i.toNat none
    show wpSs _ _ _ _ _ (updM μ₁ a.k (.list ((oL C.K).set i.toNat V.none))) _ _
    rw [es]
    have hC2 := hC1.setK (C.K.set i.toNat none)
    have o2 := o1.trans (Off.upd (μ := μ₁) (a := a.k) (l := a.list) (by simp [Ad.list]) (.list (oL (C.K.set i.toNat none))))
    have n2 : ∀ b, updM μ₁ a.k (.list (oL (C.K.set i.toNat none))) b = none → μ b = none := fun b hb => by
      unfold updM at hb; split at hb
      · cases hb
      · exact n1 b hb
    generalize updM μ₁ a.k (.list (oL (C.K.set i.toNat none))) = μ₂ at *
    have f1 := hC2.c
    have f2 := hC2.cd
    have f3 := hC2.ps
    have f4 := hC2.pd
    clear g1 g2 g3 g4 g5
    walk_at "ww"
    refine meth_own "Post.put" f3 f4 (by rfl) (by rfl) (by rfl) ?_
    walk_at "ww"
    refine put_spec G D2 hC2 hz fun μ₃ hC3 o3 => ?_
    walk_at "ww"
    refine newL_in (by show 1 ≤ 1048576; decide) fun n hn => h _ n (hC3.new hn _) (o2.trans (o3.trans (Off.new hn _))) mem_here (hC3.notin hn) ?_
    cases q : μ n with
    | none => rfl
    | some o =>
      have := hC3.notin hn
      have := (o2.trans o3) n o q this
      rw [hn] at this; cases this

theorem begin_spec (D1 : Def c sg "is_from" p_is_from b_is_from) (D2 : Def c sg "Company.noted" p_Company_noted b_Company_noted) (D : Def c sg "Company.begin" p_Company_begin b_Company_begin) (hC : Comp μ a C) (ok : C.Ok) (hz : C.kn.length < lim) {i : Int}
    (hg : C.go = true → hd = false ∧ X "Begun" μ) (hb : C.go = false → ¬ (1 ≤ i ∧ i ≤ 999999) → hd = false ∧ X "NoWork" μ)
    (h : C.go = false → 1 ≤ i ∧ i ≤ 999999 → ∀ μ' r, Comp μ' a { C with go := true, P := C.P.set 0 i, kn := C.kn ++ [.tup [sV "begun", .int i]] } → Off a.list μ μ' → μ' r = some (.list [.tup [sV "begun", .int i]]) → r ∉ a.list → μ r = none → Q (.ref r) μ') : SC c 2 hd "Company.begin" [.ref a.c, .int i] μ Q X := by
  refine call_in G D rfl ?_
  unfold b_Company_begin
  have h2 := hC.c
  have h3 := hC.cd
  have lo := ok.lo
  walk_at "ww"
  cases q : C.go with
  | true =>
    walk_at "ww"
    exact s_raise (hg q).1 (hg q).2
  | false =>
  walk_at "ww"
  refine is_from_spec G D1 ?_
  walk_at "ww"
  refine br_nd (fun q1 => ?_) (fun q1 => s_raise (hb q q1).1 (hb q q1).2)
  walk_at "ww"
  refine setA_in h2 h3 (by show 7 < 900; decide) ?_
  show wpSs _ _ _ _ _ (updM μ a.cd (.attrs (atts a true))) _ _
  have hC1 := hC.setGo true
  have o1 : Off a.list μ (updM μ a.cd (.attrs (atts a true))) := Off.upd (by simp [Ad.list]) _
  generalize updM μ a.cd (.attrs (atts a true)) = μ₁ at *
  clear h2 h3
  have h2 := hC1.c
  have h3 := hC1.cd
  have h4 := hC1.p
  walk_at "ww"
  refine setI_in h4 (by decide) (by rw [iL_length]; show 0 < (C.P.length : Int); omega) ?_
  rw [iL_set]
  have hC2 := hC1.setP (C.P.set 0 i)
  have o2 := o1.trans (Off.upd (μ := μ₁) (a := a.p) (l := a.list) (by simp [Ad.list]) (.list (iL (C.P.set 0 i))))
  show wpSs _ _ _ _ _ (updM μ₁ a.p (.list (iL (C.P.set 0 i)))) _ _
  generalize updM μ₁ a.p (.list (iL (C.P.set 0 i))) = μ₂ at *
  clear h2 h3 h4
  have h2 := hC2.c
  have h3 := hC2.cd
  walk_at "ww"
  refine meth_own "Company.noted" h2 h3 (by rfl) (by rfl) (by rfl) ?_
  walk_at "ww"
  refine newL_in (by show 1 ≤ 1048576; decide) fun n hn => ?_
  walk_at "ww"
  refine noted_spec G D2 (hC2.new hn _) mem_here (hC2.notin hn) (by show C.kn.length + 1 ≤ lim; omega) fun μ' hC' o' => ?_
  refine h q q1 μ' n hC' (o2.trans ((Off.new hn _).trans o')) (o' n _ mem_here (hC2.notin hn)) (hC2.notin hn) ?_
  cases z : μ n with
  | none => rfl
  | some o => have := o2 n o z (hC2.notin hn); rw [hn] at this; cases this

noncomputable def Co.one (C : Co) (i : Int) : Co := { C with P := C.P.set i.toNat (C.P.getD i.toNat 0 - 1), T := C.T.set i.toNat (C.T.getD i.toNat 0 + 1) }
omit G in
theorem Co.Ok.one (ok : C.Ok) (i : Int) : (C.one i).Ok := ⟨by simp [Co.one, ok.w], by simp [Co.one, ok.k], by simp [Co.one, ok.t], by simp [Co.one, ok.lo], by simp [Co.one, ok.hi]⟩
noncomputable def Co.doit (C : Co) (i : Int) : Co := let s := (C.one i).settle i; { s.1 with kn := s.1.kn ++ s.2 }
omit G in
theorem Co.settle_kn (C : Co) (i : Int) : (C.settle i).1.kn = C.kn := by
  unfold Co.settle; split
  · rfl
  · dsimp only; split <;> rfl
omit G in
theorem Co.settle_len (C : Co) (i : Int) : (C.settle i).2.length ≤ 1 := by
  unfold Co.settle; split
  · exact Nat.zero_le _
  · dsimp only; split <;> exact Nat.le_refl _
theorem do_spec (D1 : Def c sg "is_from" p_is_from b_is_from) (D2 : Def c sg "Company.need_hand" p_Company_need_hand b_Company_need_hand) (D3 : Def c sg "Company.is_in" p_Company_is_in b_Company_is_in) (D4 : Def c sg "Post.put" p_Post_put b_Post_put)
    (D5 : Def c sg "Company.settled" p_Company_settled b_Company_settled) (D6 : Def c sg "Company.noted" p_Company_noted b_Company_noted) (D : Def c sg "Company.do" p_Company_do b_Company_do) (hC : Comp μ a C) (ok : C.Ok) (hz : C.rl.length < lim) (hz' : C.kn.length < lim) {i : Int}
    (hn : ¬ (0 ≤ i ∧ i < C.P.length) → hd = false ∧ X "NoHand" μ) (hw : 0 ≤ i ∧ i < C.P.length → C.P.getD i.toNat 0 = 0 → hd = false ∧ X "NoWork" μ)
    (h : 0 ≤ i ∧ i < C.P.length → C.P.getD i.toNat 0 ≠ 0 → ∀ μ' r, Comp μ' a (C.doit i) → Off a.list μ μ' → μ' r = some (.list ((C.one i).settle i).2) → r ∉ a.list → μ r = none → Q (.ref r) μ') : SC c 3 hd "Company.do" [.ref a.c, .int i] μ Q X := by
  refine call_in G D rfl ?_
  unfold b_Company_do
  have h2 := hC.c
  have h3 := hC.cd
  have h4 := hC.p
  have h5 := hC.t
  have t0 := ok.t
  walk_at "ww"
  refine meth_own "Company.need_hand" h2 h3 (by rfl) (by rfl) (by rfl) ?_
  walk_at "ww"
  refine need_spec G D1 D2 hC (fun hi => ?_) hn
  obtain ⟨h0, h1⟩ := id hi
  walk_at "ww"
  refine sub_l h4 (idx_iL h0 h1) ?_
  walk_at "ww"
  refine br_d (fun q => s_raise (hw hi q).1 (hw hi q).2) (fun q => ?_)
  walk_at "ww"
  refine sub_l h4 (idx_iL h0 h1) ?_
  walk_at "ww"
  refine setI_in h4 h0 (by rw [iL_length]; exact h1) ?_
  rw [iL_set]
  have hC1 := hC.setP (C.P.set i.toNat (C.P.getD i.toNat 0 - 1))
  have o1 : Off a.list μ (updM μ a.p (.list (iL (C.P.set i.toNat (C.P.getD i.toNat 0 - 1))))) := Off.upd (by simp [Ad.list]) _
  generalize updM μ a.p (.list (iL (C.P.set i.toNat (C.P.getD i.toNat 0 - 1)))) = μ₁ at *
  clear h2 h3 h4 h5
  have h2 := hC1.c
  have h3 := hC1.cd
  have h5 := hC1.t
  have q6 : i < (C.T.length : Int) := by omega
  walk_at "ww"
  refine sub_l h5 (idx_iL h0 q6) ?_
  walk_at "ww"
  refine setI_in h5 h0 (by rw [iL_length]; exact q6) ?_
  rw [iL_set]
  have hC2 : Comp (updM μ₁ a.t (.list (iL (C.T.set i.toNat (C.T.getD i.toNat 0 + 1))))) a (C.one i) := hC1.setT (C.T.set i.toNat (C.T.getD i.toNat 0 + 1))
  have o2 := o1.trans (Off.upd (μ := μ₁) (a := a.t) (l := a.list) (by simp [Ad.list]) (.list (iL (C.T.set i.toNat (C.T.getD i.toNat 0 + 1)))))
  show wpSs _ _ _ _ _ (updM μ₁ a.t (.list (iL (C.T.set i.toNat (C.T.getD i.toNat 0 + 1))))) _ _
  generalize updM μ₁ a.t (.list (iL (C.T.set i.toNat (C.T.getD i.toNat 0 + 1)))) = μ₂ at *
  clear h2 h3 h5
  have h2 := hC2.c
  have h3 := hC2.cd
  walk_at "ww"
  refine meth_own "Company.noted" h2 h3 (by rfl) (by rfl) (by rfl) ?_
  walk_at "ww"
  refine meth_own "Company.settled" h2 h3 (by rfl) (by rfl) (by rfl) ?_
  walk_at "ww"
  refine settled_spec G D3 D4 D5 hC2 (ok.one i) hz h0 (by simpa [Co.one] using h1) fun μ₃ r hC3 o3 hr hnr hr0 => ?_
  walk_at "ww"
  have hl := Co.settle_len (C.one i) i
  have hk : ((C.one i).settle i).1.kn.length = C.kn.length := by rw [Co.settle_kn]; rfl
  refine sc_up (noted_spec G D6 hC3 hr hnr (by omega) fun μ₄ hC4 o4 => ?_) (by decide)
  refine h hi q μ₄ r hC4 (o2.trans (o3.trans o4)) (o4 r _ hr hnr) hnr ?_
  cases z : μ r with
  | none => rfl
  | some o => have := o2 r o z hnr; rw [hr0] at this; cases this

theorem post_init_spec (D : Def c sg "Post.__init__" p_Post___init__ b_Post___init__) {x d : Addr} (hx : μ x = some (.inst "Post" d)) (hd' : μ d = some (.attrs []))
    (h : ∀ n, μ n = none → Q .none (updM (updM μ n (.list [])) d (.attrs [("rows", .ref n)]))) : SC c 1 hd "Post.__init__" [.ref x] μ Q X := by
  refine call_in G D rfl ?_
  unfold b_Post___init__
  walk_at "ww"
  refine newL_in (by decide) fun n hn => ?_
  walk_at "ww"
  refine setA_in (Off.none (l := []) hn _ hx) (Off.none (l := []) hn _ hd') (by decide) ?_
  walk_at "ww"
  exact h n hn
end

set_option autoImplicit false

set_option linter.unusedVariables false
set_option linter.unusedSimpArgs false
open PySem

theorem init_step {μ : Mem} {c cd x n : Addr} {cl : String} {fs fs' : List (String × V)} {l l0 : List V} (hc : μ c = some (.inst cl cd)) (hcd : μ cd = some (.attrs fs)) (hx : μ x = none) (hn : updM μ x (.list l0) n = none) :
    ∃ μ', updM (updM (updM μ x (.list l0)) n (.list l)) cd (.attrs fs') = μ' ∧ μ' c = some (.inst cl cd) ∧ μ' cd = some (.attrs fs') ∧ μ' n = some (.list l) ∧ (∀ b o, μ b = some o → b ≠ cd → μ' b = some o) ∧ μ n = none ∧ n ≠ cd := by
  have ncd : n ≠ cd := fun q => by rw [q, Off.none (l := []) hx _ hcd] at hn; cases hn
  have ccd : c ≠ cd := fun q => by rw [q, hcd] at hc; cases hc
  have k : ∀ b o, μ b = some o → b ≠ cd → updM (updM (updM μ x (.list l0)) n (.list l)) cd (.attrs fs') b = some o := fun b o hb hne => by
    rw [updM_ne hne]; exact Off.none (l := []) hn _ (Off.none (l := []) hx _ hb)
  refine ⟨_, rfl, k c _ hc ccd, mem_here, by rw [updM_ne ncd]; exact mem_here, k, ?_, ncd⟩
  unfold updM at hn; split at hn
  · cases hn
  · exact hn

noncomputable def newCo (m : Int) : Co := ⟨List.replicate m.toNat 0, List.replicate m.toNat 0, List.replicate m.toNat none, List.replicate m.toNat 0, false, [], []⟩

section
variable {c : Ctx} (G : Good c sg)
include G
variable {hd : Bool} {μ : Mem} {Q : V → Mem → Prop} {X : String → Mem → Prop}

theorem init_spec (D1 : Def c sg "is_from" p_is_from b_is_from) (D2 : Def c sg "Post.__init__" p_Post___init__ b_Post___init__) (D : Def c sg "Company.__init__" p_Company___init__ b_Company___init__) {x d : Addr} (c0 : μ x = some (.inst "Company" d)) (d0 : μ d = some (.attrs [])) {m : Int}
    (hn : ¬ (1 ≤ m ∧ m ≤ 60) → hd = false ∧ X "NoCompany" μ)
    (h : 1 ≤ m ∧ m ≤ 60 → ∀ μ' a, a.c = x → a.cd = d → Comp μ' a (newCo m) → (∀ b o, μ b = some o → b ≠ d → μ' b = some o ∧ (b ≠ x → b ∉ a.list)) → Q .none μ') : SC c 2 hd "Company.__init__" [.ref x, .int m] μ Q X := by
  refine call_in G D rfl ?_
  unfold b_Company___init__
  walk_at "ww"
  refine is_from_spec G D1 ?_
  walk_at "ww"
  refine br_nd (fun hm => ?_) (fun q1 => s_raise (hn q1).1 (hn q1).2)
  replace h := h hm
  clear hn
  obtain ⟨m1, m2⟩ := hm
  walk_at "ww"
  refine newL_in (by show 1 ≤ 1048576; decide) fun x1 hx1 => ?_
  walk_at "ww"
  refine rep_l mem_here (by omega) (by omega) (by show _ * 1 ≤ 1048576; omega) ?_
  rw [iL_rep]
  refine newL_in (by rw [iL_length, List.length_replicate]; show _ ≤ 1048576; omega) fun n1 hn1 => ?_
  walk_at "ww"
  refine setA_in (Off.none (l := []) hn1 _ (Off.none (l := []) hx1 _ c0)) (Off.none (l := []) hn1 _ (Off.none (l := []) hx1 _ d0)) (by show 0 < 900; decide) ?_
  obtain ⟨μ1, e1, c1, d1, v1, k1, f1, z1⟩ := init_step (fs' := putA "pieces" (.ref n1) _) c0 d0 hx1 hn1
  rw [e1]
  walk_at "ww"
  refine newL_in (by show 1 ≤ 1048576; decide) fun x2 hx2 => ?_
  walk_at "ww"
  refine rep_l mem_here (by omega) (by omega) (by show _ * 1 ≤ 1048576; omega) ?_
  rw [iL_rep]
  refine newL_in (by rw [iL_length, List.length_replicate]; show _ ≤ 1048576; omega) fun n2 hn2 => ?_
  walk_at "ww"
  refine setA_in (Off.none (l := []) hn2 _ (Off.none (l := []) hx2 _ c1)) (Off.none (l := []) hn2 _ (Off.none (l := []) hx2 _ d1)) (by show 1 < 900; decide) ?_
  obtain ⟨μ2, e2, c2, d2, v2, k2, f2, z2⟩ := init_step (fs' := putA "waits" (.ref n2) _) c1 d1 hx2 hn2
  rw [e2]
  walk_at "ww"
  refine newL_in (by show 1 ≤ 1048576; decide) fun x3 hx3 => ?_
  walk_at "ww"
  refine rep_l mem_here (by omega) (by omega) (by show _ * 1 ≤ 1048576; omega) ?_
  rw [oL_rep]
  refine newL_in (by rw [oL_length, List.length_replicate]; show _ ≤ 1048576; omega) fun n3 hn3 => ?_
  walk_at "ww"
  refine setA_in (Off.none (l := []) hn3 _ (Off.none (l := []) hx3 _ c2)) (Off.none (l := []) hn3 _ (Off.none (l := []) hx3 _ d2)) (by show 2 < 900; decide) ?_
  obtain ⟨μ3, e3, c3, d3, v3, k3, f3, z3⟩ := init_step (fs' := putA "wakers" (.ref n3) _) c2 d2 hx3 hn3
  rw [e3]
  walk_at "ww"
  refine newL_in (by show 1 ≤ 1048576; decide) fun x4 hx4 => ?_
  walk_at "ww"
  refine rep_l mem_here (by omega) (by omega) (by show _ * 1 ≤ 1048576; omega) ?_
  rw [iL_rep]
  refine newL_in (by rw [iL_length, List.length_replicate]; show _ ≤ 1048576; omega) fun n4 hn4 => ?_
  walk_at "ww"
  refine setA_in (Off.none (l := []) hn4 _ (Off.none (l := []) hx4 _ c3)) (Off.none (l := []) hn4 _ (Off.none (l := []) hx4 _ d3)) (by show 3 < 900; decide) ?_
  obtain ⟨μ4, e4, c4, d4, v4, k4, f4, z4⟩ := init_step (fs' := putA "tallies" (.ref n4) _) c3 d3 hx4 hn4
  rw [e4]
  walk_at "ww"
  intro ps pd hps hpd hne
  have e5 : μ4 d = some (.attrs (putA "tallies" (.ref n4) (putA "wakers" (.ref n3) (putA "waits" (.ref n2) (putA "pieces" (.ref n1) []))))) := d4
  show SC c 1 hd "Post.__init__" [.ref ps] (updM (updM μ4 pd (.attrs [])) ps (.inst "Post" pd)) _ _
  refine post_init_spec G D2 (d := pd) mem_here (by rw [updM_ne hne]; exact mem_here) fun n5 hn5 => ⟨trivial, ?_⟩
  obtain ⟨μ5, e5', p5, pd5, v5, k5, f5⟩ : ∃ μ5, updM (updM (updM (updM μ4 pd (.attrs [])) ps (.inst "Post" pd)) n5 (.list [])) pd (.attrs [("rows", .ref n5)]) = μ5 ∧ μ5 ps = some (.inst "Post" pd) ∧ μ5 pd = some (.attrs [("rows", .ref n5)]) ∧ μ5 n5 = some (.list []) ∧ (∀ b o, μ4 b = some o → μ5 b = some o) ∧ (μ4 n5 = none ∧ n5 ≠ ps ∧ n5 ≠ pd) := by
    have q1 : n5 ≠ ps := fun q => by rw [q, mem_here] at hn5; cases hn5
    have q2 : n5 ≠ pd := fun q => by rw [q, updM_ne hne, mem_here] at hn5; cases hn5
    have q3 : μ4 n5 = none := by rw [updM_ne q1, updM_ne q2] at hn5; exact hn5
    refine ⟨_, rfl, ?_, mem_here, ?_, fun b o hb => ?_, q3, q1, q2⟩
    · rw [updM_ne (Ne.symm hne), updM_ne (Ne.symm q1)]; exact mem_here
    · rw [updM_ne q2]; exact mem_here
    · have b1 : b ≠ pd := fun q => by rw [q, hpd] at hb; cases hb
      have b2 : b ≠ ps := fun q => by rw [q, hps] at hb; cases hb
      have b3 : b ≠ n5 := fun q => by rw [q, q3] at hb; cases hb
      rw [updM_ne b1, updM_ne b3, updM_ne b2, updM_ne b1]; exact hb
  rw [e5']
  have c5 := k5 _ _ c4
  have d5 := k5 _ _ d4
  walk_at "ww"
  refine setA_in c5 d5 (by show 4 < 900; decide) ?_
  obtain ⟨μ6, e6, c6, d6, k6⟩ : ∃ μ6, updM μ5 d (.attrs (putA "post" (.ref ps) (putA "tallies" (.ref n4) (putA "wakers" (.ref n3) (putA "waits" (.ref n2) (putA "pieces" (.ref n1) [])))))) = μ6 ∧ μ6 x = some (.inst "Company" d) ∧ μ6 d = some (.attrs (putA "post" (.ref ps) (putA "tallies" (.ref n4) (putA "wakers" (.ref n3) (putA "waits" (.ref n2) (putA "pieces" (.ref n1) [])))))) ∧ (∀ b o, μ5 b = some o → b ≠ d → μ6 b = some o) := by
    have q : x ≠ d := fun q => by rw [q, d5] at c5; cases c5
    exact ⟨_, rfl, by rw [updM_ne q]; exact c5, mem_here, fun b o hb hq => by rw [updM_ne hq]; exact hb⟩
  rw [e6]
  walk_at "ww"
  refine setA_in c6 d6 (by show 5 < 900; decide) ?_
  obtain ⟨μ7, e7, c7, d7, k7⟩ : ∃ μ7, updM μ6 d (.attrs (putA "going" (.bool false) (putA "post" (.ref ps) (putA "tallies" (.ref n4) (putA "wakers" (.ref n3) (putA "waits" (.ref n2) (putA "pieces" (.ref n1) []))))))) = μ7 ∧ μ7 x = some (.inst "Company" d) ∧ μ7 d = some (.attrs (putA "going" (.bool false) (putA "post" (.ref ps) (putA "tallies" (.ref n4) (putA "wakers" (.ref n3) (putA "waits" (.ref n2) (putA "pieces" (.ref n1) []))))))) ∧ (∀ b o, μ6 b = some o → b ≠ d → μ7 b = some o) := by
    have q : x ≠ d := fun q => by rw [q, d6] at c6; cases c6
    exact ⟨_, rfl, by rw [updM_ne q]; exact c6, mem_here, fun b o hb hq => by rw [updM_ne hq]; exact hb⟩
  rw [e7]
  walk_at "ww"
  refine newL_in (by decide) fun n8 hn8 => ?_
  walk_at "ww"
  refine setA_in (Off.none (l := []) hn8 _ c7) (Off.none (l := []) hn8 _ d7) (by show 6 < 900; decide) ?_
  obtain ⟨μ8, e8, c8, d8, v8, k8⟩ : ∃ μ8, updM (updM μ7 n8 (.list [])) d (.attrs (putA "known" (.ref n8) (putA "going" (.bool false) (putA "post" (.ref ps) (putA "tallies" (.ref n4) (putA "wakers" (.ref n3) (putA "waits" (.ref n2) (putA "pieces" (.ref n1) [])))))))) = μ8 ∧ μ8 x = some (.inst "Company" d) ∧ μ8 d = some (.attrs (putA "known" (.ref n8) (putA "going" (.bool false) (putA "post" (.ref ps) (putA "tallies" (.ref n4) (putA "wakers" (.ref n3) (putA "waits" (.ref n2) (putA "pieces" (.ref n1) [])))))))) ∧ μ8 n8 = some (.list []) ∧ (∀ b o, μ7 b = some o → b ≠ d → μ8 b = some o) := by
    have q : x ≠ d := fun q => by rw [q, d7] at c7; cases c7
    have q8 : n8 ≠ d := fun q => by rw [q, d7] at hn8; cases hn8
    exact ⟨_, rfl, by rw [updM_ne q]; exact Off.none (l := []) hn8 _ c7, mem_here, by rw [updM_ne q8]; exact mem_here, fun b o hb hq => by rw [updM_ne hq]; exact Off.none (l := []) hn8 _ hb⟩
  rw [e8]
  walk_at "ww"
  have up1 : ∀ b o, μ b = some o → b ≠ d → μ8 b = some o := fun b o hb hq => k8 _ _ (k7 _ _ (k6 _ _ (k5 _ _ (k4 _ _ (k3 _ _ (k2 _ _ (k1 _ _ hb hq) hq) hq) hq)) hq) hq) hq
  have up2 : ∀ b o, μ1 b = some o → b ≠ d → μ8 b = some o := fun b o hb hq => k8 _ _ (k7 _ _ (k6 _ _ (k5 _ _ (k4 _ _ (k3 _ _ (k2 _ _ hb hq) hq) hq)) hq) hq) hq
  have up3 : ∀ b o, μ2 b = some o → b ≠ d → μ8 b = some o := fun b o hb hq => k8 _ _ (k7 _ _ (k6 _ _ (k5 _ _ (k4 _ _ (k3 _ _ hb hq) hq)) hq) hq) hq
  have up4 : ∀ b o, μ3 b = some o → b ≠ d → μ8 b = some o := fun b o hb hq => k8 _ _ (k7 _ _ (k6 _ _ (k5 _ _ (k4 _ _ hb hq)) hq) hq) hq
  have up5 : ∀ b o, μ4 b = some o → b ≠ d → μ8 b = some o := fun b o hb hq => k8 _ _ (k7 _ _ (k6 _ _ (k5 _ _ hb) hq) hq) hq
  have up6 : ∀ b o, μ5 b = some o → b ≠ d → μ8 b = some o := fun b o hb hq => k8 _ _ (k7 _ _ (k6 _ _ hb hq) hq) hq
  have zp : ps ≠ d := fun q => by rw [q, d4] at hps; cases hps
  have zpd : pd ≠ d := fun q => by rw [q, d4] at hpd; cases hpd
  have z5 : n5 ≠ d := fun q => by rw [q, d4] at f5; cases f5.1
  have zx : x ≠ d := fun q => by rw [q, d0] at c0; cases c0
  have ne : ∀ {m : Mem} {u v : Addr} {o : O}, m u = some o → m v = none → u ≠ v := fun h1 h2 q => by rw [q, h2] at h1; cases h1
  have t8 : ∀ b o, μ5 b = some o → b ≠ d → b ≠ n8 := fun b o hb hq => ne (k7 _ _ (k6 _ _ hb hq) hq) hn8
  have t4 : ∀ b o, μ4 b = some o → b ≠ d → b ≠ ps ∧ b ≠ pd ∧ b ≠ n5 ∧ b ≠ n8 := fun b o hb hq => ⟨ne hb hps, ne hb hpd, ne hb f5.1, t8 b o (k5 _ _ hb) hq⟩
  have t3 : ∀ b o, μ3 b = some o → b ≠ d → b ≠ n4 ∧ b ≠ ps ∧ b ≠ pd ∧ b ≠ n5 ∧ b ≠ n8 := fun b o hb hq => ⟨ne hb f4, t4 b o (k4 _ _ hb hq) hq⟩
  have t2 : ∀ b o, μ2 b = some o → b ≠ d → b ≠ n3 ∧ b ≠ n4 ∧ b ≠ ps ∧ b ≠ pd ∧ b ≠ n5 ∧ b ≠ n8 := fun b o hb hq => ⟨ne hb f3, t3 b o (k3 _ _ hb hq) hq⟩
  have t1 : ∀ b o, μ1 b = some o → b ≠ d → b ≠ n2 ∧ b ≠ n3 ∧ b ≠ n4 ∧ b ≠ ps ∧ b ≠ pd ∧ b ≠ n5 ∧ b ≠ n8 := fun b o hb hq => ⟨ne hb f2, t2 b o (k2 _ _ hb hq) hq⟩
  have t0 : ∀ b o, μ b = some o → b ≠ d → b ≠ n1 ∧ b ≠ n2 ∧ b ≠ n3 ∧ b ≠ n4 ∧ b ≠ ps ∧ b ≠ pd ∧ b ≠ n5 ∧ b ≠ n8 := fun b o hb hq => ⟨ne hb f1, t1 b o (k1 _ _ hb hq) hq⟩
  have z8 : n8 ≠ d := fun q => by rw [q, d7] at hn8; cases hn8
  refine h μ8 ⟨x, d, n1, n2, n3, n4, ps, pd, n5, n8⟩ rfl rfl ⟨?_, c8, d8, up2 _ _ v1 z1, up3 _ _ v2 z2, up4 _ _ v3 z3, up5 _ _ v4 z4, up6 _ _ p5 zp, up6 _ _ pd5 zpd, up6 _ _ v5 z5, v8⟩ (fun b o hb hq => ⟨up1 b o hb hq, fun hx => ?_⟩)
  · have r0 := t0 x _ c0 zx
    have r1 := t1 n1 _ v1 z1
    have r2 := t2 n2 _ v2 z2
    have r3 := t3 n3 _ v3 z3
    have r4 := t4 n4 _ v4 z4
    have r5 := t8 ps _ p5 zp
    have r6 := t8 pd _ pd5 zpd
    have r7 := t8 n5 _ v5 z5
    simp only [Ad.list, List.nodup_cons, List.mem_cons, List.not_mem_nil, or_false, not_or, List.nodup_nil, not_false_eq_true, and_true]
    exact ⟨⟨zx, r0⟩, ⟨Ne.symm z1, Ne.symm z2, Ne.symm z3, Ne.symm z4, Ne.symm zp, Ne.symm zpd, Ne.symm z5, Ne.symm z8⟩, r1, r2, r3, r4, ⟨Ne.symm hne, Ne.symm f5.2.1, r5⟩, ⟨Ne.symm f5.2.2, r6⟩, r7⟩
  · have r := t0 b o hb hq
    simp only [Ad.list, List.mem_cons, List.not_mem_nil, or_false, not_or]
    exact ⟨hx, hq, r⟩
end

set_option autoImplicit false

set_option linter.unusedVariables false
set_option linter.unusedSimpArgs false
open PySem

noncomputable def plain : Nat → V → Bool
  | _, .none => true
  | _, .bool _ => true
  | _, .int _ => true
  | _, .str s => PyData.strOk s
  | n + 1, .tup l => l.all (plain n) && decide (l.length ≤ lim)
  | _, _ => false

theorem sub_f {ns : List Int} {i : Int} {μ : Mem} {Q : V → Mem → Prop} (h0 : 0 ≤ i) (h1 : i < ns.length) (h : Q (.int (ns.getD i.toNat 0)) μ) : subK Q (.frz ns) (.int i) μ := by
  unfold subK subO subI
  simp only [h0, if_true]
  rw [List.getElem?_eq_getElem (by omega)]
  rw [List.getD_eq_getElem?_getD, List.getElem?_eq_getElem (by omega)] at h
  exact h
theorem deq_str {s : Str} {μ : Mem} (h : PyData.strOk s = true) : deq μ (.str s) (.str s) = some true := (deq_ss h h).trans (by rw [decide_eq_true rfl])
theorem isi_list {x : Addr} {l : List V} {μ : Mem} {n : String} {b : Bool} {Q : V → Mem → Prop} (hx : μ x = some (.list l)) (hn : n = "int" ∨ n = "bool" ∨ n = "str" ∨ n = "tuple" ∨ n = "list") (e : (("list" == n) || (("list" == "bool") && n == "int")) = b) (h : Q (.bool b) μ) : isiW Q (.ty n) (.ref x) μ := by
  refine isi_in (b := b) ?_ h
  unfold isiO tyO
  simp only [hx, hn, if_true, Option.map_some, e]

section
variable {c : Ctx} (G : Good c sg)
include G
variable {hd : Bool} {μ : Mem} {Q : V → Mem → Prop} {X : String → Mem → Prop}

theorem cell_at_spec (D : Def c sg "_law_cell_at" p__law_cell_at b__law_cell_at) {ns : List Int} {k : Int} (h0 : 0 ≤ k) (h : Q (.int (ns.getD k.toNat 0)) μ) : SC c 1 hd "_law_cell_at" [.frz ns, .int k] μ Q X := by
  refine call_in G D rfl ?_
  unfold b__law_cell_at
  walk_at "ww"
  refine br_d (fun hk => ?_) (fun hk => ?_)
  · walk_at "ww"
    refine sub_f h0 hk ?_
    walk_at "ww"
    exact h
  · walk_at "ww"
    rw [List.getD_eq_getElem?_getD, List.getElem?_eq_none_iff.mpr (by omega)] at h
    exact h

theorem mixed_spec (D : Def c sg "_law_mixed" p__law_mixed b__law_mixed) {ns : List Int} {k : Int} (h : ∀ n, 0 ≤ n → n < 2147483647 → Q (.int n) μ) : SC c 1 hd "_law_mixed" [.frz ns, .int k] μ Q X := by
  refine call_in G D rfl ?_
  unfold b__law_mixed
  have tail : ∀ x ρ, ρ "_law_cell" = some (V.int x) → ρ "_law_k" = some (V.int k) → wpSs sg (SC c 0) hd (b__law_mixed.drop 2) ρ μ (fq Q) (fx X) := by
    intro x ρ r1 r2
    unfold b__law_mixed
    simp only [List.drop_succ_cons, List.drop_zero]
    walk_at "ww"
    refine mul_i (.inl (by decide)) ?_
    walk_at "ww"
    refine mul_i (.inr (by decide)) ?_
    walk_at "ww"
    refine mod_i (by decide) ?_
    walk_at "ww"
    have q1 := Int.emod_nonneg ((x + 7919 * k) * 48271) (show (2147483647 : Int) ≠ 0 by decide)
    have q2 := Int.emod_lt_of_pos ((x + 7919 * k) * 48271) (show (0 : Int) < 2147483647 by decide)
    refine mul_i (.inl (by omega)) ?_
    walk_at "ww"
    refine mul_i (.inl (by decide)) ?_
    walk_at "ww"
    refine mod_i (by decide) ?_
    walk_at "ww"
    exact h _ (Int.emod_nonneg _ (by decide)) (Int.emod_lt_of_pos _ (by decide))
  walk_at "ww"
  refine br_d (fun hk => ?_) (fun hk => ?_)
  · walk_at "ww"
    refine mod_i hk ?_
    walk_at "ww"
    refine sub_f (Int.emod_nonneg _ (by omega)) (Int.emod_lt_of_pos _ hk) ?_
    walk_at "w"
    walk_at "w"
    walk_at "w"
    refine tail _ _ loc_here ?_
    rfl
  · exact tail 0 _ loc_here rfl

theorem many_by_spec (D : Def c sg "_law_many_by" p__law_many_by b__law_many_by) {i : Int} (h : ∀ m, 1 ≤ m → m ≤ 60 → Q (.int m) μ) : SC c 1 hd "_law_many_by" [.int i] μ Q X := by
  refine call_in G D rfl ?_
  unfold b__law_many_by
  walk_at "ww"
  refine mod_i (by decide) ?_
  walk_at "ww"
  refine br_d (fun hk => ?_) (fun hk => ?_)
  all_goals
    walk_at "ww"
    refine div_i (by decide) (by decide) ?_
    walk_at "ww"
    refine mod_i (by decide) ?_
    walk_at "ww"
    exact h _ (by omega) (by omega)
end

set_option autoImplicit false

set_option linter.unusedVariables false
set_option linter.unusedSimpArgs false
open PySem

theorem idx_some {l : List V} {i : Int} (h0 : 0 ≤ i) (h1 : i < l.length) : ∃ v, idx l i = some v ∧ v ∈ l := by
  unfold idx
  rw [if_pos h0, List.getElem?_eq_getElem (by omega)]
  exact ⟨_, rfl, List.getElem_mem _⟩

section
variable {c : Ctx} (G : Good c sg)
include G
variable {μ : Mem} {Q : V → Mem → Prop} {X : String → Mem → Prop}

theorem alike_str (D : Def c sg "_law_alike" p__law_alike b__law_alike) {s : Str} (hv : PyData.strOk s = true) (h : Q (.bool true) μ) : SC c 1 false "_law_alike" [.str s, .str s] μ Q X := by
  refine call_in G D rfl ?_
  unfold b__law_alike
  walk_at "ww"
  refine cmp_in (r := false) (by rfl) ?_
  walk_at "ww"
  refine cmp_in (r := true) (deq_str hv) ?_
  walk_at "ww"
  exact h

theorem alike_strs (D : Def c sg "_law_alike" p__law_alike b__law_alike) {L : List Str} {x y : Addr} (hx : μ x = some (.list (L.map V.str))) (hy : μ y = some (.list (L.map V.str))) (hz : L.length ≤ 1000) (hp : ∀ s ∈ L, PyData.strOk s = true) (h : Q (.bool true) μ) : SC c 2 false "_law_alike" [.ref x, .ref y] μ Q X := by
  refine call_in G D rfl ?_
  unfold b__law_alike
  walk_at "ww"
  refine cmp_in (r := false) (by rfl) ?_
  walk_at "ww"
  refine isi_list hy (by simp) (b := false) (by rfl) ?_
  walk_at "ww"
  refine isi_list hy (by simp) (b := false) (by rfl) ?_
  walk_at "ww"
  refine isi_list hy (by simp) (b := false) (by rfl) ?_
  walk_at "ww"
  refine isi_list hy (by simp) (b := false) (by rfl) ?_
  walk_at "ww"
  refine isi_list hy (by simp) (b := true) (by rfl) ?_
  walk_at "ww"
  refine isi_list hx (by simp) (b := true) (by rfl) ?_
  walk_at "ww"
  refine br_ndt rfl ?_
  refine s_for rfl ?_
  walk_at "ww"
  have hz' : ((L.map V.str).length : Int) ≤ 1048576 := by rw [List.length_map]; omega
  refine rng1 hz' (by omega) ?_
  refine for_rng (fun i ρ μ' => ρ "_law_found" = some (.ref x) ∧ ρ "_law_due_here" = some (.ref y) ∧ μ' = μ) ⟨by rfl, by rfl, rfl⟩ (fun i ρ μ' h0 h1 hi => ?_) (fun ρ μ' hi => ?_)
  · obtain ⟨r1, r2, rfl⟩ := hi
    obtain ⟨v, hv, hm⟩ := idx_some h0 h1
    walk_at "ww"
    refine sub_l hx hv ?_
    walk_at "ww"
    refine sub_l hy hv ?_
    walk_at "ww"
    obtain ⟨s, hs, rfl⟩ := List.mem_map.mp hm
    refine alike_str G D (hp s hs) ?_
    walk_at "ww"
    exact ⟨by rw [updL_at, if_neg (by decide)]; exact r1, by rw [updL_at, if_neg (by decide)]; exact r2, rfl⟩
  · obtain ⟨r1, r2, rfl⟩ := hi
    walk_at "ww"
    exact h
end

set_option autoImplicit false

set_option linter.unusedVariables false
set_option linter.unusedSimpArgs false
open PySem

noncomputable def letter (h o p : Int) : V := .tup [sV "letter", .int h, .int o, .int p]
noncomputable def Co.sent (C : Co) (h o p : Int) : Co := { C with P := C.P.set h.toNat (C.P.getD h.toNat 0 - p), W := C.W.set h.toNat (C.W.getD h.toNat 0 + 1), rl := C.rl ++ [letter h o p], kn := C.kn ++ [letter h o p] }

section
variable {c : Ctx} (G : Good c sg)
include G
variable {hd : Bool} {μ : Mem} {Q : V → Mem → Prop} {X : String → Mem → Prop} {a : Ad} {C : Co}

theorem hand_on_spec (D1 : Def c sg "is_from" p_is_from b_is_from) (D2 : Def c sg "Company.need_hand" p_Company_need_hand b_Company_need_hand) (D3 : Def c sg "Post.put" p_Post_put b_Post_put) (D4 : Def c sg "Company.noted" p_Company_noted b_Company_noted) (D : Def c sg "Company.hand_on" p_Company_hand_on b_Company_hand_on)
    (hC : Comp μ a C) (ok : C.Ok) (hz : C.kn.length < lim) (hy : C.rl.length < lim) {h o p : Int}
    (hh : ¬ ((0 ≤ h ∧ h < C.P.length) ∧ (0 ≤ o ∧ o < C.P.length)) → hd = false ∧ X "NoHand" μ)
    (hw : (0 ≤ h ∧ h < C.P.length) → (0 ≤ o ∧ o < C.P.length) → ¬ (1 ≤ p ∧ p ≤ C.P.getD h.toNat 0) → hd = false ∧ X "NoWork" μ)
    (hs : (0 ≤ h ∧ h < C.P.length) → (0 ≤ o ∧ o < C.P.length) → 1 ≤ p ∧ p ≤ C.P.getD h.toNat 0 → ∀ μ' r, Comp μ' a (C.sent h o p) → Off a.list μ μ' → μ' r = some (.list [letter h o p]) → r ∉ a.list → μ r = none → Q (.ref r) μ') :
    SC c 3 hd "Company.hand_on" [.ref a.c, .int h, .int o, .int p] μ Q X := by
  refine call_in G D rfl ?_
  unfold b_Company_hand_on
  have h2 := hC.c
  have h3 := hC.cd
  have h4 := hC.p
  walk_at "ww"
  refine meth_own "Company.need_hand" h2 h3 (by rfl) (by rfl) (by rfl) ?_
  walk_at "ww"
  refine need_spec G D1 D2 hC (fun i1 => ?_) (fun q => hh fun z => q z.1)
  walk_at "ww"
  refine meth_own "Company.need_hand" h2 h3 (by rfl) (by rfl) (by rfl) ?_
  walk_at "ww"
  refine need_spec G D1 D2 hC (fun i2 => ?_) (fun q => hh fun z => q z.2)
  walk_at "ww"
  refine sub_l h4 (idx_iL i1.1 i1.2) ?_
  walk_at "ww"
  refine sc_up (is_from_spec G D1 ?_) (by decide)
  walk_at "ww"
  refine br_nd (fun q1 => ?_) (fun q1 => s_raise (hw i1 i2 q1).1 (hw i1 i2 q1).2)
  walk_at "ww"
  refine sub_l h4 (idx_iL i1.1 i1.2) ?_
  walk_at "ww"
  refine setI_in h4 i1.1 (by rw [iL_length]; exact i1.2) ?_
  rw [iL_set]
  have hC1 := hC.setP (C.P.set h.toNat (C.P.getD h.toNat 0 - p))
  have o1 : Off a.list μ (updM μ a.p (.list (iL (C.P.set h.toNat (C.P.getD h.toNat 0 - p))))) := Off.upd (by simp [Ad.list]) _
  generalize updM μ a.p (.list (iL (C.P.set h.toNat (C.P.getD h.toNat 0 - p)))) = μ₁ at hC1 o1 ⊢
  clear h2 h3 h4
  have h2 := hC1.c
  have h3 := hC1.cd
  have h4 := hC1.w
  walk_at "ww"
  refine sub_l h4 (idx_iL i1.1 (by show h < (C.W.length : Int); rw [ok.w]; exact i1.2)) ?_
  walk_at "ww"
  refine setI_in h4 i1.1 (by rw [iL_length]; show h < (C.W.length : Int); rw [ok.w]; exact i1.2) ?_
  rw [iL_set]
  have hC2 := hC1.setW (C.W.set h.toNat (C.W.getD h.toNat 0 + 1))
  have o2 := o1.trans (Off.upd (μ := μ₁) (a := a.w) (l := a.list) (by simp [Ad.list]) (.list (iL (C.W.set h.toNat (C.W.getD h.toNat 0 + 1)))))
  show wpSs _ _ _ _ _ (updM μ₁ a.w (.list (iL (C.W.set h.toNat (C.W.getD h.toNat 0 + 1))))) _ _
  generalize updM μ₁ a.w (.list (iL (C.W.set h.toNat (C.W.getD h.toNat 0 + 1)))) = μ₂ at hC2 o2 ⊢
  clear h2 h3 h4 hC1 o1
  have h2 := hC2.c
  have h3 := hC2.cd
  have h5 := hC2.ps
  have h6 := hC2.pd
  walk_at "ww"
  refine meth_own "Post.put" h5 h6 (by rfl) (by rfl) (by rfl) ?_
  walk_at "ww"
  refine sc_up (put_spec G D3 hC2 hy fun μ₃ hC3 o3 => ?_) (by decide)
  clear h2 h3 h5 h6
  have h2 := hC3.c
  have h3 := hC3.cd
  walk_at "ww"
  refine meth_own "Company.noted" h2 h3 (by rfl) (by rfl) (by rfl) ?_
  walk_at "ww"
  refine newL_in (by show 1 ≤ 1048576; decide) fun n hn => ?_
  walk_at "ww"
  refine sc_up (noted_spec G D4 (hC3.new hn _) mem_here (hC3.notin hn) (by show C.kn.length + 1 ≤ lim; omega) fun μ' hC' o' => ?_) (by decide)
  refine hs i1 i2 q1 μ' n hC' (o2.trans (o3.trans ((Off.new hn _).trans o'))) (o' n _ mem_here (hC3.notin hn)) (hC3.notin hn) ?_
  cases z : μ n with
  | none => rfl
  | some o => have := (o2.trans o3) n o z (hC3.notin hn); rw [hn] at this; cases this
end

set_option autoImplicit false

set_option linter.unusedVariables false
set_option linter.unusedSimpArgs false
open PySem

noncomputable def Ext (μ μ' : Mem) : Prop := ∀ b o, μ b = some o → μ' b = some o
theorem Ext.refl (μ : Mem) : Ext μ μ := fun _ _ h => h
theorem Ext.trans {μ₁ μ₂ μ₃ : Mem} (x : Ext μ₁ μ₂) (y : Ext μ₂ μ₃) : Ext μ₁ μ₃ := fun b o h => y b o (x b o h)
theorem Ext.new {μ : Mem} {n : Addr} (h : μ n = none) (o : O) : Ext μ (updM μ n o) := fun b o' hb => by
  rw [updM_ne fun q => by rw [q, h] at hb; cases hb]; exact hb
theorem Comp.ext {μ μ' : Mem} {a : Ad} {C : Co} (h : Comp μ a C) (k : Ext μ μ') : Comp μ' a C := h.mono fun b o hb _ => k b o hb
theorem ne_some {μ : Mem} {b n : Addr} {o : O} (h : μ n = none) (hb : μ b = some o) : b ≠ n := fun q => by rw [q, h] at hb; cases hb
noncomputable def Keep (a a' : Ad) (μ μ' : Mem) : Prop := ∀ b o, μ b = some o → b ∉ a.list → μ' b = some o ∧ b ∉ a'.list
theorem Keep.of_off {a : Ad} {μ μ' : Mem} (h : Off a.list μ μ') : Keep a a μ μ' := fun b o hb hn => ⟨h b o hb hn, hn⟩
theorem Keep.trans {a a' a'' : Ad} {μ μ' μ'' : Mem} (x : Keep a a' μ μ') (y : Keep a' a'' μ' μ'') : Keep a a'' μ μ'' := fun b o hb hn => y b o (x b o hb hn).1 (x b o hb hn).2

noncomputable def Co.came (C : Co) (s n p : Int) : Co × List V :=
  if C.inB n then ({ C with P := C.P.set n.toNat (C.P.getD n.toNat 0 + p), rl := C.rl ++ [.tup [sV "answer", .int n, .int s, .int 0]] }, [.tup [sV "answer", .int n, .int s, .int 0]])
  else ({ C with P := C.P.set n.toNat (C.P.getD n.toNat 0 + p), K := C.K.set n.toNat (some s) }, [.tup [sV "woken", .int n, .int s]])
noncomputable def Co.back (C : Co) (t y : Int) : Co := { C with W := C.W.set t.toNat (C.W.getD t.toNat 0 - 1), T := C.T.set t.toNat (C.T.getD t.toNat 0 + y) }
noncomputable def Co.note (x : Co × List V) : Co := { x.1 with kn := x.1.kn ++ x.2 }

section
variable {c : Ctx} (G : Good c sg)
include G
variable {hd : Bool} {μ : Mem} {Q : V → Mem → Prop} {X : String → Mem → Prop} {a : Ad} {C : Co}

theorem take_spec (D1 : Def c sg "is_from" p_is_from b_is_from) (D : Def c sg "Post.take" p_Post_take b_Post_take) (hC : Comp μ a C) (hz : C.rl.length ≤ lim) {i : Int}
    (hy : ∀ v, 0 ≤ i → i < C.rl.length → C.rl[i.toNat]? = some v → ∀ μ' n, Comp μ' { a with rl := n } { C with rl := C.rl.eraseIdx i.toNat } → Keep a { a with rl := n } μ μ' → μ n = none → (∀ b o, μ b = some o → b ≠ a.pd → μ' b = some o) → Q v μ')
    (hn : ¬ (0 ≤ i ∧ i < C.rl.length) → hd = false ∧ X "NoPlace" μ) : SC c 2 hd "Post.take" [.ref a.ps, .int i] μ Q X := by
  refine call_in G D rfl ?_
  unfold b_Post_take
  have hp := hC.ps
  have hpd := hC.pd
  have hrl := hC.rl
  walk_at "ww"
  refine is_from_spec G D1 ?_
  walk_at "ww"
  refine br_nd (fun h => ?_) (fun h => ?_)
  · have h0 : 0 ≤ i := by omega
    have h1 : i < C.rl.length := by omega
    have hv : C.rl[i.toNat]? = some (C.rl[i.toNat]'(by omega)) := List.getElem?_eq_getElem _
    walk_at "ww"
    refine sub_l hrl (v := C.rl[i.toNat]'(by omega)) (by unfold idx; rw [if_pos h0]; exact hv) ?_
    walk_at "ww"
    refine slice_in hrl trivial h0 (newL_in (by simp only [cut, List.length_take]; omega) fun n1 hn1 => ?_)
    have e1 := Ext.new hn1 (.list (cut none (some i) C.rl))
    have hp1 := e1 _ _ hp
    have hpd1 := e1 _ _ hpd
    have hrl1 := e1 _ _ hrl
    walk_at "ww"
    refine slice_in hrl1 (show 0 ≤ i + 1 by omega) trivial (newL_in (by simp only [cut, List.length_drop]; omega) fun n2 hn2 => ?_)
    have e2 := Ext.new hn2 (.list (cut (some (i + 1)) none C.rl))
    refine cat_l (e2 _ _ mem_here) mem_here (newL_in ?_ fun n3 hn3 => ?_)
    · simp only [cut, List.length_append, List.length_take, List.length_drop]; omega
    have e3 := Ext.new hn3 (.list (cut none (some i) C.rl ++ cut (some (i + 1)) none C.rl))
    have e := e1.trans (e2.trans e3)
    walk_at "ww"
    refine setA_in (e _ _ hp) (e _ _ hpd) (show 1 < 900 by decide) ?_
    walk_at "ww"
    have fresh : μ n3 = none := by
      cases q : μ n3 with
      | none => rfl
      | some o => have := (e1.trans e2) _ _ q; rw [hn3] at this; cases this
    have cutE : cut none (some i) C.rl ++ cut (some (i + 1)) none C.rl = C.rl.eraseIdx i.toNat := by
      simp only [cut]
      rw [List.eraseIdx_eq_take_drop_succ, show (i + 1).toNat = i.toNat + 1 by omega]
    have hnpd : n3 ≠ a.pd := fun q => by rw [q, hpd] at fresh; cases fresh
    have but : ∀ b o, μ b = some o → b ≠ a.pd → updM (updM (updM (updM μ n1 (.list (cut none (some i) C.rl))) n2 (.list (cut (some (i + 1)) none C.rl))) n3 (.list (cut none (some i) C.rl ++ cut (some (i + 1)) none C.rl))) a.pd (.attrs [("rows", .ref n3)]) b = some o := fun b o hb nb => by
      rw [updM_ne nb]; exact e _ _ hb
    refine hy _ h0 h1 hv _ n3 ?_ (fun b o hb hnb => ⟨but b o hb fun q => hnb (by rw [q]; simp [Ad.list]), ?_⟩) fresh but
    · have nin : n3 ∉ a.list := hC.notin fresh
      exact ⟨nd_set a.list 8 n3 hC.nd nin, but _ _ hC.c (nd_ne hC.nd (i := 0) (j := 7) rfl rfl rfl), but _ _ hC.cd (nd_ne hC.nd (i := 1) (j := 7) rfl rfl rfl), but _ _ hC.p (nd_ne hC.nd (i := 2) (j := 7) rfl rfl rfl), but _ _ hC.w (nd_ne hC.nd (i := 3) (j := 7) rfl rfl rfl), but _ _ hC.k (nd_ne hC.nd (i := 4) (j := 7) rfl rfl rfl), but _ _ hC.t (nd_ne hC.nd (i := 5) (j := 7) rfl rfl rfl), but _ _ hC.ps (nd_ne hC.nd (i := 6) (j := 7) rfl rfl rfl), mem_here, by show updM _ a.pd _ n3 = _; rw [updM_ne hnpd, updM_self, cutE], but _ _ hC.kn (nd_ne hC.nd (i := 9) (j := 7) rfl rfl rfl)⟩
    · exact fun q => (List.mem_or_eq_of_mem_set (l := a.list) (i := 8) q).elim hnb (ne_some fresh hb)
  · obtain ⟨q1, q2⟩ := hn (by omega)
    exact s_raise q1 q2

theorem came_spec (D1 : Def c sg "Company.is_in" p_Company_is_in b_Company_is_in) (D2 : Def c sg "Post.put" p_Post_put b_Post_put) (D : Def c sg "Company.letter_came" p_Company_letter_came b_Company_letter_came) (hC : Comp μ a C) (ok : C.Ok) (hz : C.rl.length < lim) {s n p : Int} {w : V} (h0 : 0 ≤ n) (h1 : n < C.P.length)
    (h : ∀ μ' r, Comp μ' a (C.came s n p).1 → Off a.list μ μ' → μ' r = some (.list (C.came s n p).2) → r ∉ a.list → μ r = none → Q (.ref r) μ') : SC c 2 false "Company.letter_came" [.ref a.c, .tup [w, .int s, .int n, .int p]] μ Q X := by
  refine call_in G D rfl ?_
  unfold b_Company_letter_came
  have h2 := hC.c
  have h3 := hC.cd
  have h4 := hC.p
  refine s_unpack rfl ?_
  walk_at "ww"
  refine unp_in rfl ?_
  walk_at "ww"
  refine sub_l h4 (idx_iL h0 h1) ?_
  walk_at "ww"
  refine setI_in h4 h0 (by rw [iL_length]; exact h1) ?_
  rw [iL_set]
  have hC1 := hC.setP (C.P.set n.toNat (C.P.getD n.toNat 0 + p))
  have o1 : Off a.list μ (updM μ a.p (.list (iL (C.P.set n.toNat (C.P.getD n.toNat 0 + p))))) := Off.upd (by simp [Ad.list]) _
  generalize updM μ a.p (.list (iL (C.P.set n.toNat (C.P.getD n.toNat 0 + p)))) = μ₁ at hC1 o1 ⊢
  clear h2 h3 h4
  have h2 := hC1.c
  have h3 := hC1.cd
  have lK : n < (C.K.length : Int) := by rw [ok.k]; exact h1
  walk_at "ww"
  refine meth_own "Company.is_in" h2 h3 (by rfl) (by rfl) (by rfl) ?_
  walk_at "ww"
  refine is_in_spec G D1 hC1 h0 lK ?_
  have eB : ({ C with P := C.P.set n.toNat (C.P.getD n.toNat 0 + p) } : Co).inB n = C.inB n := rfl
  rw [eB]
  unfold Co.came at h
  cases q : C.inB n with
  | true =>
    rw [if_pos q] at h
    have h5 := hC1.ps
    have h6 := hC1.pd
    walk_at "ww"
    refine meth_own "Post.put" h5 h6 (by rfl) (by rfl) (by rfl) ?_
    walk_at "ww"
    refine put_spec G D2 hC1 hz fun μ₂ hC2 o2 => ?_
    walk_at "ww"
    refine newL_in (show 1 ≤ 1048576 by decide) fun r hr => ?_
    walk_at "ww"
    refine h _ r (hC2.new hr _) (o1.trans (o2.trans (Off.new hr _))) mem_here (hC2.notin hr) ?_
    cases z : μ r with
    | none => rfl
    | some o => have := (o1.trans o2) r o z (hC2.notin hr); rw [hr] at this; cases this
  | false =>
    rw [if_neg (by rw [q]; exact Bool.false_ne_true)] at h
    have h5 := hC1.k
    walk_at "ww"
    refine setI_in h5 h0 (by rw [oL_length]; exact lK) ?_
    rw [show V.int s = oV (some s) from rfl, oL_set]
    have hC2 := hC1.setK (C.K.set n.toNat (some s))
    have o2 := o1.trans (Off.upd (μ := μ₁) (a := a.k) (l := a.list) (by simp [Ad.list]) (.list (oL (C.K.set n.toNat (some s)))))
    show wpSs _ _ _ _ _ (updM μ₁ a.k (.list (oL (C.K.set n.toNat (some s))))) _ _
    generalize updM μ₁ a.k (.list (oL (C.K.set n.toNat (some s)))) = μ₂ at hC2 o2 ⊢
    walk_at "ww"
    refine newL_in (show 1 ≤ 1048576 by decide) fun r hr => ?_
    walk_at "ww"
    refine h _ r (hC2.new hr _) (o2.trans (Off.new hr _)) mem_here (hC2.notin hr) ?_
    cases z : μ r with
    | none => rfl
    | some o => have := o2 r o z (hC2.notin hr); rw [hr] at this; cases this

end

set_option autoImplicit false

set_option linter.unusedVariables false
set_option linter.unusedSimpArgs false
open PySem

noncomputable def ans (f t y : Int) : V := .tup [sV "answer", .int f, .int t, .int y]
theorem deq_ne {s t : Str} {μ : Mem} (h : PyData.strOk s = true) (h' : PyData.strOk t = true) (hn : s ≠ t) : deq μ (.str s) (.str t) = some false := (deq_ss h h').trans (by rw [decide_eq_false hn])
theorem Co.Ok.back {C : Co} (ok : C.Ok) (t y : Int) : (C.back t y).Ok := ⟨by simp [Co.back, ok.w], by simp [Co.back, ok.k], by simp [Co.back, ok.t], by simp [Co.back, ok.lo], by simp [Co.back, ok.hi]⟩
theorem came_len (C : Co) (s n p : Int) : (C.came s n p).2.length = 1 ∧ (C.came s n p).1.kn = C.kn := by
  unfold Co.came
  split <;> exact ⟨rfl, rfl⟩
theorem settle_len (C : Co) (i : Int) : (C.settle i).2.length ≤ 1 := by
  unfold Co.settle
  split
  · exact Nat.zero_le _
  · dsimp only
    split <;> exact Nat.le_refl _

section
variable {c : Ctx} (G : Good c sg)
include G
variable {hd : Bool} {μ : Mem} {Q : V → Mem → Prop} {X : String → Mem → Prop} {a : Ad} {C : Co}

theorem carry_spec (D1 : Def c sg "is_from" p_is_from b_is_from) (D2 : Def c sg "Post.take" p_Post_take b_Post_take) (D3 : Def c sg "Company.is_in" p_Company_is_in b_Company_is_in) (D4 : Def c sg "Post.put" p_Post_put b_Post_put) (D5 : Def c sg "Company.letter_came" p_Company_letter_came b_Company_letter_came)
    (D6 : Def c sg "Company.settled" p_Company_settled b_Company_settled) (D7 : Def c sg "Company.noted" p_Company_noted b_Company_noted) (D : Def c sg "Company.carry" p_Company_carry b_Company_carry) (hC : Comp μ a C) (ok : C.Ok) (hz : C.rl.length < lim) (hz' : C.kn.length < lim) {i : Int}
    (hn : ¬ (0 ≤ i ∧ i < C.rl.length) → false = false ∧ X "NoPlace" μ)
    (hrow : ∀ v, C.rl[i.toNat]? = some v → (∃ s n p, v = letter s n p ∧ 0 ≤ n ∧ n < C.P.length) ∨ (∃ f t y, v = ans f t y ∧ 0 ≤ t ∧ t < C.P.length))
    (hL : ∀ s n p, C.rl[i.toNat]? = some (letter s n p) → ∀ μ' a' r, a'.c = a.c → Comp μ' a' (Co.note (({ C with rl := C.rl.eraseIdx i.toNat } : Co).came s n p)) → Keep a a' μ μ' → μ' r = some (.list (({ C with rl := C.rl.eraseIdx i.toNat } : Co).came s n p).2) → r ∉ a'.list → μ r = none → Q (.ref r) μ')
    (hA : ∀ f t y, C.rl[i.toNat]? = some (ans f t y) → ∀ μ' a' r, a'.c = a.c → Comp μ' a' (Co.note ((({ C with rl := C.rl.eraseIdx i.toNat } : Co).back t y).settle t)) → Keep a a' μ μ' → μ' r = some (.list ((({ C with rl := C.rl.eraseIdx i.toNat } : Co).back t y).settle t).2) → r ∉ a'.list → μ r = none → Q (.ref r) μ') :
    SC c 3 false "Company.carry" [.ref a.c, .int i] μ Q X := by
  refine call_in G D rfl ?_
  unfold b_Company_carry
  have h2 := hC.c
  have h3 := hC.cd
  have h5 := hC.ps
  have h6 := hC.pd
  walk_at "ww"
  refine meth_own "Post.take" h5 h6 (by rfl) (by rfl) (by rfl) ?_
  walk_at "ww"
  refine take_spec G D1 D2 hC (Nat.le_of_lt hz) (fun v h0 h1 hv μ₁ n1 hC1 kp1 fr1 but => ?_) hn
  clear h2 h3 h5 h6
  have ok1 : ({ C with rl := C.rl.eraseIdx i.toNat } : Co).Ok := ⟨ok.w, ok.k, ok.t, ok.lo, ok.hi⟩
  have hz1 : ({ C with rl := C.rl.eraseIdx i.toNat } : Co).rl.length < lim := by have := List.length_eraseIdx_le C.rl i.toNat; show (C.rl.eraseIdx i.toNat).length < lim; omega
  have h2 := hC1.c
  have h3 := hC1.cd
  have fresh : ∀ {μ' : Mem} {r : Addr}, Off ({ a with rl := n1 } : Ad).list μ₁ μ' → r ∉ ({ a with rl := n1 } : Ad).list → μ₁ r = none → μ r = none := fun {μ' r} o1 nr hr => by
    cases z : μ r with
    | none => rfl
    | some o =>
      by_cases q : r ∈ a.list
      · exfalso
        have e : r = a.rl := by
          obtain ⟨i, hi, ei⟩ := List.getElem_of_mem q
          by_cases w : i = 8
          · subst w; exact ei.symm
          · exact absurd (List.mem_iff_getElem.mpr ⟨i, by rw [List.length_set]; exact hi, by rw [List.getElem_set, if_neg (Ne.symm w)]; exact ei⟩ : r ∈ a.list.set 8 n1) nr
        have := but r o z (e ▸ nd_ne hC.nd (i := 8) (j := 7) rfl rfl rfl)
        rw [hr] at this; cases this
      · have := (kp1 r o z q).1; rw [hr] at this; cases this
  rcases hrow v hv with ⟨s, n, p, rfl, n0, n1'⟩ | ⟨f, t, y, rfl, t0, t1⟩
  · unfold letter
    walk_at "ww"
    refine sub_t (v := sV "letter") rfl ?_
    walk_at "ww"
    refine cmp_in (r := true) (deq_str (by decide +kernel)) ?_
    walk_at "ww"
    refine meth_own "Company.noted" h2 h3 (by rfl) (by rfl) (by rfl) ?_
    walk_at "ww"
    refine meth_own "Company.letter_came" h2 h3 (by rfl) (by rfl) (by rfl) ?_
    walk_at "ww"
    refine came_spec G D3 D4 D5 (a := { a with rl := n1 }) hC1 ok1 hz1 n0 n1' fun μ₂ r hC2 o2 hr nr r0 => ?_
    walk_at "ww"
    refine sc_up (noted_spec G D7 hC2 hr nr (by rw [(came_len _ _ _ _).1, (came_len _ _ _ _).2]; exact hz') fun μ₃ hC3 o3 => ?_) (by decide)
    exact hL s n p hv μ₃ { a with rl := n1 } r rfl hC3 (kp1.trans (Keep.of_off (o2.trans o3))) (o3 _ _ hr nr) nr (fresh o2 nr r0)
  · unfold ans
    walk_at "ww"
    refine sub_t (v := sV "answer") rfl ?_
    walk_at "ww"
    refine cmp_in (r := false) (deq_ne (by decide +kernel) (by decide +kernel) (by decide +kernel)) ?_
    walk_at "ww"
    refine sub_t (v := .int t) rfl ?_
    have h4 := hC1.w
    have tW : t < (C.W.length : Int) := by rw [ok.w]; exact t1
    have tT : t < (C.T.length : Int) := by rw [ok.t]; exact t1
    walk_at "ww"
    refine sub_l h4 (idx_iL t0 tW) ?_
    walk_at "ww"
    refine setI_in h4 t0 (by rw [iL_length]; exact tW) ?_
    rw [iL_set]
    have hC2 := hC1.setW (C.W.set t.toNat (C.W.getD t.toNat 0 - 1))
    have o2 : Off ({ a with rl := n1 } : Ad).list μ₁ (updM μ₁ a.w (.list (iL (C.W.set t.toNat (C.W.getD t.toNat 0 - 1))))) := Off.upd (by simp [Ad.list]) _
    show wpSs _ _ _ _ _ (updM μ₁ a.w (.list (iL (C.W.set t.toNat (C.W.getD t.toNat 0 - 1))))) _ _
    change Comp (updM μ₁ a.w (.list (iL (C.W.set t.toNat (C.W.getD t.toNat 0 - 1))))) _ _ at hC2
    generalize updM μ₁ a.w (.list (iL (C.W.set t.toNat (C.W.getD t.toNat 0 - 1)))) = μ₂ at hC2 o2 ⊢
    clear h2 h3 h4
    have h2 := hC2.c
    have h3 := hC2.cd
    have h4 := hC2.t
    walk_at "ww"
    refine sub_l h4 (idx_iL t0 tT) ?_
    walk_at "ww"
    refine sub_t (v := .int y) rfl ?_
    walk_at "ww"
    refine setI_in h4 t0 (by rw [iL_length]; exact tT) ?_
    rw [iL_set]
    have hC3 := hC2.setT (C.T.set t.toNat (C.T.getD t.toNat 0 + y))
    have o3 : Off ({ a with rl := n1 } : Ad).list μ₁ (updM μ₂ a.t (.list (iL (C.T.set t.toNat (C.T.getD t.toNat 0 + y))))) := o2.trans (Off.upd (by simp [Ad.list]) _)
    show wpSs _ _ _ _ _ (updM μ₂ a.t (.list (iL (C.T.set t.toNat (C.T.getD t.toNat 0 + y))))) _ _
    change Comp (updM μ₂ a.t (.list (iL (C.T.set t.toNat (C.T.getD t.toNat 0 + y))))) _ _ at hC3
    generalize updM μ₂ a.t (.list (iL (C.T.set t.toNat (C.T.getD t.toNat 0 + y)))) = μ₃ at hC3 o3 ⊢
    clear h2 h3 h4
    have h2 := hC3.c
    have h3 := hC3.cd
    walk_at "ww"
    refine meth_own "Company.noted" h2 h3 (by rfl) (by rfl) (by rfl) ?_
    walk_at "ww"
    refine meth_own "Company.settled" h2 h3 (by rfl) (by rfl) (by rfl) ?_
    walk_at "ww"
    refine settled_spec G D3 D4 D6 (C := ({ C with rl := C.rl.eraseIdx i.toNat } : Co).back t y) hC3 (ok1.back t y) hz1 t0 t1 fun μ₄ r hC4 o4 hr nr r0 => ?_
    walk_at "ww"
    refine sc_up (noted_spec G D7 hC4 hr nr (by rw [Co.settle_kn]; have := settle_len (({ C with rl := C.rl.eraseIdx i.toNat } : Co).back t y) t; show C.kn.length + _ ≤ lim; omega) fun μ₅ hC5 o5 => ?_) (by decide)
    refine hA f t y hv μ₅ { a with rl := n1 } r rfl hC5 (kp1.trans (Keep.of_off (o3.trans (o4.trans o5)))) (o5 _ _ hr nr) nr ?_
    refine fresh (o3.trans o4) nr ?_
    cases z : μ₁ r with
    | none => rfl
    | some o => have := o3 r o z nr; rw [r0] at this; cases this
end

set_option autoImplicit false

set_option linter.unusedVariables false
set_option linter.unusedSimpArgs false
open PySem

structure Hd where
  p : Int
  w : Int
  k : Option Int
  t : Int
noncomputable def z4 : Hd := ⟨0, 0, none, 0⟩
noncomputable def up (f : Nat → Hd) (i : Nat) (x : Hd) : Nat → Hd := fun j => if j = i then x else f j
theorem up_same (f : Nat → Hd) (i : Nat) (x : Hd) : up f i x i = x := by simp [up]
theorem up_ne {f : Nat → Hd} {i j : Nat} {x : Hd} (h : j ≠ i) : up f i x j = f j := by simp [up, h]
theorem up_up (f : Nat → Hd) (i : Nat) (x y : Hd) : up (up f i x) i y = up f i y := by
  funext j; simp only [up]; split <;> rfl
noncomputable def mp {α : Type} (m : Nat) (g : Nat → α) : List α := (List.range m).map g
theorem mp_len {α : Type} (m : Nat) (g : Nat → α) : (mp m g).length = m := by simp [mp]
theorem mp_get {α : Type} {m i : Nat} (g : Nat → α) (d : α) (h : i < m) : (mp m g).getD i d = g i := by
  simp [mp, List.getD_eq_getElem?_getD, h]
theorem mp_set {α : Type} (m : Nat) (g g' : Nat → α) (i : Nat) (v : α) (h : g' i = v) (h' : ∀ j, j ≠ i → g' j = g j) : (mp m g).set i v = mp m g' := by
  apply List.ext_getElem
  · simp [mp]
  · intro n a b
    simp only [mp, List.getElem_set, List.getElem_map, List.getElem_range]
    split
    · rename_i q; rw [← q, h]
    · rename_i q; rw [h' n (Ne.symm q)]
theorem mp_congr {α : Type} {m : Nat} {g g' : Nat → α} (h : ∀ j, g j = g' j) : mp m g = mp m g' := by
  rw [funext h]
noncomputable def cf (m : Nat) (f : Nat → Hd) (go : Bool) (rl kn : List V) : Co := ⟨mp m fun i => (f i).p, mp m fun i => (f i).w, mp m fun i => (f i).k, mp m fun i => (f i).t, go, kn, rl⟩
theorem cf_ok {m : Nat} {f : Nat → Hd} {go : Bool} {rl kn : List V} (h1 : 1 ≤ m) (h2 : m ≤ 60) : (cf m f go rl kn).Ok := ⟨by simp [cf, mp], by simp [cf, mp], by simp [cf, mp], by simpa [cf, mp] using h1, by simpa [cf, mp] using h2⟩
theorem cf_len {m : Nat} {f : Nat → Hd} {go : Bool} {rl kn : List V} : (cf m f go rl kn).P.length = m := mp_len ..
section
variable {m : Nat} {f : Nat → Hd} {go : Bool} {rl kn : List V}
theorem cf_P {i : Nat} (h : i < m) : (cf m f go rl kn).P.getD i 0 = (f i).p := mp_get _ _ h
theorem cf_W {i : Nat} (h : i < m) : (cf m f go rl kn).W.getD i 0 = (f i).w := mp_get _ _ h
theorem cf_K {i : Nat} (h : i < m) : (cf m f go rl kn).K.getD i none = (f i).k := mp_get _ _ h
theorem cf_T {i : Nat} (h : i < m) : (cf m f go rl kn).T.getD i 0 = (f i).t := mp_get _ _ h
theorem cf_setAll (i : Nat) (x : Hd) : (⟨(cf m f go rl kn).P.set i x.p, (cf m f go rl kn).W.set i x.w, (cf m f go rl kn).K.set i x.k, (cf m f go rl kn).T.set i x.t, go, kn, rl⟩ : Co) = cf m (up f i x) go rl kn := by
  simp only [cf]
  congr 1 <;> exact mp_set m _ _ i _ (by rw [up_same]) (fun j h => by rw [up_ne h])
theorem set_own {α : Type} (m : Nat) (g : Nat → α) (i : Nat) (v : α) (h : g i = v) : (mp m g).set i v = mp m g := mp_set m g g i v h fun _ _ => rfl

theorem cf_sent {h o p : Int} (hh : h.toNat < m) : (cf m f go rl kn).sent h o p = cf m (up f h.toNat { f h.toNat with p := (f h.toNat).p - p, w := (f h.toNat).w + 1 }) go (rl ++ [letter h o p]) (kn ++ [letter h o p]) := by
  rw [← cf_setAll]
  unfold Co.sent
  rw [cf_P hh, cf_W hh]
  simp only [cf]
  congr 1
  · exact (set_own m _ _ _ rfl).symm
  · exact (set_own m _ _ _ rfl).symm
theorem cf_one {i : Int} (hh : i.toNat < m) : (cf m f go rl kn).one i = cf m (up f i.toNat { f i.toNat with p := (f i.toNat).p - 1, t := (f i.toNat).t + 1 }) go rl kn := by
  rw [← cf_setAll]
  unfold Co.one
  rw [cf_P hh, cf_T hh]
  simp only [cf]
  congr 1
  · exact (set_own m _ _ _ rfl).symm
  · exact (set_own m _ _ _ rfl).symm
theorem cf_back {t y : Int} (hh : t.toNat < m) : (cf m f go rl kn).back t y = cf m (up f t.toNat { f t.toNat with w := (f t.toNat).w - 1, t := (f t.toNat).t + y }) go rl kn := by
  rw [← cf_setAll]
  unfold Co.back
  rw [cf_W hh, cf_T hh]
  simp only [cf]
  congr 1
  · exact (set_own m _ _ _ rfl).symm
  · exact (set_own m _ _ _ rfl).symm
theorem cf_in {i : Int} (hh : i.toNat < m) : (cf m f go rl kn).inB i = if i = 0 then go else (f i.toNat).k.isSome := by
  unfold Co.inB
  rw [cf_K hh]; rfl
theorem cf_came_in {s n p : Int} (hh : n.toNat < m) (hi : (if n = 0 then go else (f n.toNat).k.isSome) = true) : (cf m f go rl kn).came s n p = (cf m (up f n.toNat { f n.toNat with p := (f n.toNat).p + p }) go (rl ++ [ans n s 0]) kn, [ans n s 0]) := by
  unfold Co.came
  rw [if_pos (by rw [cf_in hh]; exact hi)]
  congr 1
  rw [← cf_setAll, cf_P hh]
  simp only [cf]
  congr 1
  · exact (set_own m _ _ _ rfl).symm
  · exact (set_own m _ _ _ rfl).symm
  · exact (set_own m _ _ _ rfl).symm
theorem cf_came_out {s n p : Int} (hh : n.toNat < m) (hi : (if n = 0 then go else (f n.toNat).k.isSome) = false) : (cf m f go rl kn).came s n p = (cf m (up f n.toNat { f n.toNat with p := (f n.toNat).p + p, k := some s }) go rl kn, [.tup [sV "woken", .int n, .int s]]) := by
  unfold Co.came
  rw [if_neg (by rw [cf_in hh, hi]; exact Bool.false_ne_true)]
  congr 1
  rw [← cf_setAll, cf_P hh]
  simp only [cf]
  congr 1
  · exact (set_own m _ _ _ rfl).symm
  · exact (set_own m _ _ _ rfl).symm
theorem cf_settle_no {i : Int} (hh : i.toNat < m) (h : 0 < (f i.toNat).p ∨ 0 < (f i.toNat).w ∨ (if i = 0 then go else (f i.toNat).k.isSome) = false) : (cf m f go rl kn).settle i = (cf m f go rl kn, []) := by
  unfold Co.settle
  rw [cf_P hh, cf_W hh, cf_in hh, if_pos h]
theorem cf_settle_0 (hh : 0 < m) (h1 : ¬ 0 < (f 0).p) (h2 : ¬ 0 < (f 0).w) (h3 : go = true) : (cf m f go rl kn).settle 0 = (cf m (up f 0 { f 0 with t := 0 }) false rl kn, [.tup [sV "end", .int (f 0).t]]) := by
  unfold Co.settle
  rw [cf_P (i := (0 : Int).toNat) hh, cf_W (i := (0 : Int).toNat) hh, cf_in (i := 0) hh, if_neg (by simp [h1, h2, h3])]
  simp only [if_true]
  rw [cf_T (i := (0 : Int).toNat) hh]
  refine Prod.ext ?_ rfl
  show _ = cf m (up f 0 { f 0 with t := 0 }) false rl kn
  rw [← cf_setAll (go := false)]
  simp only [cf]
  congr 1
  · exact (set_own m _ _ _ rfl).symm
  · exact (set_own m _ _ _ rfl).symm
  · exact (set_own m _ _ _ rfl).symm
theorem cf_settle_n {i s : Int} (hh : i.toNat < m) (h0 : i ≠ 0) (h1 : ¬ 0 < (f i.toNat).p) (h2 : ¬ 0 < (f i.toNat).w) (h3 : (f i.toNat).k = some s) : (cf m f go rl kn).settle i = (cf m (up f i.toNat { f i.toNat with k := none, t := 0 }) go (rl ++ [ans i s (f i.toNat).t]) kn, [ans i s (f i.toNat).t]) := by
  unfold Co.settle
  rw [cf_P hh, cf_W hh, cf_in hh, if_neg (by simp [h0, h1, h2, h3])]
  simp only [h0, if_false]
  rw [cf_T hh, cf_K hh, h3]
  refine Prod.ext ?_ rfl
  show _ = cf m (up f i.toNat { f i.toNat with k := none, t := 0 }) go (rl ++ [ans i s (f i.toNat).t]) kn
  rw [← cf_setAll]
  simp only [cf]
  congr 1
  · exact (set_own m _ _ _ rfl).symm
  · exact (set_own m _ _ _ rfl).symm
end

set_option autoImplicit false

set_option maxHeartbeats 2000000
set_option linter.unusedVariables false
set_option linter.unusedSimpArgs false
open PySem

noncomputable def pick (m : Nat) (t : Nat → Bool) : List V := ((List.range m).filter t).map fun (i : Nat) => V.int i
theorem pick_eq (m : Nat) (t : Nat → Bool) (F : V → Option V) (h : ∀ i : Nat, i < m → F (.int i) = if t i then some (.int i) else none) : (rngItems 0 m 1).filterMap F = pick m t := by
  unfold rngItems pick
  rw [if_pos rfl, List.filterMap_map]
  have e : ((m : Int) - 0).toNat = m := by omega
  rw [e]
  have : ∀ l : List Nat, (∀ i ∈ l, i < m) → l.filterMap (F ∘ fun (i : Nat) => V.int (0 + i)) = (l.filter t).map fun (i : Nat) => V.int i := by
    intro l
    induction l with
    | nil => intro _; rfl
    | cons a l ih =>
      intro hl
      have ea : (F ∘ fun (i : Nat) => V.int (0 + i)) a = if t a then some (.int a) else none := by
        simp only [Function.comp, Int.zero_add]
        exact h a (hl a (.head _))
      rw [List.filterMap_cons, ea, ih fun i hi => hl i (.tail _ hi), List.filter_cons]
      cases t a <;> rfl
  exact this _ fun i hi => List.mem_range.mp hi
theorem pick_get {m : Nat} {t : Nat → Bool} {j : Int} (h0 : 0 ≤ j) (h1 : j < (pick m t).length) : ∃ i : Nat, idx (pick m t) j = some (.int i) ∧ i < m ∧ t i = true := by
  obtain ⟨v, hv, hm⟩ := idx_some h0 h1
  unfold pick at hm
  obtain ⟨i, hi, rfl⟩ := List.mem_map.mp hm
  have := List.mem_filter.mp hi
  exact ⟨i, hv, List.mem_range.mp this.1, this.2⟩
theorem rng_get {m : Nat} {k : Nat} {w : V} (h : (rngItems 0 m 1)[k]? = some w) : w = .int k ∧ k < m := by
  rw [rngItems_get] at h
  split at h
  · rename_i q
    unfold rngLen at q
    cases h
    exact ⟨by rw [Int.zero_add], by omega⟩
  · exact ns h
theorem rng_len (m : Nat) : (rngItems 0 m 1).length = m := by unfold rngItems; simp
theorem comp_pick {sg : Sig} {sc : Bool → Sc} {hd : Bool} {X : String → Mem → Prop} {ρ : Loc} {μ : Mem} {Q : V → Mem → Prop} {x : String} {cs : List String} {e : E} {p : Pos} {m : Nat} (t : Nat → Bool) (hm : m ≤ 1000)
    (turn : ∀ (i : Nat) (μ' : Mem) (K : Bool → Mem → Prop), i < m → Ext μ μ' → K (t i) μ' → wpE sg sc hd e (updL (capL cs ρ) x (.int i)) μ' (fun v μ₁ => tr v fun b => K b μ₁) fun _ _ => False)
    (fin : ∀ n, μ n = none → Q (.ref n) (updM μ n (.list (pick m t)))) : compW sg sc hd X ρ Q (.loc x p) x cs [e] (.rng 0 m 1) μ := by
  have eF : ∀ i : Nat, i < m → (fun w => match w with | V.int i => if t i.toNat then some (V.int i) else none | _ => none) (V.int i) = if t i then some (.int i) else none := fun i _ => by
    simp only [Int.toNat_natCast]
  refine comp_map (items := rngItems 0 m 1) (fun w => match w with | V.int i => if t i.toNat then some (V.int i) else none | _ => none) rfl (by rw [rng_len]; unfold lim; omega) (fun k w μ' K hk hx hK => ?_) (fun n hn => ?_)
  · obtain ⟨rfl, hlt⟩ := rng_get hk
    refine if_one (turn k μ' _ hlt hx ?_)
    simp only [Int.toNat_natCast] at hK
    cases q : t k with
    | true =>
      rw [if_pos q] at hK
      exact br_t (e_here hK)
    | false =>
      rw [if_neg (by rw [q]; decide)] at hK
      exact br_f hK
  · rw [pick_eq m t _ eF]
    exact fin n hn
theorem mod_bd {a b : Int} (h : 0 < b) : 0 ≤ a % b ∧ a % b < b := ⟨Int.emod_nonneg a (by omega), Int.emod_lt_of_pos a h⟩
theorem rep_mp {α : Type} (m : Nat) (v : α) : List.replicate m v = mp m fun _ => v := by
  apply List.ext_getElem
  · simp [mp]
  · intro n a b; simp [mp]
theorem newCo_cf (m : Nat) : newCo (m : Int) = cf m (fun _ => z4) false [] [] := by
  simp only [newCo, cf, z4, Int.toNat_natCast, rep_mp]
theorem begin_cf {m : Nat} {f : Nat → Hd} {go : Bool} {rl kn : List V} {i : Int} {r : V} (h : 0 < m) : ({ cf m f go rl kn with go := true, P := (cf m f go rl kn).P.set 0 i, kn := (cf m f go rl kn).kn ++ [r] } : Co) = cf m (up f 0 { f 0 with p := i }) true rl (kn ++ [r]) := by
  rw [← cf_setAll]
  simp only [cf]
  congr 1
  · exact (set_own m _ _ _ rfl).symm
  · exact (set_own m _ _ _ rfl).symm
  · exact (set_own m _ _ _ rfl).symm
theorem for_nat {sg : Sig} {sc : Bool → Sc} {hd : Bool} {r : List S} {ρ : Loc} {μ : Mem} {Q : Fl → Loc → Mem → Prop} {X : String → Loc → Mem → Prop} {x : String} {body : List S} {m : Nat} (I : Nat → Loc → Mem → Prop) (i0 : I 0 ρ μ)
    (turn : ∀ i ρ μ, i < m → I i ρ μ → wpSs sg sc hd body (updL ρ x (.int i)) μ (sq (I (i + 1)) (sq (rW sg sc hd X Q r) Q)) X) (fin : ∀ ρ μ, I m ρ μ → wpSs sg sc hd r ρ μ Q X) : forW sg sc hd x body r ρ Q X (.rng 0 m 1) μ := by
  refine for_in (items := rngItems 0 m 1) rfl I i0 (fun _ _ _ _ => rfl) (fun k w ρ μ hk hi => ?_) (fun ρ μ hi => ?_)
  · obtain ⟨rfl, hlt⟩ := rng_get hk
    exact turn k ρ μ hlt hi
  · rw [rng_len] at hi
    exact fin ρ μ hi

set_option autoImplicit false

set_option maxHeartbeats 2000000
set_option linter.unusedVariables false
set_option linter.unusedSimpArgs false
open PySem

inductive Rw where
  | lt (s n : Nat) (p : Int)
  | an (g t : Nat) (y : Int)
noncomputable def Rw.v : Rw → V
  | .lt s n p => letter s n p
  | .an g t y => ans g t y
noncomputable def rV (l : List Rw) : List V := l.map Rw.v
noncomputable def sumN : Nat → (Nat → Int) → Int
  | 0, _ => 0
  | n + 1, g => sumN n g + g n
noncomputable def sumR (g : Rw → Int) : List Rw → Int
  | [] => 0
  | r :: l => g r + sumR g l
theorem sumN_congr {g g' : Nat → Int} : ∀ (m : Nat), (∀ i < m, g i = g' i) → sumN m g = sumN m g'
  | 0, _ => rfl
  | m + 1, h => by
    simp only [sumN]
    rw [sumN_congr m fun i hi => h i (by omega), h m (by omega)]
theorem sumN_up {f : Nat → Hd} {G : Hd → Int} {h : Nat} {x : Hd} : ∀ (m : Nat), h < m → sumN m (fun i => G (up f h x i)) = sumN m (fun i => G (f i)) - G (f h) + G x
  | 0, hm => absurd hm (by omega)
  | m + 1, hm => by
    simp only [sumN]
    by_cases q : h = m
    · subst q
      rw [up_same, sumN_congr h (g := fun i => G (up f h x i)) (g' := fun i => G (f i)) fun i hi => by rw [up_ne (by omega)]]
      omega
    · rw [up_ne (fun z => q z.symm), sumN_up m (by omega)]
      omega
theorem sumN_ge0 {g : Nat → Int} : ∀ (m : Nat), (∀ i < m, 0 ≤ g i) → 0 ≤ sumN m g
  | 0, _ => Int.le_refl _
  | m + 1, h => by
    have := sumN_ge0 m fun i hi => h i (by omega)
    have := h m (by omega)
    simp only [sumN]; omega
theorem sumN_le {g : Nat → Int} : ∀ (m : Nat), (∀ i < m, 0 ≤ g i) → ∀ i < m, g i ≤ sumN m g
  | 0, _, i, hi => absurd hi (by omega)
  | m + 1, h, i, hi => by
    have h0 := sumN_ge0 m fun i hi => h i (by omega)
    have h1 := h m (by omega)
    simp only [sumN]
    by_cases q : i = m
    · subst q; omega
    · have := sumN_le m (fun i hi => h i (by omega)) i (by omega)
      omega
theorem sumR_append {g : Rw → Int} : ∀ (l k : List Rw), sumR g (l ++ k) = sumR g l + sumR g k
  | [], k => by simp [sumR]
  | r :: l, k => by
    simp only [List.cons_append, sumR]
    rw [sumR_append l k]; omega
theorem sumR_snoc {g : Rw → Int} (l : List Rw) (r : Rw) : sumR g (l ++ [r]) = sumR g l + g r := by
  rw [sumR_append]; simp [sumR]
theorem sumR_erase {g : Rw → Int} : ∀ (l : List Rw) (k : Nat) (r : Rw), l[k]? = some r → sumR g (l.eraseIdx k) = sumR g l - g r
  | [], k, r, h => by simp at h
  | a :: l, 0, r, h => by
    have : a = r := by simpa using h
    subst this
    simp only [List.eraseIdx_cons_zero, sumR]; omega
  | a :: l, k + 1, r, h => by
    simp only [List.eraseIdx_cons_succ, sumR]
    rw [sumR_erase l k r (by simpa using h)]; omega
theorem sumR_ge0 {g : Rw → Int} : ∀ (l : List Rw), (∀ r ∈ l, 0 ≤ g r) → 0 ≤ sumR g l
  | [], _ => Int.le_refl _
  | r :: l, h => by
    have := h r (.head _)
    have := sumR_ge0 l fun r hr => h r (.tail _ hr)
    simp only [sumR]; omega
theorem sumR_le {g : Rw → Int} : ∀ (l : List Rw), (∀ r ∈ l, 0 ≤ g r) → ∀ r ∈ l, g r ≤ sumR g l
  | [], _, r, h => by cases h
  | a :: l, h, r, hr => by
    have h1 := h a (.head _)
    have h2 := sumR_ge0 l fun r hr => h r (.tail _ hr)
    simp only [sumR]
    cases hr with
    | head => omega
    | tail _ hr =>
      have := sumR_le l (fun r hr => h r (.tail _ hr)) r hr
      omega
theorem rV_erase : ∀ (l : List Rw) (k : Nat), (rV l).eraseIdx k = rV (l.eraseIdx k)
  | [], _ => rfl
  | a :: l, 0 => rfl
  | a :: l, k + 1 => congrArg (Rw.v a :: ·) (rV_erase l k)
theorem rV_snoc (l : List Rw) (r : Rw) : rV l ++ [r.v] = rV (l ++ [r]) := by simp [rV]
theorem rV_len (l : List Rw) : (rV l).length = l.length := List.length_map ..

noncomputable def owes (i : Nat) : Rw → Int
  | .lt s _ _ => if s = i then 1 else 0
  | .an _ t _ => if t = i then 1 else 0
noncomputable def amt : Rw → Int
  | .lt _ _ p => p
  | .an _ _ y => y
noncomputable def kid (i : Nat) (x : Hd) : Int := if x.k = some (i : Int) then 1 else 0
theorem owes_ge0 (i : Nat) (r : Rw) : 0 ≤ owes i r := by cases r <;> (simp only [owes]; split <;> decide)
theorem kid_ge0 (i : Nat) (x : Hd) : 0 ≤ kid i x := by unfold kid; split <;> decide
noncomputable def isIn (f : Nat → Hd) (i : Nat) : Prop := i = 0 ∨ (f i).k.isSome = true
noncomputable def rowIn (m : Nat) : Rw → Prop
  | .lt s n p => s < m ∧ n < m ∧ 1 ≤ p
  | .an g t y => g < m ∧ t < m ∧ 0 ≤ y
structure TT (e : Option Nat) (m : Nat) (f : Nat → Hd) (l : List Rw) (tot : Int) : Prop where
  lo : 1 ≤ m
  far : ∀ i, m ≤ i → f i = z4
  k0 : (f 0).k = none
  p : ∀ i, 0 ≤ (f i).p
  t : ∀ i, 0 ≤ (f i).t
  kr : ∀ i s, (f i).k = some s → ∃ s' : Nat, s = s' ∧ s' < m ∧ isIn f s'
  rows : ∀ r ∈ l, rowIn m r
  bal : ∀ i < m, (f i).w = sumR (owes i) l + sumN m (fun j => kid i (f j))
  out : ∀ i, ¬ isIn f i → f i = z4
  busy : ∀ i < m, isIn f i → some i ≠ e → 0 < (f i).p ∨ 0 < (f i).w
  tree : ∃ r : Nat → Nat, ∀ (i s : Nat), (f i).k = some (s : Int) → r s < r i
  tot : sumN m (fun i => (f i).p + (f i).t) + sumR amt l = tot
section
variable {e : Option Nat} {m : Nat} {f : Nat → Hd} {l : List Rw} {tot : Int}
theorem TT.w (T : TT e m f l tot) (i : Nat) : 0 ≤ (f i).w := by
  by_cases q : i < m
  · rw [T.bal i q]
    have := sumR_ge0 (g := owes i) l fun r _ => owes_ge0 i r
    have := sumN_ge0 (g := fun j => kid i (f j)) m fun j _ => kid_ge0 i _
    omega
  · rw [T.far i (by omega)]; decide
theorem TT.inw (T : TT e m f l tot) {i : Nat} (h : 0 < (f i).w) : isIn f i := by
  by_cases q : isIn f i
  · exact q
  · rw [T.out i q] at h; exact absurd h (by decide)
theorem TT.inp (T : TT e m f l tot) {i : Nat} (h : 0 < (f i).p) : isIn f i := by
  by_cases q : isIn f i
  · exact q
  · rw [T.out i q] at h; exact absurd h (by decide)
theorem TT.lt_p (T : TT e m f l tot) {i : Nat} (h : 0 < (f i).p) : i < m := by
  by_cases q : i < m
  · exact q
  · rw [T.far i (by omega)] at h; exact absurd h (by decide)
theorem TT.owed (T : TT e m f l tot) {i : Nat} (hi : i < m) {r : Rw} (hr : r ∈ l) (ho : owes i r = 1) : 0 < (f i).w := by
  rw [T.bal i hi]
  have := sumR_le (g := owes i) l (fun r _ => owes_ge0 i r) r hr
  have := sumN_ge0 (g := fun j => kid i (f j)) m fun j _ => kid_ge0 i _
  omega
theorem TT.kid1 (T : TT e m f l tot) {i j : Nat} (hi : i < m) (hk : (f j).k = some (i : Int)) : 0 < (f i).w := by
  have hj : j < m := by
    by_cases q : j < m
    · exact q
    · rw [T.far j (by omega)] at hk; cases hk
  rw [T.bal i hi]
  have := sumR_ge0 (g := owes i) l fun r _ => owes_ge0 i r
  have h2 := sumN_le (g := fun j => kid i (f j)) m (fun j _ => kid_ge0 i _) j hj
  have : kid i (f j) = 1 := by unfold kid; rw [if_pos hk]
  simp only [this] at h2
  omega
theorem isIn_up {h : Nat} {x : Hd} (hx : h ≠ 0 → (x.k.isSome = (f h).k.isSome)) (i : Nat) : isIn (up f h x) i ↔ isIn f i := by
  unfold isIn
  by_cases q : i = h
  · subst q
    rw [up_same]
    by_cases z : i = 0
    · simp [z]
    · rw [hx z]
  · rw [up_ne q]
theorem TT.upd (T : TT e m f l tot) {h : Nat} (hh : h < m) {x : Hd} (e' : Option Nat) (l' : List Rw) (tot' : Int) (xk : x.k = (f h).k) (xp : 0 ≤ x.p) (xt : 0 ≤ x.t) (hin : isIn f h)
    (rows : ∀ r ∈ l', rowIn m r) (bal : ∀ i < m, (up f h x i).w = sumR (owes i) l' + sumN m (fun j => kid i (f j))) (bh : some h ≠ e' → 0 < x.p ∨ 0 < x.w) (ee : ∀ i, i ≠ h → some i ≠ e' → some i ≠ e)
    (ht : sumN m (fun i => (f i).p + (f i).t) - ((f h).p + (f h).t) + (x.p + x.t) + sumR amt l' = tot') : TT e' m (up f h x) l' tot' := by
  have ki : ∀ j, (up f h x j).k = (f j).k := fun j => by
    by_cases q : j = h
    · subst q; rw [up_same, xk]
    · rw [up_ne q]
  have ii : ∀ i, isIn (up f h x) i ↔ isIn f i := isIn_up fun _ => by rw [xk]
  have kk : ∀ i, sumN m (fun j => kid i (up f h x j)) = sumN m (fun j => kid i (f j)) := fun i => sumN_congr m fun j _ => by unfold kid; rw [ki]
  refine ⟨T.lo, fun i hi => ?_, by rw [ki]; exact T.k0, fun i => ?_, fun i => ?_, fun i s hs => ?_, rows, fun i hi => by rw [kk]; exact bal i hi, fun i hi => ?_, fun i him hi hie => ?_, ?_, ?_⟩
  · rw [up_ne (by omega)]; exact T.far i hi
  · by_cases q : i = h
    · subst q; rw [up_same]; exact xp
    · rw [up_ne q]; exact T.p i
  · by_cases q : i = h
    · subst q; rw [up_same]; exact xt
    · rw [up_ne q]; exact T.t i
  · rw [ki] at hs
    obtain ⟨s', h1, h2, h3⟩ := T.kr i s hs
    exact ⟨s', h1, h2, (ii s').mpr h3⟩
  · have hi' : ¬ isIn f i := fun z => hi ((ii i).mpr z)
    have hne : i ≠ h := fun z => hi' (by rw [z]; exact hin)
    rw [up_ne hne]
    exact T.out i hi'
  · by_cases q : i = h
    · subst q; rw [up_same]; exact bh hie
    · rw [up_ne q]; exact T.busy i him ((ii i).mp hi) (ee i q hie)
  · obtain ⟨r, hr⟩ := T.tree
    exact ⟨r, fun i s hs => hr i s (by rw [← ki]; exact hs)⟩
  · rw [sumN_up (G := fun x => x.p + x.t) m hh]
    exact ht

theorem TT.sent (T : TT none m f l tot) {h o : Nat} {p : Int} (hh : h < m) (ho : o < m) (p1 : 1 ≤ p) (pp : p ≤ (f h).p) : TT none m (up f h { f h with p := (f h).p - p, w := (f h).w + 1 }) (l ++ [.lt h o p]) tot := by
  have tt := T.tot
  refine T.upd hh none _ tot rfl (by show 0 ≤ (f h).p - p; omega) (T.t h) (T.inp (by omega)) (fun r hr => ?_) (fun i hi => ?_) (fun _ => .inr ?_) (fun _ _ z => z) ?_
  · rcases List.mem_append.mp hr with hr | hr
    · exact T.rows r hr
    · rw [List.mem_singleton.mp hr]; exact ⟨hh, ho, p1⟩
  · have b := T.bal i hi
    rw [sumR_snoc]
    by_cases q : i = h
    · subst q; rw [up_same]; simp only [owes, if_true]; omega
    · rw [up_ne q]; simp only [owes, if_neg (Ne.symm q)]; omega
  · have := T.w h; show 0 < (f h).w + 1; omega
  · rw [sumR_snoc]; simp only [amt]; omega
theorem TT.one (T : TT none m f l tot) {h : Nat} (pp : 0 < (f h).p) : TT (some h) m (up f h { f h with p := (f h).p - 1, t := (f h).t + 1 }) l tot := by
  have tt := T.tot
  have t0 := T.t h
  refine T.upd (T.lt_p pp) (some h) l tot rfl (by show 0 ≤ (f h).p - 1; omega) (by show 0 ≤ (f h).t + 1; omega) (T.inp pp) T.rows (fun i hi => ?_) (fun z => absurd rfl z) (fun i _ _ z => by cases z) (by simp only; omega)
  by_cases q : i = h
  · subst q; rw [up_same]; exact T.bal i hi
  · rw [up_ne q]; exact T.bal i hi
theorem TT.back (T : TT none m f l tot) {k g t : Nat} {y : Int} (hk : l[k]? = some (.an g t y)) : TT (some t) m (up f t { f t with w := (f t).w - 1, t := (f t).t + y }) (l.eraseIdx k) tot := by
  have tt := T.tot
  have hm := List.mem_of_getElem? hk
  obtain ⟨_, ht, y0⟩ := T.rows _ hm
  have t0 := T.t t
  have w0 := T.owed ht hm (by simp [owes])
  refine T.upd ht (some t) _ tot rfl (T.p t) (by show 0 ≤ (f t).t + y; omega) (T.inw w0) (fun r hr => T.rows r ((List.eraseIdx_sublist l k).subset hr)) (fun i hi => ?_) (fun z => absurd rfl z) (fun i _ _ z => by cases z) (by rw [sumR_erase l k _ hk]; simp only [amt]; omega)
  rw [sumR_erase l k _ hk]
  have b := T.bal i hi
  by_cases q : i = t
  · subst q; rw [up_same]; simp only [owes, if_true]; omega
  · rw [up_ne q]; simp only [owes, if_neg (Ne.symm q)]; omega
theorem TT.settleNo {h : Nat} (T : TT (some h) m f l tot) (hb : 0 < (f h).p ∨ 0 < (f h).w) : TT none m f l tot :=
  ⟨T.lo, T.far, T.k0, T.p, T.t, T.kr, T.rows, T.bal, T.out, fun i hi hin _ => by
      by_cases q : i = h
      · subst q; exact hb
      · exact T.busy i hi hin fun z => q (Option.some.inj z), T.tree, T.tot⟩
theorem TT.settleN {h : Nat} (T : TT (some h) m f l tot) (h0 : h ≠ 0) (hh : h < m) (hp : (f h).p = 0) (hw : (f h).w = 0) {s : Nat} (hk : (f h).k = some (s : Int)) : s < m ∧ TT none m (up f h z4) (l ++ [.an h s (f h).t]) tot := by
  obtain ⟨s', e1, hs, sin⟩ := T.kr h _ hk
  have e1 : s = s' := by omega
  subst e1
  obtain ⟨rk, hrk⟩ := T.tree
  have hsh : s ≠ h := fun z => by have := hrk h s hk; rw [z] at this; omega
  have nok : ∀ j, (f j).k ≠ some (h : Int) := fun j z => by have := T.kid1 hh z; omega
  have tt := T.tot
  have inb : ∀ i, i ≠ h → (isIn (up f h z4) i ↔ isIn f i) := fun i q => by unfold isIn; rw [up_ne q]
  have noth : ¬ isIn (up f h z4) h := fun z => by
    rcases z with z | z
    · exact h0 z
    · rw [up_same] at z; cases z
  refine ⟨hs, T.lo, fun i hi => ?_, ?_, fun i => ?_, fun i => ?_, fun i s'' hs' => ?_, fun r hr => ?_, fun i hi => ?_, fun i hi => ?_, fun i him hi _ => ?_, ⟨rk, fun i s' hs' => ?_⟩, ?_⟩
  · rw [up_ne (by omega)]; exact T.far i hi
  · rw [up_ne (Ne.symm h0)]; exact T.k0
  · by_cases q : i = h
    · subst q; rw [up_same]; decide
    · rw [up_ne q]; exact T.p i
  · by_cases q : i = h
    · subst q; rw [up_same]; decide
    · rw [up_ne q]; exact T.t i
  · by_cases q : i = h
    · subst q; rw [up_same] at hs'; cases hs'
    · rw [up_ne q] at hs'
      obtain ⟨s1, h1, h2, h3⟩ := T.kr i s'' hs'
      refine ⟨s1, h1, h2, (inb s1 fun z => nok i ?_).mpr h3⟩
      rw [hs', h1, z]
  · rcases List.mem_append.mp hr with hr | hr
    · exact T.rows r hr
    · rw [List.mem_singleton.mp hr]; exact ⟨hh, hs, T.t h⟩
  · have b := T.bal i hi
    have ks := sumN_up (f := f) (G := kid i) (x := z4) m hh
    have kz : kid i z4 = 0 := by unfold kid; rw [if_neg (by simp [z4])]
    have kh : kid i (f h) = if i = s then 1 else 0 := by
      unfold kid; rw [hk]
      by_cases q : i = s
      · subst q; simp
      · rw [if_neg (by simp; omega), if_neg q]
    rw [sumR_snoc, ks, kz, kh]
    by_cases q : i = h
    · subst q
      rw [up_same]
      rw [hw] at b
      simp only [owes, if_neg hsh, if_neg (Ne.symm hsh)]
      show (0 : Int) = _
      omega
    · rw [up_ne q]
      by_cases z : i = s
      · subst z; simp only [owes, if_true]; omega
      · simp only [owes, if_neg z, if_neg (Ne.symm z)]; omega
  · by_cases q : i = h
    · subst q; rw [up_same]
    · rw [up_ne q]; exact T.out i fun z => hi ((inb i q).mpr z)
  · by_cases q : i = h
    · subst q; exact absurd hi noth
    · rw [up_ne q]; exact T.busy i him ((inb i q).mp hi) fun z => q (Option.some.inj z)
  · by_cases q : i = h
    · subst q; rw [up_same] at hs'; cases hs'
    · rw [up_ne q] at hs'; exact hrk i s' hs'
  · rw [sumN_up (G := fun x => x.p + x.t) m hh, sumR_snoc]
    simp only [amt, z4]
    omega
theorem TT.noKid (T : TT e m f l tot) (hw : (f 0).w = 0) : ∀ i, (f i).k = none := by
  obtain ⟨rk, hrk⟩ := T.tree
  have key : ∀ n i, rk i ≤ n → (f i).k ≠ none → False := by
    intro n
    induction n with
    | zero =>
      intro i hi hk
      obtain ⟨s, hs⟩ := Option.ne_none_iff_exists'.mp hk
      obtain ⟨s', rfl, hs', _⟩ := T.kr i s hs
      have := hrk i s' hs
      omega
    | succ n ih =>
      intro i hi hk
      obtain ⟨s, hs⟩ := Option.ne_none_iff_exists'.mp hk
      obtain ⟨s', rfl, hs', sin⟩ := T.kr i s hs
      have := hrk i s' hs
      rcases sin with rfl | sin
      · have := T.kid1 T.lo hs; omega
      · exact ih s' (by omega) fun z => by rw [z] at sin; cases sin
  intro i
  cases q : (f i).k with
  | none => rfl
  | some s => exact (key (rk i) i (Nat.le_refl _) (by rw [q]; exact nofun)).elim
theorem TT.settle0 (T : TT e m f l tot) (hp : (f 0).p = 0) (hw : (f 0).w = 0) : l = [] ∧ (∀ i, i ≠ 0 → f i = z4) ∧ (f 0).t = tot := by
  have nk := T.noKid hw
  have nin : ∀ i, i ≠ 0 → ¬ isIn f i := fun i hi z => by
    rcases z with z | z
    · exact hi z
    · rw [nk i] at z; cases z
  have z := fun i hi => T.out i (nin i hi)
  have hl : l = [] := by
    cases q : l with
    | nil => rfl
    | cons r l' =>
      exfalso
      have hr : r ∈ l := by rw [q]; exact .head _
      have ri := T.rows r hr
      cases r with
      | lt s n p =>
        have := T.owed ri.1 hr (by simp [owes])
        by_cases q : s = 0
        · subst q; omega
        · rw [z s q] at this; exact absurd this (by decide)
      | an g t y =>
        have := T.owed ri.2.1 hr (by simp [owes])
        by_cases q : t = 0
        · subst q; omega
        · rw [z t q] at this; exact absurd this (by decide)
  refine ⟨hl, z, ?_⟩
  have tt := T.tot
  rw [hl] at tt
  have : ∀ n, 1 ≤ n → sumN n (fun i => (f i).p + (f i).t) = (f 0).t := by
    intro n hn
    induction n with
    | zero => omega
    | succ n ih =>
      simp only [sumN]
      by_cases q : n = 0
      · subst q; simp only [sumN, hp]; omega
      · rw [ih (by omega), z n q]; show _ + (0 + 0) = _; omega
  rw [this m T.lo] at tt
  simp only [sumR] at tt
  omega
theorem TT.cameIn (T : TT none m f l tot) {k s n : Nat} {p : Int} (hk : l[k]? = some (.lt s n p)) (hin : isIn f n) : TT none m (up f n { f n with p := (f n).p + p }) (l.eraseIdx k ++ [.an n s 0]) tot := by
  have tt := T.tot
  have hm := List.mem_of_getElem? hk
  obtain ⟨hs, hn, p1⟩ := T.rows _ hm
  have p0 := T.p n
  refine T.upd hn none _ tot rfl (by show 0 ≤ (f n).p + p; omega) (T.t n) hin (fun r hr => ?_) (fun i hi => ?_) (fun _ => .inl (by show 0 < (f n).p + p; omega)) (fun _ _ z => z) (by rw [sumR_snoc, sumR_erase l k _ hk]; simp only [amt]; omega)
  · rcases List.mem_append.mp hr with hr | hr
    · exact T.rows r ((List.eraseIdx_sublist l k).subset hr)
    · rw [List.mem_singleton.mp hr]; exact ⟨hn, hs, Int.le_refl 0⟩
  · rw [sumR_snoc, sumR_erase l k _ hk]
    have b := T.bal i hi
    have e : (up f n { f n with p := (f n).p + p } i).w = (f i).w := by
      by_cases q : i = n
      · subst q; rw [up_same]
      · rw [up_ne q]
    rw [e]
    simp only [owes]; omega
theorem TT.cameOut (T : TT none m f l tot) {k s n : Nat} {p : Int} (hk : l[k]? = some (.lt s n p)) (hin : ¬ isIn f n) : TT none m (up f n { f n with p := (f n).p + p, k := some (s : Int) }) (l.eraseIdx k) tot := by
  have tt := T.tot
  have hm := List.mem_of_getElem? hk
  obtain ⟨hs, hn, p1⟩ := T.rows _ hm
  have ws := T.owed hs hm (by simp [owes])
  have sin := T.inw ws
  have nz : n ≠ 0 := fun z => hin (.inl z)
  have fz := T.out n hin
  have nok : ∀ j, (f j).k ≠ some (n : Int) := fun j z => by have := T.kid1 hn z; rw [fz] at this; exact absurd this (by decide)
  have hsn : s ≠ n := fun z => hin (z ▸ sin)
  obtain ⟨rk, hrk⟩ := T.tree
  rw [fz]
  have x0 : ({ z4 with p := z4.p + p, k := some (s : Int) } : Hd) = ⟨p, 0, some (s : Int), 0⟩ := by simp [z4]
  rw [x0]
  have inb : ∀ i, i ≠ n → (isIn (up f n ⟨p, 0, some (s : Int), 0⟩) i ↔ isIn f i) := fun i q => by unfold isIn; rw [up_ne q]
  have inn : isIn (up f n ⟨p, 0, some (s : Int), 0⟩) n := .inr (by rw [up_same]; rfl)
  refine ⟨T.lo, fun i hi => ?_, ?_, fun i => ?_, fun i => ?_, fun i s'' hs' => ?_, fun r hr => T.rows r ((List.eraseIdx_sublist l k).subset hr), fun i hi => ?_, fun i hi => ?_, fun i him hi _ => ?_, ⟨fun i => if i = n then rk s + 1 else rk i, fun i s' hs' => ?_⟩, ?_⟩
  · rw [up_ne (by omega)]; exact T.far i hi
  · rw [up_ne (Ne.symm nz)]; exact T.k0
  · by_cases q : i = n
    · subst q; rw [up_same]; show 0 ≤ p; omega
    · rw [up_ne q]; exact T.p i
  · by_cases q : i = n
    · subst q; rw [up_same]; exact Int.le_refl 0
    · rw [up_ne q]; exact T.t i
  · by_cases q : i = n
    · subst q
      rw [up_same] at hs'
      exact ⟨s, (Option.some.inj hs').symm, hs, (inb s hsn).mpr sin⟩
    · rw [up_ne q] at hs'
      obtain ⟨s1, h1, h2, h3⟩ := T.kr i s'' hs'
      refine ⟨s1, h1, h2, ?_⟩
      by_cases z : s1 = n
      · rw [z]; exact inn
      · exact (inb s1 z).mpr h3
  · have b := T.bal i hi
    have ks := sumN_up (f := f) (G := kid i) (x := ⟨p, 0, some (s : Int), 0⟩) m hn
    have kz : kid i (f n) = 0 := by rw [fz]; unfold kid; rw [if_neg (by simp [z4])]
    have kh : kid i ⟨p, 0, some (s : Int), 0⟩ = if i = s then 1 else 0 := by
      unfold kid
      by_cases q : i = s
      · subst q; simp
      · rw [if_neg (by simp; omega), if_neg q]
    rw [sumR_erase l k _ hk, ks, kz, kh]
    by_cases q : i = n
    · subst q
      rw [up_same]
      rw [fz] at b
      simp only [z4] at b
      simp only [owes, if_neg hsn, if_neg (Ne.symm hsn)]
      omega
    · rw [up_ne q]
      by_cases z : i = s
      · subst z; simp only [owes, if_true]; omega
      · simp only [owes, if_neg z, if_neg (Ne.symm z)]; omega
  · by_cases q : i = n
    · subst q; exact absurd inn hi
    · rw [up_ne q]; exact T.out i fun z => hi ((inb i q).mpr z)
  · by_cases q : i = n
    · subst q; rw [up_same]; exact .inl (by show 0 < p; omega)
    · rw [up_ne q]; exact T.busy i him ((inb i q).mp hi) nofun
  · by_cases q : i = n
    · subst q
      rw [up_same] at hs'
      have : s' = s := by have := Option.some.inj hs'; omega
      subst this
      simp only [if_neg hsn, if_true]; omega
    · rw [up_ne q] at hs'
      have hsn' : s' ≠ n := fun z => nok i (by rw [hs', z])
      simp only [if_neg hsn', if_neg q]
      exact hrk i s' hs'
  · rw [sumN_up (G := fun x => x.p + x.t) m hn, sumR_erase l k _ hk, fz]
    simp only [amt, z4]
    omega
end

set_option autoImplicit false

set_option maxHeartbeats 2000000
set_option linter.unusedVariables false
set_option linter.unusedSimpArgs false
open PySem

noncomputable def endRow (t : Int) : V := .tup [sV "end", .int t]
noncomputable def woken (n s : Int) : V := .tup [sV "woken", .int n, .int s]
inductive Eo where
  | no
  | lt (h o : Nat) (p : Int)
  | an (g t : Nat) (y : Int)
  | wk (n s : Nat)
  | en (t : Int)
noncomputable def Eo.R : Eo → List V
  | .no => []
  | .lt h o p => [letter h o p]
  | .an g t y => [ans g t y]
  | .wk n s => [woken n s]
  | .en t => [endRow t]
noncomputable def Eo.c : Eo → Int
  | .lt _ _ _ => 1
  | .an _ _ _ => -1
  | _ => 0
noncomputable def Eo.isEnd : Eo → Bool
  | .en _ => true
  | _ => false
theorem rV_get {l : List Rw} {k : Nat} {r : Rw} (h : l[k]? = some r) : (rV l)[k]? = some r.v := by
  unfold rV; rw [List.getElem?_map, h]; rfl

noncomputable def lrow : Rw → Int
  | .lt _ _ p => p + 1
  | .an _ _ _ => 0
noncomputable def nA : Rw → Int
  | .lt _ _ _ => 0
  | .an _ _ _ => 1
noncomputable def lft (m : Nat) (f : Nat → Hd) (l : List Rw) : Int := sumN m (fun i => (f i).p + (f i).w) + sumR lrow l
noncomputable def dlt (m : Nat) (f : Nat → Hd) (l : List Rw) : Int := sumN m (fun i => (f i).w) - sumR nA l
noncomputable def JJ (m : Nat) (f : Nat → Hd) (go : Bool) (l : List Rw) (tot : Int) : Prop := (go = true ∧ TT none m f l tot) ∨ (go = false ∧ 1 ≤ m ∧ (∀ i, f i = z4) ∧ l = [] ∧ tot = 0)
structure Stp (m : Nat) (f : Nat → Hd) (l : List Rw) (tot d : Int) (e : Eo) (f' : Nat → Hd) (go' : Bool) (l' : List Rw) (tot' : Int) : Prop where
  j : JJ m f' go' l' tot'
  left : lft m f' l' = lft m f l + d
  dl : dlt m f' l' = dlt m f l + e.c
  en : e.isEnd = true → go' = false ∧ e = .en tot ∧ tot' = 0
  ne : e.isEnd = false → go' = true ∧ tot' = tot
  len : l'.length ≤ l.length + 1
theorem sumN_zero {g : Nat → Int} : ∀ (m : Nat), (∀ i < m, g i = 0) → sumN m g = 0
  | 0, _ => rfl
  | m + 1, h => by
    simp only [sumN]
    rw [sumN_zero m fun i hi => h i (by omega), h m (by omega)]; rfl

section
variable {m : Nat} {f : Nat → Hd} {go : Bool} {l : List Rw} {tot : Int} {kn : List V}
theorem JJ.goes (J : JJ m f go l tot) {h : Nat} (hp : 0 < (f h).p) : go = true ∧ TT none m f l tot := by
  rcases J with J | ⟨_, _, z, _⟩
  · exact J
  · rw [z h] at hp; exact absurd hp (by decide)
theorem JJ.goesR (J : JJ m f go l tot) {k : Nat} {r : Rw} (hk : l[k]? = some r) : go = true ∧ TT none m f l tot := by
  rcases J with J | ⟨_, _, _, z, _⟩
  · exact J
  · rw [z] at hk; cases hk
theorem JJ.rows (J : JJ m f go l tot) : ∀ r ∈ l, rowIn m r := by
  rcases J with ⟨_, T⟩ | ⟨_, _, _, z, _⟩
  · exact T.rows
  · rw [z]; intro r hr; cases hr
theorem JJ.p (J : JJ m f go l tot) (i : Nat) : 0 ≤ (f i).p := by
  rcases J with ⟨_, T⟩ | ⟨_, _, z, _⟩
  · exact T.p i
  · rw [z i]; decide
theorem JJ.begin (J : JJ m f false l tot) {i : Int} (h : 1 ≤ i) : JJ m (up f 0 { f 0 with p := i }) true l i := by
  rcases J with ⟨z, _⟩ | ⟨_, lo, z, hl, _⟩
  · cases z
  · subst hl
    have z0 : f = fun _ => z4 := funext z
    subst z0
    have u : ∀ j, j ≠ 0 → up (fun _ => z4) 0 { z4 with p := i } j = z4 := fun j hj => up_ne hj
    refine .inl ⟨rfl, lo, fun j hj => u j (by omega), by rw [up_same]; rfl, fun j => ?_, fun j => ?_, fun j s hs => ?_, (fun r hr => nomatch hr), fun j hj => ?_, fun j hj => ?_, fun j hj hin _ => ?_, ⟨fun _ => 0, fun j s hs => ?_⟩, ?_⟩
    · by_cases q : j = 0
      · subst q; rw [up_same]; show 0 ≤ i; omega
      · rw [u j q]; decide
    · by_cases q : j = 0
      · subst q; rw [up_same]; exact Int.le_refl 0
      · rw [u j q]; decide
    · by_cases q : j = 0
      · subst q; rw [up_same] at hs; cases hs
      · rw [u j q] at hs; cases hs
    · have : sumN m (fun k => kid j (up (fun _ => z4) 0 { z4 with p := i } k)) = 0 := sumN_zero m fun k _ => by
        unfold kid
        rw [if_neg]
        by_cases q : k = 0
        · subst q; rw [up_same]; exact nofun
        · rw [u k q]; exact nofun
      rw [this]
      by_cases q : j = 0
      · subst q; rw [up_same]; rfl
      · rw [u j q]; rfl
    · refine u j fun q => hj (.inl q)
    · rcases hin with q | q
      · subst q; rw [up_same]; exact .inl (by show 0 < i; omega)
      · by_cases z : j = 0
        · subst z; rw [up_same] at q; cases q
        · rw [u j z] at q; cases q
    · by_cases q : j = 0
      · subst q; rw [up_same] at hs; cases hs
      · rw [u j q] at hs; cases hs
    · rw [sumN_up (f := fun _ => z4) (G := fun x => x.p + x.t) m lo, sumN_zero (g := fun _ => z4.p + z4.t) m fun _ _ => rfl]
      simp [sumR, z4]
theorem JJ.new (h : 1 ≤ m) : JJ m (fun _ => z4) false [] 0 := .inr ⟨rfl, h, fun _ => rfl, rfl, rfl⟩

end

set_option autoImplicit false

set_option maxHeartbeats 2000000
set_option linter.unusedVariables false
set_option linter.unusedSimpArgs false
open PySem

structure KD (c : Ctx) : Prop where
  isf : Def c sg "is_from" p_is_from b_is_from
  pini : Def c sg "Post.__init__" p_Post___init__ b_Post___init__
  put : Def c sg "Post.put" p_Post_put b_Post_put
  take : Def c sg "Post.take" p_Post_take b_Post_take
  ini : Def c sg "Company.__init__" p_Company___init__ b_Company___init__
  need : Def c sg "Company.need_hand" p_Company_need_hand b_Company_need_hand
  isin : Def c sg "Company.is_in" p_Company_is_in b_Company_is_in
  noted : Def c sg "Company.noted" p_Company_noted b_Company_noted
  settled : Def c sg "Company.settled" p_Company_settled b_Company_settled
  beg : Def c sg "Company.begin" p_Company_begin b_Company_begin
  do_ : Def c sg "Company.do" p_Company_do b_Company_do
  hon : Def c sg "Company.hand_on" p_Company_hand_on b_Company_hand_on
  came : Def c sg "Company.letter_came" p_Company_letter_came b_Company_letter_came
  carry : Def c sg "Company.carry" p_Company_carry b_Company_carry
  cell : Def c sg "_law_cell_at" p__law_cell_at b__law_cell_at
  mixed : Def c sg "_law_mixed" p__law_mixed b__law_mixed
  many : Def c sg "_law_many_by" p__law_many_by b__law_many_by

theorem row_lt {r : Rw} {s n p : Int} (h : letter s n p = r.v) : ∃ s' n' : Nat, r = .lt s' n' p ∧ s = s' ∧ n = n' := by
  cases r with
  | lt a b d =>
    simp only [Rw.v, letter, V.tup.injEq, List.cons.injEq, V.int.injEq, and_true, true_and] at h
    obtain ⟨rfl, rfl, rfl⟩ := h
    exact ⟨a, b, rfl, rfl, rfl⟩
  | an a b d =>
    simp only [Rw.v, letter, ans] at h
    injection h with h
    injection h with h
    exact absurd h (by unfold sV; intro q; injection q with q; exact absurd q (by decide +kernel))
theorem row_an {r : Rw} {s n p : Int} (h : ans s n p = r.v) : ∃ s' n' : Nat, r = .an s' n' p ∧ s = s' ∧ n = n' := by
  cases r with
  | an a b d =>
    simp only [Rw.v, ans, V.tup.injEq, List.cons.injEq, V.int.injEq, and_true, true_and] at h
    obtain ⟨rfl, rfl, rfl⟩ := h
    exact ⟨a, b, rfl, rfl, rfl⟩
  | lt a b d =>
    simp only [Rw.v, letter, ans] at h
    injection h with h
    injection h with h
    exact absurd h (by unfold sV; intro q; injection q with q; exact absurd q (by decide +kernel))

section
variable {c : Ctx} (G : Good c sg) (K : KD c)
include G K
variable {hd : Bool} {μ : Mem} {Q : V → Mem → Prop} {X : String → Mem → Prop} {a : Ad} {m : Nat} {f : Nat → Hd} {go : Bool} {l : List Rw} {tot : Int} {kn rl : List V}

theorem carry_far {C : Co} (hC : Comp μ a C) (zl : C.rl.length ≤ lim) {i : Int} (hi : ¬ (0 ≤ i ∧ i < C.rl.length)) (hX : X "NoPlace" μ) : SC c 3 false "Company.carry" [.ref a.c, .int i] μ Q X := by
  refine call_in G K.carry rfl ?_
  unfold b_Company_carry
  have h2 := hC.c
  have h3 := hC.cd
  have h5 := hC.ps
  have h6 := hC.pd
  walk_at "ww"
  refine meth_own "Post.take" h5 h6 (by rfl) (by rfl) (by rfl) ?_
  walk_at "ww"
  exact take_spec G K.isf K.take hC zl (fun v h0 h1 _ _ _ _ _ _ _ => absurd ⟨h0, h1⟩ hi) (fun _ => ⟨rfl, hX⟩)

end

set_option autoImplicit false

set_option maxHeartbeats 2000000
set_option linter.unusedVariables false
set_option linter.unusedSimpArgs false
open PySem

noncomputable def setF (f : Nat → Hd) (go : Bool) (l : List Rw) (h : Nat) : (Nat → Hd) × Bool × List Rw × Eo :=
  if 0 < (f h).p ∨ 0 < (f h).w then (f, go, l, .no)
  else if h = 0 then (up f 0 { f 0 with k := none, t := 0 }, false, l, .en (f 0).t)
  else (up f h { f h with k := none, t := 0 }, go, l ++ [.an h ((f h).k.getD 0).toNat (f h).t], .an h ((f h).k.getD 0).toNat (f h).t)
section
variable {f : Nat → Hd} {go : Bool} {l : List Rw} {h : Nat}
theorem setF_no (hb : 0 < (f h).p ∨ 0 < (f h).w) : setF f go l h = (f, go, l, .no) := if_pos hb
theorem setF_0 (hb : ¬ (0 < (f 0).p ∨ 0 < (f 0).w)) : setF f go l 0 = (up f 0 { f 0 with k := none, t := 0 }, false, l, .en (f 0).t) := (if_neg hb).trans (if_pos rfl)
theorem setF_n (hb : ¬ (0 < (f h).p ∨ 0 < (f h).w)) (h0 : h ≠ 0) {x : Nat} (hx : (f h).k = some (x : Int)) : setF f go l h = (up f h { f h with k := none, t := 0 }, go, l ++ [.an h x (f h).t], .an h x (f h).t) := (if_neg hb).trans ((if_neg h0).trans (by rw [hx]; rfl))
end
inductive Dd where
  | bg (p : Int)
  | dd (h : Int)
  | hn (h o p : Int)
  | cr (i : Int)
noncomputable def Dd.v : Dd → V
  | .bg p => .tup [sV "begin", .int p]
  | .dd h => .tup [sV "do", .int h]
  | .hn h o p => .tup [sV "hand", .int h, .int o, .int p]
  | .cr i => .tup [sV "carry", .int i]
noncomputable def Dd.is : Dd → List Int
  | .bg p => [p] | .dd h => [h] | .hn h o p => [h, o, p] | .cr i => [i]
noncomputable def sm (i : Int) : Prop := i.natAbs < 10 ^ 12
noncomputable def Dd.sm (d : Dd) : Prop := ∀ i ∈ d.is, Mine.sm i
theorem sm_of {i : Int} (h0 : -(10 ^ 11) ≤ i) (h1 : i ≤ 10 ^ 11) : sm i := by unfold sm; omega
theorem sm1 {d : Dd} {i : Int} (e : d.is = [i]) (h : sm i) : d.sm := fun j hj => by rw [e] at hj; rw [List.mem_singleton.mp hj]; exact h
theorem sm3 {h o p : Int} (h1 : sm h) (h2 : sm o) (h3 : sm p) : (Dd.hn h o p).sm := fun j hj => by
  rcases List.mem_cons.mp hj with rfl | hj
  · exact h1
  · rcases List.mem_cons.mp hj with rfl | hj
    · exact h2
    · rw [List.mem_singleton.mp hj]; exact h3
inductive Rs where
  | no (w : String)
  | ok (R : List V)
structure S3 where
  f : Nat → Hd
  go : Bool
  l : List Rw
noncomputable def outS (r : (Nat → Hd) × Bool × List Rw × Eo) : S3 × Rs := (⟨r.1, r.2.1, r.2.2.1⟩, .ok r.2.2.2.R)
noncomputable def begunRow (p : Int) : V := .tup [sV "begun", .int p]
noncomputable def stepF (m : Nat) (s : S3) : Dd → S3 × Rs
  | .bg p => if s.go then (s, .no "begun") else if p < 1 ∨ 999999 < p then (s, .no "work") else (⟨up s.f 0 { s.f 0 with p := p }, true, s.l⟩, .ok [begunRow p])
  | .dd h => if h < 0 ∨ (m : Int) ≤ h then (s, .no "hand") else if (s.f h.toNat).p < 1 then (s, .no "work") else outS (setF (up s.f h.toNat { s.f h.toNat with p := (s.f h.toNat).p - 1, t := (s.f h.toNat).t + 1 }) s.go s.l h.toNat)
  | .hn h o p => if h < 0 ∨ (m : Int) ≤ h ∨ o < 0 ∨ (m : Int) ≤ o then (s, .no "hand") else if p < 1 ∨ (s.f h.toNat).p < p then (s, .no "work") else (⟨up s.f h.toNat { s.f h.toNat with p := (s.f h.toNat).p - p, w := (s.f h.toNat).w + 1 }, s.go, s.l ++ [.lt h.toNat o.toNat p]⟩, .ok [letter h o p])
  | .cr i => if i < 0 ∨ (s.l.length : Int) ≤ i then (s, .no "place") else match s.l[i.toNat]? with
    | some (.an _ t y) => outS (setF (up s.f t { s.f t with w := (s.f t).w - 1, t := (s.f t).t + y }) s.go (s.l.eraseIdx i.toNat) t)
    | some (.lt a n p) => if n = 0 ∨ (s.f n).k.isSome = true then (⟨up s.f n { s.f n with p := (s.f n).p + p }, s.go, s.l.eraseIdx i.toNat ++ [.an n a 0]⟩, .ok [ans n a 0])
      else (⟨up s.f n { s.f n with p := (s.f n).p + p, k := some (a : Int) }, s.go, s.l.eraseIdx i.toNat⟩, .ok [woken n a])
    | none => (s, .no "place")
section
variable {m : Nat} {s : S3} {h o p i : Int}
theorem st_bg1 (g : s.go = true) : stepF m s (.bg p) = (s, .no "begun") := if_pos g
theorem st_bg2 (g : s.go = false) (q : p < 1 ∨ 999999 < p) : stepF m s (.bg p) = (s, .no "work") := (if_neg (fun z => by rw [g] at z; cases z)).trans (if_pos q)
theorem st_bg3 (g : s.go = false) (q : ¬ (p < 1 ∨ 999999 < p)) : stepF m s (.bg p) = (⟨up s.f 0 { s.f 0 with p := p }, true, s.l⟩, .ok [begunRow p]) := (if_neg (fun z => by rw [g] at z; cases z)).trans (if_neg q)
theorem st_dd1 (q : h < 0 ∨ (m : Int) ≤ h) : stepF m s (.dd h) = (s, .no "hand") := if_pos q
theorem st_dd2 (q : ¬ (h < 0 ∨ (m : Int) ≤ h)) (q' : (s.f h.toNat).p < 1) : stepF m s (.dd h) = (s, .no "work") := (if_neg q).trans (if_pos q')
theorem st_dd3 (q : ¬ (h < 0 ∨ (m : Int) ≤ h)) (q' : ¬ (s.f h.toNat).p < 1) : stepF m s (.dd h) = outS (setF (up s.f h.toNat { s.f h.toNat with p := (s.f h.toNat).p - 1, t := (s.f h.toNat).t + 1 }) s.go s.l h.toNat) := (if_neg q).trans (if_neg q')
theorem st_hn1 (q : h < 0 ∨ (m : Int) ≤ h ∨ o < 0 ∨ (m : Int) ≤ o) : stepF m s (.hn h o p) = (s, .no "hand") := if_pos q
theorem st_hn2 (q : ¬ (h < 0 ∨ (m : Int) ≤ h ∨ o < 0 ∨ (m : Int) ≤ o)) (q' : p < 1 ∨ (s.f h.toNat).p < p) : stepF m s (.hn h o p) = (s, .no "work") := (if_neg q).trans (if_pos q')
theorem st_hn3 (q : ¬ (h < 0 ∨ (m : Int) ≤ h ∨ o < 0 ∨ (m : Int) ≤ o)) (q' : ¬ (p < 1 ∨ (s.f h.toNat).p < p)) : stepF m s (.hn h o p) = (⟨up s.f h.toNat { s.f h.toNat with p := (s.f h.toNat).p - p, w := (s.f h.toNat).w + 1 }, s.go, s.l ++ [.lt h.toNat o.toNat p]⟩, .ok [letter h o p]) := (if_neg q).trans (if_neg q')
theorem st_cr1 (q : i < 0 ∨ (s.l.length : Int) ≤ i) : stepF m s (.cr i) = (s, .no "place") := if_pos q
theorem st_cr2 (q : ¬ (i < 0 ∨ (s.l.length : Int) ≤ i)) {x t : Nat} {y : Int} (hr : s.l[i.toNat]? = some (.an x t y)) : stepF m s (.cr i) = outS (setF (up s.f t { s.f t with w := (s.f t).w - 1, t := (s.f t).t + y }) s.go (s.l.eraseIdx i.toNat) t) := (if_neg q).trans (by rw [hr])
theorem st_cr3 (q : ¬ (i < 0 ∨ (s.l.length : Int) ≤ i)) {x n : Nat} {y : Int} (hr : s.l[i.toNat]? = some (.lt x n y)) (hk : n = 0 ∨ (s.f n).k.isSome = true) : stepF m s (.cr i) = (⟨up s.f n { s.f n with p := (s.f n).p + y }, s.go, s.l.eraseIdx i.toNat ++ [.an n x 0]⟩, .ok [ans n x 0]) := (if_neg q).trans (by rw [hr]; exact if_pos hk)
theorem st_cr4 (q : ¬ (i < 0 ∨ (s.l.length : Int) ≤ i)) {x n : Nat} {y : Int} (hr : s.l[i.toNat]? = some (.lt x n y)) (hk : ¬ (n = 0 ∨ (s.f n).k.isSome = true)) : stepF m s (.cr i) = (⟨up s.f n { s.f n with p := (s.f n).p + y, k := some (x : Int) }, s.go, s.l.eraseIdx i.toNat⟩, .ok [woken n x]) := (if_neg q).trans (by rw [hr]; exact if_neg hk)
end
noncomputable def exc (w : String) : String := if w = "hand" then "NoHand" else if w = "work" then "NoWork" else if w = "place" then "NoPlace" else "Begun"
noncomputable def JS (m : Nat) (s : S3) : Prop := ∃ tot, tot ≤ 999999 ∧ JJ m s.f s.go s.l tot

section
variable {m : Nat} {f : Nat → Hd} {l : List Rw} {tot : Int} {kn : List V}
theorem setF_spec {h : Nat} (T : TT (some h) m f l tot) (hb : tot ≤ 999999) (hh : h < m) (hin : isIn f h) :
    (cf m f true (rV l) kn).settle (h : Int) = (cf m (setF f true l h).1 (setF f true l h).2.1 (rV (setF f true l h).2.2.1) kn, (setF f true l h).2.2.2.R) ∧ ∃ tot', tot' ≤ 999999 ∧ JJ m (setF f true l h).1 (setF f true l h).2.1 (setF f true l h).2.2.1 tot' := by
  have hb9 := hb
  clear hb
  have p0 := T.p h
  have w0 := T.w h
  have hm : (h : Int).toNat < m := by omega
  by_cases hb : 0 < (f h).p ∨ 0 < (f h).w
  · have e : setF f true l h = (f, true, l, .no) := setF_no hb
    rw [e]
    refine ⟨cf_settle_no hm ?_, tot, hb9, .inl ⟨rfl, T.settleNo hb⟩⟩
    rw [Int.toNat_natCast]
    rcases hb with hb | hb
    · exact .inl hb
    · exact .inr (.inl hb)
  · have hp : (f h).p = 0 := by omega
    have hw : (f h).w = 0 := by omega
    by_cases h0 : h = 0
    · subst h0
      obtain ⟨hl, hz, ht⟩ := T.settle0 hp hw
      subst hl
      have e : setF f true [] 0 = (up f 0 { f 0 with k := none, t := 0 }, false, [], .en (f 0).t) := setF_0 hb
      have ek : ({ f 0 with k := none, t := 0 } : Hd) = { f 0 with t := 0 } := by
        show (⟨(f 0).p, (f 0).w, none, 0⟩ : Hd) = ⟨(f 0).p, (f 0).w, (f 0).k, 0⟩
        rw [T.k0]
      have ez : up f 0 { f 0 with t := 0 } = fun _ => z4 := by
        funext j
        by_cases q : j = 0
        · subst q
          rw [up_same]
          show (⟨(f 0).p, (f 0).w, (f 0).k, 0⟩ : Hd) = z4
          rw [hp, hw, T.k0]; rfl
        · rw [up_ne q, hz j q]
      rw [e]
      refine ⟨?_, 0, by decide, ?_⟩
      · rw [ek]
        exact cf_settle_0 (m := m) (f := f) (go := true) (rl := rV []) (kn := kn) hh (by omega) (by omega) rfl
      · simp only [ek, ez]
        exact JJ.new T.lo
    · obtain ⟨s, hs⟩ := Option.isSome_iff_exists.mp (hin.resolve_left h0)
      obtain ⟨s', rfl, _, _⟩ := T.kr h s hs
      obtain ⟨sm, T'⟩ := T.settleN h0 hh hp hw hs
      have ex : ({ f h with k := none, t := 0 } : Hd) = z4 := by
        show (⟨(f h).p, (f h).w, none, 0⟩ : Hd) = z4
        rw [hp, hw]; rfl
      have e : setF f true l h = (up f h { f h with k := none, t := 0 }, true, l ++ [.an h s' (f h).t], .an h s' (f h).t) := setF_n hb h0 hs
      rw [e]
      refine ⟨?_, tot, hb9, ?_⟩
      · have := cf_settle_n (m := m) (f := f) (go := true) (rl := rV l) (kn := kn) (i := (h : Int)) (s := (s' : Int)) hm (by omega) (by rw [Int.toNat_natCast]; omega) (by rw [Int.toNat_natCast]; omega) (by rw [Int.toNat_natCast]; exact hs)
        rw [Int.toNat_natCast] at this
        rw [this, ← rV_snoc]
        rfl
      · simp only [ex]
        exact .inl ⟨rfl, T'⟩
end
theorem JS.step {m : Nat} {s : S3} (m1 : 1 ≤ m) (h : JS m s) (d : Dd) : JS m (stepF m s d).1 := by
  obtain ⟨tot, hb, J⟩ := h
  cases d with
  | bg p =>
    simp only [stepF]
    split
    · exact ⟨tot, hb, J⟩
    · rename_i hg
      split
      · exact ⟨tot, hb, J⟩
      · rename_i hp
        have hg : s.go = false := by simpa using hg
        rw [hg] at J
        exact ⟨p, by omega, J.begin (by omega)⟩
  | dd h =>
    simp only [stepF]
    split
    · exact ⟨tot, hb, J⟩
    · rename_i hr
      split
      · exact ⟨tot, hb, J⟩
      · rename_i hp
        obtain ⟨hg, T⟩ := J.goes (h := h.toNat) (by omega)
        have T1 := T.one (h := h.toNat) (by omega)
        rw [hg]
        exact (setF_spec (kn := []) T1 hb (by omega) ((isIn_up (f := s.f) (h := h.toNat) (x := { s.f h.toNat with p := (s.f h.toNat).p - 1, t := (s.f h.toNat).t + 1 }) (fun _ => rfl) h.toNat).mpr (T.inp (i := h.toNat) (by omega)))).2
  | hn h o p =>
    simp only [stepF]
    split
    · exact ⟨tot, hb, J⟩
    · rename_i hr
      split
      · exact ⟨tot, hb, J⟩
      · rename_i hp
        obtain ⟨hg, T⟩ := J.goes (h := h.toNat) (by omega)
        exact ⟨tot, hb, .inl ⟨hg, T.sent (by omega) (by omega) (by omega) (by omega)⟩⟩
  | cr i =>
    simp only [stepF]
    split
    · exact ⟨tot, hb, J⟩
    · rename_i hi
      cases hk : s.l[i.toNat]? with
      | none => exact ⟨tot, hb, J⟩
      | some r =>
        obtain ⟨hg, T⟩ := J.goesR hk
        have hmem := List.mem_of_getElem? hk
        have hr := T.rows _ hmem
        cases r with
        | an g t y =>
          have T1 := T.back hk
          show JS m (outS (setF _ s.go _ t)).1
          rw [hg]
          exact (setF_spec (kn := []) T1 hb hr.2.1 ((isIn_up (f := s.f) (h := t) (x := { s.f t with w := (s.f t).w - 1, t := (s.f t).t + y }) (fun _ => rfl) t).mpr (T.inw (T.owed hr.2.1 hmem (by simp [owes]))))).2
        | lt a n p =>
          show JS m (if _ then _ else _ : S3 × Rs).1
          split
          · rename_i hin; exact ⟨tot, hb, .inl ⟨hg, T.cameIn hk hin⟩⟩
          · rename_i hin; exact ⟨tot, hb, .inl ⟨hg, T.cameOut hk hin⟩⟩

set_option autoImplicit false

set_option maxHeartbeats 2000000
set_option linter.unusedVariables false
set_option linter.unusedSimpArgs false
open PySem

structure DD (c : Ctx) : Prop where
  k : KD c
  done : Def c sg "done" p_done b_done
  tried : Def c sg "tried" p_tried b_tried
  alike : Def c sg "_law_alike" p__law_alike b__law_alike
  fresh : Def c sg "_law_fresh" p__law_fresh b__law_fresh
  freed : Def c sg "_law_freed" p__law_freed b__law_freed
  carried : Def c sg "_law_carried" p__law_carried b__law_carried
  begun : Def c sg "_law_begun" p__law_begun b__law_begun
  due : Def c sg "_law_due" p__law_due b__law_due
  wrong : Def c sg "_law_wrong_by" p__law_wrong_by b__law_wrong_by
  deedby : Def c sg "_law_deed_by" p__law_deed_by b__law_deed_by
  text : Def c sg "_law_text" p__law_text b__law_text
  norow : Def c sg "_law_no_row" p__law_no_row b__law_no_row
  first : Def c sg "_law_first" p__law_first b__law_first
  answer : Def c sg "_law_answer" p__law_answer b__law_answer
  shown : Def c sg "shown" p_shown b_shown
  nof : Def c sg "number_of" p_number_of b_number_of
  rd : Def c sg "read" p_read b_read
  cof : Def c sg "company_of" p_company_of b_company_of
  aof : Def c sg "answer_of" p_answer_of b_answer_of
  answered : Def c sg "answered" p_answered b_answered
  law : Def c sg "law" p_law b_law

section
variable {c : Ctx} (G : Good c sg) (D : DD c)
include G D
variable {μ : Mem} {Q : V → Mem → Prop} {X : String → Mem → Prop} {a : Ad} {m : Nat} {s : S3} {kn : List V}

theorem done_core (m1 : 1 ≤ m) (m2 : m ≤ 60) (hJ : JS m s) (hC : Comp μ a (cf m s.f s.go (rV s.l) kn)) (zl : s.l.length < 100000) (zk : kn.length < 100000) (d : Dd)
    (hok : ∀ s' R, stepF m s d = (s', .ok R) → ∀ μ' a' r, a'.c = a.c → Comp μ' a' (cf m s'.f s'.go (rV s'.l) (kn ++ R)) → Keep a a' μ μ' → μ' r = some (.list R) → r ∉ a'.list → μ r = none → Q (.ref r) μ')
    (hno : ∀ w, stepF m s d = (s, .no w) → (w = "hand" ∨ w = "work" ∨ w = "place" ∨ w = "begun") → X (exc w) μ) : SC c 4 false "done" [.ref a.c, d.v] μ Q X := by
  refine call_in G D.done rfl ?_
  unfold b_done
  have h1 := hC.c
  have h2 := hC.cd
  have zl' : (rV s.l).length < 1048576 := by rw [rV_len]; omega
  have zk' : kn.length < 1048576 := by omega
  obtain ⟨tot, hb9, J⟩ := hJ
  cases d with
  | bg p =>
    unfold Dd.v
    walk_at "xx"
    refine cmp_in (r := true) (deq_str (by decide +kernel)) ?_
    walk_at "xx"
    refine meth_own "Company.begin" h1 h2 (by rfl) (by rfl) (by rfl) ?_
    walk_at "xx"
    refine sc_up (begin_spec G D.k.isf D.k.noted D.k.beg hC (cf_ok m1 m2) zk' (fun hg => ⟨rfl, ?_⟩) (fun hg hb => ⟨rfl, ?_⟩) (fun hg hb μ' r hC' o' hr nr r0 => ?_)) (by decide)
    · exact hno _ (st_bg1 hg) (.inr (.inr (.inr rfl)))
    · exact hno _ (st_bg2 hg (by omega)) (.inr (.inl rfl))
    · rw [begin_cf m1] at hC'
      exact hok _ _ (st_bg3 hg (by omega)) μ' a r rfl hC' (Keep.of_off o') hr nr r0
  | dd h =>
    unfold Dd.v
    walk_at "xx"
    refine cmp_in (r := false) (deq_ne (by decide +kernel) (by decide +kernel) (by decide +kernel)) ?_
    walk_at "xx"
    refine cmp_in (r := true) (deq_str (by decide +kernel)) ?_
    walk_at "xx"
    refine meth_own "Company.do" h1 h2 (by rfl) (by rfl) (by rfl) ?_
    walk_at "xx"
    refine do_spec G D.k.isf D.k.need D.k.isin D.k.put D.k.settled D.k.noted D.k.do_ hC (cf_ok m1 m2) zl' zk' (fun q => ⟨rfl, ?_⟩) (fun q1 q2 => ⟨rfl, ?_⟩) (fun q1 q2 μ' r hC' o' hr nr r0 => ?_)
    · rw [cf_len] at q
      exact hno _ (st_dd1 (by omega)) (.inl rfl)
    · rw [cf_len] at q1
      rw [cf_P (by omega)] at q2
      exact hno _ (st_dd2 (by omega) (by omega)) (.inr (.inl rfl))
    · rw [cf_len] at q1
      have hm : h.toNat < m := by omega
      rw [cf_P hm] at q2
      have p0 := J.p h.toNat
      have e0 := st_dd3 (m := m) (s := s) (h := h) (by omega) (by omega)
      obtain ⟨hg, T⟩ := J.goes (h := h.toNat) (by omega)
      obtain ⟨e1, _⟩ := setF_spec (kn := kn) (T.one (h := h.toNat) (by omega)) hb9 hm ((isIn_up (f := s.f) (h := h.toNat) (x := { s.f h.toNat with p := (s.f h.toNat).p - 1, t := (s.f h.toNat).t + 1 }) (fun _ => rfl) h.toNat).mpr (T.inp (i := h.toNat) (by omega)))
      have eh : ((h.toNat : Nat) : Int) = h := by omega
      rw [eh, ← hg] at e1
      have e2 := cf_one (m := m) (f := s.f) (go := s.go) (rl := rV s.l) (kn := kn) (i := h) hm
      unfold Co.doit at hC'
      rw [e2, e1] at hC' hr
      exact hok _ _ e0 μ' a r rfl hC' (Keep.of_off o') hr nr r0
  | hn h o p =>
    unfold Dd.v
    walk_at "xx"
    refine cmp_in (r := false) (deq_ne (by decide +kernel) (by decide +kernel) (by decide +kernel)) ?_
    walk_at "xx"
    refine cmp_in (r := false) (deq_ne (by decide +kernel) (by decide +kernel) (by decide +kernel)) ?_
    walk_at "xx"
    refine cmp_in (r := true) (deq_str (by decide +kernel)) ?_
    walk_at "xx"
    refine meth_own "Company.hand_on" h1 h2 (by rfl) (by rfl) (by rfl) ?_
    walk_at "xx"
    refine hand_on_spec G D.k.isf D.k.need D.k.put D.k.noted D.k.hon hC (cf_ok m1 m2) zk' zl' (fun q => ⟨rfl, ?_⟩) (fun q1 q2 q3 => ⟨rfl, ?_⟩) (fun q1 q2 q3 μ' r hC' o' hr nr r0 => ?_)
    · rw [cf_len] at q
      exact hno _ (st_hn1 (by omega)) (.inl rfl)
    · rw [cf_len] at q1 q2
      rw [cf_P (by omega)] at q3
      exact hno _ (st_hn2 (by omega) (by omega)) (.inr (.inl rfl))
    · rw [cf_len] at q1 q2
      have hm : h.toNat < m := by omega
      rw [cf_P hm] at q3
      have e0 := st_hn3 (m := m) (s := s) (h := h) (o := o) (p := p) (by omega) (by omega)
      have eh : ((h.toNat : Nat) : Int) = h := by omega
      have eo : ((o.toNat : Nat) : Int) = o := by omega
      rw [cf_sent hm] at hC'
      have er : rV s.l ++ [letter h o p] = rV (s.l ++ [.lt h.toNat o.toNat p]) := by rw [← rV_snoc]; simp only [Rw.v, eh, eo]
      rw [er] at hC'
      exact hok _ _ e0 μ' a r rfl hC' (Keep.of_off o') hr nr r0
  | cr i =>
    unfold Dd.v
    walk_at "xx"
    refine cmp_in (r := false) (deq_ne (by decide +kernel) (by decide +kernel) (by decide +kernel)) ?_
    walk_at "xx"
    refine cmp_in (r := false) (deq_ne (by decide +kernel) (by decide +kernel) (by decide +kernel)) ?_
    walk_at "xx"
    refine cmp_in (r := false) (deq_ne (by decide +kernel) (by decide +kernel) (by decide +kernel)) ?_
    walk_at "xx"
    refine meth_own "Company.carry" h1 h2 (by rfl) (by rfl) (by rfl) ?_
    walk_at "xx"
    by_cases hrg : 0 ≤ i ∧ i < ((rV s.l).length : Int)
    rotate_left
    · refine carry_far G D.k hC (Nat.le_of_lt zl') hrg ?_
      rw [rV_len] at hrg
      exact hno _ (st_cr1 (by omega)) (.inr (.inr (.inl rfl)))
    have hi0 := hrg.1
    have hi1 := hrg.2
    rw [rV_len] at hi1
    have hni : ¬ (i < 0 ∨ (s.l.length : Int) ≤ i) := by omega
    refine carry_spec G D.k.isf D.k.take D.k.isin D.k.put D.k.came D.k.settled D.k.noted D.k.carry hC (cf_ok m1 m2) zl' zk' (fun q => absurd hrg q) (fun v hv => ?_) (fun a' n p hv μ' a₂ r' ac hC' kp hr' nr' r0 => ?_) (fun g t y hv μ' a₂ r' ac hC' kp hr' nr' r0 => ?_)
    · have hv : (rV s.l)[i.toNat]? = some v := hv
      unfold rV at hv
      rw [List.getElem?_map] at hv
      obtain ⟨r, hr, rfl⟩ := Option.map_eq_some_iff.mp hv
      have hin := J.rows r (List.mem_of_getElem? hr)
      rw [cf_len]
      cases r with
      | lt x n p => exact .inl ⟨x, n, p, rfl, by omega, by have := hin.2.1; omega⟩
      | an g t y => exact .inr ⟨g, t, y, rfl, by omega, by have := hin.2.1; omega⟩
    · have hv : (rV s.l)[i.toNat]? = some (letter a' n p) := hv
      unfold rV at hv
      rw [List.getElem?_map] at hv
      obtain ⟨r, hr, er⟩ := Option.map_eq_some_iff.mp hv
      obtain ⟨x', n', rfl, rfl, rfl⟩ := row_lt er.symm
      obtain ⟨hg, T⟩ := J.goesR hr
      have hin := T.rows _ (List.mem_of_getElem? hr)
      have hm : (n' : Int).toNat < m := by have := hin.2.1; omega
      have eC : ({ cf m s.f s.go (rV s.l) kn with rl := (cf m s.f s.go (rV s.l) kn).rl.eraseIdx i.toNat } : Co) = cf m s.f s.go (rV (s.l.eraseIdx i.toNat)) kn := by rw [← rV_erase]; rfl
      rw [eC] at hC' hr'
      by_cases hk : n' = 0 ∨ (s.f n').k.isSome = true
      · have hi' : (if (n' : Int) = 0 then s.go else (s.f (n' : Int).toNat).k.isSome) = true := by
          rw [Int.toNat_natCast]
          split
          · exact hg
          · exact hk.resolve_left (by omega)
        rw [cf_came_in hm hi', Int.toNat_natCast] at hC' hr'
        refine hok _ _ (st_cr3 hni hr hk) μ' a₂ r' ac ?_ kp hr' nr' r0
        rw [← rV_snoc]
        exact hC'
      · have hi' : (if (n' : Int) = 0 then s.go else (s.f (n' : Int).toNat).k.isSome) = false := by
          rw [Int.toNat_natCast, if_neg (fun q => hk (.inl (by omega)))]
          cases q : (s.f n').k.isSome with
          | false => rfl
          | true => exact absurd (.inr q) hk
        rw [cf_came_out hm hi', Int.toNat_natCast] at hC' hr'
        exact hok _ _ (st_cr4 hni hr hk) μ' a₂ r' ac hC' kp hr' nr' r0
    · have hv : (rV s.l)[i.toNat]? = some (ans g t y) := hv
      unfold rV at hv
      rw [List.getElem?_map] at hv
      obtain ⟨r, hr, er⟩ := Option.map_eq_some_iff.mp hv
      obtain ⟨x', n', rfl, rfl, rfl⟩ := row_an er.symm
      obtain ⟨hg, T⟩ := J.goesR hr
      have hmem := List.mem_of_getElem? hr
      have hin := T.rows _ hmem
      have hm : (n' : Int).toNat < m := by have := hin.2.1; omega
      have eC : ({ cf m s.f s.go (rV s.l) kn with rl := (cf m s.f s.go (rV s.l) kn).rl.eraseIdx i.toNat } : Co) = cf m s.f s.go (rV (s.l.eraseIdx i.toNat)) kn := by rw [← rV_erase]; rfl
      rw [eC, cf_back hm, Int.toNat_natCast] at hC' hr'
      obtain ⟨e1, _⟩ := setF_spec (kn := kn) (T.back hr) hb9 hin.2.1 ((isIn_up (f := s.f) (h := n') (x := { s.f n' with w := (s.f n').w - 1, t := (s.f n').t + y }) (fun _ => rfl) n').mpr (T.inw (T.owed hin.2.1 hmem (by simp [owes]))))
      rw [← hg] at e1
      rw [e1] at hC' hr'
      exact hok _ _ (st_cr2 hni hr) μ' a₂ r' ac hC' kp hr' nr' r0
theorem done_spec (m1 : 1 ≤ m) (m2 : m ≤ 60) (hJ : JS m s) (hC : Comp μ a (cf m s.f s.go (rV s.l) kn)) (zl : s.l.length < 100000) (zk : kn.length < 100000) (d : Dd)
    (hok : ∀ R, (stepF m s d).2 = .ok R → ∀ μ' a' r, a'.c = a.c → Comp μ' a' (cf m (stepF m s d).1.f (stepF m s d).1.go (rV (stepF m s d).1.l) (kn ++ R)) → Keep a a' μ μ' → μ' r = some (.list R) → r ∉ a'.list → μ r = none → Q (.ref r) μ')
    (hno : ∀ w, (stepF m s d).2 = .no w → (stepF m s d).1 = s → (w = "hand" ∨ w = "work" ∨ w = "place" ∨ w = "begun") → X (exc w) μ) : SC c 4 false "done" [.ref a.c, d.v] μ Q X :=
  done_core G D m1 m2 hJ hC zl zk d (fun s' R e => by have h := hok R (congrArg Prod.snd e); rw [e] at h; exact h) (fun w e => hno w (congrArg Prod.snd e) (congrArg Prod.fst e))
end

set_option autoImplicit false

set_option maxHeartbeats 2000000
set_option linter.unusedVariables false
set_option linter.unusedSimpArgs false
open PySem

section
variable {c : Ctx} (G : Good c sg) (D : DD c)
include G D
variable {μ : Mem} {Q : V → Mem → Prop} {X : String → Mem → Prop} {a : Ad} {m : Nat} {s : S3} {kn : List V}

theorem tried_spec (m1 : 1 ≤ m) (m2 : m ≤ 60) (hJ : JS m s) (hC : Comp μ a (cf m s.f s.go (rV s.l) kn)) (zl : s.l.length < 100000) (zk : kn.length < 100000) (d : Dd)
    (hok : ∀ R, (stepF m s d).2 = .ok R → ∀ μ' a' r, a'.c = a.c → Comp μ' a' (cf m (stepF m s d).1.f (stepF m s d).1.go (rV (stepF m s d).1.l) (kn ++ R)) → Keep a a' μ μ' → μ' r = some (.list R) → r ∉ a'.list → μ r = none → Q (.ref r) μ')
    (hno : ∀ w, (stepF m s d).2 = .no w → (stepF m s d).1 = s → (w = "hand" ∨ w = "work" ∨ w = "place" ∨ w = "begun") → Q (.tup [sV "refused", sV w]) μ) : SC c 5 false "tried" [.ref a.c, d.v] μ Q X := by
  refine call_in G D.tried rfl ?_
  unfold b_tried
  refine s_try rfl ?_
  walk_at "xx"
  refine done_spec G D m1 m2 hJ hC zl zk d (fun R hR μ' a' r ac hC' kp hr nr r0 => ?_) (fun w hw hs hww => ?_)
  · exact hok R hR μ' a' r ac hC' kp hr nr r0
  · have fin := hno w hw hs hww
    rcases hww with rfl | rfl | rfl | rfl
    · refine try_in (more_y (by decide) ?_)
      walk_at "xx"
      exact fin
    · refine try_in (more_n (by decide) (more_y (by decide) ?_))
      walk_at "xx"
      exact fin
    · refine try_in (more_n (by decide) (more_n (by decide) (more_y (by decide) ?_)))
      walk_at "xx"
      exact fin
    · refine try_in (more_n (by decide) (more_n (by decide) (more_n (by decide) (more_y (by decide) ?_))))
      walk_at "xx"
      exact fin

end

structure Q6 where
  s : Addr
  p : Addr
  w : Addr
  k : Addr
  t : Addr
  r : Addr
  g : Addr
noncomputable def Q6.list (q : Q6) : List Addr := [q.s, q.p, q.w, q.k, q.t, q.r, q.g]
structure St6 (μ : Mem) (q : Q6) (m : Nat) (s : S3) : Prop where
  nd : q.list.Nodup
  o : μ q.s = some (.list [.ref q.p, .ref q.w, .ref q.k, .ref q.t, .ref q.r, .ref q.g])
  p : μ q.p = some (.list (iL (mp m fun i => (s.f i).p)))
  w : μ q.w = some (.list (iL (mp m fun i => (s.f i).w)))
  k : μ q.k = some (.list (oL (mp m fun i => (s.f i).k)))
  t : μ q.t = some (.list (iL (mp m fun i => (s.f i).t)))
  r : μ q.r = some (.list (rV s.l))
  g : μ q.g = some (.list [.bool s.go])
section
variable {μ μ' : Mem} {q : Q6} {m : Nat} {s : S3}
theorem St6.of (h : St6 μ q m s) (k : ∀ b o, μ b = some o → b ∈ q.list → μ' b = some o) : St6 μ' q m s :=
  ⟨h.nd, k _ _ h.o (by simp [Q6.list]), k _ _ h.p (by simp [Q6.list]), k _ _ h.w (by simp [Q6.list]), k _ _ h.k (by simp [Q6.list]), k _ _ h.t (by simp [Q6.list]), k _ _ h.r (by simp [Q6.list]), k _ _ h.g (by simp [Q6.list])⟩
theorem St6.ext (h : St6 μ q m s) (k : Ext μ μ') : St6 μ' q m s := h.of fun b o hb _ => k b o hb
theorem St6.has (h : St6 μ q m s) {x : Addr} (hx : x ∈ q.list) : ∃ o, μ x = some o := by
  simp only [Q6.list, List.mem_cons, List.not_mem_nil, or_false] at hx
  rcases hx with rfl | rfl | rfl | rfl | rfl | rfl | rfl
  · exact ⟨_, h.o⟩
  · exact ⟨_, h.p⟩
  · exact ⟨_, h.w⟩
  · exact ⟨_, h.k⟩
  · exact ⟨_, h.t⟩
  · exact ⟨_, h.r⟩
  · exact ⟨_, h.g⟩
theorem St6.notin (h : St6 μ q m s) {n : Addr} (hn : μ n = none) : n ∉ q.list := fun hx => by
  obtain ⟨o, ho⟩ := h.has hx
  rw [hn] at ho; cases ho
theorem lst_eq {μ : Mem} {b : Addr} {l l' : List V} (h : μ b = some (.list l)) (e : l' = l) : μ b = some (.list l') := e ▸ h
theorem mp_up {α : Type} {f : Nat → Hd} {i : Nat} {x : Hd} (g : Hd → α) (e : g x = g (f i)) : (mp m fun j => g (up f i x j)) = mp m fun j => g (f j) := mp_congr fun j => by
  by_cases z : j = i
  · subst z; rw [up_same, e]
  · rw [up_ne z]
theorem mp_upd {α : Type} {f : Nat → Hd} {i : Nat} {x : Hd} (g : Hd → α) : (mp m fun j => g (f j)).set i (g x) = mp m fun j => g (up f i x j) := mp_set m _ _ i (g x) (by rw [up_same]) fun j h => by rw [up_ne h]
theorem St6.setP (h : St6 μ q m s) (i : Nat) (y : Int) : St6 (updM μ q.p (.list (iL ((mp m fun i => (s.f i).p).set i y)))) q m ⟨up s.f i { s.f i with p := y }, s.go, s.l⟩ :=
  ⟨h.nd, mem_skip (nd_ne h.nd (i := 0) (j := 1) rfl rfl rfl) h.o, lst_eq mem_here (congrArg iL (mp_upd (m := m) (f := s.f) (i := i) (x := { s.f i with p := y }) (·.p)).symm),
   lst_eq (mem_skip (nd_ne h.nd (i := 2) (j := 1) rfl rfl rfl) h.w) (congrArg iL (mp_up (m := m) (f := s.f) (i := i) (x := { s.f i with p := y }) (·.w) rfl)), lst_eq (mem_skip (nd_ne h.nd (i := 3) (j := 1) rfl rfl rfl) h.k) (congrArg oL (mp_up (m := m) (f := s.f) (i := i) (x := { s.f i with p := y }) (·.k) rfl)),
   lst_eq (mem_skip (nd_ne h.nd (i := 4) (j := 1) rfl rfl rfl) h.t) (congrArg iL (mp_up (m := m) (f := s.f) (i := i) (x := { s.f i with p := y }) (·.t) rfl)), mem_skip (nd_ne h.nd (i := 5) (j := 1) rfl rfl rfl) h.r, mem_skip (nd_ne h.nd (i := 6) (j := 1) rfl rfl rfl) h.g⟩
theorem St6.setW (h : St6 μ q m s) (i : Nat) (y : Int) : St6 (updM μ q.w (.list (iL ((mp m fun i => (s.f i).w).set i y)))) q m ⟨up s.f i { s.f i with w := y }, s.go, s.l⟩ :=
  ⟨h.nd, mem_skip (nd_ne h.nd (i := 0) (j := 2) rfl rfl rfl) h.o, lst_eq (mem_skip (nd_ne h.nd (i := 1) (j := 2) rfl rfl rfl) h.p) (congrArg iL (mp_up (m := m) (f := s.f) (i := i) (x := { s.f i with w := y }) (·.p) rfl)), lst_eq mem_here (congrArg iL (mp_upd (m := m) (f := s.f) (i := i) (x := { s.f i with w := y }) (·.w)).symm),
   lst_eq (mem_skip (nd_ne h.nd (i := 3) (j := 2) rfl rfl rfl) h.k) (congrArg oL (mp_up (m := m) (f := s.f) (i := i) (x := { s.f i with w := y }) (·.k) rfl)),
   lst_eq (mem_skip (nd_ne h.nd (i := 4) (j := 2) rfl rfl rfl) h.t) (congrArg iL (mp_up (m := m) (f := s.f) (i := i) (x := { s.f i with w := y }) (·.t) rfl)), mem_skip (nd_ne h.nd (i := 5) (j := 2) rfl rfl rfl) h.r, mem_skip (nd_ne h.nd (i := 6) (j := 2) rfl rfl rfl) h.g⟩
theorem St6.setK (h : St6 μ q m s) (i : Nat) (y : Option Int) : St6 (updM μ q.k (.list (oL ((mp m fun i => (s.f i).k).set i y)))) q m ⟨up s.f i { s.f i with k := y }, s.go, s.l⟩ :=
  ⟨h.nd, mem_skip (nd_ne h.nd (i := 0) (j := 3) rfl rfl rfl) h.o, lst_eq (mem_skip (nd_ne h.nd (i := 1) (j := 3) rfl rfl rfl) h.p) (congrArg iL (mp_up (m := m) (f := s.f) (i := i) (x := { s.f i with k := y }) (·.p) rfl)),
   lst_eq (mem_skip (nd_ne h.nd (i := 2) (j := 3) rfl rfl rfl) h.w) (congrArg iL (mp_up (m := m) (f := s.f) (i := i) (x := { s.f i with k := y }) (·.w) rfl)), lst_eq mem_here (congrArg oL (mp_upd (m := m) (f := s.f) (i := i) (x := { s.f i with k := y }) (·.k)).symm),
   lst_eq (mem_skip (nd_ne h.nd (i := 4) (j := 3) rfl rfl rfl) h.t) (congrArg iL (mp_up (m := m) (f := s.f) (i := i) (x := { s.f i with k := y }) (·.t) rfl)), mem_skip (nd_ne h.nd (i := 5) (j := 3) rfl rfl rfl) h.r, mem_skip (nd_ne h.nd (i := 6) (j := 3) rfl rfl rfl) h.g⟩
theorem St6.setT (h : St6 μ q m s) (i : Nat) (y : Int) : St6 (updM μ q.t (.list (iL ((mp m fun i => (s.f i).t).set i y)))) q m ⟨up s.f i { s.f i with t := y }, s.go, s.l⟩ :=
  ⟨h.nd, mem_skip (nd_ne h.nd (i := 0) (j := 4) rfl rfl rfl) h.o, lst_eq (mem_skip (nd_ne h.nd (i := 1) (j := 4) rfl rfl rfl) h.p) (congrArg iL (mp_up (m := m) (f := s.f) (i := i) (x := { s.f i with t := y }) (·.p) rfl)),
   lst_eq (mem_skip (nd_ne h.nd (i := 2) (j := 4) rfl rfl rfl) h.w) (congrArg iL (mp_up (m := m) (f := s.f) (i := i) (x := { s.f i with t := y }) (·.w) rfl)), lst_eq (mem_skip (nd_ne h.nd (i := 3) (j := 4) rfl rfl rfl) h.k) (congrArg oL (mp_up (m := m) (f := s.f) (i := i) (x := { s.f i with t := y }) (·.k) rfl)),
   lst_eq mem_here (congrArg iL (mp_upd (m := m) (f := s.f) (i := i) (x := { s.f i with t := y }) (·.t)).symm), mem_skip (nd_ne h.nd (i := 5) (j := 4) rfl rfl rfl) h.r, mem_skip (nd_ne h.nd (i := 6) (j := 4) rfl rfl rfl) h.g⟩
theorem St6.setR (h : St6 μ q m s) (l : List Rw) : St6 (updM μ q.r (.list (rV l))) q m ⟨s.f, s.go, l⟩ :=
  ⟨h.nd, mem_skip (nd_ne h.nd (i := 0) (j := 5) rfl rfl rfl) h.o, mem_skip (nd_ne h.nd (i := 1) (j := 5) rfl rfl rfl) h.p, mem_skip (nd_ne h.nd (i := 2) (j := 5) rfl rfl rfl) h.w, mem_skip (nd_ne h.nd (i := 3) (j := 5) rfl rfl rfl) h.k, mem_skip (nd_ne h.nd (i := 4) (j := 5) rfl rfl rfl) h.t, mem_here, mem_skip (nd_ne h.nd (i := 6) (j := 5) rfl rfl rfl) h.g⟩
theorem St6.setG (h : St6 μ q m s) (b : Bool) : St6 (updM μ q.g (.list [.bool b])) q m ⟨s.f, b, s.l⟩ :=
  ⟨h.nd, mem_skip (nd_ne h.nd (i := 0) (j := 6) rfl rfl rfl) h.o, mem_skip (nd_ne h.nd (i := 1) (j := 6) rfl rfl rfl) h.p, mem_skip (nd_ne h.nd (i := 2) (j := 6) rfl rfl rfl) h.w, mem_skip (nd_ne h.nd (i := 3) (j := 6) rfl rfl rfl) h.k, mem_skip (nd_ne h.nd (i := 4) (j := 6) rfl rfl rfl) h.t, mem_skip (nd_ne h.nd (i := 5) (j := 6) rfl rfl rfl) h.r, mem_here⟩
end

set_option autoImplicit false

set_option maxHeartbeats 2000000
set_option linter.unusedVariables false
set_option linter.unusedSimpArgs false
open PySem

theorem idx_mi {m : Nat} {g : Nat → Int} {h : Nat} (h1 : h < m) : idx (iL (mp m g)) (h : Int) = some (.int (g h)) := by
  rw [idx_iL (by omega) (by rw [mp_len]; omega), Int.toNat_natCast, mp_get g 0 h1]
theorem idx_mo {m : Nat} {g : Nat → Option Int} {h : Nat} (h1 : h < m) : idx (oL (mp m g)) (h : Int) = some (oV (g h)) := by
  rw [idx_oL (by omega) (by rw [mp_len]; omega), Int.toNat_natCast, mp_get g none h1]
theorem off_back {l : List Addr} {μ μ' : Mem} (o : Off l μ μ') {n : Addr} (hn : μ' n = none) (hl : n ∉ l) : μ n = none := by
  cases z : μ n with
  | none => rfl
  | some x => have := o n x z hl; rw [hn] at this; cases this
theorem idx_up {m : Nat} (g : Hd → Int) {f : Nat → Hd} {h : Nat} {x : Hd} (h1 : h < m) : idx (iL (mp m fun i => g (up f h x i))) (h : Int) = some (.int (g x)) := by
  rw [idx_mi h1, up_same]
theorem idx_upo {m : Nat} {f : Nat → Hd} {h : Nat} {x : Hd} (h1 : h < m) : idx (oL (mp m fun i => (up f h x i).k)) (h : Int) = some (oV x.k) := by
  rw [idx_mo h1, up_same]
section
variable {μ μ₀ : Mem} {q : Q6} {m : Nat} {s : S3} {f : Nat → Hd} {go : Bool} {l : List Rw} {K : Mem → Prop} {Q : V → Mem → Prop} {h : Nat} {x : Hd} {y : Int}
theorem up2 {g : Hd → Hd} : up (up f h x) h (g (up f h x h)) = up f h (g x) := by rw [up_same, up_up]
theorem St6.wP (hS : St6 μ q m s) (hm : h < m) (k : ∀ μ', St6 μ' q m ⟨up s.f h { s.f h with p := y }, s.go, s.l⟩ → Off q.list μ μ' → K μ') : setI K (.int y) (.ref q.p) (.int h) μ := by
  refine setI_in hS.p (by omega) (by rw [iL_length, mp_len]; omega) ?_
  rw [Int.toNat_natCast, iL_set]
  exact k _ (hS.setP h y) (Off.upd (by simp [Q6.list]) _)
theorem St6.wW (hS : St6 μ q m s) (hm : h < m) (k : ∀ μ', St6 μ' q m ⟨up s.f h { s.f h with w := y }, s.go, s.l⟩ → Off q.list μ μ' → K μ') : setI K (.int y) (.ref q.w) (.int h) μ := by
  refine setI_in hS.w (by omega) (by rw [iL_length, mp_len]; omega) ?_
  rw [Int.toNat_natCast, iL_set]
  exact k _ (hS.setW h y) (Off.upd (by simp [Q6.list]) _)
theorem St6.wT (hS : St6 μ q m s) (hm : h < m) (k : ∀ μ', St6 μ' q m ⟨up s.f h { s.f h with t := y }, s.go, s.l⟩ → Off q.list μ μ' → K μ') : setI K (.int y) (.ref q.t) (.int h) μ := by
  refine setI_in hS.t (by omega) (by rw [iL_length, mp_len]; omega) ?_
  rw [Int.toNat_natCast, iL_set]
  exact k _ (hS.setT h y) (Off.upd (by simp [Q6.list]) _)
theorem St6.wK (hS : St6 μ q m s) (hm : h < m) {y : Option Int} (k : ∀ μ', St6 μ' q m ⟨up s.f h { s.f h with k := y }, s.go, s.l⟩ → Off q.list μ μ' → K μ') : setI K (oV y) (.ref q.k) (.int h) μ := by
  refine setI_in hS.k (by omega) (by rw [oL_length, mp_len]; omega) ?_
  rw [Int.toNat_natCast, oL_set]
  exact k _ (hS.setK h y) (Off.upd (by simp [Q6.list]) _)
theorem St6.uW (hS : St6 μ q m ⟨up f h x, go, l⟩) (hm : h < m) (k : ∀ μ', St6 μ' q m ⟨up f h { x with w := y }, go, l⟩ → Off q.list μ μ' → K μ') : setI K (.int y) (.ref q.w) (.int h) μ :=
  hS.wW hm fun μ' h1 => k μ' ((up2 (f := f) (h := h) (x := x) (g := fun z => { z with w := y })) ▸ h1)
theorem St6.uT (hS : St6 μ q m ⟨up f h x, go, l⟩) (hm : h < m) (k : ∀ μ', St6 μ' q m ⟨up f h { x with t := y }, go, l⟩ → Off q.list μ μ' → K μ') : setI K (.int y) (.ref q.t) (.int h) μ :=
  hS.wT hm fun μ' h1 => k μ' ((up2 (f := f) (h := h) (x := x) (g := fun z => { z with t := y })) ▸ h1)
theorem St6.uK (hS : St6 μ q m ⟨up f h x, go, l⟩) (hm : h < m) {y : Option Int} (k : ∀ μ', St6 μ' q m ⟨up f h { x with k := y }, go, l⟩ → Off q.list μ μ' → K μ') : setI K (oV y) (.ref q.k) (.int h) μ :=
  hS.wK hm fun μ' h1 => k μ' ((up2 (f := f) (h := h) (x := x) (g := fun z => { z with k := y })) ▸ h1)
theorem St6.wG (hS : St6 μ q m s) {b : Bool} (k : ∀ μ', St6 μ' q m ⟨s.f, b, s.l⟩ → Off q.list μ μ' → K μ') : setI K (.bool b) (.ref q.g) (.int 0) μ :=
  setI_in hS.g (by decide) (by show (0 : Int) < 1; decide) (k _ (hS.setG b) (Off.upd (by simp [Q6.list]) _))
theorem St6.app (hS : St6 μ q m s) {r : Rw} {v : V} (e : r.v = v) (zl : s.l.length < 100000) (k : ∀ μ', St6 μ' q m ⟨s.f, s.go, s.l ++ [r]⟩ → Off q.list μ μ' → Q .none μ') : lstK Q "append" q.r [v] μ := by
  refine app_l hS.r (by show (rV s.l).length < 1048576; rw [rV_len]; omega) ?_
  rw [← e, rV_snoc]
  exact k _ (hS.setR (s.l ++ [r])) (Off.upd (by simp [Q6.list]) _)
theorem St6.out {n : Addr} {R : List V} (hS : St6 μ q m s) (o : Off q.list μ₀ μ) (hr : μ n = none) (k : ∀ μ' r, St6 μ' q m s → Off q.list μ₀ μ' → μ' r = some (.list R) → r ∉ q.list → μ₀ r = none → Q (.ref r) μ') : Q (.ref n) (updM μ n (.list R)) :=
  k _ n (hS.ext (Ext.new hr _)) (o.trans (Off.new hr _)) mem_here (hS.notin hr) (off_back o hr (hS.notin hr))
end
noncomputable def S3.setF (s : S3) (h : Nat) : S3 := ⟨(Mine.setF s.f s.go s.l h).1, (Mine.setF s.f s.go s.l h).2.1, (Mine.setF s.f s.go s.l h).2.2.1⟩
section
variable {c : Ctx} (G : Good c sg) (D : DD c)
include G D
variable {μ : Mem} {Q : V → Mem → Prop} {X : String → Mem → Prop} {q : Q6} {m : Nat} {s : S3}

theorem freed_spec (hS : St6 μ q m s) {h : Nat} (hm : h < m) (zl : s.l.length < 100000) (hk : (0 < (s.f h).p ∨ 0 < (s.f h).w) ∨ h = 0 ∨ ∃ a : Nat, (s.f h).k = some (a : Int))
    (k : ∀ μ' r, St6 μ' q m (s.setF h) → Off q.list μ μ' → μ' r = some (.list (setF s.f s.go s.l h).2.2.2.R) → r ∉ q.list → μ r = none → Q (.ref r) μ') : SC c 1 false "_law_freed" [.ref q.s, .int h] μ Q X := by
  refine call_in G D.freed rfl ?_
  unfold b__law_freed
  have s0 := hS.o
  have k : ∀ r4, setF s.f s.go s.l h = r4 → ∀ μ' r, St6 μ' q m ⟨r4.1, r4.2.1, r4.2.2.1⟩ → Off q.list μ μ' → μ' r = some (.list r4.2.2.2.R) → r ∉ q.list → μ r = none → Q (.ref r) μ' := fun r4 e => by subst e; exact k
  have early : (0 < (s.f h).p ∨ 0 < (s.f h).w) → ∀ n, μ n = none → Q (.ref n) (updM μ n (.list [])) := fun hb n hn => hS.out (fun _ _ h _ => h) hn (k _ (setF_no hb))
  walk_at "xx"
  refine sub_l hS.p (idx_mi hm) ?_
  walk_at "xx"
  refine br_d (fun q1 => ?_) (fun q1 => ?_)
  · walk_at "xx"
    exact newL_in (Nat.zero_le _) fun n hn => early (.inl q1) n hn
  walk_at "xx"
  refine sub_l hS.w (idx_mi hm) ?_
  walk_at "xx"
  refine br_d (fun q2 => ?_) (fun q2 => ?_)
  · walk_at "xx"
    exact newL_in (Nat.zero_le _) fun n hn => early (.inr q2) n hn
  have nb : ¬ (0 < (s.f h).p ∨ 0 < (s.f h).w) := fun z => z.elim q1 q2
  clear early
  walk_at "xx"
  refine sub_l hS.k (idx_mo hm) ?_
  walk_at "xx"
  refine sub_l hS.t (idx_mi hm) ?_
  walk_at "xx"
  refine hS.wK (y := none) hm fun μ₁ hS1 o1 => ?_
  clear s0
  have s0 := hS1.o
  walk_at "xx"
  refine hS1.uT hm fun μ₂ hS2 o2 => ?_
  have o2 := o1.trans o2
  clear s0 hS1 o1
  have s0 := hS2.o
  walk_at "xx"
  by_cases h0 : h = 0
  · subst h0
    refine br_dt rfl ?_
    walk_at "xx"
    refine hS2.wG fun μ₃ hS3 o3 => ?_
    walk_at "xx"
    refine newL_in (show 1 ≤ 1048576 by decide) fun r hr => ?_
    walk_at "xx"
    exact hS3.out (o2.trans o3) hr (k _ (setF_0 nb))
  · obtain ⟨x, hx⟩ := (hk.resolve_left nb).resolve_left h0
    refine br_df (by omega) ?_
    have sr := hS2.r
    rw [hx]
    walk_at "xx"
    refine hS2.app (r := .an h x (s.f h).t) rfl zl fun μ₃ hS3 o3 => ?_
    walk_at "xx"
    refine newL_in (show 1 ≤ 1048576 by decide) fun r hr => ?_
    walk_at "xx"
    exact hS3.out (o2.trans o3) hr (k _ (setF_n nb h0 hx))
end

set_option autoImplicit false

set_option maxHeartbeats 2000000
set_option linter.unusedVariables false
set_option linter.unusedSimpArgs false
open PySem

theorem idx_last {l : List V} {v : V} : idx (l ++ [v]) (-1) = some v := by
  unfold idx
  rw [if_neg (by decide), if_pos (by simp; omega)]
  have : (-1 + ((l ++ [v]).length : Int)).toNat = l.length := by simp; omega
  rw [this]; simp
noncomputable def refu (w : String) : V := .tup [sV "refused", sV w]
section
variable {c : Ctx} (G : Good c sg) (D : DD c)
include G D
variable {μ : Mem} {Q : V → Mem → Prop} {X : String → Mem → Prop} {q : Q6} {m : Nat} {s : S3}

noncomputable def NoK (m : Nat) (s : S3) (d : Dd) (μ : Mem) (Q : V → Mem → Prop) : Prop := ∀ w, stepF m s d = (s, .no w) → Q (refu w) μ
noncomputable def OkK (m : Nat) (q : Q6) (s : S3) (d : Dd) (μ : Mem) (Q : V → Mem → Prop) : Prop := ∀ s' R, stepF m s d = (s', .ok R) → ∀ μ' r, St6 μ' q m s' → Off q.list μ μ' → μ' r = some (.list R) → r ∉ q.list → μ r = none → Q (.ref r) μ'

theorem begun_spec (m1 : 1 ≤ m) (hS : St6 μ q m s) {p : Int} (hno : NoK m s (.bg p) μ Q) (hok : OkK m q s (.bg p) μ Q) : SC c 1 false "_law_begun" [.ref q.s, .int p] μ Q X := by
  refine call_in G D.begun rfl ?_
  unfold b__law_begun
  have s0 := hS.o
  have sg0 := hS.g
  cases hg : s.go with
  | true =>
    rw [hg] at sg0
    walk_at "xx"
    exact hno _ (st_bg1 hg)
  | false =>
    rw [hg] at sg0
    walk_at "xx"
    refine br_d (fun q1 => ?_) (fun q1 => ?_)
    · walk_at "xx"
      exact hno _ (st_bg2 hg (.inl q1))
    walk_at "xx"
    refine br_d (fun q2 => ?_) (fun q2 => ?_)
    · walk_at "xx"
      exact hno _ (st_bg2 hg (.inr q2))
    walk_at "xx"
    refine hS.wG fun μ₁ hS1 o1 => ?_
    clear s0 sg0
    have s0 := hS1.o
    walk_at "xx"
    refine hS1.wP (h := 0) m1 fun μ₂ hS2 o2 => ?_
    walk_at "xx"
    refine newL_in (show 1 ≤ 1048576 by decide) fun r hr => ?_
    walk_at "xx"
    exact hS2.out (o1.trans o2) hr (hok _ _ (st_bg3 hg fun z => z.elim q1 q2))

theorem carried_spec (hS : St6 μ q m s) (hJ : JS m s) (zl : s.l.length < 10000) {i : Int} (hno : NoK m s (.cr i) μ Q) (hok : OkK m q s (.cr i) μ Q) : SC c 2 false "_law_carried" [.ref q.s, .int i] μ Q X := by
  refine call_in G D.carried rfl ?_
  unfold b__law_carried
  have s0 := hS.o
  have sr := hS.r
  obtain ⟨tot, hb9, J⟩ := hJ
  walk_at "xx"
  refine br_d (fun q1 => ?_) (fun q1 => ?_)
  · walk_at "xx"
    exact hno _ (st_cr1 (.inl q1))
  walk_at "xx"
  rw [rV_len]
  refine br_d (fun q2 => ?_) (fun q2 => ?_)
  · walk_at "xx"
    exact hno _ (st_cr1 (.inr q2))
  have hni : ¬ (i < 0 ∨ (s.l.length : Int) ≤ i) := fun z => z.elim q1 q2
  have hi : i.toNat < s.l.length := by omega
  have hr : s.l[i.toNat]? = some s.l[i.toNat] := List.getElem?_eq_getElem hi
  generalize s.l[i.toNat] = r at hr
  obtain ⟨hg, T⟩ := J.goesR hr
  have hmem := List.mem_of_getElem? hr
  have hin := T.rows _ hmem
  walk_at "xx"
  refine pop_l sr (by omega) (rV_get hr) ?_
  rw [rV_erase]
  have hS1 := hS.setR (s.l.eraseIdx i.toNat)
  have o1 : Off q.list μ (updM μ q.r (.list (rV (s.l.eraseIdx i.toNat)))) := Off.upd (by simp [Q6.list]) _
  generalize updM μ q.r (.list (rV (s.l.eraseIdx i.toNat))) = μ₁ at hS1 o1 ⊢
  clear s0 sr
  have s0 := hS1.o
  have le := List.length_eraseIdx_le s.l i.toNat
  cases r with
  | an g t y =>
    have ht : t < m := hin.2.1
    simp only [Rw.v, ans]
    walk_at "xx"
    refine cmp_in (r := true) (deq_str (by decide +kernel)) ?_
    walk_at "xx"
    refine sub_l hS1.w (idx_mi ht) ?_
    walk_at "xx"
    refine hS1.wW ht fun μ₂ hS2 o2 => ?_
    have o2 := o1.trans o2
    clear s0
    have s0 := hS2.o
    walk_at "xx"
    refine sub_l hS2.t (idx_up (·.t) ht) ?_
    walk_at "xx"
    refine hS2.uT ht fun μ₃ hS3 o3 => ?_
    have o3 := o2.trans o3
    clear s0
    walk_at "xx"
    refine freed_spec G D hS3 ht (by show (s.l.eraseIdx i.toNat).length < _; omega) ?_ fun μ₄ r hS4 o4 hr4 nr4 r0 => hok _ _ (st_cr2 hni hr) μ₄ r hS4 (o3.trans o4) hr4 nr4 (off_back o3 r0 nr4)
    rcases (isIn_up (f := s.f) (h := t) (x := { s.f t with w := (s.f t).w - 1, t := (s.f t).t + y }) (fun _ => rfl) t).mpr (T.inw (T.owed ht hmem (by simp [owes]))) with z | z
    · exact .inr (.inl z)
    · obtain ⟨x, hx⟩ := Option.isSome_iff_exists.mp z
      obtain ⟨x', rfl, _⟩ := (T.back hr).kr t x hx
      exact .inr (.inr ⟨x', hx⟩)
  | lt x n p =>
    have hn : n < m := hin.2.1
    simp only [Rw.v, letter]
    walk_at "xx"
    refine cmp_in (r := false) (deq_ne (by decide +kernel) (by decide +kernel) (by decide +kernel)) ?_
    walk_at "xx"
    refine sub_l hS1.p (idx_mi hn) ?_
    walk_at "xx"
    refine hS1.wP hn fun μ₂ hS2 o2 => ?_
    have o2 := o1.trans o2
    clear s0
    have s0 := hS2.o
    have sr := hS2.r
    have app : (n = 0 ∨ (s.f n).k.isSome = true) → ∀ {body : List S}, body = (match b__law_carried with | [_, _, _, _, _, .ite _ b _ _, _, _] => b | _ => []) → ∀ {ρ : Loc} {R : Loc → Mem → Prop} {X : String → Loc → Mem → Prop}, ρ "_law_state" = some (.ref q.s) → ρ "_law_row" = some (.tup [sV "letter", .int x, .int n, .int p]) → ρ "_law_hand" = some (.int n) → wpSs sg (SC c 1) false body ρ μ₂ (sq R (fq Q)) X := fun hk body eb ρ R X r1 r2 r3 => by
      subst eb
      simp only [b__law_carried]
      walk_at "xx"
      refine hS2.app (r := .an n x 0) rfl (by show (s.l.eraseIdx i.toNat).length < _; omega) fun μ₃ hS3 o3 => ?_
      clear s0 sr
      have s0 := hS3.o
      have sr : μ₃ q.r = some (.list (rV (s.l.eraseIdx i.toNat) ++ [ans n x 0])) := by have h := hS3.r; rw [← rV_snoc] at h; exact h
      walk_at "xx"
      refine sub_l sr idx_last ?_
      walk_at "xx"
      refine newL_in (show 1 ≤ 1048576 by decide) fun r hr' => ?_
      walk_at "xx"
      exact hS3.out (o2.trans o3) hr' (hok _ _ (st_cr3 hni hr hk))
    walk_at "xx"
    refine br_d (fun z0 => ?_) (fun z0 => ?_)
    · walk_at "w"
      walk_at "w"
      refine app (.inl (by omega)) rfl ?_ ?_ ?_ <;> rfl
    walk_at "xx"
    refine sub_l hS2.k (idx_upo hn) ?_
    walk_at "xx"
    cases hk : (s.f n).k with
    | some w =>
      refine cmp_in (r := true) (by rfl) ?_
      walk_at "w"
      walk_at "w"
      refine app (.inr (by rw [hk]; rfl)) rfl ?_ ?_ ?_ <;> rfl
    | none =>
      refine cmp_in (r := false) (by rfl) ?_
      walk_at "xx"
      refine hS2.uK (y := some (x : Int)) hn fun μ₃ hS3 o3 => ?_
      walk_at "xx"
      refine newL_in (show 1 ≤ 1048576 by decide) fun r hr' => ?_
      walk_at "xx"
      exact hS3.out (o2.trans o3) hr' (hok _ _ (st_cr4 hni hr (by rw [hk]; exact fun z => z.elim (fun z => z0 (by omega)) nofun)))
end

set_option autoImplicit false

set_option maxHeartbeats 2000000
set_option linter.unusedVariables false
set_option linter.unusedSimpArgs false
open PySem

section
variable {c : Ctx} (G : Good c sg) (D : DD c)
include G D
variable {μ : Mem} {Q : V → Mem → Prop} {X : String → Mem → Prop} {q : Q6} {m : Nat} {s : S3}

theorem hands_loop {ρ : Loc} {r : List S} {Q : Fl → Loc → Mem → Prop} {X : String → Loc → Mem → Prop} {body : List S} (hS : St6 μ q m s) (L : List Int) (eb : body = (match b__law_due with | [_, _, .for_ _ _ b _ _, _, _, _, _, _, _, _, _, _] => b | _ => []))
    (r1 : ρ "_law_state" = some (.ref q.s)) {d : V} (r2 : ρ "_law_deed" = some d)
    (hno : (∃ x ∈ L, x < 0 ∨ (m : Int) ≤ x) → ∀ ρ', Q (.ret (refu "hand")) ρ' μ)
    (fin : (∀ x ∈ L, 0 ≤ x ∧ x < m) → ∀ ρ', ρ' "_law_state" = some (.ref q.s) → ρ' "_law_deed" = some d → wpSs sg (SC c 2) false r ρ' μ Q X) : forW sg (SC c 2) false "_law_one" body r ρ Q X (.tup (L.map V.int)) μ := by
  subst eb
  refine for_in (items := L.map V.int) rfl (fun k ρ' μ' => (∀ x ∈ L.take k, 0 ≤ x ∧ x < m) ∧ ρ' "_law_state" = some (.ref q.s) ∧ ρ' "_law_deed" = some d ∧ μ' = μ) ⟨by simp, r1, r2, rfl⟩ (fun _ _ _ _ => rfl) (fun k w ρ' μ' hk hI => ?_) (fun ρ' μ' hI => ?_)
  · obtain ⟨hx, r1, r2, rfl⟩ := hI
    rw [List.getElem?_map] at hk
    obtain ⟨x, hxk, rfl⟩ := Option.map_eq_some_iff.mp hk
    have hm := List.mem_of_getElem? hxk
    have s0 := hS.o
    have s1 := hS.p
    simp only [b__law_due]
    walk_at "xx"
    refine br_d (fun q1 => ?_) (fun q1 => ?_)
    · walk_at "xx"
      exact hno ⟨x, hm, .inl q1⟩ _
    walk_at "xx"
    rw [iL_length, mp_len]
    refine br_d (fun q2 => ?_) (fun q2 => ?_)
    · walk_at "xx"
      exact hno ⟨x, hm, .inr q2⟩ _
    walk_at "xx"
    refine ⟨fun y hy => ?_, by walk_at "ro", by walk_at "ro", rfl⟩
    rw [List.take_add_one, hxk] at hy
    rcases List.mem_append.mp hy with hy | hy
    · exact hx y hy
    · simp at hy
      subst hy
      omega
  · obtain ⟨hx, r1, r2, rfl⟩ := hI
    rw [List.length_map, List.take_length] at hx
    exact fin hx ρ' r1 r2

theorem due_core (m1 : 1 ≤ m) (hS : St6 μ q m s) (hJ : JS m s) (zl : s.l.length < 10000) (d : Dd) (hno : NoK m s d μ Q) (hok : OkK m q s d μ Q) : SC c 3 false "_law_due" [.ref q.s, d.v] μ Q X := by
  refine call_in G D.due rfl ?_
  have s0 := hS.o
  have s1 := hS.p
  cases d with
  | bg p =>
    unfold b__law_due Dd.v
    walk_at "xx"
    refine cmp_in (r := true) (deq_str (by decide +kernel)) ?_
    walk_at "xx"
    exact sc_up (begun_spec G D m1 hS hno hok) (by decide)
  | cr i =>
    unfold b__law_due Dd.v
    walk_at "xx"
    refine cmp_in (r := false) (deq_ne (by decide +kernel) (by decide +kernel) (by decide +kernel)) ?_
    walk_at "xx"
    refine cmp_in (r := true) (deq_str (by decide +kernel)) ?_
    walk_at "xx"
    exact carried_spec G D hS hJ zl hno hok
  | dd h =>
    unfold b__law_due Dd.v
    obtain ⟨tot, hb9, J⟩ := hJ
    walk_at "xx"
    refine cmp_in (r := false) (deq_ne (by decide +kernel) (by decide +kernel) (by decide +kernel)) ?_
    walk_at "xx"
    refine cmp_in (r := false) (deq_ne (by decide +kernel) (by decide +kernel) (by decide +kernel)) ?_
    walk_at "xx"
    refine s_for rfl (e_sliceLU ?_)
    walk_at "xx"
    refine slice_t (by decide) (by show (1 : Int) ≤ 2; decide) (show (0 : Int) ≤ 3 by decide) ?_
    refine hands_loop G D hS [h] rfl (by rfl) (d := .tup [sV "do", .int h]) (by rfl) (fun ⟨x, hx, hb⟩ ρ' => ?_) (fun hx ρ' r1 r2 => ?_)
    · cases List.mem_singleton.mp hx
      exact hno _ (st_dd1 hb)
    have hr := hx h (.head _)
    obtain ⟨h, rfl⟩ := Int.eq_ofNat_of_zero_le hr.1
    have hm : h < m := by omega
    have hn : ¬ ((h : Int) < 0 ∨ (m : Int) ≤ h) := by omega
    clear hx hr
    walk_at "xx"
    refine cmp_in (r := false) (deq_ne (by decide +kernel) (by decide +kernel) (by decide +kernel)) ?_
    walk_at "xx"
    refine br_df (by decide) ?_
    walk_at "xx"
    refine sub_l s1 (idx_mi hm) ?_
    walk_at "xx"
    have p0 := J.p h
    refine br_d (fun q1 => ?_) (fun q1 => ?_)
    · walk_at "xx"
      exact hno _ (st_dd2 hn (show (s.f h).p < 1 by omega))
    have e := st_dd3 (s := s) hn (show ¬ (s.f h).p < 1 by omega)
    obtain ⟨hg, T⟩ := J.goes (h := h) (by omega)
    have T1 := T.one (h := h) (by omega)
    have tin : isIn _ h := (isIn_up (f := s.f) (h := h) (x := { s.f h with p := (s.f h).p - 1, t := (s.f h).t + 1 }) (fun _ => rfl) h).mpr (T.inp (by omega))
    walk_at "xx"
    refine sub_l s1 (idx_mi hm) ?_
    walk_at "xx"
    refine hS.wP hm fun μ₁ hS1 o1 => ?_
    clear s0 s1
    have s0 := hS1.o
    walk_at "xx"
    refine cmp_in (r := true) (deq_str (by decide +kernel)) ?_
    walk_at "xx"
    refine sub_l hS1.t (idx_up (·.t) hm) ?_
    walk_at "xx"
    refine hS1.uT hm fun μ₂ hS2 o2 => ?_
    have o2 := o1.trans o2
    clear s0
    walk_at "xx"
    refine sc_up (freed_spec G D hS2 hm (by show s.l.length < _; omega) ?_ fun μ₄ r hS4 o4 hr4 nr4 r0 => hok _ _ e μ₄ r hS4 (o2.trans o4) hr4 nr4 (off_back o2 r0 nr4)) (by decide)
    rcases tin with z | z
    · exact .inr (.inl z)
    · obtain ⟨x, hx⟩ := Option.isSome_iff_exists.mp z
      obtain ⟨x', rfl, _⟩ := T1.kr h x hx
      exact .inr (.inr ⟨x', hx⟩)
  | hn h o p =>
    unfold b__law_due Dd.v
    walk_at "xx"
    refine cmp_in (r := false) (deq_ne (by decide +kernel) (by decide +kernel) (by decide +kernel)) ?_
    walk_at "xx"
    refine cmp_in (r := false) (deq_ne (by decide +kernel) (by decide +kernel) (by decide +kernel)) ?_
    walk_at "xx"
    refine s_for rfl (e_sliceLU ?_)
    walk_at "xx"
    refine slice_t (by decide) (by show (1 : Int) ≤ 4; decide) (show (0 : Int) ≤ 3 by decide) ?_
    refine hands_loop G D hS [h, o] rfl (by rfl) (d := .tup [sV "hand", .int h, .int o, .int p]) (by rfl) (fun ⟨x, hx, hb⟩ ρ' => ?_) (fun hx ρ' r1 r2 => ?_)
    · refine hno _ (st_hn1 ?_)
      rcases List.mem_cons.mp hx with rfl | hx
      · exact hb.elim .inl fun z => .inr (.inl z)
      · cases List.mem_singleton.mp hx
        exact .inr (.inr hb)
    have hr := hx h (.head _)
    have ho := hx o (.tail _ (.head _))
    obtain ⟨h, rfl⟩ := Int.eq_ofNat_of_zero_le hr.1
    obtain ⟨o, rfl⟩ := Int.eq_ofNat_of_zero_le ho.1
    have hm : h < m := by omega
    have hn : ¬ ((h : Int) < 0 ∨ (m : Int) ≤ h ∨ (o : Int) < 0 ∨ (m : Int) ≤ o) := by omega
    clear hx hr ho
    walk_at "xx"
    refine cmp_in (r := true) (deq_str (by decide +kernel)) ?_
    walk_at "xx"
    refine br_d (fun q1 => ?_) (fun q1 => ?_)
    · walk_at "xx"
      exact hno _ (st_hn2 hn (.inl q1))
    walk_at "xx"
    refine sub_l s1 (idx_mi hm) ?_
    walk_at "xx"
    refine br_d (fun q2 => ?_) (fun q2 => ?_)
    · walk_at "xx"
      exact hno _ (st_hn2 hn (.inr q2))
    have e := st_hn3 (s := s) hn (fun z => z.elim q1 q2)
    walk_at "xx"
    refine sub_l s1 (idx_mi hm) ?_
    walk_at "xx"
    refine hS.wP hm fun μ₁ hS1 o1 => ?_
    clear s0 s1
    have s0 := hS1.o
    walk_at "xx"
    refine cmp_in (r := false) (deq_ne (by decide +kernel) (by decide +kernel) (by decide +kernel)) ?_
    walk_at "xx"
    refine sub_l hS1.w (idx_up (·.w) hm) ?_
    walk_at "xx"
    refine hS1.uW hm fun μ₂ hS2 o2 => ?_
    have o2 := o1.trans o2
    clear s0
    have s0 := hS2.o
    have sr := hS2.r
    walk_at "xx"
    refine hS2.app (r := .lt h o p) rfl (by show s.l.length < _; omega) fun μ₃ hS3 o3 => ?_
    have o3 := o2.trans o3
    clear s0 sr
    have s0 := hS3.o
    have sr : μ₃ q.r = some (.list (rV s.l ++ [letter h o p])) := by have h := hS3.r; rw [← rV_snoc] at h; exact h
    walk_at "xx"
    refine sub_l sr idx_last ?_
    walk_at "xx"
    refine newL_in (show 1 ≤ 1048576 by decide) fun r hr => ?_
    walk_at "xx"
    exact hS3.out o3 hr (hok _ _ e)
theorem due_spec (m1 : 1 ≤ m) (hS : St6 μ q m s) (hJ : JS m s) (zl : s.l.length < 10000) (d : Dd)
    (hno : ∀ w, (stepF m s d).2 = .no w → (stepF m s d).1 = s → Q (refu w) μ)
    (hok : ∀ R, (stepF m s d).2 = .ok R → ∀ μ' r, St6 μ' q m (stepF m s d).1 → Off q.list μ μ' → μ' r = some (.list R) → r ∉ q.list → μ r = none → Q (.ref r) μ') : SC c 3 false "_law_due" [.ref q.s, d.v] μ Q X :=
  due_core G D m1 hS hJ zl d (fun w e => hno w (congrArg Prod.snd e) (congrArg Prod.fst e)) (fun s' R e => by have h := hok R (congrArg Prod.snd e); rw [e] at h; exact h)
end

set_option autoImplicit false

set_option maxHeartbeats 2000000
set_option maxRecDepth 4000
set_option linter.unusedVariables false
set_option linter.unusedSimpArgs false
open PySem

theorem dd_of {L : List Dd} {v : V} (h : v ∈ L.map Dd.v) : ∃ d ∈ L, v = d.v := by
  obtain ⟨d, hd, rfl⟩ := List.mem_map.mp h
  exact ⟨d, hd, rfl⟩
theorem int_of {L : List Int} {v : V} (h : v ∈ iL L) : ∃ i ∈ L, v = .int i := by
  obtain ⟨d, hd, rfl⟩ := List.mem_map.mp h
  exact ⟨d, hd, rfl⟩
theorem mod_le {a b : Int} (ha : 0 ≤ a) (hb : 0 < b) : 0 ≤ a % b ∧ a % b ≤ a := by
  obtain ⟨h0, h1⟩ := mod_bd (a := a) hb
  refine ⟨h0, ?_⟩
  by_cases q : a < b
  · rw [Int.emod_eq_of_lt ha q]; exact Int.le_refl _
  · omega
theorem all_nil {α : Type} {P : α → Prop} : ∀ x ∈ ([] : List α), P x := fun _ h => nomatch h
theorem all_cons {α : Type} {P : α → Prop} {a : α} {l : List α} (h : P a) (hl : ∀ x ∈ l, P x) : ∀ x ∈ a :: l, P x := fun x hx => by
  rcases List.mem_cons.mp hx with rfl | hx
  · exact h
  · exact hl x hx
theorem all_app {α : Type} {P : α → Prop} {k l : List α} (h : ∀ x ∈ k, P x) (hl : ∀ x ∈ l, P x) : ∀ x ∈ k ++ l, P x := fun x hx => by
  rcases List.mem_append.mp hx with hx | hx
  · exact h x hx
  · exact hl x hx
section
variable {c : Ctx} (G : Good c sg) (D : DD c)
include G D
variable {μ : Mem} {Q : V → Mem → Prop} {X : String → Mem → Prop} {q : Q6} {m : Nat} {s : S3}

theorem wrong_spec (m1 : 1 ≤ m) (m2 : m ≤ 60) (hS : St6 μ q m s) (zl : s.l.length < 10000) {rest : Int} (k : ∀ (d : Dd) μ', d.sm → Ext μ μ' → Q d.v μ') : SC c 1 false "_law_wrong_by" [.ref q.s, .int rest] μ Q X := by
  refine call_in G D.wrong rfl ?_
  unfold b__law_wrong_by
  have s0 := hS.o
  have s1 := hS.p
  have s2 := hS.r
  walk_at "xx"
  rw [iL_length, mp_len, rV_len]
  walk_at "xx"
  refine pow_i (by decide) (by decide) (by decide) ?_
  walk_at "xx"
  refine pow_i (by decide) (by decide) (by decide) ?_
  walk_at "xx"
  obtain ⟨b0, b1⟩ := mod_bd (a := rest / 32) (show (0 : Int) < 10 ^ (6 : Int).toNat by decide)
  have b1 : rest / 32 % 10 ^ (6 : Int).toNat < 1000000 := Int.lt_of_lt_of_le b1 (by decide)
  generalize rest / 32 % 10 ^ (6 : Int).toNat = z at b0 b1 ⊢
  generalize hx1 : (m : Int) + z = x1
  generalize hx2 : -1 - z = x2
  have hs4 : ∀ i ∈ [-1, (m : Int), x1, x2], sm i := all_cons (sm_of (by decide) (by decide)) (all_cons (sm_of (by omega) (by omega)) (all_cons (sm_of (by omega) (by omega)) (all_cons (sm_of (by omega) (by omega)) all_nil)))
  have s0' : sm 0 := sm_of (by decide) (by decide)
  have s1' : sm 1 := sm_of (by decide) (by decide)
  obtain ⟨y0, y1⟩ := mod_bd (a := rest / 32) (show (0 : Int) < m by omega)
  have hsy : sm (rest / 32 % (m : Int)) := sm_of (by omega) (by omega)
  refine newL_in (show 4 ≤ 1048576 by decide) fun n1 hn1 => ?_
  have e1 := Ext.new hn1 (.list [.int (-1), .int m, .int x1, .int x2])
  have here1 : updM μ n1 (.list [.int (-1), .int m, .int x1, .int x2]) n1 = some (.list (iL [-1, (m : Int), x1, x2])) := mem_here
  generalize updM μ n1 (.list [.int (-1), .int m, .int x1, .int x2]) = μ₁ at e1 here1 ⊢
  clear s0 s1 s2
  obtain ⟨j0, j1⟩ := mod_bd (a := rest / 8) (show (0 : Int) < 4 by decide)
  obtain ⟨v, hv, hm⟩ := idx_some (l := iL [-1, (m : Int), x1, x2]) j0 (by rw [iL_length]; exact j1)
  obtain ⟨far, hfar, rfl⟩ := int_of hm
  have hfar := hs4 far hfar
  walk_at "xx"
  refine sub_l here1 hv ?_
  walk_at "xx"
  refine mod_i (by omega) ?_
  walk_at "xx"
  have hsy1 := hsy
  generalize rest / 32 % (m : Int) = y at hsy1 ⊢
  refine newL_in (show 4 ≤ 1048576 by decide) fun n2 hn2 => ?_
  have e2 := e1.trans (Ext.new hn2 (.list ([Dd.dd far, .hn far 0 1, .hn 0 far 1, .hn y 0 0].map Dd.v)))
  have here2 : updM μ₁ n2 (.list ([Dd.dd far, .hn far 0 1, .hn 0 far 1, .hn y 0 0].map Dd.v)) n2 = some (.list ([Dd.dd far, .hn far 0 1, .hn 0 far 1, .hn y 0 0].map Dd.v)) := mem_here
  show wpSs _ _ _ _ _ (updM μ₁ n2 (.list ([Dd.dd far, .hn far 0 1, .hn 0 far 1, .hn y 0 0].map Dd.v))) _ _
  generalize updM μ₁ n2 (.list ([Dd.dd far, .hn far 0 1, .hn 0 far 1, .hn y 0 0].map Dd.v)) = μ₂ at e2 here2 ⊢
  obtain ⟨L4, l4, a4, here2⟩ : ∃ L4 : List Dd, L4.length = 4 ∧ (∀ d ∈ L4, d.sm) ∧ μ₂ n2 = some (.list (L4.map Dd.v)) := ⟨_, rfl, all_cons (sm1 rfl hfar) (all_cons (sm3 hfar s0' s1') (all_cons (sm3 s0' hfar s1') (all_cons (sm3 hsy1 s0' s0') all_nil))), here2⟩
  walk_at "xx"
  refine mod_i (by omega) ?_
  walk_at "xx"
  have hsy2 := hsy
  generalize rest / 32 % (m : Int) = y2 at hsy2 ⊢
  generalize hy3 : (s.l.length : Int) + rest / 32 % 3 = y3
  generalize hy4 : -1 - rest / 32 % 9 = y4
  have a3 : ∀ d ∈ [Dd.hn 0 y2 1000000, .cr y3, .cr y4], d.sm := all_cons (sm3 s0' hsy2 (sm_of (by decide) (by decide))) (all_cons (sm1 rfl (sm_of (by omega) (by omega))) (all_cons (sm1 rfl (sm_of (by omega) (by omega))) all_nil))
  generalize (1000000 : Int) = big at a3 ⊢
  refine newL_in (show 3 ≤ 1048576 by decide) fun n3 hn3 => ?_
  have e3 := e2.trans (Ext.new hn3 (.list ([Dd.hn 0 y2 big, .cr y3, .cr y4].map Dd.v)))
  have here3 : updM μ₂ n3 (.list ([Dd.hn 0 y2 big, .cr y3, .cr y4].map Dd.v)) n3 = some (.list ([Dd.hn 0 y2 big, .cr y3, .cr y4].map Dd.v)) := mem_here
  have here2 := Ext.new hn3 (.list ([Dd.hn 0 y2 big, .cr y3, .cr y4].map Dd.v)) _ _ here2
  show binK _ _ _ _ (updM μ₂ n3 (.list ([Dd.hn 0 y2 big, .cr y3, .cr y4].map Dd.v)))
  generalize updM μ₂ n3 (.list ([Dd.hn 0 y2 big, .cr y3, .cr y4].map Dd.v)) = μ₃ at e3 here2 here3 ⊢
  refine cat_l here2 here3 ?_
  rw [← List.map_append]
  generalize hL : L4 ++ [Dd.hn 0 y2 big, .cr y3, .cr y4] = L7
  have l7 : L7.length = 7 := by rw [← hL, List.length_append, l4]; rfl
  have a7 : ∀ d ∈ L7, d.sm := hL ▸ all_app a4 a3
  refine newL_in (by rw [List.length_map, l7]; decide) fun n4 hn4 => ?_
  have e4 := e3.trans (Ext.new hn4 (.list (L7.map Dd.v)))
  have here4 : updM μ₃ n4 (.list (L7.map Dd.v)) n4 = some (.list (L7.map Dd.v)) := mem_here
  generalize updM μ₃ n4 (.list (L7.map Dd.v)) = μ₄ at e4 here4 ⊢
  clear here1 here2 here3
  walk_at "xx"
  refine mod_i (by omega) ?_
  walk_at "xx"
  have hsy5 := hsy
  generalize rest / 32 % (m : Int) = y5 at hsy5 ⊢
  refine newL_in (show 1 ≤ 1048576 by decide) fun n5 hn5 => ?_
  have e5 := e4.trans (Ext.new hn5 (.list ([Dd.dd y5].map Dd.v)))
  have here5 : updM μ₄ n5 (.list ([Dd.dd y5].map Dd.v)) n5 = some (.list ([Dd.dd y5].map Dd.v)) := mem_here
  have here4 := Ext.new hn5 (.list ([Dd.dd y5].map Dd.v)) _ _ here4
  show binK _ _ _ _ (updM μ₄ n5 (.list ([Dd.dd y5].map Dd.v)))
  generalize updM μ₄ n5 (.list ([Dd.dd y5].map Dd.v)) = μ₅ at e5 here4 here5 ⊢
  refine cat_l here4 here5 ?_
  rw [← List.map_append]
  generalize hL8 : L7 ++ [Dd.dd y5] = L8
  have l8 : L8.length = 8 := by rw [← hL8]; simp [l7]
  have a8 : ∀ d ∈ L8, d.sm := hL8 ▸ all_app a7 (all_cons (sm1 rfl hsy5) all_nil)
  refine newL_in (by rw [List.length_map, l8]; decide) fun n6 hn6 => ?_
  have e6 := e5.trans (Ext.new hn6 (.list (L8.map Dd.v)))
  have here6 : updM μ₅ n6 (.list (L8.map Dd.v)) n6 = some (.list (L8.map Dd.v)) := mem_here
  generalize updM μ₅ n6 (.list (L8.map Dd.v)) = μ₆ at e6 here6 ⊢
  clear here4 here5
  obtain ⟨i0, i1⟩ := mod_bd (a := rest) (show (0 : Int) < 8 by decide)
  obtain ⟨v, hv, hm⟩ := idx_some (l := L8.map Dd.v) i0 (by rw [List.length_map, l8]; exact i1)
  obtain ⟨d, hd, rfl⟩ := dd_of hm
  walk_at "xx"
  refine sub_l here6 hv ?_
  walk_at "xx"
  exact k d _ (a8 d hd) e6

theorem deedby_spec (m1 : 1 ≤ m) (m2 : m ≤ 60) (hS : St6 μ q m s) (zl : s.l.length < 10000) {n : Int} (n0 : 0 ≤ n) (n1 : n ≤ 10000000000) (k : ∀ (d : Dd) μ', d.sm → Ext μ μ' → Q d.v μ') : SC c 2 false "_law_deed_by" [.ref q.s, .int n] μ Q X := by
  refine call_in G D.deedby rfl ?_
  unfold b__law_deed_by
  have s0 := hS.o
  have s1 := hS.p
  have s2 := hS.r
  walk_at "xx"
  rw [iL_length, mp_len, rV_len]
  walk_at "xx"
  refine e_comp rfl ?_
  walk_at "xx"
  refine rng1 (Int.le_trans (show (m : Int) ≤ 1048576 by omega) (Int.le_refl _)) (by omega) ?_
  refine comp_pick (fun i => decide (0 < (s.f i).p)) (by omega) (fun i μ' K hi hx hK => ?_) (fun ws hws => ?_)
  · have s1 := hx _ _ hS.o
    have s2 := hx _ _ hS.p
    walk_at "xx"
    refine sub_l s2 (idx_mi hi) ?_
    walk_at "xx"
    exact hK
  have e1 := Ext.new hws (.list (pick m fun i => decide (0 < (s.f i).p)))
  have here : updM μ ws (.list (pick m fun i => decide (0 < (s.f i).p))) ws = some (.list (pick m fun i => decide (0 < (s.f i).p))) := mem_here
  generalize updM μ ws (.list (pick m fun i => decide (0 < (s.f i).p))) = μ₁ at e1 here ⊢
  have hS1 := hS.ext e1
  clear s0 s1 s2
  have s0 := hS1.o
  have sg0 := hS1.g
  walk_at "xx"
  refine br_d (fun q1 => ?_) (fun q1 => ?_)
  · walk_at "xx"
    exact wrong_spec G D m1 m2 hS1 zl fun d μ' hd x => k d μ' hd (e1.trans x)
  have beg : ∀ {body : List S}, body = (match b__law_deed_by with | [_, _, _, _, _, .ite _ b _ _, _, _] => b | _ => []) → ∀ {ρ : Loc} {R : Loc → Mem → Prop} {X : String → Loc → Mem → Prop}, ρ "_law_rest" = some (.int (n / 16)) → wpSs sg (SC c 1) false body ρ μ₁ (sq R (fq Q)) X := fun {body} eb {ρ R X} r1 => by
    subst eb
    simp only [b__law_deed_by]
    clear s0 sg0
    walk_at "xx"
    have h3 : ∀ i ∈ [n / 16 / 8 % 1000003 - 1, 1 + n / 16 / 8 % 60, 1 + n / 16 / 8 % 5], sm i := all_cons (sm_of (by omega) (by omega)) (all_cons (sm_of (by omega) (by omega)) (all_cons (sm_of (by omega) (by omega)) all_nil))
    generalize n / 16 / 8 % 1000003 - 1 = x1 at h3 ⊢
    generalize 1 + n / 16 / 8 % 60 = x2 at h3 ⊢
    generalize 1 + n / 16 / 8 % 5 = x3 at h3 ⊢
    refine newL_in (show 3 ≤ 1048576 by decide) fun n1 hn1 => ?_
    have e2 := e1.trans (Ext.new hn1 (.list [.int x1, .int x2, .int x3]))
    have here1 : updM μ₁ n1 (.list [.int x1, .int x2, .int x3]) n1 = some (.list (iL [x1, x2, x3])) := mem_here
    generalize updM μ₁ n1 (.list [.int x1, .int x2, .int x3]) = μ₂ at e2 here1 ⊢
    walk_at "xx"
    refine min_i rfl ?_
    have i0 : (0 : Int) ≤ min (n / 16 % 8) 2 := by omega
    have i1 : min (n / 16 % 8) 2 < 3 := by omega
    obtain ⟨v, hv, hm⟩ := idx_some (l := iL [x1, x2, x3]) i0 (by rw [iL_length]; exact i1)
    obtain ⟨p, hp, rfl⟩ := int_of hm
    refine sub_l here1 hv ?_
    walk_at "xx"
    exact k (.bg p) _ (sm1 rfl (h3 p hp)) e2
  have carr : ∀ {body : List S}, body = (match b__law_deed_by with | [_, _, _, _, _, _, _, s] => [s] | _ => []) → ∀ {ρ : Loc} {X : String → Loc → Mem → Prop}, ρ "_law_rest" = some (.int (n / 16)) → ρ "_law_rows" = some (.int s.l.length) → wpSs sg (SC c 1) false body ρ μ₁ (fq Q) X := fun {body} eb {ρ X} r1 r2 => by
    subst eb
    simp only [b__law_deed_by]
    clear s0 sg0
    walk_at "xx"
    refine max_i rfl ?_
    refine mod_i (by omega) ?_
    walk_at "xx"
    obtain ⟨z0, z1⟩ := mod_le (a := n / 16) (b := max 1 (s.l.length : Int)) (by omega) (by omega)
    exact k (.cr _) _ (sm1 rfl (sm_of (by omega) (by omega))) e1
  walk_at "xx"
  cases hg : s.go with
  | false =>
    refine br_nf (tr_in (br_nf ?_))
    exact beg rfl (by walk_at "ro")
  | true =>
    rw [hg] at sg0
    walk_at "xx"
    refine br_d (fun q2 => ?_) (fun q2 => ?_)
    · exact beg rfl (by walk_at "ro")
    walk_at "xx"
    refine br_d (fun q3 => ?_) (fun q3 => ?_)
    rotate_left
    · walk_at "w"
      walk_at "w"
      exact carr rfl (by walk_at "ro") (by walk_at "ro")
    have work : ∀ {body : List S}, body = (match b__law_deed_by with | [_, _, _, _, _, _, .ite _ b _ _, _] => b | _ => []) → ∀ {ρ : Loc} {R : Loc → Mem → Prop} {X : String → Loc → Mem → Prop}, ρ "_law_rest" = some (.int (n / 16)) → ρ "_law_number" = some (.int n) → ρ "_law_many" = some (.int m) → ρ "_law_state" = some (.ref q.s) → ρ "_law_workers" = some (.ref ws) → wpSs sg (SC c 1) false body ρ μ₁ (sq R (fq Q)) X := fun {body} eb {ρ R X} r1 r2 r3 r4 r5 => by
      subst eb
      simp only [b__law_deed_by]
      walk_at "xx"
      refine mod_i q3 ?_
      obtain ⟨j0, j1⟩ := mod_bd (a := n / 16) q3
      obtain ⟨h, hh, hm, ht⟩ := pick_get j0 j1
      have ht : 0 < (s.f h).p := of_decide_eq_true ht
      refine sub_l here hh ?_
      walk_at "xx"
      refine br_d (fun q4 => ?_) (fun q4 => ?_)
      · walk_at "xx"
        refine mod_i (by omega) ?_
        walk_at "xx"
        refine sub_l hS1.p (idx_mi hm) ?_
        refine mod_i ht ?_
        walk_at "xx"
        obtain ⟨z0, z1⟩ := mod_bd (a := n / 16 / 61) (show (0 : Int) < m by omega)
        obtain ⟨u0, u1⟩ := mod_le (a := n / 16 / 5) (by omega) ht
        exact k (.hn _ _ _) _ (sm3 (sm_of (by omega) (by omega)) (sm_of (by omega) (by omega)) (sm_of (by omega) (by omega))) e1
      · walk_at "xx"
        exact k (.dd _) _ (sm1 rfl (sm_of (by omega) (by omega))) e1
    walk_at "xx"
    refine br_d (fun q4 => ?_) (fun q4 => ?_)
    · walk_at "w"
      walk_at "w"
      exact work rfl (by walk_at "ro") (by walk_at "ro") (by walk_at "ro") (by walk_at "ro") (by walk_at "ro")
    walk_at "xx"
    refine br_d (fun q5 => ?_) (fun q5 => ?_)
    · exact work rfl (by walk_at "ro") (by walk_at "ro") (by walk_at "ro") (by walk_at "ro") (by walk_at "ro")
    · exact carr rfl (by walk_at "ro") (by walk_at "ro")
end

set_option autoImplicit false

set_option maxHeartbeats 1000000
set_option linter.unusedVariables false
open PySem

noncomputable def asc (x : Str) : Bool := x.cps.all (· < 128)
theorem asc_iff {x : Str} : asc x = true ↔ ∀ c ∈ x.cps.toList, c < 128 := by
  unfold asc
  rw [← Array.all_toList, List.all_eq_true]
  simp only [decide_eq_true_eq]
theorem asc_ok {x : Str} (h : asc x = true) : PyData.strOk x = true := by
  unfold PyData.strOk
  rw [← Array.all_toList, List.all_eq_true]
  intro c hc
  have := asc_iff.mp h c hc
  exact decide_eq_true (by omega)
theorem asc_slice {x : Str} {lo hi : Option Int} (hx : asc x = true) : asc (Txt.slice x lo hi) = true := by
  unfold Txt.slice
  split
  · exact hx
  · rw [asc_iff]
    intro c hc
    simp only [List.mem_filterMap] at hc
    obtain ⟨i, _, hi⟩ := hc
    rw [← Array.getElem?_toList] at hi
    exact asc_iff.mp hx c (List.mem_of_getElem? hi)
theorem asc_item {x : Str} {i : Int} (hx : asc x = true) : asc (Txt.item x i) = true := by
  rw [asc_iff]
  intro c hc
  unfold Txt.item at hc
  simp only [List.mem_cons, List.not_mem_nil, or_false] at hc
  subst hc
  unfold Txt.charAt
  cases h : (seqIndex? i x.length).bind (x.cps[·]?) with
  | none => decide
  | some c =>
    obtain ⟨j, _, hj⟩ := Option.bind_eq_some_iff.mp h
    rw [← Array.getElem?_toList] at hj
    exact asc_iff.mp hx c (List.mem_of_getElem? hj)
theorem len_app (x y : Str) : (x ++ y).length = x.length + y.length := Str.length_append x y

noncomputable def sp : Str := Str.ofString " "
theorem sp_len : sp.length = 1 := by decide +kernel
theorem join_len (sep : Str) : ∀ (r : List Str) (p : Str), r.length * sep.length ≤ (Str.join sep (p :: r)).length
  | [], p => by simp
  | q :: r, p => by
    have ih := join_len sep r q
    show _ ≤ (p ++ sep ++ Str.join sep (q :: r)).length
    rw [Str.length_append, Str.length_append, List.length_cons, Nat.succ_mul]
    omega
theorem sub_mem {x : Str} {i j c : Nat} (h : c ∈ (Builtin.Str.strSub x i j).cps.toList) : c ∈ x.cps.toList := by
  unfold Builtin.Str.strSub at h
  simp only [Array.toList_extract, List.extract] at h
  exact List.mem_of_mem_drop (List.mem_of_mem_take h)
theorem sub_le {x : Str} {i j : Nat} : (Builtin.Str.strSub x i j).length ≤ x.length := by
  show (x.cps.extract i j).size ≤ x.cps.size
  rw [Array.size_extract]; omega
noncomputable def words (x : Str) : List Str := Txt.split x sp
theorem words_spec (x : Str) : words x ≠ [] ∧ (words x).length ≤ x.length + 1 ∧ ∀ p ∈ words x, p.length ≤ x.length ∧ (asc x = true → asc p = true) := by
  unfold words Txt.split
  split
  · exact ⟨by simp, by simp, fun p hp => by rw [List.mem_singleton.mp hp]; exact ⟨Nat.le_refl _, id⟩⟩
  · split
    · exact ⟨by simp, by simp, fun p hp => by rw [List.mem_singleton.mp hp]; exact ⟨Nat.le_refl _, id⟩⟩
    · generalize hc : Builtin.Str.occurrences x sp 0 x.length (x.length + 1) = cuts
      have hg := PySem.StrLaws.glued_between_self x sp (x.length + 1)
      rw [hc] at hg
      have hl := length_partsBetween x cuts sp.length
      refine ⟨fun q => by rw [q] at hl; simp at hl, ?_, fun p hp => ?_⟩
      · rw [StrLaws.glued_eq_join] at hg
        cases hq : Builtin.Str.partsBetween x cuts sp.length with
        | nil => simp
        | cons p r =>
          rw [hq] at hg
          have := join_len sp r p
          rw [hg, sp_len] at this
          rw [List.length_cons]; omega
      · unfold Builtin.Str.partsBetween at hp
        obtain ⟨⟨i, j⟩, _, rfl⟩ := List.mem_map.mp hp
        exact ⟨sub_le, fun h => asc_iff.mpr fun c hc => asc_iff.mp h c (sub_mem hc)⟩
theorem cons_slice {w : Str} {c : Nat} {r : List Nat} (q : w.cps.toList = c :: r) : Txt.slice w none (some 1) = ⟨#[c]⟩ ∧ Txt.slice w (some 1) none = ⟨r.toArray⟩ := by
  have e1 : Txt.slice w none (some 1) = _ := StrLaws.sliceText_to (x := w) (j := 1) ⟨by omega, by rw [q, List.length_cons]; omega⟩
  have e2 : Txt.slice w (some 1) none = _ := StrLaws.sliceText_from (x := w) (i := 1) ⟨by omega, by rw [q, List.length_cons]; omega⟩
  rw [q] at e1 e2
  refine ⟨e1, ?_⟩
  rw [e2]
  congr 2
  show ((c :: r).drop 1).take _ = r
  rw [List.drop_succ_cons, List.drop_zero, List.take_of_length_le]
  rw [List.length_cons]; omega
theorem minus_eq : Str.ofString "-" = ⟨#[45]⟩ := by decide +kernel
theorem head_slice {w : Str} (h : Txt.slice w none (some 1) = Str.ofString "-") : ∃ r, w.cps.toList = 45 :: r ∧ Txt.slice w (some 1) none = ⟨r.toArray⟩ := by
  cases q : w.cps.toList with
  | nil =>
    have : w = ⟨#[]⟩ := str_ext q
    subst this
    exact absurd h (by decide +kernel)
  | cons c r =>
    obtain ⟨e1, e2⟩ := cons_slice q
    rw [e1, minus_eq] at h
    have hc : c = 45 := by
      have := congrArg (fun x : Str => x.cps.toList) h
      simpa using this
    exact ⟨r, by rw [hc], e2⟩

noncomputable def fg : Str := Str.ofString "0123456789"
noncomputable def fig (c : Nat) : Bool := Txt.contains fg ⟨#[c]⟩
theorem fig_small : ∀ c : Fin 128, fig c = decide (48 ≤ c.val ∧ c.val ≤ 57) := by decide +kernel
theorem fig_iff {c : Nat} (h : c < 128) : fig c = true ↔ 48 ≤ c ∧ c ≤ 57 := by
  rw [show fig c = _ from fig_small ⟨c, h⟩]
  exact decide_eq_true_iff
noncomputable def z0 : Str := Str.ofString "0"
noncomputable def mz : Str := Str.ofString "-0"
noncomputable def figs (w : Str) : Str := if Txt.slice w none (some 1) = Str.ofString "-" then Txt.slice w (some 1) none else w
noncomputable def allFig (f : Str) : Bool := f.cps.toList.all fig
noncomputable def bad1 (w : Str) : Bool := decide (figs w = Str.ofString "") || (decide (60 < (figs w).length) || (decide (w = mz) || (decide (Txt.item (figs w) 0 = z0) && !decide (figs w = z0))))
noncomputable def ok1 (w : Str) : Bool := !bad1 w && allFig (figs w)
noncomputable def goodW (w : Str) : Bool := !(decide ((figs w).length < 1) || decide (60 < (figs w).length)) && (allFig (figs w) && (!decide (Txt.item (figs w) 0 = z0) || decide (w = z0)))
theorem figs_asc {w : Str} (h : asc w = true) : asc (figs w) = true := by
  unfold figs; split
  · exact asc_slice h
  · exact h
theorem figs_le (w : Str) : (figs w).length ≤ w.length := by
  unfold figs; split
  · exact Txt.slice_le w _ _
  · exact Nat.le_refl _
theorem figs_mz : figs mz = z0 := by decide +kernel
theorem figs_z : figs z0 = z0 := by decide +kernel
theorem item_z : Txt.item z0 0 = z0 := by decide +kernel
theorem z_mz : z0 ≠ mz := by decide +kernel
theorem len_nil {f : Str} : f = Str.ofString "" ↔ f.length < 1 := by
  constructor
  · intro h; rw [h]; decide +kernel
  · intro h
    refine str_ext ?_
    have e : f.cps.toList.length = f.length := Array.length_toList
    rw [List.eq_nil_of_length_eq_zero (l := f.cps.toList) (by omega)]
    decide +kernel
theorem back_z {w : Str} (h : figs w = z0) : w = z0 ∨ w = mz := by
  unfold figs at h
  split at h
  · rename_i q
    obtain ⟨r, e1, e2⟩ := head_slice q
    rw [e2] at h
    right
    refine str_ext ?_
    have e3 : r = z0.cps.toList := by rw [← h]
    rw [e1, e3]
    decide +kernel
  · exact .inl h
theorem ok1_good (w : Str) : ok1 w = goodW w := by
  unfold ok1 bad1 goodW
  by_cases h1 : (figs w).length < 1
  · rw [decide_eq_true h1, decide_eq_true (len_nil.mpr h1)]; rfl
  rw [decide_eq_false h1, decide_eq_false (fun q => h1 (len_nil.mp q)), Bool.false_or, Bool.false_or]
  by_cases h2 : 60 < (figs w).length
  · rw [decide_eq_true h2]; rfl
  rw [decide_eq_false h2, Bool.false_or]
  by_cases h3 : Txt.item (figs w) 0 = z0
  · rw [decide_eq_true h3]
    by_cases h4 : w = z0
    · rw [decide_eq_true h4, h4, decide_eq_false z_mz, decide_eq_true figs_z]; simp
    · rw [decide_eq_false h4]
      by_cases h5 : figs w = z0
      · rcases back_z h5 with q | q
        · exact absurd q h4
        · rw [decide_eq_true q]; simp
      · rw [decide_eq_false h5]; simp
  · have h6 : w ≠ mz := fun q => h3 (by rw [q, figs_mz, item_z])
    rw [decide_eq_false h3, decide_eq_false h6]; simp
theorem good_int {w : Str} (ha : asc w = true) (h : goodW w = true) : w.length ≤ 640 ∧ ∃ n, intText? w = some n := by
  unfold goodW at h
  simp only [Bool.and_eq_true, Bool.not_eq_true', Bool.or_eq_false_iff, decide_eq_false_iff_not] at h
  obtain ⟨⟨h1, h2⟩, h3, _⟩ := h
  have hd : NumText.AllDigits (figs w).cps.toList := fun c hc => (fig_iff (asc_iff.mp (figs_asc ha) c hc)).mp (List.all_eq_true.mp h3 c hc)
  have hn : (figs w).cps.toList ≠ [] := fun q => h1 (by
    have e : (figs w).cps.toList.length = (figs w).length := Array.length_toList
    rw [q] at e; simp at e; omega)
  unfold figs at hd hn h1 h2
  split at hd
  · rename_i q
    rw [if_pos q] at hn h2
    obtain ⟨r, e1, e2⟩ := head_slice q
    rw [e2] at hd hn h2
    have hl : w.length = r.length + 1 := by
      have e : w.cps.toList.length = w.length := Array.length_toList
      rw [e1, List.length_cons] at e; exact e.symm
    have hr : r.length ≤ 60 := by have : (⟨r.toArray⟩ : Str).length = r.length := by show r.toArray.size = _; simp
                                  omega
    exact ⟨by omega, _, intText_neg e1 (by simpa using hd) (by simpa using hn) (by omega)⟩
  · rename_i q
    rw [if_neg q] at hn h2
    exact ⟨by omega, _, intText_digits hd hn (by omega)⟩

set_option autoImplicit false

set_option maxHeartbeats 1000000
set_option linter.unusedVariables false
open PySem

noncomputable def tx (i : Int) : Str := Str.ofString (toString i)
noncomputable def ds (m : Nat) : List Nat := (Nat.toDigits 10 m).map Char.toNat
theorem ds_all (m : Nat) : NumText.AllDigits (ds m) := fun c hc => by
  obtain ⟨ch, hch, rfl⟩ := List.mem_map.mp hc
  have q := Char.isDigit_iff_toNat.mp (Nat.isDigit_of_mem_toDigits (by decide) (by decide) hch)
  have h9 : '9'.toNat = 57 := rfl
  have h0 : '0'.toNat = 48 := rfl
  omega
theorem ds_head (m : Nat) : ∃ c r, ds m = c :: r ∧ (0 < m → c ≠ 48) := by
  induction m using Nat.strongRecOn with
  | _ m ih =>
    by_cases h : m < 10
    · have : ∀ m < 10, 0 < m → (Nat.digitChar m).toNat ≠ 48 := by decide
      exact ⟨_, [], by unfold ds; rw [Nat.toDigits_of_lt_base h]; rfl, this m h⟩
    · have t : Nat.toDigits 10 (m / 10) ++ Nat.toDigits 10 (m % 10) = Nat.toDigits 10 (10 * (m / 10) + m % 10) := Nat.toDigits_append_toDigits (by decide) (by omega) (Nat.mod_lt m (by decide))
      rw [Nat.div_add_mod] at t
      obtain ⟨c, r, e, hc⟩ := ih (m / 10) (by omega)
      exact ⟨c, _, by unfold ds at e ⊢; rw [← t, List.map_append, e]; rfl, fun _ => hc (by omega)⟩
theorem ds_len {m : Nat} (h : m < 10 ^ 12) : (ds m).length ≤ 12 := by
  unfold ds; rw [List.length_map]; exact (Nat.length_toDigits_le_iff (by decide) (by decide)).mpr h
theorem tx_pos (m : Nat) : (tx (m : Int)).cps.toList = ds m := PySem.W.KIN.signs_num m
theorem tx_neg (m : Nat) : (tx (Int.negSucc m)).cps.toList = 45 :: ds (m + 1) := by
  unfold tx
  rw [PyProof.Rows.signs_ofString]
  show ("-" ++ Nat.repr (m + 1)).toList.map Char.toNat = _
  rw [String.toList_append, Nat.toList_repr, List.map_append]; rfl
theorem tx_signs (i : Int) : (∃ m : Nat, i = m ∧ (tx i).cps.toList = ds m) ∨ ∃ m : Nat, i = -((m + 1 : Nat) : Int) ∧ (tx i).cps.toList = 45 :: ds (m + 1) := by
  cases i with
  | ofNat m => exact .inl ⟨m, rfl, tx_pos m⟩
  | negSucc m => exact .inr ⟨m, rfl, tx_neg m⟩
theorem lenL (x : Str) : x.cps.toList.length = x.length := Array.length_toList
theorem tx_mem {i : Int} {c : Nat} (h : c ∈ (tx i).cps.toList) : c = 45 ∨ (48 ≤ c ∧ c ≤ 57) := by
  rcases tx_signs i with ⟨m, _, e⟩ | ⟨m, _, e⟩
  · rw [e] at h; exact .inr (ds_all m c h)
  · rw [e] at h
    rcases List.mem_cons.mp h with h | h
    · exact .inl h
    · exact .inr (ds_all _ c h)
theorem tx_lin (i : Int) : lin (tx i) = true := lin_iff.mpr fun c hc => by have := tx_mem hc; omega
theorem tx_sp (i : Int) : 32 ∉ (tx i).cps.toList := fun hc => by have := tx_mem hc; omega
theorem tx_len {i : Int} (h : sm i) : (tx i).length ≤ 13 ∧ i.natAbs.log2 < 1920 := by
  unfold sm at h
  constructor
  · rw [← lenL]
    rcases tx_signs i with ⟨m, rfl, e⟩ | ⟨m, rfl, e⟩
    · rw [e]; exact Nat.le_trans (ds_len (by omega)) (by decide)
    · rw [e, List.length_cons]; exact Nat.succ_le_succ (ds_len (by omega))
  · by_cases q : i.natAbs = 0
    · rw [q]; decide
    · rw [Nat.log2_lt q]; exact Nat.lt_trans h (by decide +kernel)
theorem item_cons {f : Str} {c : Nat} {r : List Nat} (h : f.cps.toList = c :: r) : Txt.item f 0 = ⟨#[c]⟩ := by
  have hl : f.length = r.length + 1 := by rw [← lenL, h, List.length_cons]
  unfold Txt.item Txt.charAt seqIndex?
  have h2 : (decide ((0 : Int) ≤ 0) && decide ((0 : Int) < (f.length : Int))) = true := by rw [Bool.and_eq_true, decide_eq_true_eq, decide_eq_true_eq]; omega
  simp only [show ¬ (0 : Int) < 0 from by decide, if_false, h2, if_true, Option.bind_some]
  rw [← Array.getElem?_toList, h]; rfl
theorem z0_eq : z0 = ⟨#[48]⟩ := by decide +kernel
theorem good_of_ds {w : Str} {m : Nat} (e : figs w = ⟨(ds m).toArray⟩) (hm : m < 10 ^ 12) (hz : m = 0 → w = z0) : goodW w = true := by
  obtain ⟨c, r, hd, hc⟩ := ds_head m
  have hl : (figs w).length = (ds m).length := by rw [e]; exact List.size_toArray
  have h1 : 1 ≤ (ds m).length := by rw [hd, List.length_cons]; omega
  have h2 := ds_len hm
  have hi : Txt.item (figs w) 0 = ⟨#[c]⟩ := by rw [e]; exact item_cons (r := r) hd
  unfold goodW
  rw [decide_eq_false (by omega), decide_eq_false (by omega), hi]
  have ha : allFig (figs w) = true := by
    rw [e]
    exact List.all_eq_true.mpr fun d hd' => by
      have := ds_all m d hd'
      exact (fig_iff (by omega)).mpr this
  rw [ha]
  by_cases q : m = 0
  · rw [decide_eq_true (hz q)]; simp
  · have : ¬ (⟨#[c]⟩ : Str) = z0 := fun z => by
      rw [z0_eq] at z
      have := congrArg (fun x : Str => x.cps.toList) z
      exact hc (by omega) (by simpa using this)
    rw [decide_eq_false this]; rfl
theorem tx_good {i : Int} (h : sm i) : goodW (tx i) = true ∧ intText? (tx i) = some i := by
  unfold sm at h
  have hl := (tx_len h).1
  rcases tx_signs i with ⟨m, rfl, e⟩ | ⟨m, rfl, e⟩
  · obtain ⟨c, r, hd, _⟩ := ds_head m
    have hf : figs (tx (m : Int)) = ⟨(ds m).toArray⟩ := by
      unfold figs
      rw [if_neg]
      · exact str_ext (by rw [e])
      · intro z
        obtain ⟨r', e', _⟩ := head_slice z
        rw [e] at e'
        have := ds_all m 45 (by rw [e']; exact .head _)
        omega
    refine ⟨good_of_ds hf (by omega) fun q => by subst q; decide +kernel, ?_⟩
    have := intText_digits (x := tx (m : Int)) (by rw [e]; exact ds_all m) (by rw [e, hd]; nofun) (by omega)
    rw [e] at this
    rw [this]
    show some ((NumText.digitsVal ((Nat.toDigits 10 m).map Char.toNat) : Nat) : Int) = _
    rw [PySem.W.KIN.val_back]
  · obtain ⟨c, r, hd, _⟩ := ds_head (m + 1)
    have hf : figs (tx (-((m + 1 : Nat) : Int))) = ⟨(ds (m + 1)).toArray⟩ := by
      obtain ⟨e1, e2⟩ := cons_slice e
      unfold figs
      rw [e1, minus_eq, if_pos rfl, e2]
    refine ⟨good_of_ds hf (by omega) fun q => by omega, ?_⟩
    have := intText_neg (x := tx (-((m + 1 : Nat) : Int))) e (ds_all _) (by rw [hd]; nofun) (by omega)
    rw [this]
    show some (-((NumText.digitsVal ((Nat.toDigits 10 (m + 1)).map Char.toNat) : Nat) : Int)) = _
    rw [PySem.W.KIN.val_back]

set_option autoImplicit false

set_option maxHeartbeats 1000000
set_option linter.unusedVariables false
open PySem

theorem sIn_get {kvs : List (String × Int)} {x : Str} : sIn kvs x = (sGet kvs x).isSome := by
  unfold sIn sGet
  induction kvs with
  | nil => rfl
  | cons a r ih =>
    rw [List.any_cons, List.find?_cons]
    cases h : (Str.ofString a.1 == x) with
    | true => rfl
    | false => rw [Bool.false_or]; exact ih
noncomputable def valOf (w : Str) : Int := (intText? w).getD 0
noncomputable def rowV (w0 : Str) (ws : List Str) : V := .tup (.str w0 :: ws.map fun w => .int (valOf w))
noncomputable def deedOk (w0 : Str) (ws : List Str) : Bool := match sGet parts w0 with
  | some k => decide ((ws.length : Int) + 1 = k + 1) && ws.all goodW
  | none => false
noncomputable def toInt (v : V) : Option V := match v with | .str w => some (.int (valOf w)) | _ => none
theorem ints_of (ws : List Str) : (ws.map V.str).filterMap toInt = ws.map fun w => .int (valOf w) := by
  induction ws with
  | nil => rfl
  | cons w ws ih => rw [List.map_cons, List.filterMap_cons, ih]; rfl
theorem parts_pos {w0 : Str} {k : Int} (h : sGet parts w0 = some k) : 1 ≤ k ∧ k ≤ 3 := by
  unfold sGet at h
  obtain ⟨q, hq, rfl⟩ := Option.map_eq_some_iff.mp h
  have : ∀ q ∈ parts, 1 ≤ q.2 ∧ q.2 ≤ 3 := by decide
  exact this q (List.mem_of_find?_eq_some hq)
noncomputable def lineOk (x : Str) : Bool := match words x with | w0 :: ws => deedOk w0 ws | [] => false
theorem asc_of {x : Str} (h : lin x = true) : asc x = true := asc_iff.mpr fun c hc => (lin_iff.mp h c hc).2
theorem line_words {x : Str} (ha : lin x = true) : ∃ w0 ws, words x = w0 :: ws ∧ (∀ p ∈ w0 :: ws, p.length ≤ x.length ∧ asc p = true) ∧ (w0 :: ws).length ≤ x.length + 1 ∧ lineOk x = deedOk w0 ws := by
  obtain ⟨h1, h2, h3⟩ := words_spec x
  cases q : words x with
  | nil => exact absurd q h1
  | cons w0 ws =>
    rw [q] at h2 h3
    exact ⟨w0, ws, rfl, fun p hp => ⟨(h3 p hp).1, (h3 p hp).2 (asc_of ha)⟩, h2, by unfold lineOk; rw [q]⟩

noncomputable def textOf (w : Str) (is : List Int) : Str := is.foldl (fun acc i => acc ++ sp ++ tx i) w
noncomputable def rowT (w : Str) (is : List Int) : V := .tup (.str w :: is.map V.int)
theorem textOf_snoc (w : Str) (is : List Int) (i : Int) : textOf w (is ++ [i]) = textOf w is ++ sp ++ tx i := by
  unfold textOf; rw [List.foldl_append]; rfl
theorem text_join (w : Str) (is : List Int) : Txt.join sp (w :: is.map tx) = textOf w is := by
  show (⟨(is.map tx).foldl (fun acc p => acc ++ sp.cps ++ p.cps) w.cps⟩ : Str) = _
  induction is generalizing w with
  | nil => rfl
  | cons i is ih => exact ih (w ++ sp ++ tx i)
theorem sp_eq : sp = ⟨#[32]⟩ := by decide +kernel
theorem join_eq (s : Str) (l : List Str) : Txt.join s l = Str.join s l := StrLaws.glued_eq_join s l
theorem text_str (w : Str) (is : List Int) : textOf w is = Str.join ⟨#[32]⟩ (w :: is.map tx) := by rw [← text_join, join_eq, sp_eq]
theorem text_fine {w : Str} {is : List Int} (hw : lin w = true) (hl : w.length ≤ 10) (hi : ∀ i ∈ is, sm i) (hn : is.length ≤ 3) : lin (textOf w is) = true ∧ (textOf w is).length ≤ 60 := by
  rw [text_str]
  constructor
  · refine lin_join (by decide) fun z hz => ?_
    rcases List.mem_cons.mp hz with rfl | hz
    · exact hw
    · obtain ⟨i, _, rfl⟩ := List.mem_map.mp hz
      exact tx_lin i
  · refine Nat.le_trans (join_le (n := 13) (by decide) fun z hz => ?_) ?_
    · rcases List.mem_cons.mp hz with rfl | hz
      · omega
      · obtain ⟨i, hi', rfl⟩ := List.mem_map.mp hz
        exact (tx_len (hi i hi')).1
    · rw [List.length_map]; omega
theorem text_words {w : Str} {is : List Int} (hw : 32 ∉ w.cps.toList) : words (textOf w is) = w :: is.map tx := by
  unfold words
  rw [text_str, sp_eq]
  refine split_of fun z hz => ?_
  rcases List.mem_cons.mp hz with rfl | hz
  · exact hw
  · obtain ⟨i, _, rfl⟩ := List.mem_map.mp hz
    exact tx_sp i
noncomputable def Dd.w : Dd → String
  | .bg _ => "begin" | .dd _ => "do" | .hn _ _ _ => "hand" | .cr _ => "carry"
theorem Dd.v_eq (d : Dd) : d.v = rowT (Str.ofString d.w) d.is := by cases d <;> rfl
noncomputable def w4s : List String := ["begin", "do", "hand", "carry"]
theorem Dd.w4 (d : Dd) : d.w ∈ w4s := by cases d <;> simp [Dd.w, w4s]
theorem Dd.one (d : Dd) : ∃ i is, d.is = i :: is ∧ d.is.length ≤ 3 := by cases d <;> exact ⟨_, _, rfl, by simp [Dd.is]⟩
theorem Dd.many (d : Dd) : sGet parts (Str.ofString d.w) = some (d.is.length : Int) := by
  cases d with
  | bg _ => exact (by decide +kernel : sGet parts (Str.ofString "begin") = some 1)
  | dd _ => exact (by decide +kernel : sGet parts (Str.ofString "do") = some 1)
  | hn _ _ _ => exact (by decide +kernel : sGet parts (Str.ofString "hand") = some 3)
  | cr _ => exact (by decide +kernel : sGet parts (Str.ofString "carry") = some 1)
theorem w4_fine : ∀ w ∈ w4s, lin (Str.ofString w) = true ∧ (Str.ofString w).length ≤ 10 ∧ 32 ∉ (Str.ofString w).cps.toList ∧ words (Txt.upper (Str.ofString w)) = [Txt.upper (Str.ofString w)] ∧ sGet parts (Txt.upper (Str.ofString w)) = none := by decide +kernel
noncomputable def Dd.line (d : Dd) : Str := textOf (Str.ofString d.w) d.is
theorem Dd.words (d : Dd) : Mine.words d.line = Str.ofString d.w :: d.is.map tx := text_words (w4_fine _ d.w4).2.2.1
theorem Dd.fine {d : Dd} (h : d.sm) : lin d.line = true ∧ d.line.length ≤ 60 := by
  obtain ⟨_, _, _, hn⟩ := d.one
  exact text_fine (w4_fine _ d.w4).1 (w4_fine _ d.w4).2.1 h hn
theorem Dd.read {d : Dd} (h : d.sm) : lineOk d.line = true ∧ rowV (Str.ofString d.w) (d.is.map tx) = d.v := by
  constructor
  · unfold lineOk deedOk
    rw [d.words]
    simp only [d.many]
    rw [decide_eq_true (by rw [List.length_map]), Bool.true_and, List.all_eq_true]
    intro w hw
    obtain ⟨i, hi, rfl⟩ := List.mem_map.mp hw
    exact (tx_good (h i hi)).1
  · rw [d.v_eq]
    unfold rowV rowT
    rw [List.map_map]
    congr 2
    refine List.map_congr_left fun i hi => ?_
    show V.int (valOf (tx i)) = _
    unfold valOf
    rw [(tx_good (h i hi)).2]; rfl
theorem no_len {w0 : Str} {ws : List Str} {k : Int} (h : sGet parts w0 = some k) (hn : (ws.length : Int) ≠ k) : deedOk w0 ws = false := by
  unfold deedOk; rw [h]
  show (decide ((ws.length : Int) + 1 = k + 1) && _) = false
  rw [decide_eq_false (by omega)]; rfl
theorem no_first {w0 : Str} {ws : List Str} (h : sGet parts w0 = none) : deedOk w0 ws = false := by
  unfold deedOk; rw [h]
theorem no_word {w0 w : Str} {ws : List Str} (hm : w ∈ ws) (h : goodW w = false) : deedOk w0 ws = false := by
  unfold deedOk
  split
  · rw [Bool.and_eq_false_iff]; right
    rw [List.all_eq_false]
    exact ⟨w, hm, by rw [h]; exact Bool.false_ne_true⟩
  · rfl
theorem words_app' (a b : Str) : words (a ++ sp ++ b) = words a ++ words b := by unfold words; rw [sp_eq]; exact words_app a b
theorem lineOk_of {x w0 : Str} {ws : List Str} (h : words x = w0 :: ws) : lineOk x = deedOk w0 ws := by unfold lineOk; rw [h]
noncomputable def bads (x : Str) : List Str := [Str.ofString "", Str.ofString " ", Str.ofString "play", Str.ofString "do", Str.ofString "do 01", Str.ofString "do +1", Str.ofString "begin 1.", Str.ofString "hands 2", x ++ Str.ofString " ", Str.ofString " " ++ x, x ++ Str.ofString " 1"] ++
  [Txt.replace x (Str.ofString " ") (Str.ofString "  "), Txt.upper x, Str.ofString "# " ++ x, Str.ofString "end 1", Str.ofString "nothing", Str.ofString "hand 0 1", Str.ofString "carry x"]
noncomputable def NoLine (y : Str) : Prop := lineOk y = false ∧ lin y = true ∧ y.length ≤ 200
theorem const_no : ∀ y ∈ [Str.ofString "", Str.ofString " ", Str.ofString "play", Str.ofString "do", Str.ofString "do 01", Str.ofString "do +1", Str.ofString "begin 1.", Str.ofString "hands 2", Str.ofString "end 1", Str.ofString "nothing", Str.ofString "hand 0 1", Str.ofString "carry x"], lineOk y = false ∧ lin y = true ∧ y.length ≤ 200 := by decide +kernel
theorem bads_no {d : Dd} (h : d.sm) : ∀ y ∈ bads d.line, NoLine y := by
  obtain ⟨l1, l2⟩ := Dd.fine h
  have hw := d.words
  obtain ⟨w1, w2, w3, w5, w6⟩ := w4_fine _ d.w4
  obtain ⟨i, is, ei, _⟩ := d.one
  have se : words Str.empty = [Str.empty] := by decide +kernel
  have s1 : words (Str.ofString "1") = [Str.ofString "1"] := by decide +kernel
  have sh : words (Str.ofString "#") = [Str.ofString "#"] := by decide +kernel
  have e1 : Str.ofString " 1" = sp ++ Str.ofString "1" := by decide +kernel
  have eh : Str.ofString "# " = Str.ofString "#" ++ sp := by decide +kernel
  have lsp : lin (Str.ofString " ") = true ∧ (Str.ofString " ").length = 1 := by decide +kernel
  have l1' : lin (Str.ofString " 1") = true ∧ (Str.ofString " 1").length = 2 := by decide +kernel
  have lh' : lin (Str.ofString "# ") = true ∧ (Str.ofString "# ").length = 2 := by decide +kernel
  have a1 : NoLine (d.line ++ Str.ofString " ") := by
    refine ⟨?_, by rw [lin_app, l1, lsp.1]; rfl, by rw [len_app, lsp.2]; omega⟩
    have e : d.line ++ Str.ofString " " = d.line ++ sp ++ Str.empty := (Str.append_empty _).symm
    rw [e, lineOk_of (by rw [words_app', se, hw]; rfl)]
    exact no_len d.many (by show ((d.is.map tx ++ [Str.empty]).length : Int) ≠ _; rw [List.length_append, List.length_map, List.length_singleton]; omega)
  have a2 : NoLine (Str.ofString " " ++ d.line) := by
    refine ⟨?_, by rw [lin_app, l1, lsp.1]; rfl, by rw [len_app, lsp.2]; omega⟩
    have e : Str.ofString " " ++ d.line = Str.empty ++ sp ++ d.line := by rw [Str.empty_append]; rfl
    rw [e, lineOk_of (by rw [words_app', se]; rfl)]
    exact no_first (by decide +kernel)
  have a3 : NoLine (d.line ++ Str.ofString " 1") := by
    refine ⟨?_, by rw [lin_app, l1, l1'.1]; rfl, by rw [len_app, l1'.2]; omega⟩
    rw [e1, ← Str.append_assoc, lineOk_of (by rw [words_app', s1, hw]; rfl)]
    exact no_len d.many (by show ((d.is.map tx ++ [Str.ofString "1"]).length : Int) ≠ _; rw [List.length_append, List.length_map, List.length_singleton]; omega)
  have a6 : NoLine (Str.ofString "# " ++ d.line) := by
    refine ⟨?_, by rw [lin_app, l1, lh'.1]; rfl, by rw [len_app, lh'.2]; omega⟩
    rw [eh, lineOk_of (by rw [words_app', sh]; rfl)]
    exact no_first (by decide +kernel)
  have a4 : NoLine (Txt.replace d.line (Str.ofString " ") (Str.ofString "  ")) := by
    have e2 : Str.ofString "  " = ⟨#[32, 32]⟩ := by decide +kernel
    have er : Txt.replace d.line (Str.ofString " ") (Str.ofString "  ") = Str.join ⟨#[32, 32]⟩ (Str.ofString d.w :: d.is.map tx) := by
      have : Str.ofString " " = ⟨#[32]⟩ := sp_eq
      rw [this, e2, StrLaws.replace_one]
      have := hw
      unfold Mine.words at this
      rw [sp_eq] at this
      rw [this]
    have hm : ∀ z ∈ Str.ofString d.w :: d.is.map tx, lin z = true ∧ z.length ≤ 13 := fun z hz => by
      rcases List.mem_cons.mp hz with rfl | hz
      · exact ⟨w1, by omega⟩
      · obtain ⟨i, hi, rfl⟩ := List.mem_map.mp hz
        exact ⟨tx_lin i, (tx_len (h i hi)).1⟩
    obtain ⟨_, _, _, hn⟩ := d.one
    rw [er]
    refine ⟨?_, lin_join (by decide) fun z hz => (hm z hz).1, Nat.le_trans (join_le (n := 13) (by decide) fun z hz => (hm z hz).2) (by rw [List.length_map]; omega)⟩
    rw [ei, List.map_cons]
    have ej : Str.join ⟨#[32, 32]⟩ (Str.ofString d.w :: tx i :: is.map tx) = Str.ofString d.w ++ sp ++ (Str.empty ++ sp ++ Str.join ⟨#[32, 32]⟩ (tx i :: is.map tx)) := by
      show Str.ofString d.w ++ ⟨#[32, 32]⟩ ++ _ = _
      rw [Str.empty_append, show (⟨#[32, 32]⟩ : Str) = sp ++ sp from by decide +kernel]
      simp only [Str.append_assoc]
    have ww : words (Str.ofString d.w) = [Str.ofString d.w] := by
      unfold Mine.words; rw [sp_eq]
      exact split_of (p := Str.ofString d.w) (ps := []) fun z hz => by rw [List.mem_singleton.mp hz]; exact w3
    rw [ej, lineOk_of (by rw [words_app', words_app', se, ww]; rfl)]
    exact no_word (w := Str.empty) (by simp) (by decide +kernel)
  have a5 : NoLine (Txt.upper d.line) := by
    refine ⟨?_, lin_upper l1, Nat.le_trans (upper_len _) (by omega)⟩
    have ej : d.line = Str.ofString d.w ++ sp ++ Str.join ⟨#[32]⟩ (tx i :: is.map tx) := by
      unfold Dd.line
      rw [text_str, ei, sp_eq]; rfl
    rw [ej, upper_app, upper_app, show Txt.upper sp = sp from by decide +kernel, lineOk_of (by rw [words_app', w5]; rfl)]
    exact no_first w6
  intro y hy
  unfold bads at hy
  simp only [List.cons_append, List.nil_append, List.mem_cons, List.not_mem_nil, or_false] at hy
  rcases hy with rfl | rfl | rfl | rfl | rfl | rfl | rfl | rfl | rfl | rfl | rfl | rfl | rfl | rfl | rfl | rfl | rfl | rfl
  iterate 8 exact const_no _ (by simp)
  · exact a1
  · exact a2
  · exact a3
  · exact a4
  · exact a5
  · exact a6
  all_goals exact const_no _ (by simp)

set_option autoImplicit false

set_option maxHeartbeats 1000000
set_option linter.unusedVariables false
open PySem

noncomputable def w4 : List String := ["hand", "work", "place", "begun"]
noncomputable def w5 : List String := ["begun", "letter", "woken", "answer", "end"]
noncomputable def RowOk (v : V) : Prop := ∃ w ∈ w5, ∃ is, v = rowT (Str.ofString w) is ∧ is.length ≤ 3 ∧ ∀ i ∈ is, sm i
noncomputable def RsOk : Rs → Prop
  | .no w => w ∈ w4
  | .ok R => R = [] ∨ ∃ v, R = [v] ∧ RowOk v
theorem row1 {w : String} {a : Int} (hw : w ∈ w5) (h : sm a) : RowOk (.tup [sV w, .int a]) := ⟨w, hw, [a], rfl, (show 1 ≤ 3 by decide), all_cons h all_nil⟩
theorem row2 {w : String} {a b : Int} (hw : w ∈ w5) (h : sm a) (h' : sm b) : RowOk (.tup [sV w, .int a, .int b]) := ⟨w, hw, [a, b], rfl, Nat.le_succ 2, all_cons h (all_cons h' all_nil)⟩
theorem row3 {w : String} {a b d : Int} (hw : w ∈ w5) (h : sm a) (h' : sm b) (h'' : sm d) : RowOk (.tup [sV w, .int a, .int b, .int d]) := ⟨w, hw, [a, b, d], rfl, Nat.le_refl 3, all_cons h (all_cons h' (all_cons h'' all_nil))⟩
section
variable {e : Option Nat} {m : Nat} {f : Nat → Hd} {l : List Rw} {tot : Int}
theorem TT.t_le (T : TT e m f l tot) (h : Nat) : (f h).t ≤ tot := by
  have ha : 0 ≤ sumR amt l := sumR_ge0 l fun r hr => by
    have := T.rows r hr
    cases r with
    | lt _ _ p => exact Int.le_trans (by decide) this.2.2
    | an _ _ y => exact this.2.2
  have hp := T.p
  have ht := T.t
  have hg : ∀ i < m, 0 ≤ (f i).p + (f i).t := fun i _ => Int.add_nonneg (hp i) (ht i)
  have e := T.tot
  by_cases q : h < m
  · have h1 := sumN_le (g := fun i => (f i).p + (f i).t) m hg h q
    have h2 := hp h
    have h1 : (f h).p + (f h).t ≤ sumN m fun i => (f i).p + (f i).t := h1
    omega
  · rw [T.far h (Nat.le_of_not_lt q)]
    have h1 := sumN_ge0 (g := fun i => (f i).p + (f i).t) m hg
    show (0 : Int) ≤ tot
    omega
theorem TT.t_sm (T : TT e m f l tot) (hb : tot ≤ 999999) (h : Nat) : sm (f h).t := sm_of (Int.le_trans (by decide) (T.t h)) (Int.le_trans (T.t_le h) (Int.le_trans hb (by decide)))
theorem sm_nat {n : Nat} (h : n < m) (m2 : m ≤ 60) : sm (n : Int) := sm_of (by omega) (by omega)
theorem setF_ok {go : Bool} {h : Nat} (T : TT (some h) m f l tot) (hb : tot ≤ 999999) (hh : h < m) (m2 : m ≤ 60) : RsOk (.ok (setF f go l h).2.2.2.R) := by
  unfold setF
  split
  · exact .inl rfl
  · split
    · exact .inr ⟨_, rfl, row1 (by decide) (T.t_sm hb 0)⟩
    · refine .inr ⟨_, rfl, row3 (by decide) (sm_nat hh m2) ?_ (T.t_sm hb h)⟩
      cases hk : (f h).k with
      | none => exact sm_of (by decide) (by decide)
      | some x =>
        obtain ⟨x', rfl, hx, _⟩ := T.kr h x hk
        exact sm_nat hx m2
end
theorem step_ok {m : Nat} {s : S3} {d : Dd} (m2 : m ≤ 60) (hJ : JS m s) (hd : d.sm) : RsOk (stepF m s d).2 := by
  obtain ⟨tot, hb, J⟩ := hJ
  cases d with
  | bg p =>
    simp only [stepF]
    split
    · show _ ∈ w4; decide
    · split
      · show _ ∈ w4; decide
      · exact .inr ⟨_, rfl, row1 (by decide) (hd p (.head _))⟩
  | dd h =>
    simp only [stepF]
    split
    · show _ ∈ w4; decide
    · rename_i hr
      split
      · show _ ∈ w4; decide
      · rename_i hp
        obtain ⟨_, T⟩ := J.goes (h := h.toNat) (by omega)
        exact setF_ok (T.one (h := h.toNat) (by omega)) hb (by omega) m2
  | hn h o p =>
    simp only [stepF]
    split
    · show _ ∈ w4; decide
    · split
      · show _ ∈ w4; decide
      · exact .inr ⟨_, rfl, row3 (by decide) (hd h (.head _)) (hd o (.tail _ (.head _))) (hd p (.tail _ (.tail _ (.head _))))⟩
  | cr i =>
    simp only [stepF]
    split
    · show _ ∈ w4; decide
    · cases hk : s.l[i.toNat]? with
      | none => show _ ∈ w4; decide
      | some r =>
        obtain ⟨_, T⟩ := J.goesR hk
        have hr := T.rows _ (List.mem_of_getElem? hk)
        cases r with
        | an g t y => exact setF_ok (T.back hk) hb hr.2.1 m2
        | lt a n p =>
          show RsOk (if _ then _ else _ : S3 × Rs).2
          split
          · exact .inr ⟨_, rfl, row3 (by decide) (sm_nat hr.2.1 m2) (sm_nat hr.1 m2) (sm_of (by decide) (by decide))⟩
          · exact .inr ⟨_, rfl, row2 (by decide) (sm_nat hr.2.1 m2) (sm_nat hr.1 m2)⟩
noncomputable def pT : V → Str
  | .str x => x
  | .int i => tx i
  | _ => Str.empty
noncomputable def vT : V → Str
  | .tup l => Txt.join sp (l.map pT)
  | _ => Str.empty
noncomputable def rsT : Rs → Str
  | .no w => vT (refu w)
  | .ok [] => Str.ofString "nothing"
  | .ok (v :: _) => vT v
theorem vT_row (w : Str) (is : List Int) : vT (rowT w is) = textOf w is := by
  show Txt.join sp (w :: (is.map V.int).map pT) = _
  rw [List.map_map]; exact text_join w is
theorem w5_fine : ∀ w ∈ w5, lin (Str.ofString w) = true ∧ (Str.ofString w).length ≤ 10 := by decide +kernel
theorem w4_no : ∀ w ∈ w4, lin (vT (refu w)) = true ∧ (vT (refu w)).length ≤ 60 ∧ (Str.ofString w).length ≤ 10 ∧ vT (refu w) = Str.ofString "refused " ++ Str.ofString w := by decide +kernel
theorem rsT_fine {r : Rs} (h : RsOk r) : lin (rsT r) = true ∧ (rsT r).length ≤ 60 := by
  cases r with
  | no w => exact ⟨(w4_no w h).1, (w4_no w h).2.1⟩
  | ok R =>
    rcases h with rfl | ⟨_, rfl, w, hw, is, rfl, hn, hi⟩
    · decide +kernel
    · show lin (vT _) = true ∧ (vT _).length ≤ 60
      rw [vT_row]
      exact text_fine (w5_fine w hw).1 (w5_fine w hw).2 hi hn
structure It where
  line : Str
  deed : Option Dd
noncomputable def ItOk (it : It) : Prop := match it.deed with
  | some d => it.line = d.line ∧ d.sm
  | none => NoLine it.line
noncomputable def itS (m : Nat) (s : S3) (it : It) : S3 := match it.deed with
  | some d => (stepF m s d).1
  | none => s
noncomputable def itT (m : Nat) (s : S3) (it : It) : Str := match it.deed with
  | some d => rsT (stepF m s d).2
  | none => Str.ofString "no row"
noncomputable def runS (m : Nat) (s : S3) (l : List It) : S3 := l.foldl (itS m) s
noncomputable def runT (m : Nat) : S3 → List It → List Str
  | _, [] => []
  | s, it :: l => itT m s it :: runT m (itS m s it) l
theorem runS_snoc (m : Nat) (s : S3) (l : List It) (it : It) : runS m s (l ++ [it]) = itS m (runS m s l) it := by
  unfold runS; rw [List.foldl_append]; rfl
theorem runT_snoc (m : Nat) (it : It) (l : List It) : ∀ s, runT m s (l ++ [it]) = runT m s l ++ [itT m (runS m s l) it] := by
  induction l with
  | nil => intro s; rfl
  | cons a l ih => intro s; show _ :: runT m _ (l ++ [it]) = _; rw [ih]; rfl
theorem runT_len (m : Nat) (l : List It) : ∀ s, (runT m s l).length = l.length := by
  induction l with
  | nil => intro s; rfl
  | cons a l ih => intro s; show (runT m _ l).length + 1 = _; rw [ih]; rfl
theorem It.fine {it : It} (h : ItOk it) : lin it.line = true ∧ it.line.length ≤ 200 := by
  obtain ⟨x, o⟩ := it
  cases o with
  | none => exact h.2
  | some d =>
    obtain ⟨rfl, hd⟩ := (h : x = d.line ∧ d.sm)
    exact ⟨(Dd.fine hd).1, Nat.le_trans (Dd.fine hd).2 (by decide)⟩
theorem setF_len (f : Nat → Hd) (go : Bool) (l : List Rw) (h : Nat) : (setF f go l h).2.2.1.length ≤ l.length + 1 := by
  unfold setF
  split
  · exact Nat.le_succ _
  · split
    · exact Nat.le_succ _
    · exact Nat.le_of_eq List.length_append
theorem stepF_len {m : Nat} {s : S3} (d : Dd) : (stepF m s d).1.l.length ≤ s.l.length + 1 := by
  cases d with
  | bg p =>
    simp only [stepF]
    split
    · exact Nat.le_succ _
    · split <;> exact Nat.le_succ _
  | dd x =>
    simp only [stepF]
    split
    · exact Nat.le_succ _
    · split
      · exact Nat.le_succ _
      · exact setF_len ..
  | hn x o p =>
    simp only [stepF]
    split
    · exact Nat.le_succ _
    · split
      · exact Nat.le_succ _
      · exact Nat.le_of_eq List.length_append
  | cr i =>
    simp only [stepF]
    have le := List.length_eraseIdx_le s.l i.toNat
    split
    · exact Nat.le_succ _
    · split
      · exact Nat.le_trans (setF_len ..) (Nat.succ_le_succ le)
      · split
        · exact Nat.le_trans (Nat.le_of_eq List.length_append) (Nat.succ_le_succ le)
        · exact Nat.le_succ_of_le le
      · exact Nat.le_succ _
theorem itS_ok {m : Nat} {s : S3} (m1 : 1 ≤ m) (it : It) (h : JS m s) : JS m (itS m s it) ∧ (itS m s it).l.length ≤ s.l.length + 1 := by
  obtain ⟨x, o⟩ := it
  cases o with
  | none => exact ⟨h, Nat.le_succ _⟩
  | some d => exact ⟨h.step m1 d, stepF_len d⟩
theorem runS_ok {m : Nat} (m1 : 1 ≤ m) (l : List It) : ∀ {s : S3}, JS m s → JS m (runS m s l) ∧ (runS m s l).l.length ≤ s.l.length + l.length := by
  induction l with
  | nil => intro s h; exact ⟨h, Nat.le_refl _⟩
  | cons a l ih =>
    intro s h
    obtain ⟨h1, h2⟩ := itS_ok m1 a h
    obtain ⟨h3, h4⟩ := ih h1
    exact ⟨h3, by rw [List.length_cons]; show (runS m (itS m s a) l).l.length ≤ _; omega⟩
theorem itT_fine {m : Nat} {s : S3} {it : It} (m2 : m ≤ 60) (hJ : JS m s) (h : ItOk it) : lin (itT m s it) = true ∧ (itT m s it).length ≤ 60 := by
  obtain ⟨x, o⟩ := it
  cases o with
  | none => show lin (Str.ofString "no row") = true ∧ (Str.ofString "no row").length ≤ 60; decide +kernel
  | some d => exact rsT_fine (step_ok m2 hJ h.2)
theorem runT_fine {m : Nat} (m1 : 1 ≤ m) (m2 : m ≤ 60) (l : List It) : ∀ {s : S3}, JS m s → (∀ it ∈ l, ItOk it) → ∀ t ∈ runT m s l, PyData.strOk t = true := by
  induction l with
  | nil => intro s _ _ t ht; cases ht
  | cons a l ih =>
    intro s h hl t ht
    rcases List.mem_cons.mp ht with rfl | ht
    · exact asc_ok (asc_of (itT_fine m2 h (hl a (.head _))).1)
    · exact ih (itS_ok m1 a h).1 (fun it hi => hl it (.tail _ hi)) t ht
noncomputable def s0 : S3 := ⟨fun _ => z4, false, []⟩
theorem JS.zero {m : Nat} (h : 1 ≤ m) : JS m s0 := ⟨0, by decide, JJ.new h⟩
noncomputable def firstN (x : Str) : Option Int := match words x with
  | [a, b] => if a = Str.ofString "hands" ∧ goodW b = true then some (valOf b) else none
  | _ => none
noncomputable def fst1 : List Str := [Str.ofString "", Str.ofString "hands", Str.ofString "hands 0", Str.ofString "hands 61", Str.ofString "hands -1", Str.ofString "hands 01", Str.ofString "hand 3", Str.ofString "hands 3 ", Str.ofString "Hands 3", Str.ofString "hands  3"]
noncomputable def fst2 : List Str := [Str.ofString "hands x", Str.ofString "begin 3", Str.ofString " hands 3", Str.ofString "hands 3 3", Str.ofString "hands 1" ++ Txt.mul (Str.ofString "0") 60]
noncomputable def NoFirst (y : Str) : Prop := lin y = true ∧ y.length ≤ 200 ∧ (firstN y).all (fun n => decide (¬ (1 ≤ n ∧ n ≤ 60))) = true
theorem fst_no : ∀ y ∈ fst1 ++ fst2, lin y = true ∧ y.length ≤ 200 ∧ (firstN y).all (fun n => decide (¬ (1 ≤ n ∧ n ≤ 60))) = true := by decide +kernel
theorem first_ok {m : Nat} (m2 : m ≤ 60) : firstN (textOf (Str.ofString "hands") [(m : Int)]) = some (m : Int) ∧ lin (textOf (Str.ofString "hands") [(m : Int)]) = true ∧ (textOf (Str.ofString "hands") [(m : Int)]).length ≤ 60 := by
  have hs : sm (m : Int) := sm_of (by omega) (by omega)
  have hw : lin (Str.ofString "hands") = true ∧ (Str.ofString "hands").length ≤ 10 ∧ 32 ∉ (Str.ofString "hands").cps.toList := by decide +kernel
  refine ⟨?_, text_fine hw.1 hw.2.1 (all_cons hs all_nil) (show 1 ≤ 3 by decide)⟩
  unfold firstN
  rw [text_words hw.2.2]
  show (if _ then _ else _) = _
  rw [if_pos ⟨rfl, (tx_good hs).1⟩]
  unfold valOf
  rw [(tx_good hs).2]; rfl

set_option autoImplicit false

set_option maxHeartbeats 2000000
set_option maxRecDepth 4000
set_option linter.unusedVariables false
set_option linter.unusedSimpArgs false
open PySem

theorem nb {b : Bool} (e : (!b) = true) : b = false := by simpa using e
theorem nb' {b : Bool} (e : (!b) = false) : b = true := by simpa using e
theorem br_bt {b : Bool} {A B : Prop} (e : b = true) (h : A) : br b A B := ⟨fun _ => h, fun e' => by rw [e] at e'; cases e'⟩
theorem Ext.put {μ μ' : Mem} {n : Addr} {o : O} (x : Ext μ μ') (h : μ n = none) : Ext μ (updM μ' n o) := fun b q hb => by
  unfold updM
  split
  · rename_i e; rw [e, h] at hb; cases hb
  · exact x b q hb
theorem comp_x {sc : Bool → Sc} {hd : Bool} {X : String → Mem → Prop} {ρ : Loc} {μ : Mem} {Q : V → Mem → Prop} {elt : E} {x : String} {cs : List String} {ifs : List E} {v : V} {items : List V} (F : V → Option V) (P : V → Prop) (e : ∀ μ', Ext μ μ' → itemsOf μ' v = some items) (hz : items.length ≤ lim)
    (turn : ∀ (k : Nat) (w : V) (μ' : Mem) (K : Option V → Mem → Prop), items[k]? = some w → Ext μ μ' → (P w → ∀ μ'', Ext μ' μ'' → K (F w) μ'') → wpIf sg sc hd ifs (updL (capL cs ρ) x w) μ' fun b μ₃ => br b (wpE sg sc hd elt (updL (capL cs ρ) x w) μ₃ (fun r μ'' => K (some r) μ'') X) (K none μ₃))
    (fin : (∀ w ∈ items, P w) → ∀ n μ', μ n = none → Ext μ μ' → μ' n = some (.list (items.filterMap F)) → Q (.ref n) μ') : compW sg sc hd X ρ Q elt x cs ifs v μ := by
  refine comp_in (e μ (Ext.refl μ)) fun n hn => ⟨fun k μ' => k ≤ items.length ∧ Ext μ μ' ∧ μ' n = some (.list ((items.take k).filterMap F)) ∧ ∀ w ∈ items.take k, P w, ⟨Nat.zero_le _, (Ext.new hn _), updM_self _ _ _, fun w h => by simp at h⟩, fun k μ' h => e μ' h.2.1, fun k w μ' hk h => ?_, fun μ' h => ?_⟩
  · obtain ⟨hk', hx, hl, hP⟩ := h
    have hlt : k < items.length := (List.getElem?_eq_some_iff.mp hk).1
    have ht := take_filter F items k w hk
    refine turn k w μ' _ hk hx fun hw μ'' ex => ?_
    have hP' : ∀ u ∈ items.take (k + 1), P u := fun u hu => by
      rw [List.take_add_one, hk] at hu
      rcases List.mem_append.mp hu with hu | hu
      · exact hP u hu
      · have : u = w := by simpa using hu
        rw [this]; exact hw
    cases hF : F w with
    | none =>
      rw [hF] at ht
      exact ⟨hlt, hx.trans ex, by rw [ht, List.append_nil]; exact ex _ _ hl, hP'⟩
    | some r =>
      rw [hF] at ht
      refine ⟨(items.take k).filterMap F, ex _ _ hl, ?_, hlt, (hx.trans ex).put hn, by rw [ht]; exact updM_self _ _ _, hP'⟩
      have h1 := List.length_filterMap_le F (items.take k)
      rw [List.length_take] at h1
      omega
  · obtain ⟨_, hx, hl, hP⟩ := h
    rw [List.take_length] at hl hP
    exact fin hP n μ' hn hx hl
section
variable {c : Ctx} (G : Good c sg)
include G
variable {μ : Mem} {Q : V → Mem → Prop} {X : String → Mem → Prop}

theorem number_of_spec (D : Def c sg "number_of" p_number_of b_number_of) {w : Str} (ha : asc w = true) (hl : w.length ≤ 2000) (hg : ∀ n, intText? w = some n → goodW w = true → Q (.int n) μ) (hb : goodW w = false → X "NoRow" μ) : SC c 1 false "number_of" [.str w] μ Q X := by
  have hw : PyData.strOk w = true := asc_ok ha
  have hf := figs_asc ha
  have hf' : PyData.strOk (figs w) = true := asc_ok hf
  have hfl : (figs w).length ≤ lim := Nat.le_trans (figs_le w) (by show w.length ≤ 1048576; omega)
  have hX : ok1 w = false → X "NoRow" μ := fun e => hb (by rw [← ok1_good]; exact e)
  have ze : PyData.strOk (Str.ofString "") = true := by decide +kernel
  have z1 : PyData.strOk (Str.ofString "-0") = true := by decide +kernel
  have z2 : PyData.strOk (Str.ofString "0") = true := by decide +kernel
  have z3 : PyData.strOk (Str.ofString "-") = true := by decide +kernel
  have hx : bad1 w = true → X "NoRow" μ := fun e => hX (by unfold ok1; rw [e]; rfl)
  have loop : bad1 w = false → ∀ {ρ : Loc}, ρ "word" = some (.str w) → ρ "figures" = some (.str (figs w)) → wpSs sg (SC c 0) false (b_number_of.drop 3) ρ μ (fq Q) (fx X) := by
    intro hb1 ρ r1 r2
    simp only [b_number_of, List.drop]
    refine s_for rfl ?_
    walk_at "xx"
    refine for_in (items := (figs w).cps.toList.map fun c => V.str ⟨#[c]⟩) (by unfold itemsOf; exact if_pos hf) (fun k ρ' μ' => μ' = μ ∧ ρ' "word" = some (.str w) ∧ ∀ ch ∈ (figs w).cps.toList.take k, fig ch = true) ⟨rfl, r1, fun ch h => by simp at h⟩ (fun k ρ' μ' h => by unfold itemsOf; exact if_pos hf) (fun k v ρ' μ' hk h => ?_) (fun ρ' μ' h => ?_)
    · obtain ⟨rfl, h1, h2⟩ := h
      rw [List.getElem?_map] at hk
      obtain ⟨ch, hch, rfl⟩ := Option.map_eq_some_iff.mp hk
      walk_at "xx"
      refine ⟨fun e => ?_, fun e => ?_⟩
      · refine s_raise rfl (hX ?_)
        unfold ok1 allFig
        rw [Bool.and_eq_false_iff]
        right
        rw [List.all_eq_false]
        exact ⟨ch, List.mem_of_getElem? hch, fun q => by
          have q' : Txt.contains (Str.ofString "0123456789") ⟨#[ch]⟩ = true := q
          rw [q'] at e; cases e⟩
      · walk_at "xx"
        refine ⟨rfl, by walk_at "ro", fun d hd => ?_⟩
        rw [List.take_add_one, hch] at hd
        rcases List.mem_append.mp hd with hd | hd
        · exact h2 d hd
        · have : d = ch := by simpa using hd
          subst this
          have q' : Txt.contains (Str.ofString "0123456789") ⟨#[d]⟩ = true := by simpa using e
          exact q'
    · obtain ⟨rfl, h1, h2⟩ := h
      have hok : goodW w = true := by
        rw [← ok1_good]
        unfold ok1 allFig
        rw [hb1, List.all_eq_true.mpr]
        · rfl
        · intro d hd
          exact h2 d (by rw [List.length_map, List.take_length]; exact hd)
      obtain ⟨l1, n, hn⟩ := good_int ha hok
      walk_at "xx"
      refine int_s l1 hn ?_
      walk_at "xx"
      exact hg n hn hok
  have rest : ∀ {ρ : Loc}, ρ "word" = some (.str w) → ρ "figures" = some (.str (figs w)) → wpSs sg (SC c 0) false (b_number_of.drop 2) ρ μ (fq Q) (fx X) := by
    intro ρ r1 r2
    simp only [b_number_of, List.drop] at loop ⊢
    walk_at "xx"
    refine eq_s hf' ze ?_
    walk_at "xx"
    refine br_d (fun q1 => ?_) (fun q1 => ?_)
    · walk_at "xx"
      refine s_raise rfl (hx ?_)
      unfold bad1; rw [decide_eq_true q1]; rfl
    have q1' : 0 < (figs w).length := Nat.lt_of_not_le fun q => q1 (len_nil.mpr (by omega))
    walk_at "xx"
    refine len_s hfl ?_
    walk_at "xx"
    refine br_d (fun q2 => ?_) (fun q2 => ?_)
    · walk_at "xx"
      refine s_raise rfl (hx ?_)
      unfold bad1; rw [decide_eq_true (p := 60 < (figs w).length) (by omega)]; simp
    walk_at "xx"
    refine eq_s hw z1 ?_
    walk_at "xx"
    refine br_d (fun q3 => ?_) (fun q3 => ?_)
    · walk_at "xx"
      refine s_raise rfl (hx ?_)
      unfold bad1; rw [decide_eq_true (show w = mz from q3)]; simp
    walk_at "xx"
    refine sub_s ⟨by omega, by omega, hfl⟩ ?_
    walk_at "xx"
    refine eq_s (asc_ok (asc_item hf)) z2 ?_
    walk_at "xx"
    have fin : (Txt.item (figs w) 0 = z0 → figs w = z0) → bad1 w = false := fun q => by
      unfold bad1
      rw [decide_eq_false q1, decide_eq_false (p := 60 < (figs w).length) (by omega), decide_eq_false (show ¬ w = mz from q3)]
      by_cases q4 : Txt.item (figs w) 0 = z0
      · rw [decide_eq_true q4, decide_eq_true (q q4)]; rfl
      · rw [decide_eq_false q4]; rfl
    refine br_d (fun q4 => ?_) (fun q4 => ?_)
    · walk_at "xx"
      refine ne_s hf' z2 ?_
      walk_at "xx"
      refine br_nd (fun q5 => ?_) (fun q5 => ?_)
      · exact loop (fin fun _ => q5) r1 r2
      · walk_at "xx"
        refine s_raise rfl (hx ?_)
        unfold bad1; rw [decide_eq_true (show Txt.item (figs w) 0 = z0 from q4), decide_eq_false (show ¬ figs w = z0 from q5)]; simp
    · walk_at "xx"
      exact loop (fin fun q => absurd q q4) r1 r2
  refine call_in G D rfl ?_
  unfold b_number_of
  walk_at "xx"
  refine slice_s (by show w.length ≤ 1048576; omega) ?_
  walk_at "xx"
  refine eq_s (asc_ok (asc_slice ha)) z3 ?_
  walk_at "xx"
  simp only [b_number_of, List.drop] at rest
  refine br_d (fun q => ?_) (fun q => ?_)
  · walk_at "xx"
    refine slice_s (by show w.length ≤ 1048576; omega) ?_
    refine k_asg (s_nil (sq_next (k_rW ?_)))
    refine rest (by walk_at "ro") ?_
    have e : figs w = Txt.slice w (some 1) none := if_pos q
    rw [e]; walk_at "ro"
  · refine rest (by walk_at "ro") ?_
    have e : figs w = w := if_neg q
    rw [e]; walk_at "ro"

end
section
variable {c : Ctx} (G : Good c sg)
include G
variable {μ : Mem} {Q : V → Mem → Prop} {X : String → Mem → Prop}

theorem read_spec (D1 : Def c sg "number_of" p_number_of b_number_of) (D : Def c sg "read" p_read b_read) {x w0 : Str} {ws : List Str} (hx : x.length ≤ 1000) (hw : words x = w0 :: ws) (hp : ∀ p ∈ w0 :: ws, p.length ≤ x.length ∧ asc p = true) (hn : (w0 :: ws).length ≤ x.length + 1)
    (ok : deedOk w0 ws = true → ∀ μ', Ext μ μ' → Q (rowV w0 ws) μ') (no : deedOk w0 ws = false → ∀ μ', Ext μ μ' → X "NoRow" μ') : SC c 2 false "read" [.str x] μ Q X := by
  refine call_in G D rfl ?_
  unfold b_read
  walk_at "xx"
  refine split_s (by decide +kernel) (by show x.length ≤ 1048576; omega) ?_
  rw [show Txt.split x (Str.ofString " ") = w0 :: ws from hw]
  refine newL_in (by rw [List.length_map]; show _ ≤ 1048576; omega) fun n hn0 => ?_
  have e1 : Ext μ (updM μ n (.list ((w0 :: ws).map V.str))) := (Ext.new hn0 _)
  have hl : updM μ n (.list ((w0 :: ws).map V.str)) n = some (.list ((w0 :: ws).map V.str)) := updM_self _ _ _
  generalize updM μ n (.list ((w0 :: ws).map V.str)) = μ₁ at e1 hl ⊢
  walk_at "xx"
  refine ⟨fun e => ?_, fun e => ?_⟩
  · walk_at "xx"
    refine br_bt e ?_
    walk_at "xx"
    refine s_raise rfl (no ?_ _ e1)
    have := nb e
    rw [sIn_get] at this
    unfold deedOk
    rw [Option.isSome_eq_false_iff, Option.isNone_iff_eq_none] at this
    rw [this]
  have hin := nb' e
  rw [sIn_get] at hin
  obtain ⟨k, hk⟩ := Option.isSome_iff_exists.mp hin
  obtain ⟨k1, k3⟩ := parts_pos hk
  walk_at "xx"
  refine sub_g hk ?_
  walk_at "xx"
  refine br_nd (fun q => ?_) (fun q => ?_)
  rotate_left
  · walk_at "xx"
    refine s_raise rfl (no ?_ _ e1)
    unfold deedOk
    rw [hk]
    show (decide ((ws.length : Int) + 1 = k + 1) && _) = false
    rw [decide_eq_false (by intro z; apply q; simp only [List.length_map, List.length_cons]; omega)]; rfl
  have hlen : (ws.length : Int) = k := by simp only [List.length_map, List.length_cons] at q; omega
  walk_at "xx"
  refine e_comp rfl ?_
  walk_at "xx"
  refine slice_in hl (by show (0 : Int) ≤ 1; decide) trivial ?_
  show newL μ₁ (ws.map V.str) _
  refine newL_in (by rw [List.length_map]; show _ ≤ 1048576; omega) fun m hm => ?_
  have e2 : Ext μ₁ (updM μ₁ m (.list (ws.map V.str))) := (Ext.new hm _)
  have hl2 : updM μ₁ m (.list (ws.map V.str)) m = some (.list (ws.map V.str)) := updM_self _ _ _
  generalize updM μ₁ m (.list (ws.map V.str)) = μ₂ at e2 hl2 ⊢
  refine comp_x (items := ws.map V.str) toInt (fun v => ∀ w, v = .str w → goodW w = true) (fun μ' hx' => by unfold itemsOf; simp only [hx' _ _ hl2]) (by rw [List.length_map]; show _ ≤ 1048576; omega) (fun j v μ' K hj he hK => ?_) fun hall t μ₃ ht e3 hl3 => ?_
  · rw [List.getElem?_map] at hj
    obtain ⟨w, hwj, rfl⟩ := Option.map_eq_some_iff.mp hj
    have hwm := List.mem_of_getElem? hwj
    obtain ⟨p1, p2⟩ := hp w (.tail _ hwm)
    refine if_nil (br_t ?_)
    walk_at "xx"
    refine sc_up (number_of_spec G D1 p2 (by omega) (fun i hi hg => ?_) (fun hb => ?_)) (by decide)
    · have : toInt (.str w) = some (.int i) := by
        show some (V.int ((intText? w).getD 0)) = _
        rw [hi]; rfl
      rw [← this]; exact hK (fun u hu => by cases hu; exact hg) _ (Ext.refl _)
    · refine no ?_ _ ((e1.trans e2).trans he)
      unfold deedOk
      rw [hk]
      show (_ && ws.all goodW) = false
      rw [Bool.and_eq_false_iff]
      right
      rw [List.all_eq_false]
      exact ⟨w, hwm, by rw [hb]; exact Bool.false_ne_true⟩
  · rw [ints_of] at hl3
    have hgood : ws.all goodW = true := List.all_eq_true.mpr fun w hwm => hall (.str w) (List.mem_map.mpr ⟨w, hwm, rfl⟩) w rfl
    have hdeed : deedOk w0 ws = true := by
      unfold deedOk
      rw [hk]
      show (decide ((ws.length : Int) + 1 = k + 1) && ws.all goodW) = true
      rw [decide_eq_true (by omega), hgood]; rfl
    walk_at "xx"
    refine tup_l hl3 ?_
    walk_at "xx"
    refine add_t (by simp) (fun z => by have := congrArg List.length z; simp at this; rw [this] at hlen; simp at hlen; omega) (by simp only [List.length_append, List.length_map, List.length_cons, List.length_nil]; show _ ≤ 1048576; omega) ?_
    walk_at "xx"
    exact ok hdeed _ ((e1.trans e2).trans e3)
end

set_option autoImplicit false

set_option maxHeartbeats 2000000
set_option maxRecDepth 4000
set_option linter.unusedVariables false
set_option linter.unusedSimpArgs false
open PySem

noncomputable def strF (v : V) : Option V := match v with | .str x => some (.str x) | .int i => some (.str (Str.ofString (toString i))) | _ => none
theorem txts_map (ts : List Str) : txts (ts.map V.str) = some ts := by
  induction ts with
  | nil => rfl
  | cons t ts ih => show (txts (ts.map V.str)).map (t :: ·) = _; rw [ih]; rfl
noncomputable def PartOk (v : V) : Prop := (∃ x, v = .str x ∧ x.length ≤ 10) ∨ ∃ i, v = .int i ∧ sm i
theorem strF_of {l : List V} (h : ∀ v ∈ l, PartOk v) : l.filterMap strF = (l.map pT).map V.str ∧ ((l.map pT).map (·.length)).sum ≤ 13 * l.length := by
  induction l with
  | nil => exact ⟨rfl, Nat.le_refl _⟩
  | cons v l ih =>
    obtain ⟨h1, h2⟩ := ih fun w hw => h w (.tail _ hw)
    rw [List.filterMap_cons, h1]
    simp only [List.map_cons, List.sum_cons, List.length_cons]
    rcases h v (.head _) with ⟨x, rfl, hx⟩ | ⟨i, rfl, hi⟩
    · exact ⟨rfl, by show x.length + _ ≤ _; omega⟩
    · have := (tx_len hi).1
      exact ⟨rfl, by show (tx i).length + _ ≤ _; omega⟩
theorem join_fits {s : Str} {ts : List Str} (h : (ts.map (·.length)).sum + s.length * ts.length ≤ 1000000) : JoinOk s ts = true := by
  unfold JoinOk
  rw [StrLaws.joinTotal]
  unfold Builtin.Str.tooLong
  have : s.length * (ts.length - 1) ≤ s.length * ts.length := Nat.mul_le_mul_left _ (Nat.sub_le _ _)
  rw [decide_eq_false]
  · rfl
  · rw [sizeLine_eq]; rw [Nat.mul_comm]; omega
structure Pl (μ₀ μ : Mem) (a : Ad) (m : Nat) (s : S3) (k : Nat) : Prop where
  co : ∃ kn, Comp μ a (cf m s.f s.go (rV s.l) kn) ∧ kn.length ≤ k
  old : ∀ b o, μ₀ b = some o → μ b = some o ∧ b ∉ a.list
section
variable {c : Ctx} (G : Good c sg) (D : DD c)
include G D
variable {μ : Mem} {Q : V → Mem → Prop} {X : String → Mem → Prop}

theorem text_spec {w : Str} {is : List Int} (hw : lin w = true) (hl : w.length ≤ 10) (hi : ∀ i ∈ is, sm i) (hn : is.length ≤ 3) (h : Q (.str (textOf w is)) μ) : SC c 1 false "_law_text" [rowT w is] μ Q X := by
  refine call_in G D.text rfl ?_
  unfold b__law_text rowT
  walk_at "xx"
  refine s_for rfl ?_
  walk_at "xx"
  refine slice_t (by decide) (by simp only [List.length_cons]; omega) trivial ?_
  show forW _ _ _ _ _ _ _ _ _ (.tup (is.map V.int)) μ
  refine for_in (items := is.map V.int) rfl (fun k ρ' μ' => μ' = μ ∧ ρ' "_law_signs" = some (.str (textOf w (is.take k)))) ⟨rfl, by walk_at "ro"⟩ (fun k ρ' μ' h => rfl) (fun k v ρ' μ' hk hI => ?_) (fun ρ' μ' hI => ?_)
  · obtain ⟨rfl, h1⟩ := hI
    rw [List.getElem?_map] at hk
    obtain ⟨i, hik, rfl⟩ := Option.map_eq_some_iff.mp hk
    obtain ⟨t2, t3⟩ := tx_len (hi i (List.mem_of_getElem? hik))
    obtain ⟨_, f2⟩ := text_fine hw hl (is := is.take k) (fun j hj => hi j (List.mem_of_mem_take hj)) (by rw [List.length_take]; omega)
    have hs : (Str.ofString " ").length = 1 := sp_len
    walk_at "xx"
    refine add_s (by show _ ≤ 1048576; omega) ?_
    walk_at "xx"
    refine str_i t3 ?_
    walk_at "xx"
    refine add_s (by show _ ≤ 1048576; rw [len_app]; have e : (Str.ofString (toString i)).length ≤ 13 := t2; omega) ?_
    walk_at "xx"
    refine ⟨rfl, ?_⟩
    have e : textOf w (is.take (k + 1)) = textOf w (is.take k) ++ sp ++ tx i := by
      rw [List.take_add_one, hik]; exact textOf_snoc _ _ _
    rw [e]
    exact loc_here
  · obtain ⟨rfl, h1⟩ := hI
    rw [List.length_map, List.take_length] at h1
    walk_at "xx"
    exact h

theorem shown_spec {l : List V} (hl : ∀ v ∈ l, PartOk v) (hn : l.length ≤ 4) (h : ∀ μ', Ext μ μ' → Q (.str (vT (.tup l))) μ') : SC c 1 false "shown" [.tup l] μ Q X := by
  refine call_in G D.shown rfl ?_
  unfold b_shown
  walk_at "xx"
  refine e_comp rfl ?_
  walk_at "xx"
  obtain ⟨e1, e2⟩ := strF_of hl
  refine comp_x (items := l) strF (fun _ => True) (fun μ' _ => rfl) (by show _ ≤ 1048576; omega) (fun j v μ' K hj he hK => ?_) fun _ t μ₁ ht ex hl1 => ?_
  · refine if_nil (br_t ?_)
    rcases hl v (List.mem_of_getElem? hj) with ⟨x, rfl, _⟩ | ⟨i, rfl, hi⟩
    · walk_at "xx"
      exact hK trivial _ (Ext.refl _)
    · walk_at "xx"
      refine str_i (tx_len hi).2 ?_
      exact hK trivial _ (Ext.refl _)
  · rw [e1] at hl1
    walk_at "xx"
    refine join_s hl1 (txts_map _) (join_fits ?_) ?_
    · have h2 : (Str.ofString " ").length = 1 := sp_len
      rw [h2, List.length_map]; omega
    · walk_at "xx"
      exact h _ ex

theorem newco_spec {n : Int} (good : ∀ m : Nat, n = m → 1 ≤ m → m ≤ 60 → ∀ μ' a, Pl μ μ' a m s0 0 → Q (.ref a.c) μ') (bad : ¬ (1 ≤ n ∧ n ≤ 60) → ∀ μ', Ext μ μ' → X "NoCompany" μ') : newW (SC c 2) false X Q "Company" [.int n] μ := by
  intro x d hx hd' hne
  show SC c 2 false "Company.__init__" [.ref x, .int n] (updM (updM μ d (.attrs [])) x (.inst "Company" d)) _ _
  refine init_spec G D.k.isf D.k.pini D.k.ini (d := d) mem_here (by rw [updM_ne hne]; exact mem_here) (fun z => ⟨rfl, bad z _ ?_⟩) (fun hm μ₁ a ax ad hCa kpa => ⟨trivial, ?_⟩)
  · exact fun y o hy => by rw [updM_ne (ne_some hx hy), updM_ne (ne_some hd' hy)]; exact hy
  · subst ax
    obtain ⟨m, rfl⟩ := Int.eq_ofNat_of_zero_le (Int.le_trans (by decide) hm.1)
    rw [newCo_cf] at hCa
    refine good m rfl (by omega) (by omega) μ₁ a ⟨⟨[], hCa, Nat.le_refl _⟩, fun y o hy => ?_⟩
    have n1 := ne_some hx hy
    have n2 := ne_some hd' hy
    have := kpa y o (by rw [updM_ne n1, updM_ne n2]; exact hy) n2
    exact ⟨this.1, this.2 n1⟩

theorem company_of_spec {x : Str} (hx : x.length ≤ 1000) (ha : lin x = true) (good : ∀ m : Nat, firstN x = some (m : Int) → 1 ≤ m → m ≤ 60 → ∀ μ' a, Pl μ μ' a m s0 0 → Q (.ref a.c) μ')
    (bad : (∀ n, firstN x = some n → ¬ (1 ≤ n ∧ n ≤ 60)) → ∀ μ' e, e = "NoRow" ∨ e = "NoCompany" → Ext μ μ' → X e μ') : SC c 3 false "company_of" [.str x] μ Q X := by
  obtain ⟨w0, ws, hw, hp, hn, _⟩ := line_words ha
  refine call_in G D.cof rfl ?_
  unfold b_company_of
  walk_at "xx"
  refine split_s (by decide +kernel) (by show x.length ≤ 1048576; omega) ?_
  rw [show Txt.split x (Str.ofString " ") = w0 :: ws from hw]
  refine newL_in (by rw [List.length_map]; show _ ≤ 1048576; omega) fun n hn0 => ?_
  have e1 : Ext μ (updM μ n (.list ((w0 :: ws).map V.str))) := Ext.new hn0 _
  have hl : updM μ n (.list ((w0 :: ws).map V.str)) n = some (.list ((w0 :: ws).map V.str)) := updM_self _ _ _
  generalize updM μ n (.list ((w0 :: ws).map V.str)) = μ₁ at e1 hl ⊢
  have zh : PyData.strOk (Str.ofString "hands") = true := by decide +kernel
  walk_at "xx"
  refine ne_s (asc_ok (hp w0 (.head _)).2) zh ?_
  walk_at "xx"
  refine br_nd (fun q1 => ?_) (fun q1 => ?_)
  rotate_left
  · walk_at "xx"
    refine s_raise rfl (bad (fun n hn' => ?_) _ _ (.inl rfl) e1)
    unfold firstN at hn'
    rw [hw] at hn'
    split at hn'
    · rename_i a b e
      rw [if_neg fun z => q1 (by cases e; exact z.1)] at hn'
      exact ns hn'
    · exact ns hn'
  walk_at "xx"
  refine br_nd (fun q2 => ?_) (fun q2 => ?_)
  rotate_left
  · walk_at "xx"
    refine s_raise rfl (bad (fun n hn' => ?_) _ _ (.inl rfl) e1)
    unfold firstN at hn'
    rw [hw] at hn'
    split at hn'
    · rename_i a b e
      cases e
      exact absurd rfl q2
    · exact ns hn'
  obtain ⟨w1, rfl⟩ : ∃ w1, ws = [w1] := by
    cases ws with
    | nil => exact absurd q2 (show ¬ ((1 : Nat) : Int) = 2 by decide)
    | cons w1 r => cases r with
      | nil => exact ⟨w1, rfl⟩
      | cons _ _ => simp only [List.map_cons, List.length_cons] at q2; omega
  subst q1
  have hf : firstN x = if goodW w1 = true then some (valOf w1) else none := by
    unfold firstN; rw [hw]
    show (if _ then _ else _) = _
    by_cases z : goodW w1 = true
    · rw [if_pos z, if_pos ⟨rfl, z⟩]
    · rw [if_neg z, if_neg fun y => z y.2]
  walk_at "xx"
  refine sc_up (number_of_spec G D.nof (hp w1 (.tail _ (.head _))).2 (Nat.le_trans (hp w1 (.tail _ (.head _))).1 (by omega)) (fun i hi hg => ?_) (fun hb => bad (fun n hn' => ?_) _ _ (.inl rfl) e1)) (by decide)
  · walk_at "xx"
    have hf : firstN x = some i := by rw [hf, if_pos hg]; unfold valOf; rw [hi]; rfl
    refine newco_spec G D (fun m em m1 m2 μ' a P => ?_) (fun z μ' ex => bad (fun n hn' => ?_) _ _ (.inr rfl) (e1.trans ex))
    · subst em
      walk_at "xx"
      exact good m hf m1 m2 μ' a ⟨P.co, fun b o hb => P.old b o (e1 _ _ hb)⟩
    · rw [hf] at hn'; cases hn'; exact z
  · rw [hf, if_neg (by rw [hb]; exact Bool.false_ne_true)] at hn'; exact ns hn'
end

set_option autoImplicit false

set_option maxHeartbeats 2000000
set_option maxRecDepth 4000
set_option linter.unusedVariables false
set_option linter.unusedSimpArgs false
open PySem

theorem rdAll_ints {μ : Mem} {k : Nat} (is : List Int) : rdAll (rd μ (k + 1)) (is.map V.int) = some (is.map PyData.int) := by
  induction is with
  | nil => rfl
  | cons i is ih =>
    show (match rd μ (k + 1) (.int i), rdAll (rd μ (k + 1)) (is.map V.int) with | some d, some ds => some (d :: ds) | _, _ => none) = _
    rw [ih]; rfl
theorem rd_row {μ : Mem} {w : Str} {is : List Int} (hw : PyData.strOk w = true) : ∃ d, rd μ 7 (rowT w is) = some d := by
  have e : rdAll (rd μ 6) (.str w :: is.map V.int) = some (.str w :: is.map PyData.int) := by
    show (match rd μ 6 (.str w), rdAll (rd μ 6) (is.map V.int) with | some d, some ds => some (d :: ds) | _, _ => none) = _
    rw [rdAll_ints, show rd μ 6 (.str w) = some (.str w) from if_pos hw]
  exact ⟨_, by show (rdAll (rd μ 6) (.str w :: is.map V.int)).map PyData.tuple = _; rw [e]; rfl⟩
theorem rd_lst {μ : Mem} {n : Addr} {l : List V} {ds : List PyData} (hn : μ n = some (.list l)) (e : rdAll (rd μ 7) l = some ds) : rd μ 8 (.ref n) = some (.list ds) := by
  show (match μ n with | some (.list l) => (rdAll (rd μ 7) l).map PyData.list | _ => none) = _
  rw [hn]; simp only [e, Option.map_some]
theorem eq_nil {μ : Mem} {Q : V → Mem → Prop} {n m : Addr} {R : List V} (hn : μ n = some (.list R)) (hm : μ m = some (.list [])) (hR : RsOk (.ok R)) (h : Q (.bool (decide (R = []))) μ) : cmpK Q .Eq (.ref n) (.ref m) μ := by
  refine cmp_in ?_ h
  show deqD (rd μ 8 (.ref n)) (rd μ 8 (.ref m)) = _
  rw [rd_lst hm rfl]
  rcases hR with rfl | ⟨_, rfl, w, hw, is, rfl, _, _⟩
  · rw [rd_lst hn rfl]; rfl
  · obtain ⟨d, hd⟩ := rd_row (μ := μ) (is := is) (asc_ok (asc_of (w5_fine w hw).1))
    have e : rdAll (rd μ 7) [rowT (Str.ofString w) is] = some [d] := by
      show (match rd μ 7 (rowT (Str.ofString w) is), rdAll (rd μ 7) [] with | some d, some ds => some (d :: ds) | _, _ => none) = _
      rw [hd]; rfl
    rw [rd_lst hn e]; rfl
noncomputable def rowF (v : V) : Option V := some (.str (vT v))
theorem row_parts {v : V} (h : RowOk v) : ∃ l, v = .tup l ∧ l.length ≤ 4 ∧ ∀ u ∈ l, PartOk u := by
  obtain ⟨w, hw, is, rfl, hn, hi⟩ := h
  refine ⟨_, rfl, by rw [List.length_cons, List.length_map]; omega, fun u hu => ?_⟩
  rcases List.mem_cons.mp hu with rfl | hu
  · exact .inl ⟨_, rfl, (w5_fine w hw).2⟩
  · obtain ⟨i, hi', rfl⟩ := List.mem_map.mp hu
    exact .inr ⟨i, rfl, hi i hi'⟩
theorem Keep.of_ext {a : Ad} {μ μ' : Mem} (e : Ext μ μ') : Keep a a μ μ' := fun b o hb hn => ⟨e b o hb, hn⟩
theorem Keep.ext {a a' : Ad} {μ μ' μ'' : Mem} (k : Keep a a' μ μ') (e : Ext μ' μ'') : Keep a a' μ μ'' := fun b o hb hn => ⟨e _ _ (k b o hb hn).1, (k b o hb hn).2⟩
section
variable {c : Ctx} (G : Good c sg) (D : DD c)
include G D
variable {μ : Mem} {Q : V → Mem → Prop} {X : String → Mem → Prop}

theorem lanswer_no {w : String} (hw : w ∈ w4) (h : Q (.str (rsT (.no w))) μ) : SC c 2 false "_law_answer" [refu w] μ Q X := by
  refine call_in G D.answer rfl ?_
  unfold b__law_answer refu
  walk_at "xx"
  obtain ⟨_, _, h3, h4⟩ := w4_no w hw
  unfold sV
  refine add_s (by have : (Str.ofString "refused ").length = 8 := by decide +kernel
                   show _ ≤ 1048576; omega) ?_
  walk_at "xx"
  rw [← h4]; exact h
theorem lanswer_ok {r : Addr} {R : List V} (hr : μ r = some (.list R)) (hR : RsOk (.ok R)) (h : ∀ μ', Ext μ μ' → Q (.str (rsT (.ok R))) μ') : SC c 2 false "_law_answer" [.ref r] μ Q X := by
  refine call_in G D.answer rfl ?_
  unfold b__law_answer
  walk_at "xx"
  refine isi_list hr (by simp) (b := true) (by rfl) ?_
  walk_at "xx"
  refine newL_in (by decide) fun n hn => ?_
  have e1 := Ext.new hn (.list [])
  have hn1 : updM μ n (.list []) n = some (.list []) := mem_here
  generalize updM μ n (.list []) = μ₁ at e1 hn1 ⊢
  walk_at "xx"
  refine eq_nil (e1 _ _ hr) hn1 hR ?_
  walk_at "xx"
  rcases hR with rfl | ⟨v, rfl, hv⟩
  · refine br_dt rfl ?_
    walk_at "xx"
    exact h _ e1
  · refine br_df nofun ?_
    walk_at "xx"
    refine e_comp rfl ?_
    walk_at "xx"
    refine comp_x (items := [v]) rowF (fun _ => True) (fun μ' x => by simp only [itemsOf, x _ _ (e1 _ _ hr)]) (by show 1 ≤ 1048576; decide) (fun j u μ' K hj he hK => ?_) fun _ t μ₂ ht ex hl => ?_
    · have : u = v := List.mem_singleton.mp (List.mem_of_getElem? hj)
      subst this
      refine if_nil (br_t ?_)
      walk_at "xx"
      obtain ⟨w, hw, is, rfl, hn, hi⟩ := hv
      refine text_spec G D (w5_fine w hw).1 (w5_fine w hw).2 hi hn ?_
      rw [← vT_row]
      exact hK trivial _ (Ext.refl _)
    · walk_at "xx"
      refine join_s (ts := [vT v]) hl rfl (join_fits ?_) ?_
      · have h1 : (rsT (.ok [v])).length ≤ 60 := (rsT_fine (r := .ok [v]) (.inr ⟨v, rfl, hv⟩)).2
        have h1 : (vT v).length ≤ 60 := h1
        have h2 : (Str.ofString "; ").length = 2 := by decide +kernel
        show (vT v).length + 0 + _ * 1 ≤ _
        omega
      · walk_at "xx"
        exact h _ (e1.trans ex)

theorem answer_of_spec {a : Ad} {m : Nat} {s : S3} {kn : List V} (m1 : 1 ≤ m) (m2 : m ≤ 60) (hJ : JS m s) (hC : Comp μ a (cf m s.f s.go (rV s.l) kn)) (zl : s.l.length < 10000) (zk : kn.length < 10000) {it : It} (hi : ItOk it)
    (h : ∀ μ' a' kn', a'.c = a.c → Comp μ' a' (cf m (itS m s it).f (itS m s it).go (rV (itS m s it).l) kn') → kn'.length ≤ kn.length + 1 → Keep a a' μ μ' → Q (.str (itT m s it)) μ') : SC c 6 false "answer_of" [.ref a.c, .str it.line] μ Q X := by
  obtain ⟨l1, l2⟩ := It.fine hi
  obtain ⟨w0, ws, hw, hp, hn, hk⟩ := line_words l1
  refine call_in G D.aof rfl ?_
  unfold b_answer_of
  refine s_try rfl ?_
  walk_at "xx"
  obtain ⟨x, o⟩ := it
  cases o with
  | none =>
    refine sc_up (read_spec G D.nof D.rd (Nat.le_trans l2 (by decide)) hw hp hn (fun e => ?_) fun _ μ₁ e1 => ?_) (by decide)
    · have := hi.1
      rw [show ({ line := x, deed := none } : It).line = x from rfl] at hk
      rw [hk, e] at this; cases this
    · refine try_in (more_y (by decide) ?_)
      walk_at "xx"
      exact h _ a kn rfl (hC.ext e1) (Nat.le_succ _) (Keep.of_ext e1)
  | some d =>
    obtain ⟨hx, hd⟩ := (hi : x = d.line ∧ d.sm)
    obtain ⟨r1, r2⟩ := Dd.read hd
    have hrow : rowV w0 ws = d.v := by
      rw [hx, d.words] at hw
      cases hw
      exact r2
    refine sc_up (read_spec G D.nof D.rd (Nat.le_trans l2 (by decide)) hw hp hn (fun _ μ₁ e1 => ?_) fun e => ?_) (by decide)
    rotate_left
    · rw [hx, r1] at hk
      rw [← hk] at e; cases e
    rw [hrow]
    walk_at "xx"
    have hR := step_ok (d := d) m2 hJ hd
    refine tried_spec G D m1 m2 hJ (hC.ext e1) (Nat.lt_trans zl (by decide)) (Nat.lt_trans zk (by decide)) d (fun R eR μ₂ a' r ac hC2 kp hr nr r0 => ?_) (fun w ew es hww => ?_)
    · have h := fun μ' x => h μ' a' (kn ++ R) ac x
      rw [eR] at hR
      have hlen : (kn ++ R).length ≤ kn.length + 1 := by
        rw [List.length_append]
        rcases hR with rfl | ⟨v, rfl, _⟩
        · exact Nat.le_succ _
        · exact Nat.le_refl _
      have fin : ∀ μ', Ext μ₂ μ' → Q (.str (rsT (.ok R))) μ' := fun μ' ex => by
        have := h μ' (hC2.ext ex) hlen (((Keep.of_ext e1).trans kp).ext ex)
        rw [show itT m s ⟨x, some d⟩ = rsT (stepF m s d).2 from rfl, eR] at this
        exact this
      clear h
      walk_at "xx"
      refine isi_list hr (by simp) (b := false) (by rfl) ?_
      walk_at "xx"
      refine newL_in (by decide) fun n hn => ?_
      have e2 := Ext.new hn (.list [])
      have hn1 : updM μ₂ n (.list []) n = some (.list []) := mem_here
      generalize updM μ₂ n (.list []) = μ₃ at e2 hn1 ⊢
      walk_at "xx"
      refine eq_nil (e2 _ _ hr) hn1 hR ?_
      walk_at "xx"
      rcases id hR with rfl | ⟨v, rfl, hv⟩
      · refine br_dt rfl ?_
        walk_at "xx"
        exact fin _ e2
      · refine br_df nofun ?_
        walk_at "xx"
        refine e_comp rfl ?_
        walk_at "xx"
        refine comp_x (items := [v]) rowF (fun _ => True) (fun μ' x => by simp only [itemsOf, x _ _ (e2 _ _ hr)]) (by show 1 ≤ 1048576; decide) (fun j u μ' K hj he hK => ?_) fun _ t μ₄ ht ex hl => ?_
        · have : u = v := List.mem_singleton.mp (List.mem_of_getElem? hj)
          subst this
          refine if_nil (br_t ?_)
          walk_at "xx"
          obtain ⟨l, rfl, hl, hp⟩ := row_parts hv
          exact sc_up (shown_spec G D hp hl fun μ'' ex => hK trivial _ ex) (by decide)
        · walk_at "xx"
          refine join_s (ts := [vT v]) hl rfl (join_fits ?_) ?_
          · have h1 : (vT v).length ≤ 60 := (rsT_fine hR).2
            have h2 : (Str.ofString "; ").length = 2 := by decide +kernel
            show (vT v).length + 0 + _ * 1 ≤ _
            omega
          · walk_at "xx"
            exact fin _ (e2.trans ex)
    · have hq := fun μ' (ex : Ext μ₁ μ') => h μ' a kn rfl (by rw [show itS m s ⟨x, some d⟩ = (stepF m s d).1 from rfl, es]; exact hC.ext (e1.trans ex)) (Nat.le_succ _) (Keep.of_ext (e1.trans ex))
      rw [ew] at hR
      have e : itT m s ⟨x, some d⟩ = vT (refu w) := by show rsT (stepF m s d).2 = _; rw [ew]; rfl
      rw [e] at hq
      walk_at "xx"
      refine sc_up (shown_spec G D (l := [sV "refused", sV w]) (fun u hu => ?_) (by show 2 ≤ 4; decide) fun μ' ex => ?_) (by decide)
      · rcases List.mem_cons.mp hu with rfl | hu
        · exact .inl ⟨_, rfl, by decide +kernel⟩
        · rw [List.mem_singleton.mp hu]; exact .inl ⟨_, rfl, (w4_no w hR).2.2.1⟩
      · walk_at "xx"
        exact hq μ' ex
end

set_option autoImplicit false

set_option maxHeartbeats 2000000
set_option maxRecDepth 4000
set_option linter.unusedVariables false
set_option linter.unusedSimpArgs false
open PySem

noncomputable def nl : Str := Str.ofString "\n"
theorem nl_eq : nl = ⟨#[10]⟩ := by decide +kernel
theorem lines_split {f : Str} {ls : List Str} (h : ∀ z ∈ f :: ls, lin z = true) : Txt.split (Txt.join nl (f :: ls)) nl = f :: ls := by
  rw [join_eq, nl_eq]
  exact split_of fun z hz hc => by have := (lin_iff.mp (h z hz) 10 hc).1; omega
theorem lines_len {f : Str} {ls : List Str} (h : ∀ z ∈ f :: ls, z.length ≤ 200) (hn : ls.length ≤ 60) : (Txt.join nl (f :: ls)).length ≤ 1048576 := by
  rw [join_eq]
  refine Nat.le_trans (join_le (n := 200) (by decide +kernel) h) ?_
  omega
theorem its_lines {f : Str} {its : List It} (hf : lin f = true ∧ f.length ≤ 200) (hi : ∀ it ∈ its, ItOk it) : ∀ z ∈ f :: its.map (·.line), lin z = true ∧ z.length ≤ 200 := all_cons hf fun z hz => by
  obtain ⟨it, h1, rfl⟩ := List.mem_map.mp hz
  exact It.fine (hi it h1)
section
variable {c : Ctx} (G : Good c sg) (D : DD c)
include G D
variable {μ : Mem} {Q : V → Mem → Prop} {X : String → Mem → Prop}

theorem answered_spec {f : Str} {its : List It} (hf : lin f = true ∧ f.length ≤ 200) (hi : ∀ it ∈ its, ItOk it) (hn : its.length ≤ 60)
    (good : ∀ m : Nat, firstN f = some (m : Int) → 1 ≤ m → m ≤ 60 → ∀ μ' n, Ext μ μ' → μ' n = some (.list ((runT m s0 its).map V.str)) → Q (.ref n) μ')
    (bad : (∀ n, firstN f = some n → ¬ (1 ≤ n ∧ n ≤ 60)) → ∀ μ' n, Ext μ μ' → μ' n = some (.list [.str (Str.ofString "no hands")]) → Q (.ref n) μ') : SC c 7 false "answered" [.str (Txt.join nl (f :: its.map (·.line)))] μ Q X := by
  have hls := its_lines hf hi
  have hlen := lines_len (fun z hz => (hls z hz).2) (by rw [List.length_map]; exact hn)
  have hsp := lines_split fun z hz => (hls z hz).1
  generalize Txt.join nl (f :: its.map (·.line)) = x at hlen hsp
  refine call_in G D.answered rfl ?_
  unfold b_answered
  walk_at "xx"
  refine split_s (by decide +kernel) hlen ?_
  rw [show Txt.split x (Str.ofString "\n") = f :: its.map (·.line) from hsp]
  refine newL_in (by rw [List.length_map, List.length_cons, List.length_map]; show _ ≤ 1048576; omega) fun n1 hn1 => ?_
  have e1 := Ext.new hn1 (.list ((f :: its.map (·.line)).map V.str))
  have hl : updM μ n1 (.list ((f :: its.map (·.line)).map V.str)) n1 = some (.list (.str f :: (its.map (·.line)).map V.str)) := mem_here
  generalize updM μ n1 (.list ((f :: its.map (·.line)).map V.str)) = μ₁ at e1 hl ⊢
  refine k_asg ?_
  refine s_try rfl ?_
  walk_at "xx"
  refine sc_up (company_of_spec G D (Nat.le_trans hf.2 (by decide)) hf.1 (fun m hm m1 m2 μ₂ a P => ?_) (fun hb μ₂ e he ex => ?_)) (by decide)
  rotate_left
  · have hq := bad hb
    have fin : ∀ n, μ₂ n = none → Q (.ref n) (updM μ₂ n (.list [.str (Str.ofString "no hands")])) := fun n hn => hq _ n ((e1.trans ex).trans (Ext.new hn _)) mem_here
    rcases he with rfl | rfl
    · refine try_in (more_y (by decide) ?_)
      walk_at "xx"
      exact newL_in (by show 1 ≤ 1048576; decide) fun n hn => fin n hn
    · refine try_in (more_n (by decide) (more_y (by decide) ?_))
      walk_at "xx"
      exact newL_in (by show 1 ≤ 1048576; decide) fun n hn => fin n hn
  have good := good m hm m1 m2
  clear bad hlen hsp hls
  obtain ⟨⟨kn0, hC0, hk0⟩, old⟩ := P
  have hl2 := (old _ _ hl).1
  walk_at "xx"
  refine e_comp rfl ?_
  walk_at "xx"
  refine slice_in hl2 (by show (0 : Int) ≤ 1; decide) trivial ?_
  show newL μ₂ ((its.map (·.line)).map V.str) _
  refine newL_in (by rw [List.length_map, List.length_map]; show _ ≤ 1048576; omega) fun sl hsl => ?_
  have e3 := Ext.new hsl (.list ((its.map (·.line)).map V.str))
  have hs3 : updM μ₂ sl (.list ((its.map (·.line)).map V.str)) sl = some (.list ((its.map (·.line)).map V.str)) := mem_here
  have nsl := hC0.notin hsl
  have hC3 := hC0.ext e3
  generalize updM μ₂ sl (.list ((its.map (·.line)).map V.str)) = μ₃ at e3 hs3 hC3 ⊢
  refine comp_in (items := (its.map (·.line)).map V.str) (by simp only [itemsOf, hs3]) fun n hn => ?_
  refine ⟨fun k μ' => k ≤ its.length ∧ ∃ a' kn, a'.c = a.c ∧ Comp μ' a' (cf m (runS m s0 (its.take k)).f (runS m s0 (its.take k)).go (rV (runS m s0 (its.take k)).l) kn) ∧ kn.length ≤ k ∧ Keep a a' μ₃ μ' ∧ n ∉ a'.list ∧ μ' n = some (.list ((runT m s0 (its.take k)).map V.str)),
    ⟨Nat.zero_le _, a, kn0, rfl, hC3.new hn _, hk0, Keep.of_ext (Ext.new hn _), hC3.notin hn, mem_here⟩, fun k μ' h => ?_, fun k w μ' hk h => ?_, fun μ' h => ?_⟩
  · obtain ⟨_, a', kn, _, _, _, kp, _⟩ := h
    simp only [itemsOf, (kp _ _ hs3 nsl).1]
  · obtain ⟨hkl, a', kn, ac, hC, zk, kp, nn, hnv⟩ := h
    rw [List.map_map, List.getElem?_map] at hk
    obtain ⟨it, hit, rfl⟩ := Option.map_eq_some_iff.mp hk
    have hlt : k < its.length := (List.getElem?_eq_some_iff.mp hit).1
    have etk : its.take (k + 1) = its.take k ++ [it] := by rw [List.take_add_one, hit]; rfl
    obtain ⟨hJ, zl⟩ := runS_ok m1 (its.take k) (JS.zero m1)
    have zl : (runS m s0 (its.take k)).l.length ≤ 0 + (its.take k).length := zl
    rw [List.length_take] at zl
    refine if_nil (br_t ?_)
    walk_at "xx"
    have ht : ∀ {Q' : V → Mem → Prop} {X' : String → Mem → Prop}, SC c 6 false "answer_of" [.ref a'.c, .str it.line] μ' Q' X' → SC c 6 false "answer_of" [.ref a.c, .str it.line] μ' Q' X' := fun h => by rw [← ac]; exact h
    refine ht (answer_of_spec G D m1 m2 hJ hC (by omega) (by omega) (hi it (List.mem_of_getElem? hit)) fun μ'' a'' kn' ac2 hC2 zk2 kp2 => ?_)
    have hn2 := kp2 _ _ hnv nn
    refine ⟨_, hn2.1, by rw [List.length_map, runT_len, List.length_take]; show _ < 1048576; omega, hlt, a'', kn', ac2.trans ac, ?_, by omega, fun b o hb nb => ?_, hn2.2, ?_⟩
    · rw [etk, runS_snoc]; exact hC2.other hn2.2 _
    · have q1 := kp b o hb nb
      have q2 := kp2 b o q1.1 q1.2
      exact ⟨by rw [updM_ne (ne_some hn hb)]; exact q2.1, q2.2⟩
    · rw [etk, runT_snoc, List.map_append]; exact mem_here
  · obtain ⟨_, a', kn, _, _, _, kp, _, hnv⟩ := h
    rw [List.length_map, List.length_map, List.take_length] at hnv
    refine good μ' n (fun b o hb => ?_) hnv
    have q := old b o (e1 _ _ hb)
    exact (kp b o (e3 _ _ q.1) q.2).1
end

set_option autoImplicit false

set_option maxHeartbeats 2000000
set_option maxRecDepth 4000
set_option linter.unusedVariables false
set_option linter.unusedSimpArgs false
open PySem

theorem pickS {L : List Str} {j : Int} (h0 : 0 ≤ j) (h1 : j < L.length) : ∃ y ∈ L, idx (L.map V.str) j = some (.str y) := by
  obtain ⟨v, hv, hm⟩ := idx_some (l := L.map V.str) h0 (by rw [List.length_map]; exact h1)
  obtain ⟨y, hy, rfl⟩ := List.mem_map.mp hm
  exact ⟨y, hy, hv⟩
section
variable {c : Ctx} (G : Good c sg) (D : DD c)
include G D
variable {μ : Mem} {Q : V → Mem → Prop} {X : String → Mem → Prop}

theorem pick_spec {ρ : Loc} {r : Int} {n : Addr} {L : List Str} {d : Nat} {X : String → Loc → Mem → Prop} {body : List S} (hn : μ n = some (.list (L.map V.str))) (hL : 0 < L.length) {e : E} {p1 p2 p3 p4 p5 p6 p7 : Pos} (hb : body = [.ret (.sub (.loc "_law_some" p1) (.bin .Mod e (.bltn "len" [.loc "_law_some" p2] p3 p4) p5) p6) p7])
    (he : ∀ {K : V → Mem → Prop} {X : String → Mem → Prop}, K (.int r) μ → wpE sg (SC c d) false e ρ μ K X) (hr : ρ "_law_some" = some (.ref n)) (h : ∀ y ∈ L, Q (.str y) μ) : wpSs sg (SC c d) false body ρ μ (fq Q) X := by
  subst hb
  walk_at "xx"
  refine he ?_
  walk_at "xx"
  rw [List.length_map]
  obtain ⟨j0, j1⟩ := mod_bd (a := r) (show (0 : Int) < L.length by omega)
  obtain ⟨y, hy, hv⟩ := pickS j0 j1
  refine mod_i (by omega) ?_
  refine sub_l hn hv ?_
  walk_at "xx"
  exact h y hy

theorem norow_spec {x : Str} {rest : Int} (hx : x.length ≤ 60) (h : ∀ y μ', y ∈ bads x → Ext μ μ' → Q (.str y) μ') : SC c 1 false "_law_no_row" [.str x, .int rest] μ Q X := by
  have l1 : (Str.ofString " ").length = 1 ∧ (Str.ofString " 1").length = 2 ∧ (Str.ofString "# ").length = 2 := by decide +kernel
  refine sc_intro0 G D.norow rfl fun A fs env s ok tp S => ?_
  unfold b__law_no_row at ok ⊢
  refine norow_sound G ok tp (by decide +kernel) (by decide +kernel) (by decide) (t := x) (by rfl) (by omega) S ?_
  walk_at "xx"
  refine add_s (by show _ ≤ 1048576; omega) ?_
  walk_at "xx"
  refine add_s (by show _ ≤ 1048576; omega) ?_
  walk_at "xx"
  refine add_s (by show _ ≤ 1048576; omega) ?_
  walk_at "xx"
  refine newL_in (show 11 ≤ 1048576 by decide) fun n hn => ?_
  have e1 := Ext.new hn (.list ([Str.ofString "", Str.ofString " ", Str.ofString "play", Str.ofString "do", Str.ofString "do 01", Str.ofString "do +1", Str.ofString "begin 1.", Str.ofString "hands 2", x ++ Str.ofString " ", Str.ofString " " ++ x, x ++ Str.ofString " 1"].map V.str))
  have g1 : updM μ n (.list ([Str.ofString "", Str.ofString " ", Str.ofString "play", Str.ofString "do", Str.ofString "do 01", Str.ofString "do +1", Str.ofString "begin 1.", Str.ofString "hands 2", x ++ Str.ofString " ", Str.ofString " " ++ x, x ++ Str.ofString " 1"].map V.str)) n = _ := mem_here
  show wpEs _ _ _ _ _ (updM μ n (.list ([Str.ofString "", Str.ofString " ", Str.ofString "play", Str.ofString "do", Str.ofString "do 01", Str.ofString "do +1", Str.ofString "begin 1.", Str.ofString "hands 2", x ++ Str.ofString " ", Str.ofString " " ++ x, x ++ Str.ofString " 1"].map V.str))) _ _
  generalize updM μ n _ = μ₁ at e1 g1 ⊢
  walk_at "xx"
  refine upper_s (by show _ ≤ 1048576; omega) ?_
  walk_at "xx"
  refine add_s (by show _ ≤ 1048576; omega) ?_
  walk_at "xx"
  refine newL_in (show 7 ≤ 1048576 by decide) fun n2 hn2 => ?_
  have e2 := Ext.new hn2 (.list ([Txt.replace x (Str.ofString " ") (Str.ofString "  "), Txt.upper x, Str.ofString "# " ++ x, Str.ofString "end 1", Str.ofString "nothing", Str.ofString "hand 0 1", Str.ofString "carry x"].map V.str))
  have g2 : updM μ₁ n2 (.list ([Txt.replace x (Str.ofString " ") (Str.ofString "  "), Txt.upper x, Str.ofString "# " ++ x, Str.ofString "end 1", Str.ofString "nothing", Str.ofString "hand 0 1", Str.ofString "carry x"].map V.str)) n2 = _ := mem_here
  show binK _ _ _ _ (updM μ₁ n2 (.list ([Txt.replace x (Str.ofString " ") (Str.ofString "  "), Txt.upper x, Str.ofString "# " ++ x, Str.ofString "end 1", Str.ofString "nothing", Str.ofString "hand 0 1", Str.ofString "carry x"].map V.str)))
  have g1 := e2 _ _ g1
  generalize updM μ₁ n2 _ = μ₂ at e2 g1 g2 ⊢
  refine cat_l g1 g2 ?_
  rw [← List.map_append]
  refine newL_in (show 18 ≤ 1048576 by decide) fun n3 hn3 => ?_
  exact pick_spec G D (L := bads x) mem_here (show 0 < 18 by decide) rfl (fun {K X} hK => by walk_at "xx"; exact hK) (by rfl) fun y hy => h y _ hy ((e1.trans e2).trans (Ext.new hn3 _))

theorem first_spec {cell : Int} {m : Nat} (m2 : m ≤ 60) (good : ¬ cell % 8 = 1 → Q (.str (textOf (Str.ofString "hands") [(m : Int)])) μ) (bad : cell % 8 = 1 → ∀ y μ', y ∈ fst1 ++ fst2 → Ext μ μ' → Q (.str y) μ') : SC c 1 false "_law_first" [.int cell, .int m] μ Q X := by
  have hs : sm (m : Int) := sm_of (by omega) (by omega)
  refine call_in G D.first rfl ?_
  unfold b__law_first
  walk_at "xx"
  refine br_nd (fun q => ?_) (fun q => ?_)
  rotate_left
  · walk_at "xx"
    refine str_i (tx_len hs).2 ?_
    walk_at "xx"
    refine add_s (by have h6 : (Str.ofString "hands ").length = 6 := by decide +kernel
                     have := (tx_len hs).1
                     show (Str.ofString "hands ").length + (tx (m : Int)).length ≤ 1048576; omega) ?_
    walk_at "xx"
    have e : Str.ofString "hands " = Str.ofString "hands" ++ sp := by decide +kernel
    rw [e]; exact good q
  have bad := bad q
  walk_at "xx"
  refine newL_in (show 10 ≤ 1048576 by decide) fun n hn => ?_
  have e1 := Ext.new hn (.list (fst1.map V.str))
  have g1 : updM μ n (.list (fst1.map V.str)) n = some (.list (fst1.map V.str)) := mem_here
  show asgK _ _ _ _ _ _ _ _ _ (updM μ n (.list (fst1.map V.str)))
  generalize updM μ n (.list (fst1.map V.str)) = μ₁ at e1 g1 ⊢
  walk_at "xx"
  refine mul_s (by unfold MulOk; exact ⟨by decide, fun _ _ => by decide +kernel, fun _ _ => by decide +kernel⟩) ?_
  walk_at "xx"
  refine add_s (by decide +kernel) ?_
  walk_at "xx"
  refine newL_in (show 5 ≤ 1048576 by decide) fun n2 hn2 => ?_
  have e2 := Ext.new hn2 (.list (fst2.map V.str))
  have g2 : updM μ₁ n2 (.list (fst2.map V.str)) n2 = some (.list (fst2.map V.str)) := mem_here
  show binK _ _ _ _ (updM μ₁ n2 (.list (fst2.map V.str)))
  have g1 := e2 _ _ g1
  generalize updM μ₁ n2 (.list (fst2.map V.str)) = μ₂ at e2 g1 g2 ⊢
  refine cat_l g1 g2 ?_
  rw [← List.map_append]
  refine newL_in (show 15 ≤ 1048576 by decide) fun n3 hn3 => ?_
  refine k_asg ?_
  exact pick_spec G D (L := fst1 ++ fst2) mem_here (show 0 < 15 by decide) rfl (fun {K X} hK => by walk_at "xx"; exact hK) (by rfl) fun y hy => bad y _ hy ((e1.trans e2).trans (Ext.new hn3 _))
end

set_option autoImplicit false

set_option maxHeartbeats 2000000
set_option maxRecDepth 4000
set_option linter.unusedVariables false
set_option linter.unusedSimpArgs false
open PySem

theorem mem_ne {l : List Addr} {b n : Addr} (h : b ∈ l) (hn : n ∉ l) : b ≠ n := fun z => hn (z ▸ h)
section
variable {c : Ctx} (G : Good c sg) (D : DD c)
include G D
variable {μ : Mem} {Q : V → Mem → Prop} {X : String → Mem → Prop} {m : Nat}

theorem fresh_spec (h1 : 1 ≤ m) (h2 : m ≤ 60)
    (k : ∀ μ' q, St6 μ' q m s0 → Q (.ref q.s) μ') : SC c 1 false "_law_fresh" [.int m] μ Q X := by
  refine call_in G D.fresh rfl ?_
  unfold b__law_fresh
  have hm0 : (0 : Int) ≤ m := by omega
  have ez : ∀ {α : Type} (v : α), List.replicate m v = mp m fun _ => v := fun v => by
    apply List.ext_getElem
    · simp [mp]
    · intro n a b; simp [mp]
  walk_at "xx"
  refine newL_in (show 1 ≤ 1048576 by decide) fun x1 hx1 => ?_
  walk_at "xx"
  refine rep_l mem_here hm0 (by omega) (by rw [Int.toNat_natCast]; show m * 1 ≤ 1048576; omega) ?_
  rw [iL_rep, Int.toNat_natCast, ez]
  refine newL_in (by rw [iL_length, mp_len]; unfold lim; omega) fun n1 hn1 => ?_
  have g1 : updM (updM μ x1 (.list [.int 0])) n1 (.list (iL (mp m fun _ => 0))) n1 = some (.list (iL (mp m fun _ => (0 : Int)))) := mem_here
  generalize updM (updM μ x1 (.list [.int 0])) n1 (.list (iL (mp m fun _ => 0))) = μ₁ at g1 ⊢
  walk_at "xx"
  refine newL_in (show 1 ≤ 1048576 by decide) fun x2 hx2 => ?_
  walk_at "xx"
  refine rep_l mem_here hm0 (by omega) (by rw [Int.toNat_natCast]; show m * 1 ≤ 1048576; omega) ?_
  rw [iL_rep, Int.toNat_natCast, ez]
  refine newL_in (by rw [iL_length, mp_len]; unfold lim; omega) fun n2 hn2 => ?_
  have x2' := (Ext.new hx2 (.list [.int 0])).trans (Ext.new hn2 (.list (iL (mp m fun _ => 0))))
  have g2 : updM (updM μ₁ x2 (.list [.int 0])) n2 (.list (iL (mp m fun _ => 0))) n2 = some (.list (iL (mp m fun _ => (0 : Int)))) := mem_here
  have ne12 : n1 ≠ n2 := ne_some hn2 (Ext.new hx2 (.list [.int 0]) _ _ g1)
  have g1 := x2' _ _ g1
  generalize updM (updM μ₁ x2 (.list [.int 0])) n2 (.list (iL (mp m fun _ => 0))) = μ₂ at g1 g2 ⊢
  walk_at "xx"
  refine newL_in (show 1 ≤ 1048576 by decide) fun x3 hx3 => ?_
  walk_at "xx"
  refine rep_l mem_here hm0 (by omega) (by rw [Int.toNat_natCast]; show m * 1 ≤ 1048576; omega) ?_
  rw [oL_rep, Int.toNat_natCast, ez]
  refine newL_in (by rw [oL_length, mp_len]; unfold lim; omega) fun n3 hn3 => ?_
  have x3' := (Ext.new hx3 (.list [.none])).trans (Ext.new hn3 (.list (oL (mp m fun _ => none))))
  have g3 : updM (updM μ₂ x3 (.list [.none])) n3 (.list (oL (mp m fun _ => none))) n3 = some (.list (oL (mp m fun _ => none))) := mem_here
  have ne13 : n1 ≠ n3 := ne_some hn3 (Ext.new hx3 (.list [.none]) _ _ g1)
  have ne23 : n2 ≠ n3 := ne_some hn3 (Ext.new hx3 (.list [.none]) _ _ g2)
  have g1 := x3' _ _ g1
  have g2 := x3' _ _ g2
  generalize updM (updM μ₂ x3 (.list [.none])) n3 (.list (oL (mp m fun _ => none))) = μ₃ at g1 g2 g3 ⊢
  walk_at "xx"
  refine newL_in (show 1 ≤ 1048576 by decide) fun x4 hx4 => ?_
  walk_at "xx"
  refine rep_l mem_here hm0 (by omega) (by rw [Int.toNat_natCast]; show m * 1 ≤ 1048576; omega) ?_
  rw [iL_rep, Int.toNat_natCast, ez]
  refine newL_in (by rw [iL_length, mp_len]; unfold lim; omega) fun n4 hn4 => ?_
  have x4' := (Ext.new hx4 (.list [.int 0])).trans (Ext.new hn4 (.list (iL (mp m fun _ => 0))))
  have g4 : updM (updM μ₃ x4 (.list [.int 0])) n4 (.list (iL (mp m fun _ => 0))) n4 = some (.list (iL (mp m fun _ => (0 : Int)))) := mem_here
  have ne14 : n1 ≠ n4 := ne_some hn4 (Ext.new hx4 (.list [.int 0]) _ _ g1)
  have ne24 : n2 ≠ n4 := ne_some hn4 (Ext.new hx4 (.list [.int 0]) _ _ g2)
  have ne34 : n3 ≠ n4 := ne_some hn4 (Ext.new hx4 (.list [.int 0]) _ _ g3)
  have g1 := x4' _ _ g1
  have g2 := x4' _ _ g2
  have g3 := x4' _ _ g3
  generalize updM (updM μ₃ x4 (.list [.int 0])) n4 (.list (iL (mp m fun _ => 0))) = μ₄ at g1 g2 g3 g4 ⊢
  walk_at "xx"
  refine newL_in (Nat.zero_le _) fun n5 hn5 => ?_
  have x5' := Ext.new hn5 (.list [])
  have g5 : updM μ₄ n5 (.list []) n5 = some (.list []) := mem_here
  have ne15 : n1 ≠ n5 := ne_some hn5 g1
  have ne25 : n2 ≠ n5 := ne_some hn5 g2
  have ne35 : n3 ≠ n5 := ne_some hn5 g3
  have ne45 : n4 ≠ n5 := ne_some hn5 g4
  have g1 := x5' _ _ g1
  have g2 := x5' _ _ g2
  have g3 := x5' _ _ g3
  have g4 := x5' _ _ g4
  generalize updM μ₄ n5 (.list []) = μ₅ at g1 g2 g3 g4 g5 ⊢
  walk_at "xx"
  refine newL_in (show 1 ≤ 1048576 by decide) fun n6 hn6 => ?_
  have x6' := Ext.new hn6 (.list [.bool false])
  have g6 : updM μ₅ n6 (.list [.bool false]) n6 = some (.list [.bool false]) := mem_here
  have ne16 : n1 ≠ n6 := ne_some hn6 g1
  have ne26 : n2 ≠ n6 := ne_some hn6 g2
  have ne36 : n3 ≠ n6 := ne_some hn6 g3
  have ne46 : n4 ≠ n6 := ne_some hn6 g4
  have ne56 : n5 ≠ n6 := ne_some hn6 g5
  have g1 := x6' _ _ g1
  have g2 := x6' _ _ g2
  have g3 := x6' _ _ g3
  have g4 := x6' _ _ g4
  have g5 := x6' _ _ g5
  generalize updM μ₅ n6 (.list [.bool false]) = μ₆ at g1 g2 g3 g4 g5 g6 ⊢
  walk_at "xx"
  refine newL_in (show 6 ≤ 1048576 by decide) fun n7 hn7 => ?_
  have x7' := Ext.new hn7 (.list [.ref n1, .ref n2, .ref n3, .ref n4, .ref n5, .ref n6])
  have g7 : updM μ₆ n7 (.list [.ref n1, .ref n2, .ref n3, .ref n4, .ref n5, .ref n6]) n7 = some (.list [.ref n1, .ref n2, .ref n3, .ref n4, .ref n5, .ref n6]) := mem_here
  have ne17 : n1 ≠ n7 := ne_some hn7 g1
  have ne27 : n2 ≠ n7 := ne_some hn7 g2
  have ne37 : n3 ≠ n7 := ne_some hn7 g3
  have ne47 : n4 ≠ n7 := ne_some hn7 g4
  have ne57 : n5 ≠ n7 := ne_some hn7 g5
  have ne67 : n6 ≠ n7 := ne_some hn7 g6
  have g1 := x7' _ _ g1
  have g2 := x7' _ _ g2
  have g3 := x7' _ _ g3
  have g4 := x7' _ _ g4
  have g5 := x7' _ _ g5
  have g6 := x7' _ _ g6
  generalize updM μ₆ n7 (.list [.ref n1, .ref n2, .ref n3, .ref n4, .ref n5, .ref n6]) = μ₇ at g1 g2 g3 g4 g5 g6 g7 ⊢
  walk_at "xx"
  refine k μ₇ ⟨n7, n1, n2, n3, n4, n5, n6⟩ ⟨?_, g7, g1, g2, g3, g4, g5, g6⟩
  simp only [Q6.list, List.nodup_cons, List.mem_cons, List.not_mem_nil, or_false, not_or, List.nodup_nil, not_false_eq_true, and_true]
  exact ⟨⟨Ne.symm ne17, Ne.symm ne27, Ne.symm ne37, Ne.symm ne47, Ne.symm ne57, Ne.symm ne67⟩, ⟨ne12, ne13, ne14, ne15, ne16⟩, ⟨ne23, ne24, ne25, ne26⟩, ⟨ne34, ne35, ne36⟩, ⟨ne45, ne46⟩, ne56⟩

theorem first_any {cell : Int} (m2 : m ≤ 60) (h : ∀ f μ', (lin f = true ∧ f.length ≤ 200) → (cell % 8 = 1 → ∀ n, firstN f = some n → ¬ (1 ≤ n ∧ n ≤ 60)) → (¬ cell % 8 = 1 → firstN f = some (m : Int)) → Ext μ μ' → Q (.str f) μ') : SC c 1 false "_law_first" [.int cell, .int m] μ Q X := by
  obtain ⟨g1, g2, g3⟩ := first_ok m2
  refine first_spec G D m2 (fun q => h _ _ ⟨g2, Nat.le_trans g3 (by decide)⟩ (fun z => absurd z q) (fun _ => g1) (Ext.refl _)) fun q y μ' hy ex => ?_
  obtain ⟨h1, h2, h3⟩ := fst_no y hy
  refine h y μ' ⟨h1, h2⟩ (fun _ n hn => ?_) (fun z => absurd q z) ex
  rw [hn] at h3
  exact of_decide_eq_true h3

theorem tail_spec {ρ : Loc} {f : Str} {its : List It} {T : List Str} {ln du : Addr} {X : String → Loc → Mem → Prop} {body : List S} (eb : body = b_law.drop 6) (hf : lin f = true ∧ f.length ≤ 200) (hi : ∀ it ∈ its, ItOk it) (hn : its.length ≤ 60) (hT : ∀ t ∈ T, PyData.strOk t = true) (hz : T.length ≤ 1000)
    (hl : μ ln = some (.list ((f :: its.map (·.line)).map V.str))) (hd : μ du = some (.list (T.map V.str))) (r1 : ρ "_law_lines" = some (.ref ln)) (r2 : ρ "_law_dues" = some (.ref du))
    (ans : ∀ {μ : Mem} {Q : V → Mem → Prop} {X : String → Mem → Prop}, (∀ μ' n, Ext μ μ' → μ' n = some (.list (T.map V.str)) → Q (.ref n) μ') → SC c 7 false "answered" [.str (Txt.join nl (f :: its.map (·.line)))] μ Q X) : wpSs sg (SC c 8) false body ρ μ (fq fun v _ => v = .bool true) X := by
  subst eb
  simp only [b_law, List.drop]
  have hls := its_lines hf hi
  have hnl : (Str.ofString "\n").length = 1 := by decide +kernel
  walk_at "xx"
  refine join_s hl (txts_map _) (join_fits ?_) ?_
  · have hs : ∀ L : List Str, (∀ z ∈ L, z.length ≤ 200) → (L.map (·.length)).sum ≤ 200 * L.length := fun L => by
      induction L with
      | nil => intro _; exact Nat.le_refl _
      | cons z L ih =>
        intro h
        have h1 := h z (.head _)
        have h2 := ih fun y hy => h y (.tail _ hy)
        simp only [List.map_cons, List.sum_cons, List.length_cons]
        omega
    have := hs _ fun z hz => (hls z hz).2
    rw [hnl]
    rw [List.length_cons, List.length_map] at this ⊢
    omega
  walk_at "xx"
  refine sc_up (ans fun μ₁ n1 e1 g1 => ?_) (by decide)
  walk_at "xx"
  refine sc_up (alike_strs G D.alike g1 (e1 _ _ hd) hz hT ?_) (by decide)
  walk_at "xx"
  have ex : Str.ofString "hands 1\nbegin 2\ndo 0\n" = Txt.join nl (textOf (Str.ofString "hands") [((1 : Nat) : Int)] :: ([⟨(Dd.bg 2).line, some (.bg 2)⟩, ⟨(Dd.dd 0).line, some (.dd 0)⟩, ⟨Str.ofString "", none⟩] : List It).map (·.line)) := by decide +kernel
  have er : runT 1 s0 [⟨(Dd.bg 2).line, some (.bg 2)⟩, ⟨(Dd.dd 0).line, some (.dd 0)⟩, ⟨Str.ofString "", none⟩] = [Str.ofString "begun 2", Str.ofString "nothing", Str.ofString "no row"] := by decide +kernel
  obtain ⟨f1, f2, f3⟩ := first_ok (m := 1) (by decide)
  rw [ex]
  refine sc_up (answered_spec G D ⟨f2, Nat.le_trans f3 (by decide)⟩ (all_cons ⟨rfl, sm1 rfl (sm_of (by decide) (by decide))⟩ (all_cons ⟨rfl, sm1 rfl (sm_of (by decide) (by decide))⟩ (all_cons (const_no _ (.head _)) all_nil))) (show 3 ≤ 60 by decide) (fun m hm m1 m2 μ₂ n2 e2 g2 => ?_) (fun hb => absurd (hb 1 f1) (by decide))) (by decide)
  rw [f1] at hm
  obtain rfl : m = 1 := by injection hm with hm; omega
  rw [er] at g2
  walk_at "xx"
  refine newL_in (show 3 ≤ 1048576 by decide) fun n3 hn3 => ?_
  walk_at "xx"
  refine sc_up (alike_strs G D.alike (L := [Str.ofString "begun 2", Str.ofString "nothing", Str.ofString "no row"]) (Ext.new hn3 _ _ _ g2) mem_here (by decide) (by decide +kernel) ?_) (by decide)
  walk_at "xx"
  refine sc_up (ans fun μ₄ n4 e4 g4 => ?_) (by decide)
  walk_at "xx"
  refine sc_up (alike_strs G D.alike g4 (e4 _ _ (Ext.new hn3 _ _ _ (e2 _ _ (e1 _ _ hd)))) hz hT ?_) (by decide)
  walk_at "xx"
  rfl

theorem law_mini {ns : List Int} : SC c 9 false "law" [.frz ns] (fun _ => none) (fun v _ => v = .bool true) (fun _ _ => False) := by
  refine call_in G D.law rfl ?_
  unfold b_law
  walk_at "xx"
  refine sc_up (cell_at_spec G D.k.cell (by decide) ?_) (by decide)
  walk_at "xx"
  refine sc_up (many_by_spec G D.k.many fun m m1 m2 => ?_) (by decide)
  obtain ⟨m, rfl⟩ := Int.eq_ofNat_of_zero_le (show 0 ≤ m by omega)
  have m1' : 1 ≤ m := by omega
  have m2' : m ≤ 60 := by omega
  walk_at "xx"
  refine sc_up (fresh_spec G D m1' m2' fun μ₁ q hS => ?_) (by decide)
  walk_at "xx"
  refine sc_up (cell_at_spec G D.k.cell (by decide) ?_) (by decide)
  walk_at "xx"
  generalize hcell : ns.getD (1 : Int).toNat 0 = cell
  refine sc_up (first_any G D m2' fun f μ₂ hf fbad fgood e2 => ?_) (by decide)
  have hS := hS.ext e2
  walk_at "xx"
  refine newL_in (show 1 ≤ 1048576 by decide) fun ln hln => ?_
  have nln := hS.notin hln
  have hS := hS.ext (Ext.new hln (.list [.str f]))
  have gl : updM μ₂ ln (.list [.str f]) ln = some (.list [.str f]) := mem_here
  generalize updM μ₂ ln (.list [.str f]) = μ₃ at hS gl ⊢
  walk_at "xx"
  refine newL_in (Nat.zero_le _) fun en hen => ?_
  have nen := hS.notin hen
  have nle : ln ≠ en := ne_some hen gl
  have hS := hS.ext (Ext.new hen (.list []))
  have gl := Ext.new hen (.list []) _ _ gl
  have ge : updM μ₃ en (.list []) en = some (.list []) := mem_here
  generalize updM μ₃ en (.list []) = μ₄ at hS gl ge ⊢
  walk_at "xx"
  refine s_for rfl ?_
  walk_at "xx"
  refine sc_up (cell_at_spec G D.k.cell (by decide) ?_) (by decide)
  walk_at "xx"
  obtain ⟨c0, c1⟩ := mod_bd (a := ns.getD (2 : Int).toNat 0) (show (0 : Int) < 51 by decide)
  generalize ns.getD (2 : Int).toNat 0 % 51 = cnt at c0 c1 ⊢
  obtain ⟨cnt, rfl⟩ := Int.eq_ofNat_of_zero_le c0
  refine rng1 (Int.le_trans (show (cnt : Int) ≤ 1048576 by omega) (Int.le_refl _)) (by omega) ?_
  refine for_nat (fun i ρ μ' => ∃ its : List It, its.length = i ∧ (∀ it ∈ its, ItOk it) ∧ ρ "_law_script" = some (.frz ns) ∧ ρ "_law_state" = some (.ref q.s) ∧ ρ "_law_lines" = some (.ref ln) ∧ ρ "_law_dues" = some (.ref en) ∧ μ' ln = some (.list ((f :: its.map (·.line)).map V.str)) ∧ μ' en = some (.list ((runT m s0 its).map V.str)) ∧ St6 μ' q m (runS m s0 its))
    ⟨[], rfl, all_nil, by rfl, by rfl, by rfl, by rfl, gl, ge, hS⟩ (fun i ρ μ' hi hI => ?_) (fun ρ μ' hI => ?_)
  · obtain ⟨its, hl, hok, r1, r2, r3, r4, gl, ge, hS⟩ := hI
    obtain ⟨hJ, zl⟩ := runS_ok m1' its (JS.zero m1')
    have zl : (runS m s0 its).l.length ≤ 0 + its.length := zl
    walk_at "xx"
    refine sc_up (mixed_spec G D.k.mixed fun nn n0 n1 => ?_) (by decide)
    walk_at "xx"
    refine sc_up (deedby_spec G D m1' m2' hS (by omega) (by omega) (by omega) fun d μ₅ hd e5 => ?_) (by decide)
    have gl := e5 _ _ gl
    have ge := e5 _ _ ge
    have hS := hS.ext e5
    walk_at "xx"
    rw [d.v_eq]
    obtain ⟨_, _, _, hd3⟩ := d.one
    refine sc_up (text_spec G D (w4_fine _ d.w4).1 (w4_fine _ d.w4).2.1 hd hd3 ?_) (by decide)
    rw [← d.v_eq]
    show asgK _ _ _ _ _ _ _ _ (.str d.line) _
    have fin : ∀ {it : It} {μ₆ : Mem}, ItOk it → St6 μ₆ q m (itS m (runS m s0 its) it) → μ₆ ln = some (.list ((f :: its.map (·.line)).map V.str ++ [.str it.line])) → μ₆ en = some (.list ((runT m s0 its).map V.str ++ [.str (itT m (runS m s0 its) it)])) → ∀ {ρ : Loc}, ρ "_law_script" = some (.frz ns) → ρ "_law_state" = some (.ref q.s) → ρ "_law_lines" = some (.ref ln) → ρ "_law_dues" = some (.ref en) →
        ∃ its : List It, its.length = i + 1 ∧ (∀ it ∈ its, ItOk it) ∧ ρ "_law_script" = some (.frz ns) ∧ ρ "_law_state" = some (.ref q.s) ∧ ρ "_law_lines" = some (.ref ln) ∧ ρ "_law_dues" = some (.ref en) ∧ μ₆ ln = some (.list ((f :: its.map (·.line)).map V.str)) ∧ μ₆ en = some (.list ((runT m s0 its).map V.str)) ∧ St6 μ₆ q m (runS m s0 its) := fun {it μ₆} h1 h2 h3 h4 {ρ} r1 r2 r3 r4 => by
      refine ⟨its ++ [it], by rw [List.length_append, hl]; rfl, all_app hok (all_cons h1 all_nil), r1, r2, r3, r4, ?_, ?_, ?_⟩
      · rw [h3, List.map_append]; simp
      · rw [h4, runT_snoc, List.map_append]; rfl
      · rw [runS_snoc]; exact h2
    have zl1 : ((f :: its.map (·.line)).map V.str).length < lim := by rw [List.length_map, List.length_cons, List.length_map]; show _ < 1048576; omega
    have zd1 : ((runT m s0 its).map V.str).length < lim := by rw [List.length_map, runT_len]; show _ < 1048576; omega
    obtain ⟨l1, l2⟩ := Dd.fine hd
    walk_at "xx"
    refine br_d (fun q5 => ?_) (fun q5 => ?_)
    · walk_at "xx"
      refine sc_up (norow_spec G D l2 fun y μ₆ hy e6 => ?_) (by decide)
      have gl := e6 _ _ gl
      have ge := e6 _ _ ge
      have hS := hS.ext e6
      walk_at "xx"
      refine app_l gl zl1 ?_
      have ge' : updM μ₆ ln (.list ((f :: its.map (·.line)).map V.str ++ [.str y])) en = some (.list ((runT m s0 its).map V.str)) := by rw [updM_ne (Ne.symm nle)]; exact ge
      have hS : St6 (updM μ₆ ln (.list ((f :: its.map (·.line)).map V.str ++ [.str y]))) q m (runS m s0 its) := hS.of fun b o hb hq => by rw [updM_ne (mem_ne hq nln)]; exact hb
      have gl' : updM μ₆ ln (.list ((f :: its.map (·.line)).map V.str ++ [.str y])) ln = some (.list ((f :: its.map (·.line)).map V.str ++ [.str y])) := mem_here
      generalize updM μ₆ ln (.list ((f :: its.map (·.line)).map V.str ++ [.str y])) = μ₇ at ge' hS gl' ⊢
      clear gl ge
      walk_at "xx"
      refine app_l ge' zd1 ?_
      walk_at "xx"
      refine fin (it := ⟨y, none⟩) (bads_no hd y hy) (hS.of fun b o hb hq => by rw [updM_ne (mem_ne hq nen)]; exact hb) (by rw [updM_ne nle]; exact gl') mem_here (by walk_at "ro") (by walk_at "ro") (by walk_at "ro") (by walk_at "ro")
    · walk_at "xx"
      refine app_l gl zl1 ?_
      have ge' : updM μ₅ ln (.list ((f :: its.map (·.line)).map V.str ++ [.str d.line])) en = some (.list ((runT m s0 its).map V.str)) := by rw [updM_ne (Ne.symm nle)]; exact ge
      have hS : St6 (updM μ₅ ln (.list ((f :: its.map (·.line)).map V.str ++ [.str d.line]))) q m (runS m s0 its) := hS.of fun b o hb hq => by rw [updM_ne (mem_ne hq nln)]; exact hb
      have gl' : updM μ₅ ln (.list ((f :: its.map (·.line)).map V.str ++ [.str d.line])) ln = some (.list ((f :: its.map (·.line)).map V.str ++ [.str d.line])) := mem_here
      generalize updM μ₅ ln (.list ((f :: its.map (·.line)).map V.str ++ [.str d.line])) = μ₇ at ge' hS gl' ⊢
      clear gl ge
      walk_at "xx"
      have hR := step_ok (d := d) m2' hJ hd
      have hit : ItOk ⟨d.line, some d⟩ := ⟨rfl, hd⟩
      refine sc_up (due_spec G D m1' hS hJ (by omega) d (fun w hw hs => ?_) (fun R hR1 μ₈ r hS8 off hr rq r0 => ?_)) (by decide)
      · rw [hw] at hR
        walk_at "xx"
        refine sc_up (lanswer_no G D hR ?_) (by decide)
        walk_at "xx"
        refine app_l ge' zd1 ?_
        walk_at "xx"
        refine fin (it := ⟨d.line, some d⟩) hit ?_ (by rw [updM_ne nle]; exact gl') (by rw [show itT m (runS m s0 its) ⟨d.line, some d⟩ = rsT (.no w) from by show rsT (stepF m _ d).2 = _; rw [hw]]; exact mem_here) (by walk_at "ro") (by walk_at "ro") (by walk_at "ro") (by walk_at "ro")
        show St6 _ q m (stepF m (runS m s0 its) d).1
        rw [hs]
        exact hS.of fun b o hb hq => by rw [updM_ne (mem_ne hq nen)]; exact hb
      · rw [hR1] at hR
        have ge8 := off _ _ ge' nen
        have gl8 := off _ _ gl' nln
        walk_at "xx"
        refine sc_up (lanswer_ok G D hr hR fun μ₉ e9 => ?_) (by decide)
        walk_at "xx"
        refine app_l (e9 _ _ ge8) zd1 ?_
        walk_at "xx"
        refine fin (it := ⟨d.line, some d⟩) hit ?_ (by rw [updM_ne nle]; exact e9 _ _ gl8) (by rw [show itT m (runS m s0 its) ⟨d.line, some d⟩ = rsT (.ok R) from by show rsT (stepF m _ d).2 = _; rw [hR1]]; exact mem_here) (by walk_at "ro") (by walk_at "ro") (by walk_at "ro") (by walk_at "ro")
        exact (hS8.ext e9).of fun b o hb hq => by rw [updM_ne (mem_ne hq nen)]; exact hb
  · obtain ⟨its, hl, hok, r1, r2, r3, r4, gl, ge, hS⟩ := hI
    have hn : its.length ≤ 60 := by omega
    walk_at "xx"
    refine sc_up (cell_at_spec G D.k.cell (by decide) ?_) (by decide)
    rw [hcell]
    walk_at "xx"
    refine br_d (fun q8 => ?_) (fun q8 => ?_)
    · walk_at "xx"
      refine newL_in (show 1 ≤ 1048576 by decide) fun du hdu => ?_
      refine k_asg (s_nil (sq_next (k_rW ?_)))
      refine tail_spec G D (its := its) (T := [Str.ofString "no hands"]) (ln := ln) (du := du) rfl hf hok hn (by decide +kernel) (by decide) (Ext.new hdu _ _ _ gl) mem_here (by walk_at "ro") (by walk_at "ro") fun {μ Q X} h => ?_
      exact answered_spec G D hf hok hn (fun m' hm' a1 a2 => absurd ⟨Int.ofNat_le.mpr a1, Int.ofNat_le.mpr a2⟩ (fbad q8 _ hm')) fun _ μ' n ex g => h μ' n ex g
    · refine tail_spec G D (its := its) (T := runT m s0 its) (ln := ln) (du := en) rfl hf hok hn (runT_fine m1' m2' its (JS.zero m1') hok) (by rw [runT_len]; omega) gl ge (by walk_at "ro") (by walk_at "ro") fun {μ Q X} h => ?_
      refine answered_spec G D hf hok hn (fun m' hm' a1 a2 μ' n ex g => ?_) fun hb => absurd ⟨m1, m2⟩ (hb _ (fgood q8))
      rw [fgood q8] at hm'
      obtain rfl : m = m' := by injection hm' with hm'; omega
      exact h μ' n ex g
end

end Mine

namespace Mine
open PySem PySem.W PySem.Calls PyProof.Rows
theorem all_defs {w : World} {base : Heap} {p : Program} {loose : List Str} {mg mb : Str → Option Value} (X : (Kq w.params).In base) (T : TopRead p loose mg mb base) : DD (ctx w base) :=
  ⟨⟨d_is_from X T, d_Post___init__ X T, d_Post_put X T, d_Post_take X T, d_Company___init__ X T, d_Company_need_hand X T, d_Company_is_in X T, d_Company_noted X T, d_Company_settled X T, d_Company_begin X T, d_Company_do X T, d_Company_hand_on X T, d_Company_letter_came X T, d_Company_carry X T, d__law_cell_at X T, d__law_mixed X T, d__law_many_by X T⟩, d_done X T, d_tried X T, d__law_alike X T, d__law_fresh X T, d__law_freed X T, d__law_carried X T, d__law_begun X T, d__law_due X T, d__law_wrong_by X T, d__law_deed_by X T, d__law_text X T, d__law_no_row X T, d__law_first X T, d__law_answer X T, d_shown X T, d_number_of X T, d_read X T, d_company_of X T, d_answer_of X T, d_answered X T, d_law X T⟩
set_option maxRecDepth 100000 in
set_option maxHeartbeats 8000000 in
theorem said_q : OpenLaw.wellSaid Challenge.rw_uf040019_14 = true := by kernel_rfl
end Mine
open PySem PySem.W PyProof.Rows Mine
set_option maxRecDepth 100000 in
set_option maxHeartbeats 8000000 in
theorem PySem.Challenge.cw_uf040019_14_holds : PySem.Challenge.rw_uf040019_14.Holds := by
  w_on
  refine holds_law said_q fun said => ?_
  refine own_head (by assumption) ?hw ?hc
  case hw => w_witness2
  case hc =>
  intro w s₀ s₁ mg mb G Y fa o pm cd doc dV kV ho hd hcd hD hmg hg args vals as hpre hlay hrd hwl hlo
  clear ho hd hcd hD
  have KX := kq_of Y
  clear Y
  refine Ground.open G ?_
  intro T B D TE TW
  have TR := topRead_of T
  clear B D TE TW
  have hfa' : fa = 438 := Value.ref.inj (Option.some.inj (hmg.symm.trans (law_at KX TR)))
  clear hmg
  subst hfa'
  wrow_args hpre hlay hrd hwl hlo
  all_goals refine enter_call ?_
  with_reducible rename IntsAre _ _ => hI
  with_reducible rename Heap.IsList _ _ _ => hL
  with_reducible rename ¬ _ < _ => hlen
  have hn : ((_ : List Int).length) ≤ 63 := Int.ofNat_le.mp (Int.not_lt.mp hlen)
  exact top_sound (c := ctx w s₁.heap) rfl (by decide) rfl hL hI (Nat.le_trans hn (by decide)) (law_mini (good KX TR) (all_defs KX TR)) fun s' hk hos hgens => GoodW.toG ⟨.inl ⟨_, _, _, rfl, fun _ => rfl, .bool true, postW_of (X := true) rfl (by first | rfl | kernel_rfl | (simp; done)) rfl, fun _ => ⟨List.nodup_nil, nofun⟩⟩, hk, hos, hgens.trans hg⟩


