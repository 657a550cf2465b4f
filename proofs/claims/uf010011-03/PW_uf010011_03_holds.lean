import PyProof.Rows.All
import PyProof.Walks
import PyProof.WalksMore
import PyProof.StationsW
import PyProof.P3Statements
import PyProof.CompIC
import PyProof.EvalArms
import PyProof.Calls
import PyProof.CallRoads
import PyProof.PureInt
import PyProof.DefCall
import PyProof.SliceMore
import OpenK.KWalk
import PyProof.ListOps
import PyProof.TupleOps
import PyProof.ListMulRoad
import PyProof.NoPylong
import PyProof.Rows.RuleB_small
import PyProof.Rows.RuleB_mod
import PyProof.Rows.RuleB_floordiv
import PyProof.Rows.SeqMore
import PyProof.Rows.ListMul
import PyProof.P3In
import PyProof.EqLayable
import PyProof.SumAny
import PyProof.ConsumeWalk
import PyProof.TupleOfSeq
import PyProof.TupleCall
import PyProof.ListCopy
import PyProof.ListRange
import PyProof.Conv_int_bool
import PyProof.Rows.RuleN_abs
import PyProof.Rows.RuleN_isinstance
import PyProof.IsiTupleOf
import PyProof.IsInstanceH
import PyProof.ListIndexNeg
import PyProof.Rows.TupMore
import PyProof.Rows.StrTemp
import PyProof.ZipIter
import PyProof.WalksEnum
import PyProof.EnumMake
import PyProof.RangeFor
import PyProof.CompFree
import PyProof.Cells
import PyProof.PlainList
import PyProof.ForAppend
import PyProof.Rows.Chain
import PyProof.Rows.ChunkLeaf
import PyProof.RulesAssignMore
import PyProof.Raises
import KE.KTryMore
import PyProof.ExcBaseAll.ValueError
import PyProof.RulesAs
import PyProof.ExcAttrAll.ValueError
import PyProof.Rows.OwnQ
import Open.Head
import Wide.All
import OpenK.KLine
import PySem.Challenge.RW_uf010011_03
section
open PySem
set_option linter.unusedVariables false
set_option linter.unusedSimpArgs false
namespace Vl

/-! The pure side: values, objects, the law's text without places. -/

inductive PV where
  | none
  | bool (b : Bool)
  | int (i : Int)
  | str (s : String)
  | tup (l : List PV)
  | ref (a : Addr)
  | scr (l : List Int)
  deriving Inhabited


inductive PO where
  | list (l : List PV)
  | exc (c : String)
  | hid
  deriving Inhabited

abbrev PH := Addr → Option PO
noncomputable def PH.set (σ : PH) (a : Addr) (o : PO) : PH := fun b => if b = a then some o else σ b
theorem PH.set_same (σ : PH) (a : Addr) (o : PO) : (σ.set a o) a = some o := if_pos rfl
theorem PH.set_ne (σ : PH) {a b : Addr} (o : PO) (h : b ≠ a) : (σ.set a o) b = σ b := if_neg h

abbrev Rho := List (String × Option PV)
noncomputable def Rho.get : Rho → String → Option PV
  | [], _ => Option.none
  | (y, v) :: r, x => if y = x then v else Rho.get r x
noncomputable def Rho.put : Rho → String → PV → Rho
  | [], _, _ => []
  | (y, o) :: r, x, v => if y = x then (y, some v) :: r else (y, o) :: Rho.put r x v
/-- nothing is said of any name any more -/
noncomputable def Rho.wipe (ρ : Rho) : Rho := ρ.map fun p => (p.1, Option.none)
noncomputable def Rho.bindX (ρ : Rho) (x : String) (v : PV) : Rho := if x = "" then ρ else ρ.put x v
noncomputable def Rho.unX (ρ : Rho) (x : String) : Rho := if x = "" then ρ else ρ.wipe
noncomputable def Rho.puts : Rho → List String → List PV → Rho
  | ρ, x :: xs, v :: vs => Rho.puts (ρ.put x v) xs vs
  | ρ, _, _ => ρ

inductive BOp where
  | add | sub | mul | fdiv | mod | pow
  deriving DecidableEq
inductive COp where
  | eq | ne | lt | le | gt | ge | in_ | nin
  deriving DecidableEq
inductive BI where
  | len | all | any | sum | abs | int | list | tuple
  deriving DecidableEq
noncomputable def BI.quiet : BI → Bool
  | .len | .abs | .int | .tuple => true
  | _ => false
inductive Me where
  | append
  deriving DecidableEq
inductive IK where
  | val | range
  deriving DecidableEq
inductive Tg where
  | name (x : String)
  | tup (l : List String)
  deriving DecidableEq

set_option genSizeOfSpec false
set_option genInjectivity false
set_option genSizeOf false
inductive E where
  | none
  | bool (b : Bool)
  | int (i : Int)
  | str (s : String)
  | loc (x : String)
  | glob (x : String)
  | bin (op : BOp) (a b : E)
  | neg (a : E)
  | not_ (a : E)
  | and_ (a b : E)
  | or_ (a b : E)
  | isNone (a : E)
  | notNone (a : E)
  | cmp (op : COp) (a b : E)
  | cmp2 (a : E) (o1 : COp) (b : E) (o2 : COp) (c : E)
  | tup (l : List E)
  | list (l : List E)
  | sub (a i : E)
  | upto (a hi : E)
  | from_ (a lo : E)
  | comp (elt : E) (tg : Tg) (k : IK) (it : List E)
  | compIf (elt : E) (tg : Tg) (k : IK) (it : List E) (cond : E)
  | call (f : String) (args : List E)
  | bi (b : BI) (args : List E)
  | isi (a : E) (ts : List String)
  | meth (o : E) (m : Me) (args : List E)
  deriving Inhabited

inductive S where
  | assign (tg : Tg) (e : E)
  | setIdx (o i e : E)
  | expr (e : E)
  | ret (e : E)
  | if_ (t : E) (b o : List S)
  | for_ (tg : Tg) (k : IK) (it : List E) (b : List S)
  | raise (c : String) (args : List E)
  | try1 (b : List S) (c x : String) (h : List S)
  deriving Inhabited

set_option genSizeOfSpec true
set_option genInjectivity true
set_option genSizeOf true
inductive Fl where
  | next
  | ret (v : PV)

structure PX where
  c : String

abbrev Post := PV → PH → Prop
abbrev XPost := PX → PH → Prop
abbrev Cl := String → List PV → PH → Post → XPost → Prop

structure Gx where
  glob : String → Option PV
  sub : String → String → Bool
  /-- the text uses more than lists, tuples and numbers -/
  full : Bool
  /-- the functions that are called by name -/
  fn : String → Bool
  /-- it runs outside of any handler -/
  calm : Bool
  /-- the text's own kinds of exceptions -/
  cs : List String
  /-- those that are made without ado -/
  mks : List String
noncomputable def Gx.isCls (G : Gx) (t : String) : Bool := (G.cs.contains t && !["int", "bool", "list", "tuple", "dict"].contains t) || t == "ValueError"
noncomputable def stat (ts : List String) : Bool := ts.length == 1 && ts.all fun t => ["int", "bool", "list", "tuple", "dict"].contains t
/-- the same inside of a handler -/
noncomputable def Gx.un (G : Gx) : Gx := { G with calm := false }

noncomputable def lim : Nat := 1000000

/-- a new object -/
noncomputable def wnew (o : PO) (σ : PH) (Q : Post) : Prop := ∀ a, σ a = Option.none → Q (.ref a) (σ.set a o)

noncomputable def Okl (l : List PV) : Prop := l.length ≤ lim
noncomputable def wlist (l : List PV) (σ : PH) (Q : Post) : Prop := Okl l ∧ wnew (.list l) σ Q

/-! data read through -/
mutual
noncomputable def Rd (σ : PH) : PyData → PV → Prop
  | .none, v => v = .none
  | .bool b, v => v = .bool b
  | .int i, v => v = .int i
  | .str x, v => ∃ s, v = .str s ∧ x = Str.ofString s
  | .tuple ds, v => ∃ l, v = .tup l ∧ Rds σ ds l
  | .list ds, v => ∃ a l, v = .ref a ∧ σ a = some (.list l) ∧ Rds σ ds l
  | .dict _, _ => False
noncomputable def Rds (σ : PH) : List PyData → List PV → Prop
  | [], l => l = []
  | d :: ds, l => ∃ p ps, l = p :: ps ∧ Rd σ d p ∧ Rds σ ds ps
end

/-- data that are compared: no dict in them, not deep -/
noncomputable def okD (d : PyData) : Prop := d.canLay0 = true ∧ d.depth ≤ 50

/-- items of what a for or a comprehension goes over, and what must stay as it is meanwhile -/
noncomputable def src (k : IK) (vs : List PV) (σ : PH) : Option (List PV × (PH → Prop)) :=
  match k, vs with
  | .val, [.ref a] => match σ a with
    | some (.list l) => some (l, fun σ' => σ' a = some (.list l))
    | _ => Option.none
  | .val, [.tup l] => some (l, fun _ => True)
  | .range, [.int n] => if -1000000 < n then some ((List.range n.toNat).map fun (i : Nat) => .int i, fun _ => True) else Option.none
  | _, _ => Option.none

noncomputable def bindT : Tg → PV → Rho → Option Rho
  | .name x, v, ρ => some (ρ.put x v)
  | .tup xs, .tup vs, ρ => if vs.length = xs.length then some (ρ.puts xs vs) else Option.none
  | _, _, _ => Option.none
noncomputable def Tg.names : Tg → List String
  | .name x => [x]
  | .tup xs => xs
/-- a comprehension's own names stand ahead -/
noncomputable def blank (tg : Tg) (ρ : Rho) : Rho := (".0", Option.none) :: ((tg.names.map fun x => (x, Option.none)) ++ ρ)
noncomputable def bindC (tg : Tg) (v : PV) (ρ : Rho) : Option Rho := bindT tg v (blank tg ρ)

noncomputable def plen (σ : PH) : PV → Option Nat
  | .ref a => match σ a with
    | some (.list l) => some l.length
    | _ => Option.none
  | .tup l => some l.length
  | .scr l => some l.length
  | _ => Option.none

/-- the place that an index says in a list of n -/
noncomputable def place (n : Nat) (i : Int) : Option Nat :=
  if 0 ≤ i then (if i < n then some i.toNat else Option.none) else (if 0 ≤ i + n then some (i + n).toNat else Option.none)
noncomputable def cut (n : Nat) (i : Int) : Nat := if 0 ≤ i then min i.toNat n else (i + n).toNat

noncomputable def psub (σ : PH) : PV → PV → Option PV
  | .ref a, i => match σ a, i with
    | some (.list l), .int k => (place l.length k).bind fun j => l[j]?
    | _, _ => Option.none
  | .tup l, .int k => (place l.length k).bind fun j => l[j]?
  | .scr l, .int k => ((place l.length k).bind fun j => l[j]?).map .int
  | _, _ => Option.none

noncomputable def allInts : List PV → Option (List Int)
  | [] => some []
  | .int i :: r => (allInts r).map (i :: ·)
  | _ => Option.none
noncomputable def allBools : List PV → Option (List Bool)
  | [] => some []
  | .bool i :: r => (allBools r).map (i :: ·)
  | _ => Option.none
noncomputable def wbin (op : BOp) (a b : PV) (σ : PH) (Q : Post) : Prop :=
  match op, a, b with
  | .add, .int x, .int y => Q (.int (x + y)) σ
  | .sub, .int x, .int y => Q (.int (x - y)) σ
  | .mul, .int x, .int y => (x.natAbs < 2 ^ 64 ∨ y.natAbs < 2 ^ 64) ∧ Q (.int (x * y)) σ
  | .fdiv, .int x, .int y => y ≠ 0 ∧ y.natAbs < 1073741824 ∧ Q (.int (x.fdiv y)) σ
  | .mod, .int x, .int y => y ≠ 0 ∧ Q (.int (x.fmod y)) σ
  | .pow, .int x, .int y => 0 ≤ y ∧ y ≤ 1000 ∧ x.natAbs < 2 ^ 64 ∧ Q (.int (x ^ y.toNat)) σ
  | .add, .tup x, .tup y => Okl (x ++ y) ∧ Q (.tup (x ++ y)) σ
  | .add, .ref x, .ref y => match σ x, σ y with
    | some (.list l), some (.list m) => wlist (l ++ m) σ Q
    | _, _ => False
  | .mul, .ref x, .int y => match σ x with
    | some (.list l) => (Okl (List.replicate y.toNat l).flatten ∧ y < 2 ^ 62 ∧ -(2 ^ 62) < y) ∧ wnew (.list (List.replicate y.toNat l).flatten) σ Q
    | _ => False
  | _, _, _ => False

noncomputable def weq (a b : PV) (σ : PH) (Q : Bool → PH → Prop) : Prop :=
  match a, b with
  | .int x, .int y => Q (decide (x = y)) σ
  | .bool x, .bool y => Q (x == y) σ
  | .str x, .str y => Q (decide (x = y)) σ
  | a, b => ∃ c d, Rd σ c a ∧ Rd σ d b ∧ okD c ∧ okD d ∧ Q (PyData.eqv c d) σ

noncomputable def win (a b : PV) (σ : PH) (Q : Bool → PH → Prop) : Prop :=
  match b with
  | .ref r => match σ r with
    | some (.list l) => ∃ c ds, Rd σ c a ∧ Rds σ ds l ∧ okD c ∧ (∀ d ∈ ds, okD d) ∧ Q (ds.any fun d => PyData.eqv d c) σ
    | _ => False
  | _ => False

noncomputable def wcmp (op : COp) (a b : PV) (σ : PH) (Q : Bool → PH → Prop) : Prop :=
  match op with
  | .eq => weq a b σ Q
  | .ne => weq a b σ fun r σ => Q (!r) σ
  | .in_ => win a b σ Q
  | .nin => win a b σ fun r σ => Q (!r) σ
  | .lt => match a, b with
    | .int x, .int y => Q (decide (x < y)) σ
    | _, _ => False
  | .le => match a, b with
    | .int x, .int y => Q (decide (x ≤ y)) σ
    | _, _ => False
  | .gt => match a, b with
    | .int x, .int y => Q (decide (x > y)) σ
    | _, _ => False
  | .ge => match a, b with
    | .int x, .int y => Q (decide (x ≥ y)) σ
    | _, _ => False

/-- one argument, and that a list -/
noncomputable def wLst (σ : PH) (K : List PV → Prop) : List PV → Prop
  | [.ref a] => match σ a with
    | some (.list l) => K l
    | _ => False
  | _ => False
theorem wLst_at {σ : PH} {K : List PV → Prop} {a : Addr} {l : List PV} (e : σ a = some (.list l)) : wLst σ K [.ref a] = K l := by
  show (match σ a with
    | some (.list l) => K l
    | _ => False) = K l
  rw [e]
theorem wLst_inv {σ : PH} {K : List PV → Prop} {args : List PV} (h : wLst σ K args) : ∃ a l, args = [.ref a] ∧ σ a = some (.list l) ∧ K l := by
  match args, h with
  | [.ref a], h =>
    have h : (match σ a with
      | some (.list l) => K l
      | _ => False) := h
    cases e : σ a with
    | none => rw [e] at h; exact h.elim
    | some o =>
      rw [e] at h
      cases o with
      | list l => exact ⟨a, l, rfl, e, h⟩
      | _ => exact h.elim
noncomputable def oBs (K : List Bool → Prop) : Option (List Bool) → Prop
  | some bs => K bs
  | Option.none => False
noncomputable def oIs (K : List Int → Prop) : Option (List Int) → Prop
  | some is => K is
  | Option.none => False
theorem oBs_inv {K : List Bool → Prop} {o : Option (List Bool)} (h : oBs K o) : ∃ bs, o = some bs ∧ K bs := by
  cases o with
  | none => exact h.elim
  | some bs => exact ⟨bs, rfl, h⟩
theorem oIs_inv {K : List Int → Prop} {o : Option (List Int)} (h : oIs K o) : ∃ bs, o = some bs ∧ K bs := by
  cases o with
  | none => exact h.elim
  | some bs => exact ⟨bs, rfl, h⟩
noncomputable def wLen (σ : PH) (Q : Post) : List PV → Prop
  | [v] => match plen σ v with
    | some n => n ≤ lim ∧ Q (.int n) σ
    | Option.none => False
  | _ => False
noncomputable def wAbs (σ : PH) (Q : Post) : List PV → Prop
  | [.int x] => Q (.int (if x < 0 then -x else x)) σ
  | _ => False
noncomputable def wInt (σ : PH) (Q : Post) : List PV → Prop
  | [.bool x] => Q (.int (if x then 1 else 0)) σ
  | _ => False
noncomputable def wListOf (σ : PH) (Q : Post) : List PV → Prop
  | [.tup l] => wlist l σ Q
  | l => wLst σ (fun l => wlist l σ Q) l
noncomputable def wTupOf (σ : PH) (Q : Post) : List PV → Prop
  | [.tup l] => Q (.tup l) σ
  | l => wLst σ (fun l => Okl l ∧ Q (.tup l) σ) l
noncomputable def wbi (b : BI) (args : List PV) (σ : PH) (Q : Post) : Prop :=
  match b with
  | .len => wLen σ Q args
  | .all => wLst σ (fun l => oBs (fun bs => Q (.bool (bs.all id)) σ) (allBools l)) args
  | .any => wLst σ (fun l => oBs (fun bs => Q (.bool (bs.any id)) σ) (allBools l)) args
  | .sum => wLst σ (fun l => oIs (fun is => Q (.int is.sum) σ) (allInts l)) args
  | .abs => wAbs σ Q args
  | .int => wInt σ Q args
  | .list => wListOf σ Q args
  | .tuple => wTupOf σ Q args


noncomputable def isiV (G : Gx) (σ : PH) (v : PV) (ts : List String) : Option Bool :=
  match v with
  | .none => some false
  | .str _ => some false
  | .bool _ => some (ts.contains "bool" || ts.contains "int")
  | .int _ => some (ts.contains "int")
  | .tup _ => some (ts.contains "tuple")
  | .ref a => match σ a with
    | some (.list _) => some (ts.contains "list")
    | some (.exc c) => if ts.all G.isCls then some (ts.any (G.sub c)) else Option.none
    | _ => Option.none
  | _ => Option.none

noncomputable def excV (σ : PH) : PV → Bool
  | .ref a => match σ a with
    | some (.exc ..) => true
    | _ => false
  | _ => false
/-- one of the five plain kinds is asked for, or an exception is asked about -/
noncomputable def isiG (G : Gx) (σ : PH) (v : PV) (ts : List String) : Option Bool := if stat ts || excV σ v then isiV G σ v ts else Option.none
theorem isiG_s {G : Gx} {σ : PH} {v : PV} {ts : List String} (h : stat ts = true) : isiG G σ v ts = isiV G σ v ts := by simp [isiG, h]
theorem isiG_int {G : Gx} {σ : PH} {v : PV} : isiG G σ v ["int"] = isiV G σ v ["int"] := isiG_s (by decide)
theorem isiG_bool {G : Gx} {σ : PH} {v : PV} : isiG G σ v ["bool"] = isiV G σ v ["bool"] := isiG_s (by decide)
theorem isiG_list {G : Gx} {σ : PH} {v : PV} : isiG G σ v ["list"] = isiV G σ v ["list"] := isiG_s (by decide)
theorem isiG_tuple {G : Gx} {σ : PH} {v : PV} : isiG G σ v ["tuple"] = isiV G σ v ["tuple"] := isiG_s (by decide)

noncomputable def wmeth (o : PV) (args : List PV) (σ : PH) (Q : Post) : Prop :=
  match o, args with
  | .ref a, [v] => match σ a with
    | some (.list l) => l.length < lim ∧ Q .none (σ.set a (.list (l ++ [v])))
    | _ => False
  | _, _ => False
/-- the thing whose method is called stands before the arguments are reckoned -/
noncomputable def recv (σ : PH) (v : PV) : Prop :=
  match v with
  | .ref a => match σ a with
    | some (.list _) => True
    | _ => False
  | _ => False

/-- the turns of a comprehension: each item bound, tested, reckoned -/
noncomputable def compGo (chk : PH → Prop) (tg : Tg) (ρ : Rho) (tst : Rho → PH → (Bool → PH → Prop) → Prop) (el : Rho → PH → Post → Prop) : List PV → List PV → PH → (List PV → PH → Prop) → Prop
  | [], acc, σ, K => chk σ ∧ K acc σ
  | x :: xs, acc, σ, K => chk σ ∧ match bindC tg x ρ with
    | some ρ' => tst ρ' σ fun b σ1 => if b then el ρ' σ1 fun v σ2 => compGo chk tg ρ tst el xs (acc ++ [v]) σ2 K else compGo chk tg ρ tst el xs acc σ1 K
    | Option.none => False

mutual
noncomputable def we (G : Gx) (cl : Cl) : E → Rho → PH → Post → XPost → Prop
  | .none, _, σ, Q, _ => Q .none σ
  | .bool b, _, σ, Q, _ => Q (.bool b) σ
  | .int i, _, σ, Q, _ => Q (.int i) σ
  | .str s, _, σ, Q, _ => Q (.str s) σ
  | .loc x, ρ, σ, Q, _ => match ρ.get x with
    | some v => Q v σ
    | Option.none => False
  | .glob x, _, σ, Q, _ => match G.glob x with
    | some v => Q v σ
    | Option.none => False
  | .bin op a b, ρ, σ, Q, X => we G cl a ρ σ (fun va σ1 => we G cl b ρ σ1 (fun vb σ2 => wbin op va vb σ2 Q) X) X
  | .neg a, ρ, σ, Q, X => we G cl a ρ σ (fun v σ1 => match v with
    | .int i => Q (.int (-i)) σ1
    | _ => False) X
  | .not_ a, ρ, σ, Q, X => we G cl a ρ σ (fun v σ1 => match v with
    | .bool b => Q (.bool !b) σ1
    | _ => False) X
  | .and_ a b, ρ, σ, Q, X => we G cl a ρ σ (fun v σ1 => match v with
    | .bool true => we G cl b ρ σ1 Q X
    | .bool false => Q (.bool false) σ1
    | _ => False) X
  | .or_ a b, ρ, σ, Q, X => we G cl a ρ σ (fun v σ1 => match v with
    | .bool true => Q (.bool true) σ1
    | .bool false => we G cl b ρ σ1 Q X
    | _ => False) X
  | .isNone a, ρ, σ, Q, X => we G cl a ρ σ (fun v σ1 => match v with
    | .none => Q (.bool true) σ1
    | _ => Q (.bool false) σ1) X
  | .notNone a, ρ, σ, Q, X => we G cl a ρ σ (fun v σ1 => match v with
    | .none => Q (.bool false) σ1
    | _ => Q (.bool true) σ1) X
  | .cmp op a b, ρ, σ, Q, X => we G cl a ρ σ (fun va σ1 => we G cl b ρ σ1 (fun vb σ2 => wcmp op va vb σ2 fun r σ3 => Q (.bool r) σ3) X) X
  | .cmp2 a o1 b o2 c, ρ, σ, Q, X => we G cl a ρ σ (fun va σ1 => we G cl b ρ σ1 (fun vb σ2 => wcmp o1 va vb σ2 fun r σ3 =>
      if r then we G cl c ρ σ3 (fun vc σ4 => wcmp o2 vb vc σ4 fun r σ5 => Q (.bool r) σ5) X else Q (.bool false) σ3) X) X
  | .tup l, ρ, σ, Q, X => wes G cl l ρ σ (fun vs σ1 => Q (.tup vs) σ1) X
  | .list l, ρ, σ, Q, X => wes G cl l ρ σ (fun vs σ1 => wnew (.list vs) σ1 Q) X
  | .sub a i, ρ, σ, Q, X => we G cl a ρ σ (fun va σ1 => we G cl i ρ σ1 (fun vi σ2 => match psub σ2 va vi, plen σ2 va with
    | some v, some k => k ≤ lim ∧ Q v σ2
    | _, _ => False) X) X
  | .upto a hi, ρ, σ, Q, X => we G cl a ρ σ (fun va σ1 => we G cl hi ρ σ1 (fun vi σ2 => match va, vi with
    | .ref r, .int k => match σ2 r with
      | some (.list l) => Okl l ∧ wnew (.list (l.take (cut l.length k))) σ2 Q
      | _ => False
    | _, _ => False) X) X
  | .from_ a lo, ρ, σ, Q, X => we G cl a ρ σ (fun va σ1 => we G cl lo ρ σ1 (fun vi σ2 => match va, vi with
    | .ref r, .int k => match σ2 r with
      | some (.list l) => Okl l ∧ wnew (.list (l.drop (cut l.length k))) σ2 Q
      | _ => False
    | _, _ => False) X) X
  | .comp elt tg k it, ρ, σ, Q, X => G.calm = true ∧ wes G cl it ρ σ (fun vs σ1 => match src k vs σ1 with
    | some (xs, chk) => xs.length ≤ lim ∧ compGo chk tg ρ (fun _ σ K => K true σ) (fun ρ' σ K => we G cl elt ρ' σ K fun _ _ => False) xs [] σ1 fun acc σ2 => wnew (.list acc) σ2 Q
    | Option.none => False) X
  | .compIf elt tg k it cond, ρ, σ, Q, X => G.calm = true ∧ wes G cl it ρ σ (fun vs σ1 => match src k vs σ1 with
    | some (xs, chk) => xs.length ≤ lim ∧ compGo chk tg ρ (fun ρ' σ K => we G cl cond ρ' σ (fun v σ' => match v with
        | .bool b => K b σ'
        | _ => False) fun _ _ => False) (fun ρ' σ K => we G cl elt ρ' σ K fun _ _ => False) xs [] σ1 fun acc σ2 => wnew (.list acc) σ2 Q
    | Option.none => False) X
  | .call f args, ρ, σ, Q, X => G.fn f = true ∧ wes G cl args ρ σ (fun vs σ1 => cl f vs σ1 Q X) X
  | .bi b args, ρ, σ, Q, X => (b.quiet = true ∨ G.calm = true) ∧ wes G cl args ρ σ (fun vs σ1 => wbi b vs σ1 Q) X
  | .isi a ts, ρ, σ, Q, X => ((ts.length = 1 ∧ ∀ t ∈ ts, t ∈ ["int", "bool", "list", "tuple", "dict"]) ∨ G.full = true) ∧ we G cl a ρ σ (fun v σ1 => match isiG G σ1 v ts with
    | some b => Q (.bool b) σ1
    | Option.none => False) X
  | .meth o m args, ρ, σ, Q, X => we G cl o ρ σ (fun vo σ1 => recv σ1 vo ∧ wes G cl args ρ σ1 (fun vs σ2 => wmeth vo vs σ2 Q) X) X
noncomputable def wes (G : Gx) (cl : Cl) : List E → Rho → PH → (List PV → PH → Prop) → XPost → Prop
  | [], _, σ, Q, _ => Q [] σ
  | e :: es, ρ, σ, Q, X => we G cl e ρ σ (fun v σ1 => wes G cl es ρ σ1 (fun vs σ2 => Q (v :: vs) σ2) X) X
end

abbrev SPost := Fl → Rho → PH → Prop
abbrev SXPost := PX → Rho → PH → Prop

noncomputable def forGo (chk : PH → Prop) (tg : Tg) (body : Rho → PH → SPost → Prop) (Q : SPost) : List PV → Rho → PH → Prop
  | [], ρ, σ => chk σ ∧ Q .next ρ σ
  | x :: xs, ρ, σ => chk σ ∧ match bindT tg x ρ with
    | some ρ' => body ρ' σ fun fl ρ2 σ2 => match fl with
      | .next => forGo chk tg body Q xs ρ2 σ2
      | .ret v => Q (.ret v) ρ2 σ2
    | Option.none => False

/-- what is caught stands from now on as an object -/
noncomputable def wcatch (e : PX) (σ : PH) (Q : Post) : Prop :=
  ∀ a, σ a = Option.none → Q (.ref a) (σ.set a (.exc e.c))

mutual
noncomputable def ws (G : Gx) (cl cu : Cl) : S → Rho → PH → SPost → SXPost → Prop
  | .assign (.name x) e, ρ, σ, Q, X => we G cl e ρ σ (fun v σ1 => Q .next (ρ.put x v) σ1) fun x σ1 => X x ρ σ1
  | .assign (.tup xs) e, ρ, σ, Q, X => G.calm = true ∧ we G cl e ρ σ (fun v σ1 => match bindT (.tup xs) v ρ with
    | some ρ' => Q .next ρ' σ1
    | Option.none => False) fun x σ1 => X x ρ σ1
  | .setIdx o i e, ρ, σ, Q, X => we G cl e ρ σ (fun v σ1 => we G cl o ρ σ1 (fun vo σ2 => we G cl i ρ σ2 (fun vi σ3 => match vo with
    | .ref a => match σ3 a, vi with
      | some (.list l), .int k => match place l.length k with
        | some j => l.length ≤ lim ∧ Q .next ρ (σ3.set a (.list (l.set j v)))
        | Option.none => False
      | _, _ => False
    | _ => False) fun x σ1 => X x ρ σ1) fun x σ1 => X x ρ σ1) fun x σ1 => X x ρ σ1
  | .expr e, ρ, σ, Q, X => we G cl e ρ σ (fun _ σ1 => Q .next ρ σ1) fun x σ1 => X x ρ σ1
  | .ret e, ρ, σ, Q, X => we G cl e ρ σ (fun v σ1 => Q (.ret v) ρ σ1) fun x σ1 => X x ρ σ1
  | .if_ t b o, ρ, σ, Q, X => we G cl t ρ σ (fun v σ1 => match v with
    | .bool true => wss G cl cu b ρ σ1 Q X
    | .bool false => wss G cl cu o ρ σ1 Q X
    | _ => False) fun x σ1 => X x ρ σ1
  | .for_ tg k it b, ρ, σ, Q, X => G.calm = true ∧ wes G cl it ρ σ (fun vs σ1 => match src k vs σ1 with
    | some (xs, chk) => xs.length ≤ lim ∧ forGo chk tg (fun ρ σ K => wss G cl cu b ρ σ K fun _ _ _ => False) Q xs ρ σ1
    | Option.none => False) fun x σ1 => X x ρ σ1
  | .raise c args, ρ, σ, _, X => (G.full = true ∧ G.calm = true ∧ G.mks.contains c = true) ∧ wes G cl args ρ σ (fun vs σ1 => X ⟨c⟩ ρ σ1) fun x σ1 => X x ρ σ1
  | .try1 b c x h, ρ, σ, Q, _ => (G.full = true ∧ G.calm = true ∧ G.cs.contains c = true) ∧ wss G cl cu b ρ σ Q fun e ρ1 σ1 =>
      if G.sub e.c c then wcatch e σ1 fun v σ2 => wss G.un cu cu h (ρ1.bindX x v) σ2 (fun fl ρ2 σ2 => Q fl (ρ2.unX x) σ2) fun _ _ _ => False
      else False
noncomputable def wss (G : Gx) (cl cu : Cl) : List S → Rho → PH → SPost → SXPost → Prop
  | [], ρ, σ, Q, _ => Q .next ρ σ
  | s :: r, ρ, σ, Q, X => ws G cl cu s ρ σ (fun fl ρ1 σ1 => match fl with
    | .next => wss G cl cu r ρ1 σ1 Q X
    | .ret v => Q (.ret v) ρ1 σ1) X
end


/-! each word by itself -/
section
variable {G : Gx} {cl cu : Cl} {ρ : Rho} {σ : PH}
section
variable {Q : Post} {X : XPost}
theorem we_none  : we G cl (.none) ρ σ Q X = (Q .none σ) := rfl
theorem we_bool (b) : we G cl (.bool b) ρ σ Q X = (Q (.bool b) σ) := rfl
theorem we_int (i) : we G cl (.int i) ρ σ Q X = (Q (.int i) σ) := rfl
theorem we_str (s) : we G cl (.str s) ρ σ Q X = (Q (.str s) σ) := rfl
theorem we_loc (x) : we G cl (.loc x) ρ σ Q X = (match ρ.get x with
    | some v => Q v σ
    | Option.none => False) := rfl
theorem we_glob (x) : we G cl (.glob x) ρ σ Q X = (match G.glob x with
    | some v => Q v σ
    | Option.none => False) := rfl
theorem we_bin (op a b) : we G cl (.bin op a b) ρ σ Q X = (we G cl a ρ σ (fun va σ1 => we G cl b ρ σ1 (fun vb σ2 => wbin op va vb σ2 Q) X) X) := rfl
theorem we_neg (a) : we G cl (.neg a) ρ σ Q X = (we G cl a ρ σ (fun v σ1 => match v with
    | .int i => Q (.int (-i)) σ1
    | _ => False) X) := rfl
theorem we_not (a) : we G cl (.not_ a) ρ σ Q X = (we G cl a ρ σ (fun v σ1 => match v with
    | .bool b => Q (.bool !b) σ1
    | _ => False) X) := rfl
theorem we_and (a b) : we G cl (.and_ a b) ρ σ Q X = (we G cl a ρ σ (fun v σ1 => match v with
    | .bool true => we G cl b ρ σ1 Q X
    | .bool false => Q (.bool false) σ1
    | _ => False) X) := rfl
theorem we_or (a b) : we G cl (.or_ a b) ρ σ Q X = (we G cl a ρ σ (fun v σ1 => match v with
    | .bool true => Q (.bool true) σ1
    | .bool false => we G cl b ρ σ1 Q X
    | _ => False) X) := rfl
theorem we_isNone (a) : we G cl (.isNone a) ρ σ Q X = (we G cl a ρ σ (fun v σ1 => match v with
    | .none => Q (.bool true) σ1
    | _ => Q (.bool false) σ1) X) := rfl
theorem we_notNone (a) : we G cl (.notNone a) ρ σ Q X = (we G cl a ρ σ (fun v σ1 => match v with
    | .none => Q (.bool false) σ1
    | _ => Q (.bool true) σ1) X) := rfl
theorem we_cmp (op a b) : we G cl (.cmp op a b) ρ σ Q X = (we G cl a ρ σ (fun va σ1 => we G cl b ρ σ1 (fun vb σ2 => wcmp op va vb σ2 fun r σ3 => Q (.bool r) σ3) X) X) := rfl
theorem we_cmp2 (a o1 b o2 c) : we G cl (.cmp2 a o1 b o2 c) ρ σ Q X = (we G cl a ρ σ (fun va σ1 => we G cl b ρ σ1 (fun vb σ2 => wcmp o1 va vb σ2 fun r σ3 =>
      if r then we G cl c ρ σ3 (fun vc σ4 => wcmp o2 vb vc σ4 fun r σ5 => Q (.bool r) σ5) X else Q (.bool false) σ3) X) X) := rfl
theorem we_tup (l) : we G cl (.tup l) ρ σ Q X = (wes G cl l ρ σ (fun vs σ1 => Q (.tup vs) σ1) X) := rfl
theorem we_list (l) : we G cl (.list l) ρ σ Q X = (wes G cl l ρ σ (fun vs σ1 => wnew (.list vs) σ1 Q) X) := rfl
theorem we_sub (a i) : we G cl (.sub a i) ρ σ Q X = (we G cl a ρ σ (fun va σ1 => we G cl i ρ σ1 (fun vi σ2 => match psub σ2 va vi, plen σ2 va with
    | some v, some k => k ≤ lim ∧ Q v σ2
    | _, _ => False) X) X) := rfl
theorem we_upto (a hi) : we G cl (.upto a hi) ρ σ Q X = (we G cl a ρ σ (fun va σ1 => we G cl hi ρ σ1 (fun vi σ2 => match va, vi with
    | .ref r, .int k => match σ2 r with
      | some (.list l) => Okl l ∧ wnew (.list (l.take (cut l.length k))) σ2 Q
      | _ => False
    | _, _ => False) X) X) := rfl
theorem we_from (a lo) : we G cl (.from_ a lo) ρ σ Q X = (we G cl a ρ σ (fun va σ1 => we G cl lo ρ σ1 (fun vi σ2 => match va, vi with
    | .ref r, .int k => match σ2 r with
      | some (.list l) => Okl l ∧ wnew (.list (l.drop (cut l.length k))) σ2 Q
      | _ => False
    | _, _ => False) X) X) := rfl
theorem we_comp (elt tg k it) : we G cl (.comp elt tg k it) ρ σ Q X = (G.calm = true ∧ wes G cl it ρ σ (fun vs σ1 => match src k vs σ1 with
    | some (xs, chk) => xs.length ≤ lim ∧ compGo chk tg ρ (fun _ σ K => K true σ) (fun ρ' σ K => we G cl elt ρ' σ K fun _ _ => False) xs [] σ1 fun acc σ2 => wnew (.list acc) σ2 Q
    | Option.none => False) X) := rfl
theorem we_compIf (elt tg k it cond) : we G cl (.compIf elt tg k it cond) ρ σ Q X = (G.calm = true ∧ wes G cl it ρ σ (fun vs σ1 => match src k vs σ1 with
    | some (xs, chk) => xs.length ≤ lim ∧ compGo chk tg ρ (fun ρ' σ K => we G cl cond ρ' σ (fun v σ' => match v with
        | .bool b => K b σ'
        | _ => False) fun _ _ => False) (fun ρ' σ K => we G cl elt ρ' σ K fun _ _ => False) xs [] σ1 fun acc σ2 => wnew (.list acc) σ2 Q
    | Option.none => False) X) := rfl
theorem we_call (f args) : we G cl (.call f args) ρ σ Q X = (G.fn f = true ∧ wes G cl args ρ σ (fun vs σ1 => cl f vs σ1 Q X) X) := rfl
theorem we_bi (b args) : we G cl (.bi b args) ρ σ Q X = ((b.quiet = true ∨ G.calm = true) ∧ wes G cl args ρ σ (fun vs σ1 => wbi b vs σ1 Q) X) := rfl
theorem we_isi (a ts) : we G cl (.isi a ts) ρ σ Q X = (((ts.length = 1 ∧ ∀ t ∈ ts, t ∈ ["int", "bool", "list", "tuple", "dict"]) ∨ G.full = true) ∧ we G cl a ρ σ (fun v σ1 => match isiG G σ1 v ts with
    | some b => Q (.bool b) σ1
    | Option.none => False) X) := rfl
theorem we_meth (o m args) : we G cl (.meth o m args) ρ σ Q X = (we G cl o ρ σ (fun vo σ1 => recv σ1 vo ∧ wes G cl args ρ σ1 (fun vs σ2 => wmeth vo vs σ2 Q) X) X) := rfl
end
section
variable {Q : List PV → PH → Prop} {X : XPost}
theorem wes_nil  : wes G cl [] ρ σ Q X = (Q [] σ) := rfl
theorem wes_cons (e es) : wes G cl (e :: es) ρ σ Q X = (we G cl e ρ σ (fun v σ1 => wes G cl es ρ σ1 (fun vs σ2 => Q (v :: vs) σ2) X) X) := rfl
end
section
variable {Q : SPost} {X : SXPost}
theorem ws_assign_name (x e) : ws G cl cu (.assign (.name x) e) ρ σ Q X = (we G cl e ρ σ (fun v σ1 => Q .next (ρ.put x v) σ1) fun x σ1 => X x ρ σ1) := rfl
theorem ws_assign_tup (xs e) : ws G cl cu (.assign (.tup xs) e) ρ σ Q X = (G.calm = true ∧ we G cl e ρ σ (fun v σ1 => match bindT (.tup xs) v ρ with
    | some ρ' => Q .next ρ' σ1
    | Option.none => False) fun x σ1 => X x ρ σ1) := rfl
theorem ws_setIdx (o i e) : ws G cl cu (.setIdx o i e) ρ σ Q X = (we G cl e ρ σ (fun v σ1 => we G cl o ρ σ1 (fun vo σ2 => we G cl i ρ σ2 (fun vi σ3 => match vo with
    | .ref a => match σ3 a, vi with
      | some (.list l), .int k => match place l.length k with
        | some j => l.length ≤ lim ∧ Q .next ρ (σ3.set a (.list (l.set j v)))
        | Option.none => False
      | _, _ => False
    | _ => False) fun x σ1 => X x ρ σ1) fun x σ1 => X x ρ σ1) fun x σ1 => X x ρ σ1) := rfl
theorem ws_expr (e) : ws G cl cu (.expr e) ρ σ Q X = (we G cl e ρ σ (fun _ σ1 => Q .next ρ σ1) fun x σ1 => X x ρ σ1) := rfl
theorem ws_ret (e) : ws G cl cu (.ret e) ρ σ Q X = (we G cl e ρ σ (fun v σ1 => Q (.ret v) ρ σ1) fun x σ1 => X x ρ σ1) := rfl
theorem ws_if (t b o) : ws G cl cu (.if_ t b o) ρ σ Q X = (we G cl t ρ σ (fun v σ1 => match v with
    | .bool true => wss G cl cu b ρ σ1 Q X
    | .bool false => wss G cl cu o ρ σ1 Q X
    | _ => False) fun x σ1 => X x ρ σ1) := rfl
theorem ws_for (tg k it b) : ws G cl cu (.for_ tg k it b) ρ σ Q X = (G.calm = true ∧ wes G cl it ρ σ (fun vs σ1 => match src k vs σ1 with
    | some (xs, chk) => xs.length ≤ lim ∧ forGo chk tg (fun ρ σ K => wss G cl cu b ρ σ K fun _ _ _ => False) Q xs ρ σ1
    | Option.none => False) fun x σ1 => X x ρ σ1) := rfl
theorem ws_raise (c args) : ws G cl cu (.raise c args) ρ σ Q X = ((G.full = true ∧ G.calm = true ∧ G.mks.contains c = true) ∧ wes G cl args ρ σ (fun vs σ1 => X ⟨c⟩ ρ σ1) fun x σ1 => X x ρ σ1) := rfl
theorem ws_try1 (b c x h) : ws G cl cu (.try1 b c x h) ρ σ Q X = ((G.full = true ∧ G.calm = true ∧ G.cs.contains c = true) ∧ wss G cl cu b ρ σ Q fun e ρ1 σ1 =>
      if G.sub e.c c then wcatch e σ1 fun v σ2 => wss G.un cu cu h (ρ1.bindX x v) σ2 (fun fl ρ2 σ2 => Q fl (ρ2.unX x) σ2) fun _ _ _ => False
      else False) := rfl
theorem wss_nil  : wss G cl cu [] ρ σ Q X = (Q .next ρ σ) := rfl
theorem wss_cons (s r) : wss G cl cu (s :: r) ρ σ Q X = (ws G cl cu s ρ σ (fun fl ρ1 σ1 => match fl with
    | .next => wss G cl cu r ρ1 σ1 Q X
    | .ret v => Q (.ret v) ρ1 σ1) X) := rfl
end
end

end Vl
end

section
open PySem
set_option linter.unusedVariables false
set_option linter.unusedSimpArgs false
namespace Vl

structure Cx where
  prog : Program
  w : World
  B : Heap
  /-- the classes' own places -/
  cls : String → Option Addr
  /-- functions, classes and methods by their names -/
  fv : String → Option Value
  /-- what is dealt with -/
  ok : Prop
  /-- outside of any handler -/
  calm : Prop
  /-- what is known of the heap to the sign -/
  K : List (Addr × Obj)
/-- the same inside of a handler -/
noncomputable def Cx.un (C : Cx) : Cx := { C with calm := False }


abbrev tupO (vs : Array Value) (n : Nat) : Obj := { cls := .type "tuple", dict := Option.none, data := .seq vs n, slots := #[] }
abbrev lstO (vs : Array Value) (n : Nat) : Obj := { cls := .type "list", dict := Option.none, data := .seq vs n, slots := #[] }

mutual
noncomputable def VR (C : Cx) (σ : PH) (h : Heap) : PV → Value → Prop
  | .none, v => v = .none
  | .bool b, v => v = .bool b
  | .int i, v => ∃ t, v = .int i t
  | .str s, v => ∃ t, v = .str (Str.ofString s) t
  | .tup l, v => ∃ a n vs, v = .ref a ∧ σ a = Option.none ∧ h.get? a = some (tupO vs n) ∧ VRs C σ h l vs.toList
  | .ref a, v => v = .ref a
  | .scr l, v => ∃ a o n vs, v = .ref a ∧ C.B.get? a = some o ∧ o.cls = .type "list" ∧ o.data = .seq vs n ∧ vs.size = l.length ∧ ∀ (i : Nat) (k : Int), l[i]? = some k → ∃ t, vs[i]? = some (Value.int k t)
noncomputable def VRs (C : Cx) (σ : PH) (h : Heap) : List PV → List Value → Prop
  | [], vs => vs = []
  | p :: ps, vs => ∃ v r, vs = v :: r ∧ VR C σ h p v ∧ VRs C σ h ps r
end

noncomputable def OR (C : Cx) (σ : PH) (h : Heap) : PO → Obj → Prop
  | .list l, o => ∃ vs n, o = lstO vs n ∧ VRs C σ h l vs.toList
  | .exc c, o => ∃ k vs, C.cls c = some k ∧ o.cls = .ref k ∧ o.data = .fields vs ∧ vs[2]? = some .none ∧ o.dict = Option.none
  | .hid, o => ∃ a b, o = tupO #[a, b] 0

noncomputable def PO.needs (ok : Prop) : PO → Prop
  | .exc .. => ok
  | _ => True

structure Sim (C : Cx) (σ : PH) (h : Heap) : Prop where
  base : ∀ b o, C.B.get? b = some o → h.get? b = some o
  new : ∀ a o, σ a = some o → C.B.get? a = Option.none
  objs : ∀ a o, σ a = some o → ∃ ob, h.get? a = some ob ∧ OR C σ h o ob
  rich : ∀ a o, σ a = some o → o.needs C.ok

noncomputable def Like (o o' : Obj) : Prop := o'.cls = o.cls ∧ o'.dict = o.dict ∧ o'.data = o.data ∧ ((∀ es n, o.data ≠ .dict es n) → o'.slots = o.slots)
theorem Like.eq {o o' : Obj} (x : Like o o') (h : ∀ es n, o.data ≠ .dict es n) : o' = o := by
  obtain ⟨c, d, dt, sl⟩ := o; obtain ⟨c', d', dt', sl'⟩ := o'; obtain ⟨h1, h2, h3, h4⟩ := x; simp only at h1 h2 h3 h4; subst h1 h2 h3; rw [h4 h]
noncomputable def isSeq (o : Obj) : Prop := ∃ xs n, o.data = .seq xs n

structure Step (S : Addr → Prop) (σ : PH) (h : Heap) (σ' : PH) (h' : Heap) : Prop where
  keep : ∀ b o, h.get? b = some o → σ b = Option.none → σ' b = Option.none ∧ ∃ o', h'.get? b = some o' ∧ ((S b → isSeq o) → Like o o')
  grow : ∀ b o, σ b = some o → ∃ o', σ' b = some o'
  hid : ∀ b, σ b = some .hid → σ' b = some .hid
  live : ∀ b, h'.get? b = Option.none → h.get? b = Option.none

theorem Like.refl (o : Obj) : Like o o := ⟨rfl, rfl, rfl, fun _ => rfl⟩
theorem Like.trans {a b c : Obj} (x : Like a b) (y : Like b c) : Like a c := ⟨y.1.trans x.1, y.2.1.trans x.2.1, y.2.2.1.trans x.2.2.1, fun h => (y.2.2.2 (fun es n e => h es n (x.2.2.1.symm.trans e))).trans (x.2.2.2 h)⟩
theorem Like.isSeq {a b : Obj} (x : Like a b) (y : isSeq a) : isSeq b := let ⟨xs, n, e⟩ := y; ⟨xs, n, x.2.2.1.trans e⟩

theorem Step.refl (S : Addr → Prop) (σ : PH) (h : Heap) : Step S σ h σ h := ⟨fun _ o e s => ⟨s, o, e, fun _ => .refl o⟩, fun _ o e => ⟨o, e⟩, fun _ e => e, fun _ e => e⟩
theorem Step.trans {S : Addr → Prop} {σ₁ σ₂ σ₃ : PH} {h₁ h₂ h₃ : Heap} (x : Step S σ₁ h₁ σ₂ h₂) (y : Step S σ₂ h₂ σ₃ h₃) : Step S σ₁ h₁ σ₃ h₃ where
  keep := fun b o e s => by
    obtain ⟨s', o', e', l⟩ := x.keep b o e s
    obtain ⟨s'', o'', e'', l'⟩ := y.keep b o' e' s'
    exact ⟨s'', o'', e'', fun q => (l q).trans (l' fun sb => (l q).isSeq (q sb))⟩
  grow := fun b o e => let ⟨o', e'⟩ := x.grow b o e; y.grow b o' e'
  hid := fun b e => y.hid b (x.hid b e)
  live := fun b e => x.live b (y.live b e)
theorem Step.mono {S S' : Addr → Prop} {σ σ' : PH} {h h' : Heap} (x : Step S σ h σ' h') (k : ∀ b, (h.get? b).isSome → S b → S' b) : Step S' σ h σ' h' where
  keep := fun b o e s => let ⟨s', o', e', l⟩ := x.keep b o e s; ⟨s', o', e', fun q => l fun sb => q (k b (by simp [e]) sb)⟩
  grow := x.grow
  hid := x.hid
  live := x.live

mutual
theorem VR.step {C : Cx} {S : Addr → Prop} {σ σ' : PH} {h h' : Heap} (st : Step S σ h σ' h') : ∀ (p : PV) (v : Value), VR C σ h p v → VR C σ' h' p v
  | .none, _, e => by simpa only [VR] using e
  | .bool _, _, e => by simpa only [VR] using e
  | .int _, _, e => by simpa only [VR] using e
  | .str _, _, e => by simpa only [VR] using e
  | .ref _, _, e => by simpa only [VR] using e
  | .scr _, _, e => by simpa only [VR] using e
  | .tup l, v, e => by
    simp only [VR] at e ⊢
    obtain ⟨a, n, vs, e1, es, e2, e5⟩ := e
    obtain ⟨es', o', eo, lk⟩ := st.keep a _ e2 es
    rw [(lk fun _ => ⟨vs, n, rfl⟩).eq (by simp)] at eo
    exact ⟨a, n, vs, e1, es', eo, VRs.step st l _ e5⟩
theorem VRs.step {C : Cx} {S : Addr → Prop} {σ σ' : PH} {h h' : Heap} (st : Step S σ h σ' h') : ∀ (l : List PV) (vs : List Value), VRs C σ h l vs → VRs C σ' h' l vs
  | [], _, e => by simpa only [VRs] using e
  | p :: ps, vs, e => by
    simp only [VRs] at e ⊢
    obtain ⟨v, r, e1, e2, e3⟩ := e
    exact ⟨v, r, e1, VR.step st p v e2, VRs.step st ps r e3⟩
end
theorem OR.step {C : Cx} {S : Addr → Prop} {σ σ' : PH} {h h' : Heap} (st : Step S σ h σ' h') : ∀ (p : PO) (o : Obj), OR C σ h p o → OR C σ' h' p o
  | .list l, o, ⟨vs, n, e2, e3⟩ => ⟨vs, n, e2, VRs.step st _ _ e3⟩
  | .exc _, _, e => e
  | .hid, _, e => e

end Vl
end

section
open PySem
set_option linter.unusedVariables false
set_option linter.unusedSimpArgs false
namespace Vl

noncomputable def Rest (s s' : Shared) : Prop := s'.gens = s.gens ∧ s'.os = s.os
theorem Rest.refl (s : Shared) : Rest s s := ⟨rfl, rfl⟩
theorem Rest.trans {a b c : Shared} (x : Rest a b) (y : Rest b c) : Rest a c := ⟨y.1.trans x.1, y.2.trans x.2⟩

noncomputable def none1 : Addr → Prop := fun _ => False

/-- an exception under way, out of a callee -/
noncomputable def Fly (C : Cx) (x : PX) (e : Value) (σ : PH) (h₀ h : Heap) : Prop :=
  ∃ a o vs k, e = .ref a ∧ C.B.get? a = Option.none ∧ σ a = Option.none ∧ h₀.get? a = Option.none ∧ h.get? a = some o ∧ C.cls x.c = some k ∧ o.cls = .ref k ∧ o.data = .fields vs ∧ vs[2]? = some .none ∧
    (vs[1]? = some .none ∨ ∃ T oT ts, vs[1]? = some (.ref T) ∧ T ≠ a ∧ C.B.get? T = Option.none ∧ σ T = Option.none ∧ h₀.get? T = Option.none ∧ h.get? T = some oT ∧ oT.data = .fields ts ∧ ts[3]? = some .none) ∧ o.dict = Option.none
theorem Fly.from {C : Cx} {S : Addr → Prop} {x : PX} {e : Value} {σ σ₀ σ₁ : PH} {h₀ h₁ h : Heap} (f : Fly C x e σ h₁ h) (st : Step S σ₀ h₀ σ₁ h₁) : Fly C x e σ h₀ h := by
  obtain ⟨a, o, vs, k, q1, q2, q3, q4, q5, q6, q7, q8, q9, q10, q11⟩ := f
  refine ⟨a, o, vs, k, q1, q2, q3, st.live _ q4, q5, q6, q7, q8, q9, q10.imp id ?_, q11⟩
  rintro ⟨T, oT, ts, w1, w2, w3, w4, w5, w6⟩
  exact ⟨T, oT, ts, w1, w2, w3, w4, st.live _ w5, w6⟩

/-- the end of an expression that started at s, σ -/
noncomputable def VP (C : Cx) (S : Addr → Prop) (σ : PH) (s : Shared) (Q : Post) (v : Value) (s' : Shared) : Prop :=
  ∃ p σ', VR C σ' s'.heap p v ∧ Sim C σ' s'.heap ∧ Step S σ s.heap σ' s'.heap ∧ Rest s s' ∧ Q p σ'
noncomputable def VPs (C : Cx) (S : Addr → Prop) (σ : PH) (s : Shared) (Q : List PV → PH → Prop) (v : List Value) (s' : Shared) : Prop :=
  ∃ p σ', VRs C σ' s'.heap p v ∧ Sim C σ' s'.heap ∧ Step S σ s.heap σ' s'.heap ∧ Rest s s' ∧ Q p σ'
noncomputable def XP (C : Cx) (S : Addr → Prop) (σ : PH) (s : Shared) (X : XPost) (e : Value) (s' : Shared) : Prop :=
  ∃ x σ', Fly C x e σ' s.heap s'.heap ∧ Sim C σ' s'.heap ∧ Step S σ s.heap σ' s'.heap ∧ Rest s s' ∧ X x σ'

theorem VP.from {C : Cx} {S : Addr → Prop} {σ σ₁ : PH} {s s₁ : Shared} {Q : Post} {v : Value} {s' : Shared} (st : Step S σ s.heap σ₁ s₁.heap) (r : Rest s s₁) (x : VP C S σ₁ s₁ Q v s') : VP C S σ s Q v s' :=
  let ⟨p, σ', a, b, c, d, e⟩ := x; ⟨p, σ', a, b, st.trans c, r.trans d, e⟩
theorem VPs.from {C : Cx} {S : Addr → Prop} {σ σ₁ : PH} {s s₁ : Shared} {Q : List PV → PH → Prop} {v : List Value} {s' : Shared} (st : Step S σ s.heap σ₁ s₁.heap) (r : Rest s s₁) (x : VPs C S σ₁ s₁ Q v s') : VPs C S σ s Q v s' :=
  let ⟨p, σ', a, b, c, d, e⟩ := x; ⟨p, σ', a, b, st.trans c, r.trans d, e⟩
theorem XP.from {C : Cx} {S : Addr → Prop} {σ σ₁ : PH} {s s₁ : Shared} {X : XPost} {v : Value} {s' : Shared} (st : Step S σ s.heap σ₁ s₁.heap) (r : Rest s s₁) (x : XP C S σ₁ s₁ X v s') : XP C S σ s X v s' :=
  let ⟨p, σ', a, b, c, d, e⟩ := x; ⟨p, σ', a.from st, b, st.trans c, r.trans d, e⟩

/-- the frames around, outermost last -/
noncomputable def Frs (C : Cx) (σ : PH) (h : Heap) (l : List Env) : Prop :=
  ∀ env ∈ l, env.scope.kind ≠ .module ∧ ∃ L o es n, env.frame = some L ∧ C.B.get? L = Option.none ∧ σ L = Option.none ∧ h.get? L = some o ∧ o.data = .dict es n

theorem Frs.step {C : Cx} {S : Addr → Prop} {σ σ' : PH} {h h' : Heap} {l : List Env} (f : Frs C σ h l) (st : Step S σ h σ' h') (hs : ∀ env ∈ l, ∀ L, env.frame = some L → ¬ S L) : Frs C σ' h' l := fun env he => by
  obtain ⟨k, L, o, es, n, e1, e2, e3, e4, e5⟩ := f env he
  obtain ⟨q, o', e6, lk⟩ := st.keep L o e4 e3
  have lk := lk fun sb => absurd sb (hs env he L e1)
  exact ⟨k, L, o', es, n, e1, e2, q, e6, lk.2.2.1.trans e5⟩

theorem Frs.fun {C : Cx} {σ : PH} {h : Heap} : ∀ {l : List Env}, Frs C σ h l → h.FunFrames C.B l
  | [], _ => trivial
  | env :: r, f => by
    obtain ⟨k, L, o, es, n, e1, e2, e3, e4, e5⟩ := f env (.head _)
    exact ⟨k, ⟨L, o, e1, e2, e4, fun vs q => by rw [e5] at q; cases q⟩, Frs.fun fun e he => f e (.tail _ he)⟩

/-- what is around an activation -/
structure AOK (C : Cx) (n : Nat) (A : Around) (l : List Env) (σ : PH) (h : Heap) : Prop where
  depth : A.depth + n < recursionLimit
  units : A.units + 30 * n + 300 < cLine
  stack : A.frames = some l
  frs : Frs C σ h l
  calm : C.calm → A.handled = Option.none

structure EnvR (C : Cx) (env : Env) (ρ : Rho) (σ : PH) (h : Heap) : Prop where
  fn : env.scope.kind = .function
  glob : env.globals = mainGlobals
  blt : env.builtins = builtinsNs
  ns : ∃ m, h.Ns env.locals m ∧ ∀ x p, ρ.get x = some p → env.kindOf (Str.ofString x) = some .local → ∃ v, m (Str.ofString x) = some v ∧ VR C σ h p v
  cell : ∀ x p, ρ.get x = some p → env.kindOf (Str.ofString x) = some .cell ∨ env.kindOf (Str.ofString x) = some .free → ∃ c v, env.cells.lookup (Str.ofString x) = some c ∧ h.IsCell c (some v) ∧ VR C σ h p v
  newL : σ env.locals = Option.none
  baseL : C.B.get? env.locals = Option.none
  baseC : ∀ x c, env.cells.lookup x = some c → C.B.get? c = Option.none
  newC : ∀ x c, env.cells.lookup x = some c → σ c = Option.none ∧ ∃ v, h.IsCell c v
  apart : ∀ x y c, env.cells.lookup x = some c → env.cells.lookup y = some c → x = y
  hasC : ∀ x, env.kindOf x = some .cell ∨ env.kindOf x = some .free → ∃ c, env.cells.lookup x = some c

theorem Ns.like {h h' : Heap} {a : Addr} {m : Str → Option Value} (x : h.Ns a m) (k : ∀ o, h.get? a = some o → ∃ o', h'.get? a = some o' ∧ Like o o') : h'.Ns a m :=
  let ⟨o, es, ep, e, r⟩ := x; let ⟨o', e', lk⟩ := k o e; ⟨o', es, ep, e', lk.2.2.1.trans r.1, r.2⟩
theorem IsCell.like {h h' : Heap} {a : Addr} {v : Option Value} (x : h.IsCell a v) (k : ∀ o, h.get? a = some o → ∃ o', h'.get? a = some o' ∧ Like o o') : h'.IsCell a v :=
  let ⟨o, e, r⟩ := x; let ⟨o', e', lk⟩ := k o e; ⟨o', e', lk.2.2.1.trans r⟩

theorem EnvR.step {C : Cx} {env : Env} {ρ : Rho} {σ σ' : PH} {h h' : Heap} (x : EnvR C env ρ σ h) (st : Step none1 σ h σ' h') : EnvR C env ρ σ' h' where
  fn := x.fn
  glob := x.glob
  blt := x.blt
  ns := by
    obtain ⟨mm, hn, hv⟩ := x.ns
    refine ⟨mm, Ns.like hn fun o e => ?_, fun y p e1 e2 => let ⟨v, a, b⟩ := hv y p e1 e2; ⟨v, a, b.step st⟩⟩
    obtain ⟨_, o', e', lk⟩ := st.keep _ o e x.newL
    exact ⟨o', e', lk fun f => f.elim⟩
  cell := fun y p e1 e2 => by
    obtain ⟨c, v, a, b, d⟩ := x.cell y p e1 e2
    refine ⟨c, v, a, IsCell.like b fun o e => ?_, d.step st⟩
    obtain ⟨_, o', e', lk⟩ := st.keep _ o e (x.newC _ c a).1
    exact ⟨o', e', lk fun f => f.elim⟩
  newL := by
    obtain ⟨mm, ⟨o, es, ep, e, _⟩, _⟩ := x.ns
    exact (st.keep _ o e x.newL).1
  newC := fun y c e => by
    obtain ⟨a, v, o, b, d⟩ := x.newC y c e
    obtain ⟨q, o', e', lk⟩ := st.keep _ o b a
    exact ⟨q, v, o', e', (lk fun f => f.elim).2.2.1.trans d⟩
  baseL := x.baseL
  baseC := x.baseC
  apart := x.apart
  hasC := x.hasC

theorem AOK.step {C : Cx} {n : Nat} {A : Around} {l : List Env} {σ σ' : PH} {h h' : Heap} (x : AOK C n A l σ h) (st : Step none1 σ h σ' h') : AOK C n A l σ' h' :=
  ⟨x.depth, x.units, x.stack, x.frs.step st fun _ _ _ _ f => f, x.calm⟩

end Vl
end

section
open PySem
set_option linter.unusedVariables false
set_option linter.unusedSimpArgs false
namespace Vl

/-! The text as it is given matches the text without places. -/

noncomputable def nm (y : Str) (x : String) : Bool := y == Str.ofString x
noncomputable def isLoc (sc : Scope) (y : Str) : Bool := sc.names.lookup y == some .local || sc.names.lookup y == some .cell || sc.names.lookup y == some .free
noncomputable def isOwn (sc : Scope) (y : Str) : Bool := sc.names.lookup y == some .local || sc.names.lookup y == some .cell
noncomputable def isGlob (sc : Scope) (y : Str) : Bool := sc.names.lookup y == some .globalImplicit
noncomputable def notDebug (y : Str) : Bool := !(y == ("__debug__" : Str)) && !(y == ("__classdict__" : Str))

noncomputable def BOp.py : BOp → Operator
  | .add => .Add | .sub => .Sub | .mul => .Mult | .fdiv => .FloorDiv | .mod => .Mod | .pow => .Pow
noncomputable def COp.py : COp → CmpOp
  | .eq => .Eq | .ne => .NotEq | .lt => .Lt | .le => .LtE | .gt => .Gt | .ge => .GtE | .in_ => .In | .nin => .NotIn
noncomputable def mOp (a : BOp) (o : Operator) : Bool := decide (o = a.py)
noncomputable def mC (a : COp) (o : CmpOp) : Bool := decide (o = a.py)
noncomputable def BI.nm : BI → String
  | .len => "len" | .all => "all" | .any => "any" | .sum => "sum" | .abs => "abs" | .int => "int" | .list => "list" | .tuple => "tuple"
noncomputable def glb (sc : Scope) (x : String) : Expr → Bool
  | .Name y _ => Vl.nm y x && isGlob sc y && notDebug y
  | _ => false

noncomputable def mNames (sc : Scope) : List String → List Expr → Bool
  | [], [] => true
  | x :: xs, .Name y _ :: r => Vl.nm y x && isOwn sc y && notDebug y && !xs.contains x && mNames sc xs r
  | _, _ => false
noncomputable def mTg (sc : Scope) : Tg → Expr → Bool
  | .name x, .Name y _ => Vl.nm y x && isOwn sc y && notDebug y
  | .tup xs, .Tuple es _ _ => mNames sc xs es
  | _, _ => false

noncomputable def mTypes (sc : Scope) : List String → List Expr → Bool
  | [], [] => true
  | t :: ts, e :: es => glb sc t e && mTypes sc ts es
  | _, _ => false
noncomputable def mType (sc : Scope) (ts : List String) : Expr → Bool
  | .Tuple es _ _ => mTypes sc ts es && (decide (2 ≤ es.length) && decide (es.length ≤ 100))
  | e => match ts with
    | [t] => glb sc t e
    | _ => false

/-- the names of a comprehension's block: what it takes from around is a cell there -/
noncomputable def compOk (sc sc' : Scope) : Bool :=
  sc'.kind == .function && !sc'.isGenerator && !sc'.isCoroutine && (sc'.names.all fun (n, k) => k != .free || sc.names.lookup n == some .cell || sc.names.lookup n == some .free) &&
  (sc'.names.all fun (n, k) => sc'.names.lookup n == some k) && decide ((sc'.names.map (·.1)).Nodup)

noncomputable def ownOk (tg : Tg) (sc' : Scope) : Bool := sc'.names.all fun (n, k) => (k != .local && k != .cell) || (".0" :: tg.names).any fun x => Vl.nm n x

noncomputable def plainName (f : String) : Bool := !f.toList.contains '.'

noncomputable def notCall : Expr → Bool
  | .Call .. => false
  | _ => true

/-! the kinds -/
noncomputable def xk : Expr → Nat
  | .Constant .. => 0 | .Name .. => 1 | .BinOp .. => 2 | .UnaryOp .. => 3 | .BoolOp .. => 4 | .Compare .. => 5 | .Tuple .. => 7 | .List .. => 8 | .Subscript .. => 10 | .ListComp .. => 11 | .Call .. => 12 | .Attribute .. => 13 | .Slice .. => 14
  | _ => 99
noncomputable def sk : Stmt → Nat
  | .Assign .. => 0 | .Expr .. => 1 | .Return .. => 2 | .If .. => 3 | .For .. => 4 | .Raise .. => 6 | .Try .. => 7
  | _ => 99
/-! one small test for each kind of expression; f, g test the parts -/
abbrev XB := Expr → Bool
noncomputable def qConst (f : Const → Bool) : XB | .Constant c _ _ => f c | _ => false
noncomputable def cNone : Const → Bool | .none => true | _ => false
noncomputable def cBool (b : Bool) : Const → Bool | .bool c => b == c | _ => false
noncomputable def cInt (i : Int) : Const → Bool | .int j => decide (i = j) | _ => false
noncomputable def cStr (s : String) : Const → Bool | .str x => Vl.nm x s | _ => false
noncomputable def qName (f : Str → Bool) (x : String) : XB | .Name y _ => Vl.nm y x && f y && notDebug y | _ => false
noncomputable def qBin (op : BOp) (f g : XB) : XB | .BinOp l o r _ => mOp op o && f l && g r | _ => false
noncomputable def qUn (u : UnaryOp) (f : XB) : XB | .UnaryOp o x _ => decide (o = u) && f x | _ => false
noncomputable def qBool (u : BoolOp) (f g : XB) : XB
  | .BoolOp o [x, y] _ => decide (o = u) && (f x && g y)
  | .BoolOp o (x :: y :: z :: r) p => decide (o = u) && (f x && g (.BoolOp o (y :: z :: r) p))
  | _ => false
noncomputable def qIs (u : CmpOp) (f g : XB) : XB | .Compare l [o] [c] _ => decide (o = u) && (f l && g c) | _ => false
noncomputable def qCmp (op : COp) (f g : XB) : XB | .Compare l [o] [r] _ => mC op o && f l && g r && !(behindInMarks o r) | _ => false
noncomputable def qCmp2 (o1 o2 : COp) (f g h : XB) : XB | .Compare l [p1, p2] [r1, r2] _ => mC o1 p1 && mC o2 p2 && f l && g r1 && h r2 && !(behindInMarks p2 r2) | _ => false
noncomputable def qTup (f : List Expr → Bool) : XB | .Tuple es _ _ => f es && decide (es.length ≤ 100) | _ => false
noncomputable def qList (f : List Expr → Bool) : XB | .List es _ => f es && decide (es.length ≤ 100) | _ => false
noncomputable def qSub (f g : XB) : XB | .Subscript x y _ => f x && g y | _ => false
noncomputable def qTo (g : XB) : XB | .Slice none (some y) none _ => g y | _ => false
noncomputable def qFrom (g : XB) : XB | .Slice (some y) none none _ => g y | _ => false
noncomputable def qComp (sc : Scope) (tg : Tg) (f : XB) (g : Scope → XB) : XB | .ListComp e [⟨t, i, [], a⟩] sc' _ => decide (a = 0) && (f i && mTg sc' tg t && g sc' e && compOk sc sc' && ownOk tg sc') | _ => false
noncomputable def qCompIf (sc : Scope) (tg : Tg) (f : XB) (g h : Scope → XB) : XB | .ListComp e [⟨t, i, [c], a⟩] sc' _ => decide (a = 0) && (f i && mTg sc' tg t && g sc' e && h sc' c && compOk sc sc' && ownOk tg sc') | _ => false
noncomputable def qCall (f : XB) (g : List Expr → Bool) : XB | .Call x as [] _ => f x && g as | _ => false
noncomputable def qMeth (f : Pos → XB) (g : List Expr → Bool) : XB | .Call x as [] q => f q x && g as | _ => false
noncomputable def qAttr (a : String) (f : XB) (g : Pos → Bool) : XB | .Attribute x y p => f x && notCall x && Vl.nm y a && g p | _ => false
noncomputable def two2 (f g : XB) : List Expr → Bool | [x, y] => f x && g y | _ => false
noncomputable def hNone  : XB := fun x => xk x == 0 && qConst cNone x
noncomputable def hBool (b : Bool) : XB := fun x => xk x == 0 && qConst (cBool b) x
noncomputable def hInt (i : Int) : XB := fun x => xk x == 0 && qConst (cInt i) x
noncomputable def hStr (s : String) : XB := fun x => xk x == 0 && qConst (cStr s) x
noncomputable def hName (f : Str → Bool) (x : String) : XB := fun e => xk e == 1 && qName f x e
noncomputable def hBin (op : BOp) (f g : XB) : XB := fun x => xk x == 2 && qBin op f g x
noncomputable def hNeg (f : XB) : XB := fun x => xk x == 3 && qUn .USub f x
noncomputable def hNot (f : XB) : XB := fun x => xk x == 3 && qUn .Not f x
noncomputable def hAnd (f g : XB) : XB := fun x => xk x == 4 && qBool .And f g x
noncomputable def hOr (f g : XB) : XB := fun x => xk x == 4 && qBool .Or f g x
noncomputable def hIsNone (f : XB) : XB := fun x => xk x == 5 && qIs .Is f hNone x
noncomputable def hNotNone (f : XB) : XB := fun x => xk x == 5 && qIs .IsNot f hNone x
noncomputable def hCmp (op : COp) (f g : XB) : XB := fun x => xk x == 5 && qCmp op f g x
noncomputable def hCmp2 (o1 o2 : COp) (f g h : XB) : XB := fun x => xk x == 5 && qCmp2 o1 o2 f g h x
noncomputable def hTup (f : List Expr → Bool) : XB := fun x => xk x == 7 && qTup f x
noncomputable def hList (f : List Expr → Bool) : XB := fun x => xk x == 8 && qList f x
noncomputable def hSub (f g : XB) : XB := fun x => xk x == 10 && qSub f g x
noncomputable def hTo (g : XB) : XB := fun x => xk x == 14 && qTo g x
noncomputable def hFr (g : XB) : XB := fun x => xk x == 14 && qFrom g x
noncomputable def hUpto (f g : XB) : XB := hSub f (hTo g)
noncomputable def hFrom (f g : XB) : XB := hSub f (hFr g)
noncomputable def hComp (sc : Scope) (tg : Tg) (f : XB) (g : Scope → XB) : XB := fun x => xk x == 11 && qComp sc tg f g x
noncomputable def hCompIf (sc : Scope) (tg : Tg) (f : XB) (g h : Scope → XB) : XB := fun x => xk x == 11 && qCompIf sc tg f g h x
noncomputable def hCl (f : XB) (g : List Expr → Bool) : XB := fun x => xk x == 12 && qCall f g x
noncomputable def hCall (sc : Scope) (n : String) (f : List Expr → Bool) : XB := hCl (fun x => glb sc n x && plainName n) fun as => f as && decide (as.length ≤ 20)
noncomputable def hBi1 (sc : Scope) (n : String) (f : List Expr → Bool) : XB := hCl (glb sc n) fun as => f as && decide (as.length ≤ 20)
noncomputable def hIsi (sc : Scope) (ts : List String) (f : XB) : XB := hCl (glb sc "isinstance") (two2 f (mType sc ts))
noncomputable def hAt (a : String) (f : XB) (g : Pos → Bool) : XB := fun x => xk x == 13 && qAttr a f g x
noncomputable def hMeth (m : Me) (f : XB) (g : List Expr → Bool) : XB := fun x => xk x == 12 && qMeth (fun q => hAt "append" f fun p => p.endLine == q.line) (fun as => g as && decide (as.length = 1)) x
/-- what a loop goes over -/
noncomputable def qIt (sc : Scope) (k : IK) (f : List Expr → Bool) : XB := match k with
  | .val => fun x => f [x]
  | .range => hCl (glb sc "range") fun as => f as && decide (as.length = 1)

mutual
noncomputable def mE (sc : Scope) : E → Expr → Bool
  | .none => hNone
  | .bool b => hBool b
  | .int i => hInt i
  | .str s => hStr s
  | .loc x => hName (isLoc sc) x
  | .glob x => hName (isGlob sc) x
  | .bin op a b => hBin op (mE sc a) (mE sc b)
  | .neg a => hNeg (mE sc a)
  | .not_ a => hNot (mE sc a)
  | .and_ a b => hAnd (mE sc a) (mE sc b)
  | .or_ a b => hOr (mE sc a) (mE sc b)
  | .isNone a => hIsNone (mE sc a)
  | .notNone a => hNotNone (mE sc a)
  | .cmp op a b => hCmp op (mE sc a) (mE sc b)
  | .cmp2 a o1 b o2 c => hCmp2 o1 o2 (mE sc a) (mE sc b) (mE sc c)
  | .tup l => hTup (mEs sc l)
  | .list l => hList (mEs sc l)
  | .sub a i => hSub (mE sc a) (mE sc i)
  | .upto a i => hUpto (mE sc a) (mE sc i)
  | .from_ a i => hFrom (mE sc a) (mE sc i)
  | .comp elt tg k it => hComp sc tg (qIt sc k (mEs sc it)) fun sc' => mE sc' elt
  | .compIf elt tg k it c => hCompIf sc tg (qIt sc k (mEs sc it)) (fun sc' => mE sc' elt) fun sc' => mE sc' c
  | .call f args => hCall sc f (mEs sc args)
  | .bi b args => hBi1 sc b.nm (mEs sc args)
  | .isi a ts => hIsi sc ts (mE sc a)
  | .meth o m args => hMeth m (mE sc o) (mEs sc args)
noncomputable def mEs (sc : Scope) : List E → List Expr → Bool
  | [], [] => true
  | a :: as, x :: xs => mE sc a x && mEs sc as xs
  | _, _ => false
end
noncomputable def mIt (sc : Scope) (k : IK) (it : List E) : XB := qIt sc k (mEs sc it)

noncomputable def noTup : E → Bool
  | .tup _ => false
  | _ => true
noncomputable def droppable : E → Bool
  | .call .. => true
  | .meth .. => true
  | _ => false
noncomputable def exName (sc : Scope) (x : String) : Option Str → Bool
  | none => x == ""
  | some y => x != "" && Vl.nm y x && sc.names.lookup y == some .local

abbrev SB := Stmt → Bool
abbrev SBs := List Stmt → Bool
noncomputable def rAsg (f h : XB) : SB | .Assign [t] v _ => f t && h v | _ => false
noncomputable def rExpr (f : XB) : SB | .Expr v _ => f v | _ => false
noncomputable def rRet (f : XB) : SB | .Return (some v) _ => f v | _ => false
noncomputable def rIf (f : XB) (g h : SBs) : SB | .If x y z _ => f x && g y && h z | _ => false
noncomputable def rFor (f g : XB) (h : SBs) : SB | .For t i y [] _ => f t && g i && h y | _ => false
noncomputable def rRaise (f : XB) : SB | .Raise (some x) none _ => f x | _ => false
noncomputable def rTry (f : SBs) (g : List ExceptHandler → Bool) : SB | .Try y hs [] [] _ => f y && g hs | _ => false
noncomputable def rHd (sc : Scope) (c x : String) (g : SBs) : ExceptHandler → Bool | .ExceptHandler (some t) n (z :: r) _ => glb sc c t && exName sc x n && g (z :: r) | _ => false
noncomputable def rH1 (f : ExceptHandler → Bool) : List ExceptHandler → Bool | [h] => f h | _ => false
noncomputable def hOwn (sc : Scope) (x : String) : XB := fun e => xk e == 1 && qName (isOwn sc) x e
noncomputable def qTupT (f : List Expr → Bool) : XB | .Tuple es _ _ => f es | _ => false
noncomputable def hTupT (f : List Expr → Bool) : XB := fun e => xk e == 7 && qTupT f e
noncomputable def kAsg (f h : XB) : SB := fun x => sk x == 0 && rAsg f h x
noncomputable def kExpr (f : XB) : SB := fun x => sk x == 1 && rExpr f x
noncomputable def kRet (f : XB) : SB := fun x => sk x == 2 && rRet f x
noncomputable def kIf (f : XB) (g h : SBs) : SB := fun x => sk x == 3 && rIf f g h x
noncomputable def kFor (f g : XB) (h : SBs) : SB := fun x => sk x == 4 && rFor f g h x
noncomputable def kRaise (f : XB) : SB := fun x => sk x == 6 && rRaise f x
noncomputable def kTry (f : SBs) (g : List ExceptHandler → Bool) : SB := fun x => sk x == 7 && rTry f g x

mutual
noncomputable def mS (sc : Scope) : S → Stmt → Bool
  | .assign (.name x) e => kAsg (hOwn sc x) (mE sc e)
  | .assign (.tup xs) e => kAsg (hTupT (mNames sc xs)) fun v => noTup e && mE sc e v
  | .setIdx o i e => kAsg (hSub (mE sc o) (mE sc i)) (mE sc e)
  | .expr e => kExpr fun v => droppable e && mE sc e v
  | .ret e => kRet (mE sc e)
  | .if_ t b o => kIf (mE sc t) (mSs sc b) (mSs sc o)
  | .for_ tg k it b => kFor (mTg sc tg) (mIt sc k it) (mSs sc b)
  | .raise c args => kRaise (hBi1 sc c (mEs sc args))
  | .try1 b c x h => kTry (mSs sc b) (rH1 (rHd sc c x (mSs sc h)))
noncomputable def mSs (sc : Scope) : List S → List Stmt → Bool
  | [], [] => true
  | a :: as, x :: xs => mS sc a x && mSs sc as xs
  | _, _ => false
end

end Vl
end

section
open PySem
set_option linter.unusedVariables false
set_option linter.unusedSimpArgs false
namespace Vl

abbrev Mo (C : Cx) : Model := model C.prog C.w

/-- how a callee is kept -/
noncomputable def Kp (C : Cx) (v : Value) : Prop := ∃ k, (k = Keeper.frame ∨ k = Keeper.machine ∨ k = Keeper.boundFrame) ∧ W.Looks (Mo C) C.B (keeperOf v) k

structure GOK (C : Cx) (G : Gx) (mg mb : Str → Option Value) : Prop where
  g : C.B.Ns mainGlobals mg
  b : C.B.Ns builtinsNs mb
  nolimit : C.B.NoLimit
  blt : ∀ x ∈ ["len", "all", "any", "sum", "abs", "int", "list", "tuple", "dict", "isinstance", "range", "bool"],
    mg (Str.ofString x) = Option.none ∧ mb (Str.ofString x) = bootBuiltins (Str.ofString x)
  glob : ∀ x p, G.glob x = some p → ∃ v, mg (Str.ofString x) = some v ∧ ∀ σ h, VR C σ h p v
  full : G.full = true → C.ok
  calm : G.calm = true → C.calm
  fv : ∀ f v, plainName f = true → C.fv f = some v → mg (Str.ofString f) = some v
  fn : ∀ f, G.fn f = true → ∃ v, C.fv f = some v ∧ Kp C v

noncomputable def CallOK (C : Cx) (n : Nat) : Cl := fun f args σ Q X =>
  ∃ v, C.fv f = some v ∧ Kp C v ∧ ∀ (A : Around) (l : List Env) (s : Shared) (vs : List Value), AOK C n A l σ s.heap → Sim C σ s.heap → VRs C σ s.heap args vs →
    wpAny (Mo C) A (call v vs) (VP C none1 σ s Q) (XP C none1 σ s X) s

section
variable {C : Cx} {A : Around} {Er : Value → Shared → Prop} {σ : PH} {s : Shared}

theorem VP.bind {S : Addr → Prop} {β : Type} {t : Sem Value} {f : Value → Sem β} {Q : Post} {R : β → Shared → Prop} (h : wpAny (Mo C) A t (VP C S σ s Q) Er s)
    (k : ∀ v s1 p σ1, VR C σ1 s1.heap p v → Sim C σ1 s1.heap → Step S σ s.heap σ1 s1.heap → Rest s s1 → Q p σ1 → wpAny (Mo C) A (f v) R Er s1) : wpAny (Mo C) A (t >>= f) R Er s :=
  wpAny_bind (wpAny_mono h (fun v s1 ⟨p, σ1, a, b, c, d, e⟩ => k v s1 p σ1 a b c d e) fun _ _ x => x)

theorem VP.to {S : Addr → Prop} {t : Sem Value} {Q : Post} {R : Value → Shared → Prop} {Er' : Value → Shared → Prop} (h : wpAny (Mo C) A t (VP C S σ s Q) Er' s)
    (k : ∀ v s1 p σ1, VR C σ1 s1.heap p v → Sim C σ1 s1.heap → Step S σ s.heap σ1 s1.heap → Rest s s1 → Q p σ1 → R v s1) (ke : ∀ e s1, Er' e s1 → Er e s1) : wpAny (Mo C) A t R Er s :=
  wpAny_mono h (fun v s1 ⟨p, σ1, a, b, c, d, e⟩ => k v s1 p σ1 a b c d e) ke

/-- nothing has happened but tokens -/
theorem VP.here {S : Addr → Prop} {Q : Post} {p : PV} {v : Value} {s' : Shared} (m : Sim C σ s.heap) (hh : s'.heap = s.heap) (r : Rest s s') (hv : VR C σ s.heap p v) (q : Q p σ) : VP C S σ s Q v s' :=
  ⟨p, σ, by rw [hh]; exact hv, by rw [hh]; exact m, by rw [hh]; exact .refl _ _ _, r, q⟩
end

theorem ofString_inj {x y : String} (h : Str.ofString x = Str.ofString y) : x = y := by
  rw [Str.ofString_eq_toList, Str.ofString_eq_toList] at h
  have h1 : x.toList.map Char.toNat = y.toList.map Char.toNat := by
    have := congrArg (fun s : Str => s.cps.toList) h
    simpa using this
  have inj : Function.Injective Char.toNat := fun a b e => by
    have : a.val = b.val := UInt32.toNat_inj.mp e
    exact Char.ext this
  have h2 : x.toList = y.toList := by
    have : ∀ (l m : List Char), l.map Char.toNat = m.map Char.toNat → l = m := by
      intro l
      induction l with
      | nil => intro m e; cases m with | nil => rfl | cons => cases e
      | cons a r ih => intro m e; cases m with | nil => cases e | cons b q => simp only [List.map_cons, List.cons.injEq] at e; rw [inj e.1, ih q e.2]
    exact this _ _ h1
  exact String.toList_inj.mp h2

section
variable {C : Cx} {G : Gx} {mg mb : Str → Option Value} {A : Around} {Er : Value → Shared → Prop} {env : Env} {ρ : Rho} {σ : PH} {s : Shared}

theorem isLoc_iff {sc : Scope} {y : Str} (h : isLoc sc y = true) : sc.names.lookup y = some .local ∨ sc.names.lookup y = some .cell ∨ sc.names.lookup y = some .free := by
  simp only [isLoc, Bool.or_eq_true, beq_iff_eq] at h
  rcases h with (h | h) | h
  · exact .inl h
  · exact .inr (.inl h)
  · exact .inr (.inr h)

theorem load_loc {x : String} {p : PV} {pos : Pos} {Q : Value → Shared → Prop} (ev : EnvR C env ρ σ s.heap) (hl : isLoc env.scope (Str.ofString x) = true) (hd : notDebug (Str.ofString x) = true) (hx : ρ.get x = some p)
    (h : ∀ v, VR C σ s.heap p v → Q v s) : wpAny (Mo C) A (eval (.Name (Str.ofString x) pos) env) Q Er s := by
  simp only [notDebug, Bool.and_eq_true, Bool.not_eq_true'] at hd
  refine wpAny_Name ?_ hd.1
  rcases isLoc_iff hl with k | k | k
  · obtain ⟨m, hn, hv⟩ := ev.ns
    obtain ⟨v, e1, e2⟩ := hv x p hx k
    exact wpAny_loadName_local ev.fn k hn e1 (h v e2)
  · obtain ⟨c, v, e1, e2, e3⟩ := ev.cell x p hx (.inl k)
    exact wpAny_loadName_cell ev.fn k e1 e2 (h v e3)
  · obtain ⟨c, v, e1, e2, e3⟩ := ev.cell x p hx (.inr k)
    exact wpAny_loadName_free ev.fn k e1 e2 (h v e3) hd.2

theorem loadName_read {env : Env} {x : Str} (hk : env.scope.kind = .function) (hx : env.kindOf x = some .globalImplicit) : loadName env x = loadGlobal env x := by
  unfold loadName
  simp only [Env.blockKind, hk, hx, ScopeKind.isAnnotationScope, Bool.false_and, Bool.false_eq_true, if_false]

theorem glb_iff {sc : Scope} {x : String} {e : Expr} (h : glb sc x e = true) : ∃ pos, e = .Name (Str.ofString x) pos ∧ sc.names.lookup (Str.ofString x) = some .globalImplicit ∧ notDebug (Str.ofString x) = true := by
  unfold glb at h
  split at h
  · simp only [Bool.and_eq_true, Vl.nm, isGlob, beq_iff_eq] at h
    obtain ⟨⟨rfl, h2⟩, h3⟩ := h
    exact ⟨_, rfl, h2, h3⟩
  · cases h

theorem load_glob {x : String} {v : Value} {pos : Pos} {Q : Value → Shared → Prop} (g : GOK C G mg mb) (ev : EnvR C env ρ σ s.heap) (m : Sim C σ s.heap)
    (hl : env.scope.names.lookup (Str.ofString x) = some .globalImplicit) (hd : notDebug (Str.ofString x) = true) (hx : mg (Str.ofString x) = some v) (h : Q v s) :
    wpAny (Mo C) A (eval (.Name (Str.ofString x) pos) env) Q Er s := by
  simp only [notDebug, Bool.and_eq_true, Bool.not_eq_true'] at hd
  refine wpAny_Name ?_ hd.1
  rw [loadName_read ev.fn hl]
  refine Calls.loadGlobal_global ?_ hx h
  rw [ev.glob]
  exact g.g.keeps m.base

theorem load_blt {x : String} {v : Value} {pos : Pos} {Q : Value → Shared → Prop} (g : GOK C G mg mb) (ev : EnvR C env ρ σ s.heap) (m : Sim C σ s.heap)
    (hl : env.scope.names.lookup (Str.ofString x) = some .globalImplicit) (hd : notDebug (Str.ofString x) = true)
    (hm : x ∈ ["len", "all", "any", "sum", "abs", "int", "list", "tuple", "dict", "isinstance", "range", "bool"])
    (hx : bootBuiltins (Str.ofString x) = some v) (h : Q v s) :
    wpAny (Mo C) A (eval (.Name (Str.ofString x) pos) env) Q Er s := by
  simp only [notDebug, Bool.and_eq_true, Bool.not_eq_true'] at hd
  refine wpAny_Name ?_ hd.1
  rw [loadName_read ev.fn hl]
  obtain ⟨e1, e2⟩ := g.blt x hm
  refine Calls.loadGlobal_builtin (v := v) ?_ e1 ?_ (e2.trans hx) h
  · rw [ev.glob]; exact g.g.keeps m.base
  · rw [ev.blt]; exact g.b.keeps m.base
end

end Vl
end

section
open PySem
set_option linter.unusedVariables false
set_option linter.unusedSimpArgs false
namespace Vl

section
variable {C : Cx} {σ : PH} {h h' : Heap}

theorem Sim.lt (m : Sim C σ h) {a : Addr} {o : PO} (e : σ a = some o) : a < h.objs.size := let ⟨_, ho, _⟩ := m.objs a o e; Heap.lt_size ho
theorem Sim.fresh (m : Sim C σ h) {a : Addr} (e : h.objs.size ≤ a) : σ a = Option.none := by
  cases q : σ a with
  | none => rfl
  | some o => exact absurd (m.lt q) (Nat.not_lt.mpr e)
theorem Sim.freshB (m : Sim C σ h) {a : Addr} (e : h.objs.size ≤ a) : C.B.get? a = Option.none := by
  cases q : C.B.get? a with
  | none => rfl
  | some o => exact absurd (Heap.lt_size (m.base a o q)) (Nat.not_lt.mpr e)

/-- the heap has more, nothing else is said of it -/
theorem Step.more {S : Addr → Prop} (k : ∀ b o, h.get? b = some o → h'.get? b = some o) : Step S σ h σ h' :=
  ⟨fun b o e s => ⟨s, o, k b o e, fun _ => .refl o⟩, fun b o e => ⟨o, e⟩, fun _ e => e, fun b e => by
    cases q : h.get? b with
    | none => rfl
    | some o => rw [k b o q] at e; cases e⟩
theorem Step.push (S : Addr → Prop) (σ : PH) (h : Heap) (ob : Obj) : Step S σ h σ (h.push ob) := .more (fun b o e => Heap.get?_push_of_some ob e)
theorem Step.old {S : Addr → Prop} {σ₀ : PH} {h₀ : Heap} (st : Step S σ₀ h₀ σ h) (m : Sim C σ h) {a : Addr} (e : h.get? a = Option.none) : h₀.get? a = Option.none := by
  cases q : h₀.get? a with
  | none => rfl
  | some o =>
    cases w : σ₀ a with
    | none => obtain ⟨_, o', e', _⟩ := st.keep a o q w; rw [e] at e'; cases e'
    | some p => obtain ⟨p', e'⟩ := st.grow a p w; obtain ⟨ob, e'', _⟩ := m.objs a p' e'; rw [e] at e''; cases e''
theorem Sim.step {S : Addr → Prop} (m : Sim C σ h) (st : Step S σ h σ h') (k : ∀ a o, σ a = some o → h'.get? a = h.get? a) (kb : ∀ b o, C.B.get? b = some o → h'.get? b = some o) : Sim C σ h' where
  base := kb
  new := m.new
  objs := fun a o e => let ⟨ob, h1, h2⟩ := m.objs a o e; ⟨ob, (k a o e).trans h1, h2.step st⟩
  rich := m.rich
theorem Sim.more (m : Sim C σ h) (k : ∀ b o, h.get? b = some o → h'.get? b = some o) : Sim C σ h' :=
  m.step (S := none1) (.more k) (fun a o e => let ⟨ob, h1, _⟩ := m.objs a o e; (k _ _ h1).trans h1.symm) fun b o e => k b o (m.base b o e)
theorem Sim.push (m : Sim C σ h) (ob : Obj) : Sim C σ (h.push ob) := m.more (fun b o e => Heap.get?_push_of_some ob e)

/-- an object that has come into being stands from now on among the call's own -/
theorem Sim.add {S : Addr → Prop} (m : Sim C σ h) {a : Addr} {o : PO} {ob : Obj} (st : Step S σ h (σ.set a o) h') (k : ∀ x o', σ x = some o' → h'.get? x = h.get? x) (kb : ∀ b o, C.B.get? b = some o → h'.get? b = some o)
    (e : h'.get? a = some ob) (b : C.B.get? a = Option.none) (r : OR C (σ.set a o) h' o ob) (hr : o.needs C.ok) : Sim C (σ.set a o) h' where
  rich := fun x o' e' => by
    by_cases q : x = a
    · subst q; rw [PH.set_same] at e'; cases e'; exact hr
    · rw [PH.set_ne _ _ q] at e'; exact m.rich x o' e'
  base := kb
  new := fun x o' e' => by
    by_cases q : x = a
    · subst q; exact b
    · rw [PH.set_ne _ _ q] at e'; exact m.new x o' e'
  objs := fun x o' e' => by
    by_cases q : x = a
    · subst q; rw [PH.set_same] at e'; cases e'; exact ⟨ob, e, r⟩
    · rw [PH.set_ne _ _ q] at e'
      obtain ⟨o1, h1, h2⟩ := m.objs x o' e'
      exact ⟨o1, (k x o' e').trans h1, h2.step st⟩
theorem Step.add {S : Addr → Prop} {h₀ : Heap} {σ₀ : PH} (st : Step S σ₀ h₀ σ h) {a : Addr} (o : PO) (f : h₀.get? a = Option.none) (f' : σ₀ a = Option.none) : Step S σ₀ h₀ (σ.set a o) h where
  keep := fun b ob e s => by
    obtain ⟨x, o', y, z⟩ := st.keep b ob e s
    refine ⟨?_, o', y, z⟩
    rw [PH.set_ne]
    · exact x
    · rintro rfl; rw [f] at e; cases e
  grow := fun b ob e => by
    obtain ⟨o', e'⟩ := st.grow b ob e
    by_cases q : b = a
    · subst q; exact ⟨o, PH.set_same _ _ _⟩
    · exact ⟨o', by rw [PH.set_ne _ _ q]; exact e'⟩
  hid := fun b e => by
    rw [PH.set_ne]
    · exact st.hid b e
    · rintro rfl; rw [f'] at e; cases e
  live := st.live

theorem Sim.upd {S : Addr → Prop} (m : Sim C σ h) {a : Addr} {o o' : PO} {ob' : Obj} (ha : σ a = some o) (hh : o ≠ .hid) (sb : Heap.SameBut a h h') (e : h'.get? a = some ob') (r : OR C σ h o' ob') (hr : o'.needs C.ok := by trivial) :
    Sim C (σ.set a o') h' ∧ Step S σ h (σ.set a o') h' := by
  have st : Step S σ h (σ.set a o') h' := ⟨fun b ob q s => by
      have hb : b ≠ a := by rintro rfl; rw [ha] at s; cases s
      exact ⟨by rw [PH.set_ne _ _ hb]; exact s, ob, (sb.2 b hb).trans q, fun _ => .refl ob⟩,
    fun b ob q => by
      by_cases hb : b = a
      · subst hb; exact ⟨o', PH.set_same _ _ _⟩
      · exact ⟨ob, by rw [PH.set_ne _ _ hb]; exact q⟩,
    fun b q => by
      have hb : b ≠ a := by rintro rfl; rw [ha] at q; cases q; exact hh rfl
      rw [PH.set_ne _ _ hb]; exact q,
    fun b q => by
      by_cases hb : b = a
      · subst hb; rw [e] at q; cases q
      · rw [← sb.2 b hb]; exact q⟩
  refine ⟨⟨fun b ob q => ?_, fun x ob q => ?_, fun x ob q => ?_, fun x ob q => ?_⟩, st⟩
  · have hb : b ≠ a := by rintro rfl; have := m.new _ _ ha; rw [q] at this; cases this
    exact (sb.2 b hb).trans (m.base b ob q)
  · by_cases hx : x = a
    · subst hx; exact m.new _ _ ha
    · rw [PH.set_ne _ _ hx] at q; exact m.new x ob q
  · by_cases hx : x = a
    · subst hx; rw [PH.set_same] at q; cases q; exact ⟨ob', e, r.step st⟩
    · rw [PH.set_ne _ _ hx] at q
      obtain ⟨o1, h1, h2⟩ := m.objs x ob q
      exact ⟨o1, (sb.2 x hx).trans h1, h2.step st⟩
  · by_cases hx : x = a
    · subst hx; rw [PH.set_same] at q; cases q; exact hr
    · rw [PH.set_ne _ _ hx] at q; exact m.rich x ob q
end

section
variable {C : Cx} {A : Around} {Er : Value → Shared → Prop} {σ : PH} {s : Shared}

/-- a new object of the call's own -/
theorem VP.alloc {S : Addr → Prop} {Q : Post} {o : PO} {ob : Obj} {s' : Shared} (m : Sim C σ s.heap) (hh : s'.heap = s.heap.push ob) (r : Rest s s') (hf : ob.isFreed = false) (hr : OR C σ s.heap o ob) (q : wnew o σ Q) (ho : o.needs C.ok := by trivial) :
    VP C S σ s Q (.ref s.heap.objs.size) s' := by
  have st : Step S σ s.heap (σ.set s.heap.objs.size o) (s.heap.push ob) := (Step.push S σ s.heap ob).add o (by
    cases e : s.heap.get? s.heap.objs.size with
    | none => rfl
    | some x => exact absurd (Heap.lt_size e) (Nat.lt_irrefl _)) (m.fresh (Nat.le_refl _))
  refine ⟨.ref s.heap.objs.size, σ.set s.heap.objs.size o, rfl, ?_, ?_, r, q _ (m.fresh (Nat.le_refl _))⟩
  · rw [hh]
    exact m.add st (fun x o' e => let ⟨o1, h1, _⟩ := m.objs x o' e; (Heap.get?_push_of_some _ h1).trans h1.symm) (fun b o e => Heap.get?_push_of_some _ (m.base b o e)) (Heap.get?_push_size _ hf) (m.freshB (Nat.le_refl _)) (hr.step st) ho
  · rw [hh]; exact st

theorem VP.allocTup {S : Addr → Prop} {Q : Post} {l : List PV} {vs : Array Value} {n : Nat} {s' : Shared} (m : Sim C σ s.heap) (hh : s'.heap = s.heap.push (tupO vs n)) (r : Rest s s') (hr : VRs C σ s.heap l vs.toList) (q : Q (.tup l) σ) :
    VP C S σ s Q (.ref s.heap.objs.size) s' := by
  have m' := m.push (tupO vs n)
  have st := Step.push S σ s.heap (tupO vs n)
  refine ⟨.tup l, σ, ?_, by rw [hh]; exact m', by rw [hh]; exact st, r, q⟩
  rw [hh]
  simp only [VR]
  exact ⟨_, n, vs, rfl, m.fresh (Nat.le_refl _), Heap.get?_push_size _ rfl, hr.step st⟩

theorem VRs.append {h : Heap} : ∀ {l m : List PV} {vs ws : List Value}, VRs C σ h l vs → VRs C σ h m ws → VRs C σ h (l ++ m) (vs ++ ws)
  | [], m, vs, ws, a, b => by simp only [VRs] at a; subst a; exact b
  | p :: l, m, vs, ws, a, b => by
    simp only [VRs] at a
    obtain ⟨v, r, rfl, h1, h2⟩ := a
    simp only [List.cons_append, VRs]
    exact ⟨v, r ++ ws, rfl, h1, VRs.append h2 b⟩
theorem VRs.length {h : Heap} : ∀ {l : List PV} {vs : List Value}, VRs C σ h l vs → vs.length = l.length
  | [], vs, a => by simp only [VRs] at a; subst a; rfl
  | p :: l, vs, a => by
    simp only [VRs] at a
    obtain ⟨v, r, rfl, h1, h2⟩ := a
    simp [VRs.length h2]
theorem VRs.get {h : Heap} : ∀ {l : List PV} {vs : List Value}, VRs C σ h l vs → ∀ (i : Nat) (p : PV), l[i]? = some p → ∃ v, vs[i]? = some v ∧ VR C σ h p v
  | [], vs, a, i, p, e => by simp at e
  | q :: l, vs, a, i, p, e => by
    simp only [VRs] at a
    obtain ⟨v, r, rfl, h1, h2⟩ := a
    cases i with
    | zero => simp at e; subst e; exact ⟨v, rfl, h1⟩
    | succ j => simp at e; simpa using VRs.get h2 j p e
theorem VRs.of_get {h : Heap} : ∀ {l : List PV} {vs : List Value}, vs.length = l.length → (∀ (i : Nat) (p : PV) (v : Value), l[i]? = some p → vs[i]? = some v → VR C σ h p v) → VRs C σ h l vs
  | [], vs, a, e => by simp only [VRs]; exact List.length_eq_zero_iff.mp a
  | q :: l, [], a, e => by simp at a
  | q :: l, v :: r, a, e => by
    simp only [VRs]
    refine ⟨v, r, rfl, e 0 q v rfl rfl, VRs.of_get (by simpa using a) fun i p w h1 h2 => e (i + 1) p w (by simpa using h1) (by simpa using h2)⟩
theorem VRs.set {h : Heap} {l : List PV} {vs : List Value} (x : VRs C σ h l vs) (i : Nat) {p : PV} {v : Value} (r : VR C σ h p v) : VRs C σ h (l.set i p) (vs.set i v) := by
  have hl := x.length
  refine VRs.of_get (by simp [hl]) fun j q w h1 h2 => ?_
  rw [List.getElem?_set] at h1 h2
  by_cases hij : i = j
  · subst hij
    rw [if_pos rfl] at h1 h2
    split at h1 <;> split at h2 <;> simp_all
  · rw [if_neg hij] at h1 h2
    obtain ⟨w', e1, e2⟩ := x.get j q h1
    rw [h2] at e1; cases e1; exact e2
theorem VRs.take {h : Heap} {l : List PV} {vs : List Value} (x : VRs C σ h l vs) (i : Nat) : VRs C σ h (l.take i) (vs.take i) := by
  have hl := x.length
  refine VRs.of_get (by simp [hl]) fun j q w h1 h2 => ?_
  rw [List.getElem?_take] at h1 h2
  split at h1
  · rw [if_pos (by assumption)] at h2
    obtain ⟨w', e1, e2⟩ := x.get j q h1
    rw [h2] at e1; cases e1; exact e2
  · cases h1
theorem VRs.drop {h : Heap} {l : List PV} {vs : List Value} (x : VRs C σ h l vs) (i : Nat) : VRs C σ h (l.drop i) (vs.drop i) := by
  have hl := x.length
  refine VRs.of_get (by simp [hl]) fun j q w h1 h2 => ?_
  rw [List.getElem?_drop] at h1 h2
  obtain ⟨w', e1, e2⟩ := x.get _ q h1
  rw [h2] at e1; cases e1; exact e2
theorem VRs.reverse {h : Heap} : ∀ {l : List PV} {vs : List Value}, VRs C σ h l vs → VRs C σ h l.reverse vs.reverse
  | [], vs, a => by simp only [VRs] at a; subst a; simp [VRs]
  | p :: l, vs, a => by
    simp only [VRs] at a
    obtain ⟨v, r, rfl, h1, h2⟩ := a
    simp only [List.reverse_cons]
    exact h2.reverse.append (by simp only [VRs]; exact ⟨v, [], rfl, h1, rfl⟩)
theorem VRs.replicate {h : Heap} {l : List PV} {vs : List Value} (x : VRs C σ h l vs) : ∀ n : Nat, VRs C σ h (List.replicate n l).flatten (List.replicate n vs).flatten
  | 0 => by simp [VRs]
  | n + 1 => by simpa [List.replicate_succ] using x.append (x.replicate n)
end

end Vl
end

section
open PySem
set_option linter.unusedVariables false
set_option linter.unusedSimpArgs false
namespace Vl

section
variable {C : Cx} {A : Around} {Er : Value → Shared → Prop} {σ : PH} {s : Shared} {Q : Post} {n : Nat} {fr : List Env}

theorem vr_int {h : Heap} {i : Int} (t : Tok) : VR C σ h (.int i) (.int i t) := ⟨t, rfl⟩
theorem vr_bool {h : Heap} {b : Bool} : VR C σ h (.bool b) (.bool b) := rfl
theorem vr_none {h : Heap} : VR C σ h .none .none := rfl

/-- a list of the call's own, as an object -/
theorem Sim.list {h : Heap} (m : Sim C σ h) {a : Addr} {l : List PV} (e : σ a = some (.list l)) : ∃ vs n, h.get? a = some (lstO vs n) ∧ VRs C σ h l vs.toList := by
  obtain ⟨ob, h1, vs, n, rfl, h2⟩ := m.objs a _ e
  exact ⟨vs, n, h1, h2⟩

theorem repl_fold {α : Type} (xs : Array α) : ∀ (k : Nat), List.foldl (fun x1 x2 => x1 ++ x2) #[] (List.replicate k xs) = (List.replicate k xs.toList).flatten.toArray := by
  have key : ∀ (k : Nat) (acc : Array α), List.foldl (fun x1 x2 => x1 ++ x2) acc (List.replicate k xs) = acc ++ (List.replicate k xs.toList).flatten.toArray := by
    intro k
    induction k with
    | zero => intro acc; simp
    | succ k ih =>
      intro acc
      rw [List.replicate_succ, List.foldl_cons, ih, List.replicate_succ, List.flatten_cons]
      apply Array.toList_inj.mp
      simp
  intro k
  rw [key]; simp

theorem bin_ok {op : BOp} {o : Operator} (ho : mOp op o = true) {a b : PV} {va vb : Value} (m : Sim C σ s.heap) (ra : VR C σ s.heap a va) (rb : VR C σ s.heap b vb) (w : wbin op a b σ Q) :
    wpAny (Mo C) A (binaryOp o va vb) (VP C none1 σ s Q) Er s := by
  unfold wbin at w
  split at w
  case _ x y =>
    obtain ⟨t, rfl⟩ := ra; obtain ⟨u, rfl⟩ := rb
    cases (of_decide_eq_true ho)
    exact P.add_int (VP.here m rfl ⟨rfl, rfl⟩ (vr_int _) w)
  case _ x y =>
    obtain ⟨t, rfl⟩ := ra; obtain ⟨u, rfl⟩ := rb
    cases (of_decide_eq_true ho)
    exact P.sub_int (VP.here m rfl ⟨rfl, rfl⟩ (vr_int _) w)
  case _ x y =>
    obtain ⟨t, rfl⟩ := ra; obtain ⟨u, rfl⟩ := rb
    cases (of_decide_eq_true ho)
    refine P.mul_int (VP.here m rfl ⟨rfl, rfl⟩ (vr_int _) w.2) ?_
    have key : ∀ z : Int, z.natAbs < 2 ^ 64 → Builtin.Int.intBits z ≤ 64 := fun z hz => by
      unfold Builtin.Int.intBits
      split
      · omega
      · rename_i hz0
        have : z.natAbs ≠ 0 := by simpa using hz0
        have := (Nat.log2_lt this).mpr hz
        omega
    rcases w.1 with h1 | h1
    · exact IntMulOk.of_left (key x h1)
    · exact IntMulOk.of_right (key y h1)
  case _ x y =>
    obtain ⟨t, rfl⟩ := ra; obtain ⟨u, rfl⟩ := rb
    cases (of_decide_eq_true ho)
    exact PyProof.Rows.floordiv_int w.1 (VP.here m rfl ⟨rfl, rfl⟩ (vr_int _) w.2.2) (.inl (PyProof.noPylong_small w.2.1))
  case _ x y =>
    obtain ⟨t, rfl⟩ := ra; obtain ⟨u, rfl⟩ := rb
    cases (of_decide_eq_true ho)
    exact PyProof.Rows.mod_int' w.1 (VP.here m rfl ⟨rfl, rfl⟩ (vr_int _) w.2)
  case _ x y =>
    obtain ⟨t, rfl⟩ := ra; obtain ⟨u, rfl⟩ := rb
    cases (of_decide_eq_true ho)
    exact PyProof.Rows.pow_int_small w.1 (by omega) w.2.2.1 (VP.here m rfl ⟨rfl, rfl⟩ (vr_int _) w.2.2.2)
  case _ x y =>
    simp only [VR] at ra rb
    obtain ⟨a1, n1, vs1, rfl, s1, h1, r1⟩ := ra
    obtain ⟨a2, n2, vs2, rfl, s2, h2, r2⟩ := rb
    cases (of_decide_eq_true ho)
    obtain ⟨w1, w2⟩ := w
    have l1 := r1.length
    have l2 := r2.length
    have e1 : vs1.size = x.length := by simpa using l1
    have e2 : vs2.size = y.length := by simpa using l2
    have hz : x.length + y.length ≤ 1000000 := by simpa [Okl, lim] using w1
    by_cases c1 : vs1.isEmpty = true
    · have : x = [] := by simpa [e1, Array.isEmpty] using c1
      subst this
      refine concat_meets ⟨_, h1, rfl⟩ ⟨_, h2, rfl⟩ noFill_tuple_add seq_tuple_add F.slot_tuple_add F.entry_tuple_add (F.args_tuple_add_2 _ _) (PyProof.Rows.tuple_addW0 a1 a2 vs1 vs2 n1 n2 _ _ _ _ c1) ⟨h1, h2, ?_⟩
      exact VP.here m rfl ⟨rfl, rfl⟩ (p := .tup y) (by simp only [VR]; exact ⟨_, _, _, rfl, s2, h2, r2⟩) (by simpa using w2)
    · by_cases c2 : vs2.isEmpty = true
      · have : y = [] := by simpa [e2, Array.isEmpty] using c2
        subst this
        refine concat_meets ⟨_, h1, rfl⟩ ⟨_, h2, rfl⟩ noFill_tuple_add seq_tuple_add F.slot_tuple_add F.entry_tuple_add (F.args_tuple_add_2 _ _) (PyProof.Rows.tuple_addW1 a1 a2 vs1 vs2 n1 n2 _ _ _ _ c1 c2) ⟨h1, h2, ?_⟩
        exact VP.here m rfl ⟨rfl, rfl⟩ (p := .tup x) (by simp only [VR]; exact ⟨_, _, _, rfl, s1, h1, r1⟩) (by simpa using w2)
      · refine P.add_tuple h1 h2 c1 c2 (VP.allocTup (l := x ++ y) m rfl ⟨rfl, rfl⟩ (by simpa using r1.append r2) w2) (by simp [sizeLine]; omega)
  case _ x y =>
    simp only [VR] at ra rb
    subst ra rb
    cases (of_decide_eq_true ho)
    split at w
    · rename_i l k e1 e2
      obtain ⟨vs1, n1, h1, r1⟩ := m.list e1
      obtain ⟨vs2, n2, h2, r2⟩ := m.list e2
      have l1 : vs1.size = l.length := by simpa using r1.length
      have l2 : vs2.size = k.length := by simpa using r2.length
      have hz : l.length + k.length ≤ 1000000 := by simpa [Okl, lim] using w.1
      exact P.add_list h1 h2 (VP.alloc (o := .list (l ++ k)) m rfl ⟨rfl, rfl⟩ rfl ⟨_, _, rfl, by simpa using r1.append r2⟩ w.2) (by simp [sizeLine]; omega)
    · exact w.elim
  case _ x y =>
    simp only [VR] at ra rb
    subst ra
    obtain ⟨u, rfl⟩ := rb
    cases (of_decide_eq_true ho)
    split at w
    · rename_i l e1
      obtain ⟨vs1, n1, h1, r1⟩ := m.list e1
      have l1 : vs1.size = l.length := by simpa using r1.length
      have hz : y.toNat * l.length ≤ 1000000 := by simpa [Okl, lim] using w.1.1
      have hz' : vs1.size * y.toNat ≤ 1000000 := by rw [l1, Nat.mul_comm]; exact hz
      refine wpAny_binaryOp_repeat_ref (T := "list") (U := "int") (by decide) ⟨_, h1, rfl⟩ (fun s' => typeIs_int s' y u) noFill_list_mul F.fills_int_mul F.slot_int_rmul repeat_list F.slot_int_index.lookup
        (call_meets F.slot_int_rmul (typeIs_int s y u) F.entry_int_rmul (F.args_int_rmul_2 _ _) (int___rmul___int_list y u x vs1 n1)
          ⟨h1, rfl, ⟨_, h1, rfl⟩, call_meets F.slot_list_mul ⟨_, h1, rfl⟩ F.entry_list_mul (F.args_list_mul_2 _ _)
            (AutoListH.list___mul___list_int_3 x vs1 n1 y u (by simp [Builtin.List.listFitsIndex]; omega) (by have := w.1.2; omega) (by simp [Builtin.List.listTooLong, sizeLine]; omega))
            ⟨h1, ?_⟩⟩)
      rw [repl_fold]
      refine VP.alloc (o := .list (List.replicate y.toNat l).flatten) m rfl ⟨rfl, rfl⟩ rfl ⟨_, _, rfl, ?_⟩ w.2
      by_cases hv : vs1.isEmpty = true
      · have hx : vs1 = #[] := by simpa using hv
        have hl : l = [] := by rw [hx] at l1; simpa using l1.symm
        subst hx hl
        simp [VRs]
      · simp only [hv, if_false, Bool.false_eq_true]
        simpa using r1.replicate y.toNat
    · exact w.elim
  case _ => exact w.elim

end
end Vl
end

section
open PySem
set_option linter.unusedVariables false
set_option linter.unusedSimpArgs false
namespace Vl

section
variable {C : Cx} {A : Around} {Er : Value → Shared → Prop} {σ : PH} {s : Shared} {Q : Post} {n : Nat} {fr : List Env}

mutual
theorem Rd.reads {h : Heap} (m : Sim C σ h) : ∀ (d : PyData) (p : PV) (v : Value), d.canLay0 = true → Rd σ d p → VR C σ h p v → ∃ as, Reads h v d as
  | .none, p, v, _, r, x => by simp only [Rd] at r; subst r; simp only [VR] at x; subst x; exact ⟨_, .none⟩
  | .bool b, p, v, _, r, x => by simp only [Rd] at r; subst r; simp only [VR] at x; subst x; exact ⟨_, .bool b⟩
  | .int i, p, v, _, r, x => by simp only [Rd] at r; subst r; simp only [VR] at x; obtain ⟨t, rfl⟩ := x; exact ⟨_, .int i t⟩
  | .str y, p, v, _, r, x => by simp only [Rd] at r; obtain ⟨z, rfl, rfl⟩ := r; simp only [VR] at x; obtain ⟨t, rfl⟩ := x; exact ⟨_, .str _ t⟩
  | .tuple ds, p, v, c, r, x => by
    simp only [Rd] at r
    obtain ⟨l, rfl, r⟩ := r
    simp only [VR] at x
    obtain ⟨a, n, vs, rfl, s1, h1, h2⟩ := x
    obtain ⟨as, ra⟩ := Rds.reads m ds l vs.toList (by simpa [PyData.canLay0] using c) r h2
    exact ⟨_, .tuple h1 rfl rfl ra⟩
  | .list ds, p, v, c, r, x => by
    simp only [Rd] at r
    obtain ⟨a, l, rfl, e, r⟩ := r
    simp only [VR] at x
    subst x
    obtain ⟨vs, n, h1, h2⟩ := m.list e
    obtain ⟨as, ra⟩ := Rds.reads m ds l vs.toList (by simpa [PyData.canLay0] using c) r h2
    exact ⟨_, .list h1 rfl rfl ra⟩
  | .dict ds, p, v, c, r, x => r.elim
theorem Rds.reads {h : Heap} (m : Sim C σ h) : ∀ (ds : List PyData) (l : List PV) (vs : List Value), PyData.canLayAll0 ds = true → Rds σ ds l → VRs C σ h l vs → ∃ as, ReadsAll h vs ds as
  | [], l, vs, _, r, x => by simp only [Rds] at r; subst r; simp only [VRs] at x; subst x; exact ⟨_, .nil⟩
  | d :: ds, l, vs, c, r, x => by
    simp only [Rds] at r
    obtain ⟨p, ps, rfl, r1, r2⟩ := r
    simp only [VRs] at x
    obtain ⟨v, vs', rfl, x1, x2⟩ := x
    have c' : d.canLay0 = true ∧ PyData.canLayAll0 ds = true := by simpa [PyData.canLayAll0] using c
    obtain ⟨as, ra⟩ := Rd.reads m d p v c'.1 r1 x1
    obtain ⟨bs, rb⟩ := Rds.reads m ds ps vs' c'.2 r2 x2
    exact ⟨_, .cons ra rb⟩
end

theorem canLayAll_of : ∀ {ds : List PyData}, (∀ d ∈ ds, d.canLay0 = true) → PyData.canLayAll0 ds = true
  | [], _ => rfl
  | d :: ds, h => by simp only [PyData.canLayAll0, h d (.head _), canLayAll_of fun x hx => h x (.tail _ hx), Bool.and_self]
theorem depthAll_of {n : Nat} : ∀ {ds : List PyData}, (∀ d ∈ ds, d.depth ≤ n) → PyData.depthAll ds ≤ n
  | [], _ => by simp [PyData.depthAll]
  | d :: ds, h => by
    have := h d (.head _)
    have := depthAll_of fun x hx => h x (.tail _ hx)
    simp only [PyData.depthAll]
    omega

theorem VP.bool {S : Addr → Prop} {b : Bool} {K : Bool → PH → Prop} (m : Sim C σ s.heap) (q : K b σ) : VP C S σ s (fun v σ' => ∃ b, v = .bool b ∧ K b σ') (.bool b) s :=
  VP.here m rfl (Rest.refl s) vr_bool ⟨b, rfl, q⟩

theorem eqv_int (x y : Int) : PyData.eqv (.int x) (.int y) = decide (x = y) := by
  simp only [PyData.eqv]
  by_cases h : x = y
  · subst h; simp
  · simp [h]
theorem ofString_beq (x y : String) : (Str.ofString x == Str.ofString y) = decide (x = y) := by
  by_cases h : x = y
  · subst h; simp
  · have : Str.ofString x ≠ Str.ofString y := fun e => h (ofString_inj e)
    simp [h, this]

/-- two values compared, as data -/
theorem weq_data {a b : PV} {K : Bool → PH → Prop} (w : weq a b σ K) : ∃ c d, Rd σ c a ∧ Rd σ d b ∧ okD c ∧ okD d ∧ K (PyData.eqv c d) σ := by
  unfold weq at w
  split at w
  · exact ⟨.int _, .int _, rfl, rfl, ⟨rfl, Nat.zero_le _⟩, ⟨rfl, Nat.zero_le _⟩, by rw [eqv_int]; exact w⟩
  · exact ⟨.bool _, .bool _, rfl, rfl, ⟨rfl, Nat.zero_le _⟩, ⟨rfl, Nat.zero_le _⟩, by simpa [PyData.eqv] using w⟩
  · rename_i x y
    have ok : ∀ z : String, okD (.str (Str.ofString z)) := fun z => by
      refine ⟨?_, Nat.zero_le _⟩
      simp only [PyData.canLay0, PyData.strOk, Str.ofString_eq_toList]
      simp only [List.all_toArray', List.all_map, List.all_eq_true, Function.comp]
      intro c _
      have := c.valid
      have h2 : c.toNat < 0x110000 := by
        rcases this with h | h
        · have : c.val.toNat < 0xD800 := h
          show c.val.toNat < _
          omega
        · exact h.2
      simpa using h2
    exact ⟨.str _, .str _, ⟨x, rfl, rfl⟩, ⟨y, rfl, rfl⟩, ok x, ok y, by simp only [PyData.eqv, ofString_beq]; exact w⟩
  · exact w

theorem cmp_ok {op : COp} {o : CmpOp} (ho : mC op o = true) {a b : PV} {va vb : Value} {K : Bool → PH → Prop} (m : Sim C σ s.heap) (hu : A.units + 100 < cLine) (ra : VR C σ s.heap a va) (rb : VR C σ s.heap b vb) (w : wcmp op a b σ K) :
    wpAny (Mo C) A (compareOp o va vb) (VP C none1 σ s fun v σ' => ∃ b, v = .bool b ∧ K b σ') Er s := by
  cases op with
  | eq =>
    cases (of_decide_eq_true ho)
    obtain ⟨c, d, r1, r2, k1, k2, w⟩ := weq_data w
    obtain ⟨as, q1⟩ := Rd.reads m c a va k1.1 r1 ra
    obtain ⟨bs, q2⟩ := Rd.reads m d b vb k2.1 r2 rb
    have := k1.2
    exact SeqAt.compareEq_reads q1 q2 k1.1 k2.1 (by omega) (VP.bool m w)
  | ne =>
    cases (of_decide_eq_true ho)
    obtain ⟨c, d, r1, r2, k1, k2, w⟩ := weq_data (K := fun r σ => K (!r) σ) w
    obtain ⟨as, q1⟩ := Rd.reads m c a va k1.1 r1 ra
    obtain ⟨bs, q2⟩ := Rd.reads m d b vb k2.1 r2 rb
    have := k1.2
    exact SeqAt.compareNe_shaped q1 q2 (by simp [SeqAt.shaped, k1.1]; omega) (by simp [SeqAt.shaped, k2.1]; have := k2.2; omega) (by omega) (VP.bool m w)
  | lt =>
    cases (of_decide_eq_true ho)
    simp only [wcmp] at w
    split at w
    · obtain ⟨t, rfl⟩ := ra; obtain ⟨u, rfl⟩ := rb
      exact P.lt_int (VP.bool m w)
    · exact w.elim
  | le =>
    cases (of_decide_eq_true ho)
    simp only [wcmp] at w
    split at w
    · obtain ⟨t, rfl⟩ := ra; obtain ⟨u, rfl⟩ := rb
      exact P.le_int (VP.bool m w)
    · exact w.elim
  | gt =>
    cases (of_decide_eq_true ho)
    simp only [wcmp] at w
    split at w
    · obtain ⟨t, rfl⟩ := ra; obtain ⟨u, rfl⟩ := rb
      exact P.gt_int (VP.bool m w)
    · exact w.elim
  | ge =>
    cases (of_decide_eq_true ho)
    simp only [wcmp] at w
    split at w
    · obtain ⟨t, rfl⟩ := ra; obtain ⟨u, rfl⟩ := rb
      exact P.ge_int (VP.bool m w)
    · exact w.elim
  | in_ =>
    cases (of_decide_eq_true ho)
    simp only [wcmp, win] at w
    split at w
    · rename_i r
      split at w
      · rename_i l e
        obtain ⟨c, ds, r1, r2, k1, k2, w⟩ := w
        obtain ⟨as, q1⟩ := Rd.reads m c a va k1.1 r1 ra
        obtain ⟨bs, q2⟩ := Rd.reads m (.list ds) (.ref r) vb (by simpa [PyData.canLay0] using canLayAll_of fun d hd => (k2 d hd).1) ⟨r, l, rfl, e, r2⟩ rb
        have h1 := depthAll_of fun d hd => (k2 d hd).2
        exact SeqAt.in_list_reads q2 q1 (canLayAll_of fun d hd => (k2 d hd).1) k1.1 (by omega) (VP.bool m w)
      · exact w.elim
    · exact w.elim
  | nin =>
    cases (of_decide_eq_true ho)
    simp only [wcmp, win] at w
    split at w
    · rename_i r
      split at w
      · rename_i l e
        obtain ⟨c, ds, r1, r2, k1, k2, w⟩ := w
        obtain ⟨as, q1⟩ := Rd.reads m c a va k1.1 r1 ra
        obtain ⟨bs, q2⟩ := Rd.reads m (.list ds) (.ref r) vb (by simpa [PyData.canLay0] using canLayAll_of fun d hd => (k2 d hd).1) ⟨r, l, rfl, e, r2⟩ rb
        have h1 := depthAll_of fun d hd => (k2 d hd).2
        exact SeqAt.notIn_list_reads q2 q1 (canLayAll_of fun d hd => (k2 d hd).1) k1.1 (by omega) (VP.bool m w)
      · exact w.elim
    · exact w.elim
end
end Vl
end

section
open PySem
set_option linter.unusedVariables false
set_option linter.unusedSimpArgs false
namespace Vl

section
variable {C : Cx} {A : Around} {Er : Value → Shared → Prop} {σ : PH} {s : Shared} {Q : Post} {n : Nat} {fr : List Env}

/-- behind a walk: all that stood stands -/
theorem VP.kept {S : Addr → Prop} {p : PV} {v : Value} {s' : Shared} (m : Sim C σ s.heap) (k : ∀ b o, s.heap.get? b = some o → s'.heap.get? b = some o) (r : Rest s s') (hv : VR C σ s.heap p v) (q : Q p σ) : VP C S σ s Q v s' :=
  ⟨p, σ, hv.step (Step.more (S := none1) k), m.more k, .more k, r, q⟩
/-- behind a walk that made one list -/
theorem VP.keptNew {S : Addr → Prop} {o : PO} {ob : Obj} {a : Addr} {s' : Shared} (m : Sim C σ s.heap) (k : ∀ b o, s.heap.get? b = some o → s'.heap.get? b = some o) (r : Rest s s') (hn : s.heap.get? a = Option.none)
    (e : s'.heap.get? a = some ob) (hr : ∀ σ', Step S σ s.heap σ' s'.heap → OR C σ' s'.heap o ob) (q : wnew o σ Q) (ho : o.needs C.ok := by trivial) : VP C S σ s Q (.ref a) s' := by
  have hs : σ a = Option.none := by
    cases h : σ a with
    | none => rfl
    | some p => obtain ⟨ob, h1, _⟩ := m.objs a p h; rw [hn] at h1; cases h1
  have hb : C.B.get? a = Option.none := by
    cases h : C.B.get? a with
    | none => rfl
    | some p => have := m.base a p h; rw [hn] at this; cases this
  have st : Step S σ s.heap (σ.set a o) s'.heap := (Step.more k).add o hn hs
  exact ⟨.ref a, σ.set a o, rfl, m.add st (fun x o' e => let ⟨o1, h1, _⟩ := m.objs x o' e; (k _ _ h1).trans h1.symm) (fun b o e => k b o (m.base b o e)) e hb (hr _ st) ho, st, r, q a hs⟩

theorem newAddr (h : Heap) : h.get? h.objs.size = Option.none := by
  cases e : h.get? h.objs.size with
  | none => rfl
  | some x => exact absurd (Heap.lt_size e) (Nat.lt_irrefl _)

theorem VRs.ints {h : Heap} : ∀ {l : List PV} {is : List Int} {vs : List Value}, allInts l = some is → VRs C σ h l vs → ∀ (i : Nat) (v : Value), vs[i]? = some v → ∃ t, v = .int (is.getD i 0) t
  | [], is, vs, e, r, i, v, hv => by simp only [VRs] at r; subst r; simp at hv
  | .int k :: l, is, vs, e, r, i, v, hv => by
    simp only [allInts, Option.map_eq_some_iff] at e
    obtain ⟨js, e1, rfl⟩ := e
    simp only [VRs] at r
    obtain ⟨w, ws, rfl, r1, r2⟩ := r
    cases i with
    | zero => simp at hv; subst hv; simpa [VR] using r1
    | succ i => simp at hv; simpa using VRs.ints e1 r2 i v hv
  | .none :: l, is, vs, e, r, i, v, hv => by simp [allInts] at e
  | .bool b :: l, is, vs, e, r, i, v, hv => by simp [allInts] at e
  | .str b :: l, is, vs, e, r, i, v, hv => by simp [allInts] at e
  | .tup b :: l, is, vs, e, r, i, v, hv => by simp [allInts] at e
  | .ref b :: l, is, vs, e, r, i, v, hv => by simp [allInts] at e
  | .scr b :: l, is, vs, e, r, i, v, hv => by simp [allInts] at e
theorem allInts_length : ∀ {l : List PV} {is : List Int}, allInts l = some is → is.length = l.length
  | [], is, e => by simp [allInts] at e; subst e; rfl
  | .int k :: l, is, e => by
    simp only [allInts, Option.map_eq_some_iff] at e
    obtain ⟨js, e1, rfl⟩ := e
    simp [allInts_length e1]
  | .none :: l, is, e => by simp [allInts] at e
  | .bool b :: l, is, e => by simp [allInts] at e
  | .str b :: l, is, e => by simp [allInts] at e
  | .tup b :: l, is, e => by simp [allInts] at e
  | .ref b :: l, is, e => by simp [allInts] at e
  | .scr b :: l, is, e => by simp [allInts] at e
theorem VRs.bools {h : Heap} : ∀ {l : List PV} {is : List Bool} {vs : List Value}, allBools l = some is → VRs C σ h l vs → is.length = l.length ∧ ∀ (i : Nat) (v : Value), vs[i]? = some v → v = .bool (is.getD i false)
  | [], is, vs, e, r => by simp [allBools] at e; subst e; simp only [VRs] at r; subst r; simp
  | .bool k :: l, is, vs, e, r => by
    simp only [allBools, Option.map_eq_some_iff] at e
    obtain ⟨js, e1, rfl⟩ := e
    simp only [VRs] at r
    obtain ⟨w, ws, rfl, r1, r2⟩ := r
    obtain ⟨k1, k2⟩ := VRs.bools e1 r2
    refine ⟨by simp [k1], fun i v hv => ?_⟩
    cases i with
    | zero => simp at hv; subst hv; simpa [VR] using r1
    | succ i => simp at hv; simpa using k2 i v hv
  | .none :: l, is, vs, e, r => by simp [allBools] at e
  | .int b :: l, is, vs, e, r => by simp [allBools] at e
  | .str b :: l, is, vs, e, r => by simp [allBools] at e
  | .tup b :: l, is, vs, e, r => by simp [allBools] at e
  | .ref b :: l, is, vs, e, r => by simp [allBools] at e
  | .scr b :: l, is, vs, e, r => by simp [allBools] at e

theorem preSum_getD : ∀ (is : List Int) (n : Nat), n ≤ is.length → preSum (fun i => is.getD i 0) n = (is.take n).sum
  | is, 0, _ => by simp [preSum]
  | is, n + 1, h => by
    rw [preSum, preSum_getD is n (by omega), List.take_add_one, List.sum_append]
    have : is[n]? = some is[n] := List.getElem?_eq_getElem (by omega)
    simp [List.getD, this]
theorem range_all (bs : List Bool) : ((List.range bs.length).all fun i => bs.getD i false) = bs.all id := by
  rw [Bool.eq_iff_iff]
  simp only [List.all_eq_true, List.mem_range, id]
  constructor
  · intro h b hb
    obtain ⟨i, hi, rfl⟩ := List.getElem_of_mem hb
    have := h i hi
    simpa [List.getD, hi] using this
  · intro h i hi
    have := h bs[i] (List.getElem_mem hi)
    simpa [List.getD, hi] using this
theorem range_any (bs : List Bool) : ((List.range bs.length).any fun i => bs.getD i false) = bs.any id := by
  rw [Bool.eq_iff_iff]
  simp only [List.any_eq_true, List.mem_range, id]
  constructor
  · rintro ⟨i, hi, h⟩
    exact ⟨bs[i], List.getElem_mem hi, by simpa [List.getD, hi] using h⟩
  · rintro ⟨b, hb, h⟩
    obtain ⟨i, hi, rfl⟩ := List.getElem_of_mem hb
    exact ⟨i, hi, by simpa [List.getD, hi] using h⟩

/-- a list as the library's walks take it -/
theorem walk_list {l : Addr} {vs : Array Value} {k : Nat} {R : Value → Shared → Prop} (hl : s.heap.get? l = some (lstO vs k))
    (h : ∀ I, I = s.heap.objs.size → l ≠ I → (s.heap.push { cls := .type "list_iterator", data := .fields #[.ref l, .int 0 0] }).IsListIter I l 0 →
      (s.heap.push { cls := .type "list_iterator", data := .fields #[.ref l, .int 0 0] }).IsList l vs → R (.ref I) { s with heap := s.heap.push { cls := .type "list_iterator", data := .fields #[.ref l, .int 0 0] } }) :
    wpAny (Mo C) A (pyIter (.ref l)) R Er s :=
  wpAny_pyIter_list ⟨_, hl, rfl, k, rfl⟩ (h _ rfl (Nat.ne_of_lt (Heap.lt_size hl)) ⟨_, Heap.get?_push_size _ rfl, rfl, rfl⟩ ⟨_, Heap.get?_push_of_some _ hl, rfl, k, rfl⟩)

theorem sum_ok {a : Addr} {l : List PV} {is : List Int} (hh : A.handled = Option.none) (m : Sim C σ s.heap) (e : σ a = some (.list l)) (hi : allInts l = some is) (q : Q (.int is.sum) σ) :
    wpAny (Mo C) A (call (.builtin "sum") [.ref a]) (VP C none1 σ s Q) Er s := by
  obtain ⟨vs, k, h1, h2⟩ := m.list e
  refine call_sum_walkAnyS (walk_list h1 fun I hI hne hit hl => ?_)
  have hn : vs.size = is.length := by rw [allInts_length hi]; simpa using h2.length
  refine ⟨I, _, _, _, _, _, _, fun i => is.getD i 0, rfl, (Walks.list (prog := C.prog) (w := C.w) (A := A.in1) hh I a hne vs).toS, ⟨hit, hl⟩, ?_, ?_, fun s' t' mv => ?_⟩
  · intro b hb
    simp only [List.mem_cons, List.not_mem_nil, or_false] at hb
    rcases hb with rfl | rfl
    · rw [hI]; simp
    · show _ < (s.heap.push _).objs.size
      rw [Heap.size_push]; exact Nat.lt_succ_of_lt (Heap.lt_size h1)
  · intro i v hv
    exact VRs.ints hi h2 i v (by simpa using hv)
  · rw [hn, preSum_getD is _ (Nat.le_refl _), List.take_of_length_le (Nat.le_refl _)]
    refine VP.kept m (fun b o eb => mv.heap b o ?_ (Heap.get?_push_of_some _ eb)) ⟨mv.gens, mv.os⟩ (vr_int _) q
    simp only [List.mem_singleton]
    rintro rfl
    rw [hI, newAddr] at eb; cases eb

theorem all_ok {a : Addr} {l : List PV} {bs : List Bool} (hh : A.handled = Option.none) (m : Sim C σ s.heap) (e : σ a = some (.list l)) (hi : allBools l = some bs) (q : Q (.bool (bs.all id)) σ) :
    wpAny (Mo C) A (call (.builtin "all") [.ref a]) (VP C none1 σ s Q) Er s := by
  obtain ⟨vs, k, h1, h2⟩ := m.list e
  refine call_all_walk (walk_list h1 fun I hI hne hit hl => ?_)
  obtain ⟨b1, b2⟩ := VRs.bools hi h2
  have hn : vs.size = bs.length := by rw [b1]; simpa using h2.length
  refine ⟨I, _, _, _, _, _, fun i => bs.getD i false, rfl, Walks.list (prog := C.prog) (w := C.w) (A := A.in1) hh I a hne vs, ⟨hit, hl⟩, ?_, fun h' tk hk => ?_⟩
  · intro i v s' Q' E' hv hQ
    rw [b2 i v (by simpa using hv)]
    exact wpAny_truthy_bool hQ
  · rw [hn, range_all]
    refine VP.kept m (fun b o eb => hk b o ?_ (Heap.get?_push_of_some _ eb)) ⟨rfl, rfl⟩ vr_bool q
    simp only [List.mem_singleton]
    rintro rfl
    rw [hI, newAddr] at eb; cases eb

theorem any_ok {a : Addr} {l : List PV} {bs : List Bool} (hh : A.handled = Option.none) (m : Sim C σ s.heap) (e : σ a = some (.list l)) (hi : allBools l = some bs) (q : Q (.bool (bs.any id)) σ) :
    wpAny (Mo C) A (call (.builtin "any") [.ref a]) (VP C none1 σ s Q) Er s := by
  obtain ⟨vs, k, h1, h2⟩ := m.list e
  refine call_any_walk (walk_list h1 fun I hI hne hit hl => ?_)
  obtain ⟨b1, b2⟩ := VRs.bools hi h2
  have hn : vs.size = bs.length := by rw [b1]; simpa using h2.length
  refine ⟨I, _, _, _, _, _, fun i => bs.getD i false, rfl, Walks.list (prog := C.prog) (w := C.w) (A := A.in1) hh I a hne vs, ⟨hit, hl⟩, ?_, fun h' tk hk => ?_⟩
  · intro i v s' Q' E' hv hQ
    rw [b2 i v (by simpa using hv)]
    exact wpAny_truthy_bool hQ
  · rw [hn, range_any]
    refine VP.kept m (fun b o eb => hk b o ?_ (Heap.get?_push_of_some _ eb)) ⟨rfl, rfl⟩ vr_bool q
    simp only [List.mem_singleton]
    rintro rfl
    rw [hI, newAddr] at eb; cases eb

theorem len_ok {p : PV} {v : Value} {k : Nat} (m : Sim C σ s.heap) (r : VR C σ s.heap p v) (e : plen σ p = some k) (hk : k ≤ lim) (q : Q (.int k) σ) :
    wpAny (Mo C) A (call (.builtin "len") [v]) (VP C none1 σ s Q) Er s := by
  have hk' : k ≤ 1000000 := hk
  unfold plen at e
  split at e
  · rename_i a
    simp only [VR] at r
    subst r
    split at e
    · rename_i l hl
      cases e
      obtain ⟨vs, j, h1, h2⟩ := m.list hl
      have hn : vs.size = l.length := by simpa using h2.length
      refine Calls.call_len_list ⟨_, h1, rfl, j, rfl⟩ (by rw [hn]; omega) ?_
      rw [hn]
      exact VP.here m rfl ⟨rfl, rfl⟩ (vr_int _) q
    · cases e
  · rename_i l
    cases e
    simp only [VR] at r
    obtain ⟨a, j, vs, rfl, s1, h1, h2⟩ := r
    have hn : vs.size = l.length := by simpa using h2.length
    refine P.len_tuple h1 (by rw [hn]; omega) ?_
    rw [hn]
    exact VP.here m rfl ⟨rfl, rfl⟩ (vr_int _) q
  · rename_i l
    cases e
    simp only [VR] at r
    obtain ⟨a, o, j, vs, rfl, h1, h2, h3, hn, _⟩ := r
    refine Calls.call_len_list ⟨_, m.base _ _ h1, h2, j, h3⟩ (by rw [hn]; omega) ?_
    rw [hn]
    exact VP.here m rfl ⟨rfl, rfl⟩ (vr_int _) q
  · cases e

theorem list_ok {T : String} {a : Addr} {vs : Array Value} {k : Nat} {l : List PV} (hT : T = "list" ∨ T = "tuple") (m : Sim C σ s.heap) (h1 : s.heap.get? a = some { cls := .type T, data := .seq vs k }) (h2 : VRs C σ s.heap l vs.toList)
    (hz : Okl l) (q : wnew (.list l) σ Q) : wpAny (Mo C) A (call (.type "list") [.ref a]) (VP C none1 σ s Q) Er s := by
  have hn : vs.size = l.length := by simpa using h2.length
  have hz' : l.length ≤ 1000000 := hz
  refine call_list_seq a hT h1 rfl rfl (fun h' c' hk e => ?_) (by simp [sizeLine]; omega)
  exact VP.keptNew (o := .list l) m hk ⟨rfl, rfl⟩ (newAddr _) e (fun σ' st => ⟨vs, c', rfl, h2.step st⟩) q

theorem tuple_ok {a : Addr} {l : List PV} (m : Sim C σ s.heap) (e : σ a = some (.list l)) (hz : Okl l) (q : Q (.tup l) σ) : wpAny (Mo C) A (call (.type "tuple") [.ref a]) (VP C none1 σ s Q) Er s := by
  obtain ⟨vs, k, h1, h2⟩ := m.list e
  have hn : vs.size = l.length := by simpa using h2.length
  have hz' : l.length ≤ 1000000 := hz
  refine call_tuple_list ⟨_, h1, rfl, k, rfl⟩ (fun h' hk => ?_) (by simp [sizeLine]; omega)
  have k2 : ∀ b o, s.heap.get? b = some o → (h'.push (tupO vs 0)).get? b = some o := fun b o eb => Heap.get?_push_of_some _ (hk b o eb)
  have hsA : σ h'.objs.size = Option.none := (m.more hk).fresh (Nat.le_refl _)
  refine ⟨.tup l, σ, ?_, m.more k2, .more k2, ⟨rfl, rfl⟩, q⟩
  simp only [VR]
  exact ⟨_, 0, vs, rfl, hsA, Heap.get?_push_size _ rfl, h2.step (Step.more (S := none1) k2)⟩
end
end Vl
end

section
open PySem
set_option linter.unusedVariables false
set_option linter.unusedSimpArgs false
namespace Vl

/-- the built-in types that are asked for -/
noncomputable def bty : List String := ["int", "bool", "list", "tuple", "dict"]

section
variable {C : Cx} {A : Around} {Er : Value → Shared → Prop} {σ : PH} {s : Shared} {Q : Post} {n : Nat} {fr : List Env}

theorem sub_NoneType {T : String} (h : T ∈ bty) : isSubtype (.type "NoneType") (.type T) = pure false := by
  rw [isSubtype_type]
  simp only [bty, List.mem_cons, List.not_mem_nil, or_false] at h
  rcases h with rfl | rfl | rfl | rfl | rfl <;> kernel_rfl
theorem sub_str {T : String} (h : T ∈ bty) : isSubtype (.type "str") (.type T) = pure false := by
  rw [isSubtype_type]
  simp only [bty, List.mem_cons, List.not_mem_nil, or_false] at h
  rcases h with rfl | rfl | rfl | rfl | rfl <;> kernel_rfl
theorem sub_int {T : String} (h : T ∈ bty) : isSubtype (.type "int") (.type T) = pure (decide (T = "int")) := by
  rw [isSubtype_type]
  simp only [bty, List.mem_cons, List.not_mem_nil, or_false] at h
  rcases h with rfl | rfl | rfl | rfl | rfl <;> kernel_rfl
theorem sub_bool {T : String} (h : T ∈ bty) : isSubtype (.type "bool") (.type T) = pure (decide (T = "bool") || decide (T = "int")) := by
  rw [isSubtype_type]
  simp only [bty, List.mem_cons, List.not_mem_nil, or_false] at h
  rcases h with rfl | rfl | rfl | rfl | rfl <;> kernel_rfl
theorem sub_list {T : String} (h : T ∈ bty) : isSubtype (.type "list") (.type T) = pure (decide (T = "list")) := by
  rw [isSubtype_type]
  simp only [bty, List.mem_cons, List.not_mem_nil, or_false] at h
  rcases h with rfl | rfl | rfl | rfl | rfl <;> kernel_rfl
theorem sub_tuple {T : String} (h : T ∈ bty) : isSubtype (.type "tuple") (.type T) = pure (decide (T = "tuple")) := by
  rw [isSubtype_type]
  simp only [bty, List.mem_cons, List.not_mem_nil, or_false] at h
  rcases h with rfl | rfl | rfl | rfl | rfl <;> kernel_rfl
theorem meta_bty {T : String} (h : T ∈ bty) : typeOf (.type T) = pure (.type "type") := by
  simp only [bty, List.mem_cons, List.not_mem_nil, or_false] at h
  rcases h with rfl | rfl | rfl | rfl | rfl <;> kernel_rfl

theorem beq_type_ne {T U : String} (h : U ≠ T) : (Value.type T == Value.type U) = false := by
  have : Value.type T ≠ Value.type U := fun e => h (by injection e with e; exact e.symm)
  simpa using this

theorem isi_ok {G : Gx} {p : PV} {v : Value} {T : String} {b : Bool} (hT : T ∈ bty) (m : Sim C σ s.heap) (r : VR C σ s.heap p v) (hb : isiV G σ p [T] = some b) (he : ∀ a c, p = .ref a → σ a ≠ some (.exc c)) (q : Q (.bool b) σ) :
    wpAny (Mo C) A (call (.builtin "isinstance") [v, .type T]) (VP C none1 σ s Q) Er s := by
  have fin : ∀ tk, VP C none1 σ s Q (.bool b) { s with toks := tk } := fun tk => VP.here m rfl ⟨rfl, rfl⟩ vr_bool q
  cases p with
  | none =>
    simp only [VR] at r; subst r
    simp only [isiV, Option.some.injEq] at hb; subst hb
    have ne : T ≠ "NoneType" := by rintro rfl; exact absurd hT (by decide)
    exact call_isinstance (S := fun _ R s => (fun s : Shared => s.TypeIs .none "NoneType") s ∧ ∀ tk', R (.ok (.ret (.bool false))) { s with toks := tk' })
      (fun _ _ _ _ _ hs => isinstance_outer (Answers.of_false_none (beq_type_ne ne) (meta_bty hT) (sub_NoneType hT) 0 0 _ _ _ _ _ hs)) ⟨rfl, fin⟩
  | str x =>
    simp only [VR] at r; obtain ⟨t, rfl⟩ := r
    simp only [isiV, Option.some.injEq] at hb; subst hb
    have ne : T ≠ "str" := by rintro rfl; exact absurd hT (by decide)
    exact call_isinstance (isinstance_false_str (beq_type_ne ne) (meta_bty hT) (sub_str hT)) (fin _)
  | int i =>
    simp only [VR] at r; obtain ⟨t, rfl⟩ := r
    simp only [isiV, Option.some.injEq, List.contains_cons, List.contains_nil, Bool.or_false] at hb
    by_cases h : T = "int"
    · subst h
      have : b = true := by rw [← hb]; decide
      subst this
      exact call_isinstance (isinstance_true (meta_bty hT) (by rw [sub_int hT]; rfl)) ⟨typeIs_int _ _ _, fin _⟩
    · have : b = false := by rw [← hb]; simpa using fun e => h e.symm
      subst this
      exact call_isinstance (isinstance_false_int (beq_type_ne h) (meta_bty hT) (by rw [sub_int hT]; simp [h])) (fin _)
  | bool x =>
    simp only [VR] at r; subst r
    simp only [isiV, Option.some.injEq, List.contains_cons, List.contains_nil, Bool.or_false] at hb
    by_cases h : T = "bool" ∨ T = "int"
    · have : b = true := by rw [← hb]; rcases h with rfl | rfl <;> decide
      subst this
      exact call_isinstance (isinstance_true (Tx := "bool") (meta_bty hT) (by rw [sub_bool hT]; rcases h with rfl | rfl <;> rfl)) ⟨rfl, fin _⟩
    · have h1 : T ≠ "bool" := fun e => h (.inl e)
      have h2 : T ≠ "int" := fun e => h (.inr e)
      have : b = false := by rw [← hb]; simp [Ne.symm h1, Ne.symm h2]
      subst this
      exact call_isinstance (isinstance_false_bool (beq_type_ne h1) (meta_bty hT) (by rw [sub_bool hT]; simp [h1, h2])) (fin _)
  | tup l =>
    simp only [VR] at r; obtain ⟨a, k, vs, rfl, _, h1, _⟩ := r
    simp only [isiV, Option.some.injEq, List.contains_cons, List.contains_nil, Bool.or_false] at hb
    by_cases h : T = "tuple"
    · subst h
      have : b = true := by rw [← hb]; decide
      subst this
      exact call_isinstance (isinstance_true (Tx := "tuple") (meta_bty hT) (by rw [sub_tuple hT]; rfl)) ⟨⟨_, h1, rfl⟩, fin _⟩
    · have : b = false := by rw [← hb]; simpa using fun e => h e.symm
      subst this
      exact call_isinstance (isinstance_false_tuple (beq_type_ne h) (meta_bty hT) (by rw [sub_tuple hT]; simp [h])) ⟨⟨_, h1, rfl⟩, fin _⟩
  | ref a =>
    simp only [VR] at r; subst r
    simp only [isiV] at hb
    split at hb
    · rename_i l hl
      simp only [Option.some.injEq, List.contains_cons, List.contains_nil, Bool.or_false] at hb
      obtain ⟨vs, k, h1, _⟩ := m.list hl
      by_cases h : T = "list"
      · subst h
        have : b = true := by rw [← hb]; decide
        subst this
        exact call_isinstance (isinstance_true (Tx := "list") (meta_bty hT) (by rw [sub_list hT]; rfl)) ⟨⟨_, h1, rfl⟩, fin _⟩
      · have : b = false := by rw [← hb]; simpa using fun e => h e.symm
        subst this
        exact call_isinstance (isinstance_false_list (beq_type_ne h) (meta_bty hT) (by rw [sub_list hT]; simp [h])) ⟨⟨_, h1, rfl⟩, fin _⟩
    · rename_i c hl; exact absurd hl (he a c rfl)
    · cases hb
  | scr l => simp [isiV] at hb

end
end Vl
end

section
open PySem
set_option linter.unusedVariables false
set_option linter.unusedSimpArgs false
namespace Vl

theorem place_idx {n : Nat} {k : Int} {j : Nat} (h : place n k = some j) : seqIndex? k n = some j ∧ j < n := by
  unfold place at h
  unfold seqIndex?
  split at h
  · rename_i h0
    split at h
    · rename_i h1
      cases h
      refine ⟨?_, by omega⟩
      simp only [show ¬ k < 0 by omega, if_false]
      rw [if_pos (by simp only [Bool.and_eq_true, decide_eq_true_eq]; omega)]
    · cases h
  · rename_i h0
    split at h
    · rename_i h1
      cases h
      refine ⟨?_, by omega⟩
      simp only [show k < 0 by omega, if_true]
      rw [if_pos (by simp only [Bool.and_eq_true, decide_eq_true_eq]; omega)]
    · cases h
theorem place_bd {n : Nat} {k : Int} {j : Nat} (h : place n k = some j) : -(n : Int) ≤ k ∧ k < n := by
  unfold place at h
  split at h <;> split at h <;> first | omega | cases h

theorem place_pos {n : Nat} {k : Int} {j : Nat} (h0 : 0 ≤ k) (h : place n k = some j) : j = k.toNat := by
  unfold place at h
  rw [if_pos h0] at h
  split at h
  · cases h; rfl
  · cases h
theorem place_neg {n : Nat} {k : Int} {j : Nat} (h0 : ¬ 0 ≤ k) (h : place n k = some j) : j = (k + n).toNat := by
  unfold place at h
  rw [if_neg h0] at h
  split at h
  · cases h; rfl
  · cases h

section
variable {C : Cx} {A : Around} {Er : Value → Shared → Prop} {σ : PH} {s : Shared} {Q : Post} {n : Nat} {fr : List Env}

theorem ops_of (slice : Expr) (o i : Value) : ∃ ops, subscripted slice false o i = operate ops (getItem o i) := by
  cases slice with
  | Slice l u st p => cases st with
    | none => exact ⟨_, rfl⟩
    | some x => exact ⟨_, rfl⟩
  | _ => exact ⟨_, rfl⟩

theorem getItem_seqL {a : Addr} {vs : Array Value} {k : Int} {t : Tok} {j : Nat} {x : Value} {R : Value → Shared → Prop} (hl : s.heap.IsList a vs) (hz : vs.size ≤ 10000000) (hj : place vs.size k = some j) (hx : vs[j]? = some x) (h : R x s) :
    wpAny (Mo C) A (getItem (.ref a) (.int k t)) R Er s := by
  obtain ⟨b1, b2⟩ := place_bd hj
  by_cases h0 : 0 ≤ k
  · have e := place_pos h0 hj
    subst e
    exact wpAny_getItem_list hl h0 (by omega) hx h
  · have e := place_neg h0 hj
    subst e
    exact wpAny_getItem_list_neg hl (by omega) b1 (by omega) hx h

theorem sub_ok {value slice : Expr} {p : PV} {v : Value} {i : PV} {w : Value} {x : PV} (m : Sim C σ s.heap) (r : VR C σ s.heap p v) (ri : VR C σ s.heap i w) (e : psub σ p i = some x) (hz : ∀ k, plen σ p = some k → k ≤ 10000000)
    (q : Q x σ) : wpAny (Mo C) A (PyProof.Rows.subscriptTail value slice v w) (VP C none1 σ s Q) Er s := by
  cases p with
  | ref a =>
    simp only [VR] at r
    subst r
    simp only [psub] at e
    split at e
    · rename_i l k hl
      simp only [VR] at ri
      obtain ⟨t, rfl⟩ := ri
      obtain ⟨vs, n', h1, h2⟩ := m.list hl
      have hn : vs.size = l.length := by simpa using h2.length
      obtain ⟨j, hj, hx⟩ := Option.bind_eq_some_iff.mp e
      obtain ⟨v', e1, e2⟩ := h2.get j x hx
      obtain ⟨ops, ho⟩ := ops_of slice (.ref a) (.int k t)
      have hz' := hz l.length (by simp [plen, hl])
      exact PyProof.Rows.tail_any (T := "list") ⟨_, h1, rfl⟩ slot_list_getitem.lookup
        (getItem_seqL ⟨_, h1, rfl, n', rfl⟩ (by omega) (by rw [hn]; exact hj) (by simpa using e1) (VP.here m rfl (Rest.refl s) e2 q)) ho
    · cases e
  | tup l =>
    cases i with
    | int k =>
      simp only [psub] at e
      simp only [VR] at r
      obtain ⟨a, n', vs, rfl, s1, h1, h2⟩ := r
      simp only [VR] at ri
      obtain ⟨t, rfl⟩ := ri
      have hn : vs.size = l.length := by simpa using h2.length
      obtain ⟨j, hj, hx⟩ := Option.bind_eq_some_iff.mp e
      obtain ⟨v', e1, e2⟩ := h2.get j x hx
      obtain ⟨ops, ho⟩ := ops_of slice (.ref a) (.int k t)
      have hz' := hz l.length rfl
      obtain ⟨b1, b2⟩ := place_bd hj
      exact PyProof.Rows.tail_any (T := "tuple") ⟨_, h1, rfl⟩ F.slot_tuple_getitem.lookup
        (P.getItem_tuple h1 (by omega) (by omega) (by rw [hn]; exact (place_idx hj).1) (by simpa using e1) (VP.here m rfl (Rest.refl s) e2 q)) ho
    | _ => simp [psub] at e
  | scr l =>
    cases i with
    | int k =>
      simp only [psub] at e
      simp only [VR] at r
      obtain ⟨a, o, n', vs, rfl, h1, h2, h3, hn, h4⟩ := r
      simp only [VR] at ri
      obtain ⟨t, rfl⟩ := ri
      obtain ⟨y, e', rfl⟩ := Option.map_eq_some_iff.mp e
      obtain ⟨j, hj, hx⟩ := Option.bind_eq_some_iff.mp e'
      obtain ⟨u, hu⟩ := h4 j y hx
      obtain ⟨ops, ho⟩ := ops_of slice (.ref a) (.int k t)
      have hz' := hz l.length rfl
      exact PyProof.Rows.tail_any (T := "list") ⟨_, m.base _ _ h1, h2⟩ slot_list_getitem.lookup
        (getItem_seqL ⟨_, m.base _ _ h1, h2, n', h3⟩ (by omega) (by rw [hn]; exact hj) hu (VP.here m rfl (Rest.refl s) (vr_int _) q)) ho
    | _ => simp [psub] at e
  | _ => simp [psub] at e

/-- an item of a list stored, the object known to the sign -/
theorem setItem_exact {l : Addr} {vs : Array Value} {n' : Nat} {k : Int} {t : Tok} {j : Nat} {v : Value} {R : Unit → Shared → Prop} (hl : s.heap.get? l = some (lstO vs n')) (hz : vs.size ≤ 10000000) (hj : place vs.size k = some j)
    (h : R () { s with heap := s.heap.update l (Obj.mapSeq (·.setIfInBounds j v)) }) : wpAny (Mo C) A (setItem (.ref l) (.int k t) v) R Er s := by
  have hT : s.TypeIs (.ref l) "list" := ⟨_, hl, rfl⟩
  obtain ⟨b1, b2⟩ := place_bd hj
  obtain ⟨hidx, hjlt⟩ := place_idx hj
  have hx : vs[j]? = some vs[j] := Array.getElem?_eq_getElem hjlt
  have hfit : Builtin.List.listFitsIndex k = true := by
    unfold Builtin.List.listFitsIndex
    simp only [Bool.and_eq_true, decide_eq_true_eq]
    omega
  unfold setItem
  try with_reducible refine wpAny_holding ?_
  first | refine wpAny_bind (wpAny_pure ?_) | skip
  refine wpAny_bind (wpAny_sequenceKey hT (by decide) ?_)
  refine wpAny_bind (wpAny_callSpecial?_slot (name := Str.ofString "__setitem__") hT slot_list_setitem
    (wpAny_call_entry slot_list_setitem hT entry_list_setitem ?_ (args_list_setitem _ _ _)))
  show wpAny _ _ (Builtin.List.listSubscript? (.int k t) >>= _) _ _ s
  refine wpAny_bind (wpAny_listSubscript_int hfit ?_)
  have fin : wpAny (Mo C) A.in1.in1 (setSeqItemAt l j v >>= fun _ => ret .none) (fun f s' => ∃ w, f = .done (.ret w) ∧ wpAny (Mo C) A (pure ()) R Er s') Er s :=
    wpAny_bind (wpAny_setSeqItemAt hl rfl (wpAny_pure ⟨.none, rfl, wpAny_pure h⟩))
  clear hfit
  cases k with
  | ofNat i =>
    have hji : j = i := place_pos (Int.natCast_nonneg i) hj
    subst hji
    show wpAny _ _ ((seqItemAt l j >>= fun r => pure (r.map (j, ·))) >>= _) _ _ s
    refine wpAny_bind (wpAny_bind (wpAny_seqItemAt hl rfl (wpAny_pure ?_)))
    rw [hx]
    show wpAny _ _ (setSeqItemAt l j v >>= _) _ _ s
    refine wpAny_bind (wpAny_setSeqItemAt hl rfl ?_)
    first
      | exact wpAny_bind (wpAny_pure (wpAny_pure ⟨.none, rfl, wpAny_pure h⟩))
      | exact wpAny_pure ⟨.none, rfl, wpAny_pure h⟩
  | negSucc i =>
    show wpAny _ _ ((Builtin.List.listItems (.ref l) >>= fun xs => pure ((seqIndex? (Int.negSucc i) xs.size).bind fun i => xs[i]?.map (i, ·))) >>= _) _ _ s
    refine wpAny_bind (wpAny_bind ?_)
    show wpAny _ _ (seqItems? (.ref l) >>= _) _ _ s
    refine wpAny_bind (wpAny_seqItems hl rfl (wpAny_pure (wpAny_pure ?_)))
    rw [hidx]
    simp only [Option.bind_some, hx, Option.map_some]
    refine wpAny_bind (wpAny_setSeqItemAt hl rfl ?_)
    first
      | exact wpAny_bind (wpAny_pure (wpAny_pure ⟨.none, rfl, wpAny_pure h⟩))
      | exact wpAny_pure ⟨.none, rfl, wpAny_pure h⟩

end
end Vl
end

section
open PySem
set_option linter.unusedVariables false
set_option linter.unusedSimpArgs false
namespace Vl

/-- an expression's end and its exceptions -/
abbrev EOK (C : Cx) (A : Around) (σ : PH) (s : Shared) (t : Sem Value) (Q : Post) (X : XPost) : Prop := wpAny (Mo C) A t (VP C none1 σ s Q) (XP C none1 σ s X) s
abbrev EOKs (C : Cx) (A : Around) (σ : PH) (s : Shared) (t : Sem (List Value)) (Q : List PV → PH → Prop) (X : XPost) : Prop := wpAny (Mo C) A t (VPs C none1 σ s Q) (XP C none1 σ s X) s

section
variable {C : Cx} {A : Around} {σ : PH} {s : Shared} {Q : Post} {X : XPost}

theorem EOK.then {t : Sem Value} {Q' : Post} {R : Value → Shared → Prop} (h : EOK C A σ s t Q' X)
    (k : ∀ v s1 p σ1, VR C σ1 s1.heap p v → Sim C σ1 s1.heap → Step none1 σ s.heap σ1 s1.heap → Rest s s1 → Q' p σ1 → R v s1) : wpAny (Mo C) A t R (XP C none1 σ s X) s :=
  VP.to h k fun _ _ x => x

/-- what follows an expression, told from its own start -/
theorem EOK.after {t : Sem Value} {σ₁ : PH} {s₁ : Shared} (st : Step none1 σ s.heap σ₁ s₁.heap) (r : Rest s s₁) (h : EOK C A σ₁ s₁ t Q X) : wpAny (Mo C) A t (VP C none1 σ s Q) (XP C none1 σ s X) s₁ :=
  wpAny_mono h (fun _ _ x => VP.from st r x) fun _ _ x => XP.from st r x
theorem EOKs.after {t : Sem (List Value)} {σ₁ : PH} {s₁ : Shared} {Q : List PV → PH → Prop} (st : Step none1 σ s.heap σ₁ s₁.heap) (r : Rest s s₁) (h : EOKs C A σ₁ s₁ t Q X) : wpAny (Mo C) A t (VPs C none1 σ s Q) (XP C none1 σ s X) s₁ :=
  wpAny_mono h (fun _ _ x => VPs.from st r x) fun _ _ x => XP.from st r x
end

section
variable {C : Cx} {G : Gx} {mg mb : Str → Option Value} {A : Around} {env : Env} {ρ : Rho} {σ : PH} {s : Shared} {Q : Post} {X : XPost}

theorem keywords_nil (pos : Pos) : backToKw pos (keywordEach [] env) = [] := rfl

noncomputable def plainArgs : List Expr → Bool
  | [] => true
  | .Starred .. :: _ => false
  | _ :: r => plainArgs r

theorem starEach_cons {e : Expr} {r : List Expr} (h : ∀ x p, e ≠ .Starred x p) : starEach (e :: r) env = (false, eval e env) :: starEach r env := by
  cases e <;> first | rfl | exact absurd rfl (h _ _)

theorem star_plain {pos : Pos} : ∀ {es : List Expr}, plainArgs es = true → (backTo pos (starEach es env)).any (·.1) = false
  | [], _ => rfl
  | e :: r, h => by
    have hne : ∀ x p, e ≠ .Starred x p := by rintro x p rfl; cases h
    have hr : plainArgs r = true := by cases e <;> first | exact h | cases h
    rw [starEach_cons hne]
    have := star_plain (pos := pos) hr
    simp only [backTo, List.map_cons, List.any_cons, Bool.false_or] at this ⊢
    exact this

/-- a callee and its arguments -/
theorem callWith_ok {pos : Pos} {f : Value} {first : List Value} {es : List Expr} {R : Value → Shared → Prop} {Er : Value → Shared → Prop} (kp : Kp C f) (hp : plainArgs es = true)
    (h : wpAny (Mo C) A (spliced (backTo pos (starEach es env))) (fun vs s₁ => (∀ b o, C.B.get? b = some o → s₁.heap.get? b = some o) ∧ wpAny (Mo C) A (call f (first ++ vs)) R Er s₁) Er s) :
    wpAny (Mo C) A (callWith pos f first (backTo pos (starEach es env)) (backToKw pos (keywordEach [] env))) R Er s := by
  obtain ⟨k, hk, L⟩ := kp
  refine W.callWith_of (P := fun h => ∀ b o, C.B.get? b = some o → h.get? b = some o) ?_ (fun h hb => ⟨k, hk, L.keeps hb⟩) ?_
  · rw [star_plain hp]; rfl
  · cases es with
    | nil =>
      show wpAny (Mo C) A (evalArgs f true [] []) _ _ s
      unfold evalArgs
      show wpAny (Mo C) A (spliced [] >>= _) _ _ s
      refine wpAny_bind (wpAny_mono h (fun vs s' h' => ?_) fun _ _ x => x)
      exact wpAny_bind (wpAny_pure (wpAny_holding (wpAny_bind (wpAny_pure (wpAny_bind (wpAny_pure (wpAny_pure h')))))))
    | cons e r =>
      have hne : ∀ x p, e ≠ .Starred x p := by rintro x p rfl; cases hp
      rw [starEach_cons hne] at h ⊢
      exact Calls.evalArgs_plain h
end

end Vl
end

section
open PySem
set_option linter.unusedVariables false
set_option linter.unusedSimpArgs false
namespace Vl

noncomputable def BI.val : BI → Value
  | .len => .builtin "len" | .all => .builtin "all" | .any => .builtin "any" | .sum => .builtin "sum" | .abs => .builtin "abs" | .int => .type "int" | .list => .type "list" | .tuple => .type "tuple"

theorem BI.kp (C : Cx) (b : BI) : Kp C b.val := by
  cases b <;> exact ⟨.machine, .inr (.inl rfl), W.Looks.of_pure rfl⟩
theorem BI.boot (b : BI) : bootBuiltins (Str.ofString b.nm) = some b.val := by
  cases b <;> decide +kernel
theorem BI.mem (b : BI) : b.nm ∈ ["len", "all", "any", "sum", "abs", "int", "list", "tuple", "dict", "isinstance", "range", "bool"] := by
  cases b <;> decide

section
variable {C : Cx} {A : Around} {Er : Value → Shared → Prop} {σ : PH} {s : Shared} {Q : Post}

theorem VRs.one {h : Heap} {p : PV} {vs : List Value} (r : VRs C σ h [p] vs) : ∃ v, vs = [v] ∧ VR C σ h p v := by
  simp only [VRs] at r
  obtain ⟨v, q, rfl, h1, rfl⟩ := r
  exact ⟨v, rfl, h1⟩
theorem VRs.two {h : Heap} {p q : PV} {vs : List Value} (r : VRs C σ h [p, q] vs) : ∃ v w, vs = [v, w] ∧ VR C σ h p v ∧ VR C σ h q w := by
  simp only [VRs] at r
  obtain ⟨v, q, rfl, h1, w, r, rfl, h2, rfl⟩ := r
  exact ⟨v, w, rfl, h1, h2⟩
theorem bi_ok {b : BI} {args : List PV} {vs : List Value} (hh : b.quiet = true ∨ A.handled = Option.none) (hu : A.units + 100 < cLine) (m : Sim C σ s.heap) (r : VRs C σ s.heap args vs) (w : wbi b args σ Q) :
    wpAny (Mo C) A (call b.val vs) (VP C none1 σ s Q) Er s := by
  have qu : b.quiet = false → A.handled = Option.none := fun h => hh.resolve_left (by rw [h]; exact Bool.false_ne_true)
  have ref1 : ∀ {a : Addr} {vs : List Value}, VRs C σ s.heap [.ref a] vs → vs = [.ref a] := fun r => by
    obtain ⟨v, rfl, rv⟩ := r.one
    simp only [VR] at rv; subst rv; rfl
  cases b with
  | len =>
    match args, w with
    | [p], w =>
      obtain ⟨v, rfl, rv⟩ := r.one
      have w : (match plen σ p with
        | some n => n ≤ lim ∧ Q (.int n) σ
        | Option.none => False) := w
      cases hk : plen σ p with
      | none => rw [hk] at w; exact w.elim
      | some k =>
        rw [hk] at w
        exact len_ok m rv hk w.1 w.2
  | all =>
    obtain ⟨a, l, rfl, hl, w⟩ := wLst_inv w
    obtain ⟨bs, hbs, w⟩ := oBs_inv w
    rw [ref1 r]; exact all_ok (qu rfl) m hl hbs w
  | any =>
    obtain ⟨a, l, rfl, hl, w⟩ := wLst_inv w
    obtain ⟨bs, hbs, w⟩ := oBs_inv w
    rw [ref1 r]; exact any_ok (qu rfl) m hl hbs w
  | sum =>
    obtain ⟨a, l, rfl, hl, w⟩ := wLst_inv w
    obtain ⟨bs, hbs, w⟩ := oIs_inv w
    rw [ref1 r]; exact sum_ok (qu rfl) m hl hbs w
  | abs =>
    match args, w with
    | [.int x], w =>
      obtain ⟨v, rfl, t, rfl⟩ := r.one
      exact PyProof.Rows.call_abs_int fun u tk => VP.here m rfl ⟨rfl, rfl⟩ (vr_int _) w
  | int =>
    match args, w with
    | [.bool x], w =>
      obtain ⟨v, rfl, rv⟩ := r.one
      simp only [VR] at rv; subst rv
      exact call_int_bool (VP.here m rfl ⟨rfl, rfl⟩ (vr_int _) w)
  | list =>
    match args, w with
    | [.tup l], w =>
      obtain ⟨v, rfl, rv⟩ := r.one
      simp only [VR] at rv
      obtain ⟨a, k, vs, rfl, s1, h1, h2⟩ := rv
      exact list_ok (.inr rfl) m h1 h2 w.1 w.2
    | [.ref a], w =>
      rw [ref1 r]
      obtain ⟨a', l, e, hl, w⟩ := wLst_inv (show wLst σ (fun l => wlist l σ Q) [.ref a] from w)
      cases e
      obtain ⟨vs, k, h1, h2⟩ := m.list hl
      exact list_ok (.inl rfl) m h1 h2 w.1 w.2
  | tuple =>
    match args, w with
    | [.tup l], w =>
      obtain ⟨v, rfl, rv⟩ := r.one
      have rv' := rv
      simp only [VR] at rv
      obtain ⟨a, k, vs, rfl, s1, h1, h2⟩ := rv
      exact call_tuple_same ⟨_, h1, rfl, k, rfl⟩ (VP.here m rfl (Rest.refl s) rv' w)
    | [.ref a], w =>
      rw [ref1 r]
      obtain ⟨a', l, e, hl, w⟩ := wLst_inv (show wLst σ (fun l => Okl l ∧ Q (.tup l) σ) [.ref a] from w)
      cases e
      exact tuple_ok m hl w.1 w.2
end
end Vl
end

section
open PySem
set_option linter.unusedVariables false
set_option linter.unusedSimpArgs false
namespace Vl

/-- nothing but F has moved -/
noncomputable def Mv (F : Addr → Prop) (h h' : Heap) : Prop := ∀ c o, ¬ F c → h.get? c = some o → h'.get? c = some o
/-- what may move: none of the tuples, none of the call's own things -/
noncomputable def Fok (C : Cx) (σ : PH) (h : Heap) (F : Addr → Prop) : Prop :=
  ∀ c, F c → C.B.get? c = Option.none ∧ ((σ c = Option.none ∧ ∀ vs n, h.get? c ≠ some (tupO vs n)) ∨ σ c = some .hid)

section
variable {C : Cx} {F : Addr → Prop} {σ : PH} {h h' : Heap}

theorem Mv.refl : Mv F h h := fun _ _ _ e => e
theorem Mv.trans {h'' : Heap} (x : Mv F h h') (y : Mv F h' h'') : Mv F h h'' := fun c o f e => y c o f (x c o f e)
theorem Mv.mono {F' : Addr → Prop} (x : Mv F h h') (k : ∀ c, F c → F' c) : Mv F' h h' := fun c o f e => x c o (fun q => f (k c q)) e

mutual
theorem VR.mv (mv : Mv F h h') (fo : Fok C σ h F) : ∀ (p : PV) (v : Value), VR C σ h p v → VR C σ h' p v
  | .none, _, e => by simpa only [VR] using e
  | .bool _, _, e => by simpa only [VR] using e
  | .int _, _, e => by simpa only [VR] using e
  | .str _, _, e => by simpa only [VR] using e
  | .ref _, _, e => by simpa only [VR] using e
  | .scr _, _, e => by simpa only [VR] using e
  | .tup l, v, e => by
    simp only [VR] at e ⊢
    obtain ⟨a, n, vs, e1, es, e2, e5⟩ := e
    refine ⟨a, n, vs, e1, es, mv a _ (fun f => ?_) e2, VRs.mv mv fo l _ e5⟩
    rcases (fo a f).2 with ⟨_, q⟩ | q
    · exact q vs n e2
    · rw [es] at q; cases q
theorem VRs.mv (mv : Mv F h h') (fo : Fok C σ h F) : ∀ (l : List PV) (vs : List Value), VRs C σ h l vs → VRs C σ h' l vs
  | [], _, e => by simpa only [VRs] using e
  | p :: ps, vs, e => by
    simp only [VRs] at e ⊢
    obtain ⟨v, r, e1, e2, e3⟩ := e
    exact ⟨v, r, e1, VR.mv mv fo p v e2, VRs.mv mv fo ps r e3⟩
end
theorem OR.mv (mv : Mv F h h') (fo : Fok C σ h F) : ∀ (p : PO) (o : Obj), OR C σ h p o → OR C σ h' p o
  | .list l, o, ⟨vs, n, e2, e3⟩ => ⟨vs, n, e2, VRs.mv mv fo _ _ e3⟩
  | .exc _, _, e => e
  | .hid, _, e => e

theorem Sim.mv (m : Sim C σ h) (mv : Mv F h h') (fo : Fok C σ h F) (hh : ∀ c, F c → σ c = some .hid → ∃ a b, h'.get? c = some (tupO #[a, b] 0)) : Sim C σ h' where
  base := fun b o e => mv b o (fun f => by have := (fo b f).1; rw [e] at this; cases this) (m.base b o e)
  new := m.new
  objs := fun a o e => by
    obtain ⟨ob, h1, h2⟩ := m.objs a o e
    by_cases f : F a
    · rcases (fo a f).2 with ⟨q, _⟩ | q
      · rw [q] at e; cases e
      · rw [q] at e; cases e
        obtain ⟨x, y, e'⟩ := hh a f q
        exact ⟨_, e', x, y, rfl⟩
    · exact ⟨ob, mv a ob f h1, h2.mv mv fo⟩
  rich := m.rich

/-- told from a start at which what has moved was not yet there -/
theorem Step.mv {S : Addr → Prop} {σ₀ : PH} {h₀ : Heap} (st : Step S σ₀ h₀ σ h) (mv : Mv F h h') (ff : ∀ c, F c → h₀.get? c = Option.none) : Step S σ₀ h₀ σ h' where
  keep := fun b o e s => by
    obtain ⟨s', o', e', l⟩ := st.keep b o e s
    exact ⟨s', o', mv b o' (fun f => by rw [ff b f] at e; cases e) e', l⟩
  grow := st.grow
  hid := st.hid
  live := fun b e => by
    by_cases f : F b
    · exact ff b f
    · refine st.live b ?_
      cases q : h.get? b with
      | none => rfl
      | some o => rw [mv b o f q] at e; cases e
/-- or that may change anyway -/
theorem Step.mvS {S : Addr → Prop} {σ₀ : PH} {h₀ : Heap} (st : Step S σ₀ h₀ σ h) (mv : Mv F h h') (ff : ∀ c, F c → h₀.get? c = Option.none ∨ (S c ∧ (∀ o, h₀.get? c = some o → ¬ isSeq o) ∧ ∃ o, h'.get? c = some o)) : Step S σ₀ h₀ σ h' where
  keep := fun b o e s => by
    obtain ⟨s', o', e', l⟩ := st.keep b o e s
    by_cases f : F b
    · rcases ff b f with q | ⟨q1, q2, o2, q3⟩
      · rw [q] at e; cases e
      · exact ⟨s', o2, q3, fun x => absurd (x q1) (q2 o e)⟩
    · exact ⟨s', o', mv b o' f e', l⟩
  grow := st.grow
  hid := st.hid
  live := fun b e => by
    by_cases f : F b
    · rcases ff b f with q | ⟨_, _, o2, q3⟩
      · exact q
      · rw [q3] at e; cases e
    · refine st.live b ?_
      cases q : h.get? b with
      | none => rfl
      | some o => rw [mv b o f q] at e; cases e

theorem EnvR.mv {env : Env} {ρ : Rho} (x : EnvR C env ρ σ h) (mv : Mv F h h') (fo : Fok C σ h F) (fl : ¬ F env.locals) (fc : ∀ y c, env.cells.lookup y = some c → ¬ F c) : EnvR C env ρ σ h' where
  fn := x.fn
  glob := x.glob
  blt := x.blt
  ns := by
    obtain ⟨mm, hn, hv⟩ := x.ns
    exact ⟨mm, Ns.like hn fun o e => ⟨o, mv _ o fl e, .refl o⟩, fun y p e1 e2 => let ⟨v, a, b⟩ := hv y p e1 e2; ⟨v, a, b.mv mv fo⟩⟩
  cell := fun y p e1 e2 => by
    obtain ⟨c, v, a, b, d⟩ := x.cell y p e1 e2
    exact ⟨c, v, a, IsCell.like b fun o e => ⟨o, mv _ o (fc y c a) e, .refl o⟩, d.mv mv fo⟩
  newL := x.newL
  newC := fun y c e => by
    obtain ⟨a, v, b⟩ := x.newC y c e
    exact ⟨a, v, IsCell.like b fun o e' => ⟨o, mv _ o (fc y c e) e', .refl o⟩⟩
  baseL := x.baseL
  baseC := x.baseC
  apart := x.apart
  hasC := x.hasC

theorem Frs.mv {l : List Env} (f : Frs C σ h l) (mv : Mv F h h') (ff : ∀ env ∈ l, ∀ L, env.frame = some L → ¬ F L) : Frs C σ h' l := fun env he => by
  obtain ⟨k, L, o, es, n, e1, e2, e3, e4, e5⟩ := f env he
  exact ⟨k, L, o, es, n, e1, e2, e3, mv L o (ff env he L e1) e4, e5⟩
theorem AOK.mv {n : Nat} {A : Around} {l : List Env} (x : AOK C n A l σ h) (mv : Mv F h h') (ff : ∀ env ∈ l, ∀ L, env.frame = some L → ¬ F L) : AOK C n A l σ h' :=
  ⟨x.depth, x.units, x.stack, x.frs.mv mv ff, x.calm⟩

theorem notSeq_fields {o : Obj} {vs : Array Value} (h : o.data = .fields vs) : ¬ isSeq o := fun ⟨xs, n, e⟩ => by rw [h] at e; cases e
theorem noTup_of {c : Addr} {o : Obj} (e : h.get? c = some o) (q : o.cls ≠ .type "tuple") : ∀ vs n, h.get? c ≠ some (tupO vs n) := fun vs n x => by rw [e] at x; cases x; exact q rfl
end

/-- what a loop goes over, as it stands in the heap -/
structure Src (C : Cx) (A : Around) (t : Expr) (I : Addr) (fp : List Addr) (xs : List PV) (chk : PH → Prop) (St : Nat → PH → Heap → Prop) : Prop where
  step : ∀ {i : Nat} {S : Addr → Prop} {σ : PH} {h : Heap} {σ' : PH} {h' : Heap}, St i σ h → Step S σ h σ' h' → (∀ b ∈ fp, ¬ S b) → St i σ' h'
  mv : ∀ {i : Nat} {F : Addr → Prop} {σ : PH} {h h' : Heap}, St i σ h → Mv F h h' → Fok C σ h F → (∀ b ∈ fp, ¬ F b) → St i σ h'
  fok : ∀ {i : Nat} {σ : PH} {h : Heap}, St i σ h → Fok C σ h (· ∈ fp)
  item : ∀ {i : Nat} {x : PV} {σ : PH} {s : Shared} {R : Option Value → Shared → Prop} {Er : Value → Shared → Prop}, xs[i]? = some x → Sim C σ s.heap → chk σ → St i σ s.heap →
    (∀ v s1, (∀ (K : Unit → Shared → Prop) (Er' : Value → Shared → Prop), (∀ s2, VR C σ s2.heap x v → Sim C σ s2.heap → Mv (· ∈ fp) s.heap s2.heap → St (i + 1) σ s2.heap → Rest s s2 → K () s2) →
      wpAny (Mo C) A (letOwnedTupleGo t (.ref I) v) K Er' s1) → R (some v) s1) → wpAny (Mo C) A (pyNext (.ref I)) R Er s
  done : ∀ {σ : PH} {s : Shared} {R : Option Value → Shared → Prop} {Er : Value → Shared → Prop}, Sim C σ s.heap → chk σ → St xs.length σ s.heap →
    (∀ s2, Sim C σ s2.heap → Mv (· ∈ fp) s.heap s2.heap → Rest s s2 → R Option.none s2) → wpAny (Mo C) A (pyNext (.ref I)) R Er s
  self : ∀ {i : Nat} {σ : PH} {s : Shared} {R : Value → Shared → Prop} {Er : Value → Shared → Prop}, St i σ s.heap → R (.ref I) s → wpAny (Mo C) A (pyIter (.ref I)) R Er s

section
variable {C : Cx} {A : Around} {σ : PH} {h h' : Heap}

theorem letOwned_other {t : Expr} {I : Addr} {v : Value} {o : Obj} {n : String} {s : Shared} {K : Unit → Shared → Prop} {Er : Value → Shared → Prop} (ho : s.heap.get? I = some o) (hc : o.cls = .type n)
    (hn : ["enumerate", "zip", "dict_itemiterator", "dict_reverseitemiterator", "odict_iterator", "itertools.zip_longest", "itertools.pairwise"].contains n = false) (h : K () s) :
    wpAny (Mo C) A (letOwnedTupleGo t (.ref I) v) K Er s := by
  have key : wpAny (Mo C) A (do
      let (.ref r, .ref a) := (Value.ref I, v) | return
      let o ← load r
      match o.cls, o.data with
      | .type n, .fields vs =>
        if ["enumerate", "zip", "dict_itemiterator", "dict_reverseitemiterator", "odict_iterator", "itertools.zip_longest", "itertools.pairwise"].contains n && vs[0]? == some (rawInt a) then
          rule "for.unpacks-the-owned-tuple"
          updateField r 0 .none
      | _, _ => pure ()) K Er s := by
    cases v with
    | ref a =>
      refine wpAny_bind (wpAny_load ho ?_)
      rw [hc]
      cases hd : o.data with
      | fields vs =>
        dsimp only
        rw [hn]
        simp only [Bool.false_and, Bool.false_eq_true, if_false]
        exact wpAny_pure h
      | _ => exact wpAny_pure h
    | _ => exact wpAny_pure h
  cases t with
  | Tuple a b c => exact key
  | List a b => exact key
  | _ => exact wpAny_pure h

theorem fok_one {I : Addr} (hb : C.B.get? I = Option.none) (h1 : σ I = Option.none) {o : Obj} (e : h.get? I = some o) (q : o.cls ≠ .type "tuple") : Fok C σ h (· ∈ [I]) := fun c f => by
  have f := List.mem_singleton.mp f; subst f
  exact ⟨hb, .inl ⟨h1, noTup_of e q⟩⟩
theorem mv_one {I : Addr} (k : Heap.ExtBut I h h') : Mv (· ∈ [I]) h h' := fun c o f e => k c o (fun q => f (List.mem_singleton.mpr q)) e
theorem hid_one {I : Addr} (h1 : σ I = Option.none) : ∀ c, c ∈ [I] → σ c = some .hid → ∃ a b, h'.get? c = some (tupO #[a, b] 0) := fun c f q => by
  rw [List.mem_singleton] at f; subst f; rw [h1] at q; cases q

theorem Src.list (hh : A.handled = Option.none) (t : Expr) (I a : Addr) (l : List PV) :
    Src C A t I [I] l (fun σ => σ a = some (.list l)) (fun i σ h => σ I = Option.none ∧ C.B.get? I = Option.none ∧ h.IsListIter I a i) where
  step := fun ⟨h1, hb, o, h2, h3, h4⟩ st hS => by
    obtain ⟨k1, o', k2, k3⟩ := st.keep _ o h2 h1
    have lk := k3 fun x => absurd x (hS _ (.head _))
    exact ⟨k1, hb, o', k2, lk.1.trans h3, lk.2.2.1.trans h4⟩
  mv := fun ⟨h1, hb, o, h2, h3⟩ mv fo hf => ⟨h1, hb, o, mv _ o (hf _ (.head _)) h2, h3⟩
  fok := fun ⟨h1, hb, o, h2, h3, h4⟩ => fok_one hb h1 h2 (by rw [h3]; simp)
  item := fun {i x σ s R Er} hx m hc ⟨h1, hb, hit⟩ hR => by
    obtain ⟨vs, n, g1, g2⟩ := m.list hc
    obtain ⟨v, e1, e2⟩ := g2.get i x hx
    refine wpAny_pyNext_list_item hit ⟨_, g1, rfl, n, rfl⟩ (x := v) (by simpa using e1) fun h' hit' hs' => ?_
    obtain ⟨o1, w1, w2, w3⟩ := id hit
    have fo := fok_one hb h1 w1 (by rw [w2]; simp)
    have mv : Mv (· ∈ [I]) s.heap h' := mv_one hs'.extBut
    refine hR v _ fun K Er' hK => ?_
    obtain ⟨o2, w4, w5, w6⟩ := id hit'
    exact letOwned_other w4 w5 (by decide) (hK _ (e2.mv mv fo) (m.mv mv fo (hid_one h1)) mv ⟨h1, hb, hit'⟩ ⟨rfl, rfl⟩)
  done := fun {σ s R Er} m hc ⟨h1, hb, hit⟩ hR => by
    obtain ⟨vs, n, g1, g2⟩ := m.list hc
    have hn : vs.size = l.length := by simpa using g2.length
    refine wpAny_pyNext_list_end hh hit ⟨_, g1, rfl, n, rfl⟩ (by simp [hn]) fun h' he' => ?_
    obtain ⟨o1, w1, w2, w3⟩ := hit
    exact hR _ (m.mv (mv_one he') (fok_one hb h1 w1 (by rw [w2]; simp)) (hid_one h1)) (mv_one he') ⟨rfl, rfl⟩
  self := fun ⟨_, _, hit⟩ hR => wpAny_pyIter_listiter hit hR

theorem Src.tuple (hh : A.handled = Option.none) (t : Expr) (I a : Addr) (l : List PV) :
    Src C A t I [I] l (fun σ => True) (fun i σ h => σ I = Option.none ∧ C.B.get? I = Option.none ∧ h.IsTupleIter I a i ∧ VR C σ h (.tup l) (.ref a)) where
  step := fun ⟨h1, hb, ⟨o, h2, h3, h4⟩, hv⟩ st hS => by
    obtain ⟨k1, o', k2, k3⟩ := st.keep _ o h2 h1
    have lk := k3 fun x => absurd x (hS _ (.head _))
    exact ⟨k1, hb, ⟨o', k2, lk.1.trans h3, lk.2.2.1.trans h4⟩, hv.step st⟩
  mv := fun ⟨h1, hb, ⟨o, h2, h3⟩, hv⟩ mv fo hf => ⟨h1, hb, ⟨o, mv _ o (hf _ (.head _)) h2, h3⟩, hv.mv mv fo⟩
  fok := fun ⟨h1, hb, ⟨o, h2, h3, h4⟩, _⟩ => fok_one hb h1 h2 (by rw [h3]; simp)
  item := fun {i x σ s R Er} hx m hc ⟨h1, hb, hit, hv⟩ hR => by
    have hv' := hv
    simp only [VR] at hv'
    obtain ⟨a', n, vs, e1, es, g1, g2⟩ := hv'
    cases e1
    obtain ⟨v, e1, e2⟩ := g2.get i x hx
    refine wpAny_pyNext_tuple_item hit ⟨_, g1, rfl, n, rfl⟩ (x := v) (by simpa using e1) fun h' hit' hs' => ?_
    obtain ⟨o1, w1, w2, w3⟩ := id hit
    have fo := fok_one hb h1 w1 (by rw [w2]; simp)
    have mv : Mv (· ∈ [I]) s.heap h' := mv_one hs'.extBut
    refine hR v _ fun K Er' hK => ?_
    obtain ⟨o2, w4, w5, w6⟩ := id hit'
    exact letOwned_other w4 w5 (by decide) (hK _ (e2.mv mv fo) (m.mv mv fo (hid_one h1)) mv ⟨h1, hb, hit', hv.mv mv fo⟩ ⟨rfl, rfl⟩)
  done := fun {σ s R Er} m hc ⟨h1, hb, hit, hv⟩ hR => by
    simp only [VR] at hv
    obtain ⟨a', n, vs, e1, es, g1, g2⟩ := hv
    cases e1
    have hn : vs.size = l.length := by simpa using g2.length
    refine wpAny_pyNext_tuple_end hh hit ⟨_, g1, rfl, n, rfl⟩ (by simp [hn]) fun h' he' => ?_
    obtain ⟨o1, w1, w2, w3⟩ := hit
    exact hR _ (m.mv (mv_one he') (fok_one hb h1 w1 (by rw [w2]; simp)) (hid_one h1)) (mv_one he') ⟨rfl, rfl⟩
  self := fun ⟨_, _, hit, _⟩ hR => wpAny_pyIter_tupleiter hit hR

theorem Src.range (hh : A.handled = Option.none) (t : Expr) (I : Addr) (n : Nat) :
    Src C A t I [I] ((List.range n).map fun (i : Nat) => .int i) (fun σ => True) (fun i σ h => σ I = Option.none ∧ C.B.get? I = Option.none ∧ i ≤ n ∧ IsRangeIter h I i (n - i) 1) where
  step := fun ⟨h1, hb, hl, h2⟩ st hS => by
    obtain ⟨k1, o', k2, k3⟩ := st.keep _ _ h2 h1
    have lk := k3 fun x => absurd x (hS _ (.head _))
    rw [lk.eq (by simp)] at k2
    exact ⟨k1, hb, hl, k2⟩
  mv := fun ⟨h1, hb, hl, h2⟩ mv fo hf => ⟨h1, hb, hl, mv _ _ (hf _ (.head _)) h2⟩
  fok := fun ⟨h1, hb, hl, h2⟩ => fok_one hb h1 h2 (by simp)
  item := fun {i x σ s R Er} hx m hc ⟨h1, hb, hl, hit⟩ hR => by
    have hi : i < n := by
      rcases Nat.lt_or_ge i n with q | q
      · exact q
      · rw [List.getElem?_eq_none (by simp; exact q)] at hx; cases hx
    have ex : x = .int i := by
      rw [List.getElem?_map, List.getElem?_range hi] at hx; simpa using hx.symm
    subst ex
    refine wpAny_pyNext_range_item hit (by omega) fun h' hit' hs' => ?_
    have fo := fok_one hb h1 hit (by simp)
    have mv : Mv (· ∈ [I]) s.heap h' := mv_one hs'.extBut
    refine hR _ _ fun K Er' hK => ?_
    refine letOwned_other hit' rfl (by decide) (hK _ ⟨_, rfl⟩ (m.mv mv fo (hid_one h1)) mv ⟨h1, hb, hi, ?_⟩ ⟨rfl, rfl⟩)
    have : ((n : Int) - (i : Int) - 1) = (n : Int) - ((i + 1 : Nat) : Int) := by omega
    rw [this] at hit'
    exact hit'
  done := fun {σ s R Er} m hc ⟨h1, hb, hl, hit⟩ hR => by
    refine wpAny_pyNext_range_end hh hit (by simp) fun h' he' => ?_
    exact hR _ (m.mv (mv_one he') (fok_one hb h1 hit (by simp)) (hid_one h1)) (mv_one he') ⟨rfl, rfl⟩
  self := fun ⟨_, _, _, hit⟩ hR => wpAny_pyIter_rangeiter hit hR

/-- the last step of making what a loop goes over -/
noncomputable def mkIter (C : Cx) (A : Around) (k : IK) (vals : List Value) (R Er : Value → Shared → Prop) (s : Shared) : Prop :=
  match k with
  | .val => wpAny (Mo C) A (pyIter (vals.headD .none)) R Er s
  | .range => wpAny (Mo C) A (call (.type "range") vals) (fun x s1 => wpAny (Mo C) A (pyIter x) R Er s1) Er s

noncomputable def IterOK (C : Cx) (k : IK) : Prop := ∀ (A : Around) (t : Expr) (vs : List PV) (vals : List Value) (σ : PH) (s : Shared) (xs : List PV) (chk : PH → Prop) (K : PH → Prop) (R Er : Value → Shared → Prop),
  A.handled = Option.none → VRs C σ s.heap vs vals → Sim C σ s.heap → src k vs σ = some (xs, chk) → xs.length ≤ lim → K σ →
  (∀ I fp St σ1 s1, Src C A t I fp xs chk St → St 0 σ1 s1.heap → Sim C σ1 s1.heap → Step none1 σ s.heap σ1 s1.heap → Rest s s1 → (∀ b ∈ fp, s.heap.get? b = Option.none ∧ b < s1.heap.objs.size) → K σ1 → R (.ref I) s1) →
  mkIter C A k vals R Er s

theorem get_fresh (h : Heap) {a : Addr} (e : h.objs.size ≤ a) : h.get? a = Option.none := by
  cases q : h.get? a with
  | none => rfl
  | some o => exact absurd (Heap.lt_size q) (Nat.not_lt.mpr e)

theorem src_val {vs : List PV} {xs : List PV} {chk : PH → Prop} (hs : src .val vs σ = some (xs, chk)) : (∃ a l, vs = [.ref a] ∧ σ a = some (.list l) ∧ xs = l ∧ chk = fun σ' => σ' a = some (.list l)) ∨ (∃ l, vs = [.tup l] ∧ xs = l ∧ chk = fun _ => True) := by
  rcases vs with _ | ⟨p, _ | ⟨q, r⟩⟩
  · simp [src] at hs
  · cases p <;> simp only [src] at hs <;> first | cases hs | skip
    · exact .inr ⟨_, rfl, rfl, rfl⟩
    · split at hs
      · rename_i e; cases hs; exact .inl ⟨_, _, rfl, e, rfl, rfl⟩
      · cases hs
  · simp [src] at hs
theorem src_range {vs : List PV} {xs : List PV} {chk : PH → Prop} (hs : src .range vs σ = some (xs, chk)) : ∃ n : Int, vs = [.int n] ∧ -1000000 < n ∧ (xs = (List.range n.toNat).map fun (i : Nat) => .int i) ∧ chk = fun _ => True := by
  rcases vs with _ | ⟨p, _ | ⟨q, r⟩⟩
  · simp [src] at hs
  · cases p <;> simp only [src] at hs <;> first | cases hs | skip
    split at hs
    · cases hs; exact ⟨_, rfl, by assumption, rfl, rfl⟩
    · cases hs
  · simp [src] at hs

theorem iter_val : IterOK C .val := by
  intro A t vs vals σ s xs chk K R Er hh hv m hs hl hk hR
  unfold mkIter
  rcases src_val hs with ⟨a, l, rfl, e, rfl, rfl⟩ | ⟨l, rfl, rfl, rfl⟩
  · simp only [VRs] at hv
    obtain ⟨v, r, rfl, hv, rfl⟩ := hv
    simp only [VR] at hv; subst hv
    obtain ⟨vs, n, g1, g2⟩ := m.list e
    refine wpAny_pyIter_list ⟨_, g1, rfl, n, rfl⟩ ?_
    refine hR s.heap.objs.size _ _ σ _ (Src.list hh t _ a xs) ⟨m.fresh (Nat.le_refl _), m.freshB (Nat.le_refl _), ⟨_, Heap.get?_push_size _ rfl, rfl, rfl⟩⟩ (m.push _) (.push _ _ _ _) ⟨rfl, rfl⟩ ?_ hk
    intro b hb
    rw [List.mem_singleton] at hb; subst hb
    exact ⟨get_fresh _ (Nat.le_refl _), by show _ < (Heap.push _ _).objs.size; rw [Heap.size_push]; exact Nat.lt_succ_self _⟩
  · simp only [VRs] at hv
    obtain ⟨v, r, rfl, hv, rfl⟩ := hv
    have hv' := hv
    simp only [VR] at hv'
    obtain ⟨a, n, vs, rfl, es, g1, g2⟩ := hv'
    refine wpAny_pyIter_tuple ⟨_, g1, rfl, n, rfl⟩ ?_
    refine hR s.heap.objs.size _ _ σ _ (Src.tuple hh t _ a xs) ⟨m.fresh (Nat.le_refl _), m.freshB (Nat.le_refl _), ⟨_, Heap.get?_push_size _ rfl, rfl, rfl⟩, hv.step (.push none1 _ _ _)⟩ (m.push _) (.push _ _ _ _) ⟨rfl, rfl⟩ ?_ hk
    intro b hb
    rw [List.mem_singleton] at hb; subst hb
    exact ⟨get_fresh _ (Nat.le_refl _), by show _ < (Heap.push _ _).objs.size; rw [Heap.size_push]; exact Nat.lt_succ_self _⟩

theorem iter_range : IterOK C .range := by
  intro A t vs vals σ s xs chk K R Er hh hv m hs hl hk hR
  unfold mkIter
  obtain ⟨n, rfl, hn, rfl, rfl⟩ := src_range hs
  · simp only [VRs] at hv
    obtain ⟨v, r, rfl, hv, rfl⟩ := hv
    simp only [VR] at hv
    obtain ⟨tk, rfl⟩ := hv
    · have hn2 : n ≤ 1000000 := by
        simp only [List.length_map, List.length_range, lim] at hl; omega
      have sz := rangeSize_one 0 n
      have sz2 : Builtin.Range.rangeSize 0 n 1 = (n.toNat : Int) := by rw [sz]; split <;> omega
      refine call_range_1 ?_
      refine wpAny_pyIter_range (IsRange.new ..) (small_one (by decide) (by decide) (by omega) (by omega)) ?_
      rw [sz2]
      have m1 := m.push { cls := .type "range", data := .fields #[.int 0 s.toks, .int n tk, .int 1 (s.toks + 1)] }
      refine hR _ _ _ σ _ (Src.range hh t _ n.toNat) ⟨m1.fresh (Nat.le_refl _), m1.freshB (Nat.le_refl _), Nat.zero_le _, ?_⟩ (m1.push _) ((Step.push _ _ _ _).trans (.push _ _ _ _)) ⟨rfl, rfl⟩ ?_ hk
      · have e := Heap.get?_push_size (s.heap.push { cls := .type "range", data := .fields #[.int 0 s.toks, .int n tk, .int 1 (s.toks + 1)] }) (o := { cls := .type "range_iterator", data := .fields #[rawInt 0, rawInt n.toNat, rawInt 1] }) rfl
        simpa using e
      · intro b hb
        rw [List.mem_singleton] at hb; subst hb
        exact ⟨get_fresh _ (by rw [Heap.size_push]; exact Nat.le_succ _), by show _ < (Heap.push (Heap.push _ _) _).objs.size; rw [Heap.size_push, Heap.size_push, Heap.size_push]; exact Nat.lt_succ_self _⟩
end
end Vl
end

section
open PySem
set_option linter.unusedVariables false
set_option linter.unusedSimpArgs false
namespace Vl

/-! names are bound -/

theorem Rho.get_put {x : String} {v : PV} : ∀ {ρ : Rho} {y : String} {q : PV}, (ρ.put x v).get y = some q → (y = x ∧ q = v) ∨ (y ≠ x ∧ ρ.get y = some q)
  | [], y, q, h => by simp [Rho.put, Rho.get] at h
  | (z, o) :: r, y, q, h => by
    unfold Rho.put at h
    by_cases hz : z = x
    · subst hz
      rw [if_pos rfl] at h
      unfold Rho.get at h ⊢
      by_cases hy : z = y
      · subst hy; rw [if_pos rfl] at h; cases h; exact .inl ⟨rfl, rfl⟩
      · rw [if_neg hy] at h; rw [if_neg hy]; exact .inr ⟨fun e => hy e.symm, h⟩
    · rw [if_neg hz] at h
      unfold Rho.get at h ⊢
      by_cases hy : z = y
      · subst hy; rw [if_pos rfl] at h ⊢; exact .inr ⟨hz, h⟩
      · rw [if_neg hy] at h ⊢; exact Rho.get_put h
theorem Rho.get_put_ne {x : String} {v : PV} : ∀ {ρ : Rho} {y : String}, y ≠ x → (ρ.put x v).get y = ρ.get y
  | [], y, h => rfl
  | (z, o) :: r, y, h => by
    unfold Rho.put
    by_cases hz : z = x
    · subst hz; rw [if_pos rfl]; unfold Rho.get; rw [if_neg (fun e => h e.symm), if_neg (fun e => h e.symm)]
    · rw [if_neg hz]; unfold Rho.get; split
      · rfl
      · exact Rho.get_put_ne h
theorem Rho.get_puts_ne : ∀ {xs : List String} {vs : List PV} {ρ : Rho} {y : String}, y ∉ xs → (ρ.puts xs vs).get y = ρ.get y
  | [], vs, ρ, y, h => rfl
  | x :: xs, [], ρ, y, h => rfl
  | x :: xs, v :: vs, ρ, y, h => by
    unfold Rho.puts
    rw [Rho.get_puts_ne (fun e => h (List.mem_cons_of_mem _ e)), Rho.get_put_ne (by rintro rfl; exact h List.mem_cons_self)]
theorem blank_get {tg : Tg} {ρ : Rho} {y : String} {q : PV} (h : (blank tg ρ).get y = some q) : y ≠ ".0" ∧ y ∉ tg.names ∧ ρ.get y = some q := by
  unfold blank Rho.get at h
  by_cases h0 : ".0" = y
  · rw [if_pos h0] at h; cases h
  rw [if_neg h0] at h
  refine ⟨fun e => h0 e.symm, ?_⟩
  generalize tg.names = l at h
  induction l with
  | nil => exact ⟨by simp, h⟩
  | cons x r ih =>
    simp only [List.map_cons, List.cons_append, Rho.get] at h
    by_cases hx : x = y
    · rw [if_pos hx] at h; cases h
    · rw [if_neg hx] at h
      obtain ⟨a, b⟩ := ih h
      exact ⟨by simp only [List.mem_cons, not_or]; exact ⟨fun e => hx e.symm, a⟩, b⟩
theorem bind_weak {tg : Tg} {ρ ρ' : Rho} {v : PV} (h : bindC tg v ρ = some ρ') {y : String} {q : PV} (e : (blank tg ρ).get y = some q) : ρ'.get y = some q := by
  obtain ⟨_, hn, _⟩ := blank_get e
  unfold bindC bindT at h
  split at h
  · rename_i x v _ _
    cases h
    rw [Rho.get_put_ne (by simpa [Tg.names] using hn)]
    exact e
  · split at h
    · cases h
      rw [Rho.get_puts_ne (by simpa [Tg.names] using hn)]
      exact e
    · cases h
  · cases h

section
variable {C : Cx} {A : Around} {Er : Value → Shared → Prop} {env : Env} {ρ : Rho} {σ : PH} {s : Shared}

theorem EnvR.weak {h : Heap} {ρ' : Rho} (x : EnvR C env ρ σ h) (k : ∀ y q, ρ'.get y = some q → ρ.get y = some q) : EnvR C env ρ' σ h :=
  ⟨x.fn, x.glob, x.blt, let ⟨m, a, b⟩ := x.ns; ⟨m, a, fun y p e => b y p (k y p e)⟩, fun y p e => x.cell y p (k y p e), x.newL, x.baseL, x.baseC, x.newC, x.apart, x.hasC⟩

/-- where names are kept -/
noncomputable def slot (env : Env) (xs : List String) : Addr → Prop := fun b => ∃ x ∈ xs, (env.kindOf (Str.ofString x) = some .local ∧ b = env.locals) ∨ (env.kindOf (Str.ofString x) = some .cell ∧ env.cells.lookup (Str.ofString x) = some b)

/-- names have been bound, nothing else has moved -/
structure Asg (C : Cx) (env : Env) (F : Addr → Prop) (σ : PH) (h h' : Heap) : Prop where
  mv : Mv F h h'
  fok : Fok C σ h F
  frs : ∀ l, Frs C σ h l → Frs C σ h' l
  sim : Sim C σ h'
  has : ∀ c, F c → (∀ o, h.get? c = some o → ¬ isSeq o) ∧ ∃ o, h'.get? c = some o ∧ ¬ isSeq o

theorem notSeq_dict {o : Obj} {es : Array DictEntry} {n : Nat} (h : o.data = .dict es n) : ¬ isSeq o := fun ⟨xs, n, e⟩ => by rw [h] at e; cases e
theorem notSeq_cell {o : Obj} {v : Option Value} (h : o.data = .cell v) : ¬ isSeq o := fun ⟨xs, n, e⟩ => by rw [h] at e; cases e
theorem noTup_seq {h : Heap} {c : Addr} {o : Obj} (e : h.get? c = some o) (q : ¬ isSeq o) : ∀ vs n, h.get? c ≠ some (tupO vs n) := fun vs n x => by rw [e] at x; cases x; exact q ⟨vs, n, rfl⟩

theorem store_name {x : String} {p : PV} {v : Value} {K : Unit → Shared → Prop} (ev : EnvR C env ρ σ s.heap) (m : Sim C σ s.heap)
    (hx : env.kindOf (Str.ofString x) = some .local ∨ env.kindOf (Str.ofString x) = some .cell) (hv : VR C σ s.heap p v)
    (hK : ∀ s', Asg C env (slot env [x]) σ s.heap s'.heap → EnvR C env (ρ.put x p) σ s'.heap → Rest s s' → K () s') : wpAny (Mo C) A (storeName env (Str.ofString x) v) K Er s := by
  rcases hx with hx | hx
  · obtain ⟨mm, hn, hm⟩ := ev.ns
    have hp : (env.scope.kind == .class || (env.scope.kind == .module && env.locals != env.globals)) = false := by rw [ev.fn]; rfl
    refine wpAny_storeName_local hx hn (fun h' hn' hs' => ?_) hp
    have hF : ∀ c, slot env [x] c → c = env.locals := by
      rintro c ⟨y, hy, q | q⟩
      · exact q.2
      · rw [List.mem_singleton] at hy; subst hy; rw [hx] at q; cases q.1
    obtain ⟨o, es, ep, ho, hd, _⟩ := id hn
    obtain ⟨o', es', ep', ho', hd', _⟩ := id hn'
    have mv : Mv (slot env [x]) s.heap h' := fun c o f e => hs'.extBut c o (fun q => f ⟨x, List.mem_singleton.mpr rfl, .inl ⟨hx, q⟩⟩) e
    have fo : Fok C σ s.heap (slot env [x]) := fun c f => by
      have := hF c f; subst this
      exact ⟨ev.baseL, .inl ⟨ev.newL, noTup_seq ho (notSeq_dict hd)⟩⟩
    have hid : ∀ c, slot env [x] c → σ c = some .hid → ∃ a b, h'.get? c = some (tupO #[a, b] 0) := fun c f q => by
      have := hF c f; subst this; rw [ev.newL] at q; cases q
    refine hK _ ⟨mv, fo, fun l f => ?_, m.mv mv fo hid, fun c f => ?_⟩ ?_ ⟨rfl, rfl⟩
    · intro en he
      obtain ⟨k, L, o1, es1, n1, e1, e2, e3, e4, e5⟩ := f en he
      by_cases q : L = env.locals
      · subst q; exact ⟨k, _, o', es', ep', e1, e2, e3, ho', hd'⟩
      · exact ⟨k, L, o1, es1, n1, e1, e2, e3, hs'.extBut _ _ q e4, e5⟩
    · have := hF c f; subst this
      exact ⟨fun o1 q => by rw [ho] at q; cases q; exact notSeq_dict hd, o', ho', notSeq_dict hd'⟩
    · have nc : ∀ y c, env.cells.lookup y = some c → c ≠ env.locals := by
        rintro y c q rfl
        obtain ⟨_, v1, o1, q1, q2⟩ := ev.newC y _ q
        rw [ho] at q1; cases q1; rw [hd] at q2; cases q2
      refine ⟨ev.fn, ev.glob, ev.blt, ⟨_, hn', fun y q e1 e2 => ?_⟩, fun y q e1 e2 => ?_, ev.newL, ev.baseL, ev.baseC, fun y c e => ?_, ev.apart, ev.hasC⟩
      · rcases Rho.get_put e1 with ⟨rfl, rfl⟩ | ⟨ne, e1⟩
        · exact ⟨v, if_pos rfl, hv.mv mv fo⟩
        · obtain ⟨w, a, b⟩ := hm y q e1 e2
          exact ⟨w, by rw [if_neg (fun e => ne (ofString_inj e))]; exact a, b.mv mv fo⟩
      · rcases Rho.get_put e1 with ⟨rfl, rfl⟩ | ⟨ne, e1⟩
        · rw [hx] at e2; rcases e2 with e2 | e2 <;> cases e2
        · obtain ⟨c, w, a, b, d⟩ := ev.cell y q e1 e2
          exact ⟨c, w, a, b.sameBut hs' (nc _ c a), d.mv mv fo⟩
      · obtain ⟨a, w, b⟩ := ev.newC y c e
        exact ⟨a, w, b.sameBut hs' (nc _ c e)⟩
  · obtain ⟨c, hc⟩ := ev.hasC _ (.inl hx)
    obtain ⟨hσ, v₀, hcell⟩ := ev.newC _ c hc
    refine wpAny_storeName_cell ev.fn hx hc hcell fun h' hc' hs' => ?_
    have hF : ∀ d, slot env [x] d → d = c := by
      rintro d ⟨y, hy, q | q⟩
      · rw [List.mem_singleton] at hy; subst hy; rw [hx] at q; cases q.1
      · rw [List.mem_singleton] at hy; subst hy; rw [hc] at q; cases q.2; rfl
    obtain ⟨o, ho, hd⟩ := id hcell
    obtain ⟨o', ho', hd'⟩ := id hc'
    have mv : Mv (slot env [x]) s.heap h' := fun d o f e => hs'.extBut d o (fun q => f ⟨x, List.mem_singleton.mpr rfl, .inr ⟨hx, by rw [q]; exact hc⟩⟩) e
    have fo : Fok C σ s.heap (slot env [x]) := fun d f => by
      have := hF d f; subst this
      exact ⟨ev.baseC _ _ hc, .inl ⟨hσ, noTup_seq ho (notSeq_cell hd)⟩⟩
    have hid : ∀ d, slot env [x] d → σ d = some .hid → ∃ a b, h'.get? d = some (tupO #[a, b] 0) := fun d f q => by
      have := hF d f; subst this; rw [hσ] at q; cases q
    refine hK _ ⟨mv, fo, fun l f => ?_, m.mv mv fo hid, fun d f => ?_⟩ ?_ ⟨rfl, rfl⟩
    · intro en he
      obtain ⟨k, L, o1, es1, n1, e1, e2, e3, e4, e5⟩ := f en he
      have q : L ≠ c := by rintro rfl; rw [ho] at e4; cases e4; rw [hd] at e5; cases e5
      exact ⟨k, L, o1, es1, n1, e1, e2, e3, hs'.extBut _ _ q e4, e5⟩
    · have := hF d f; subst this
      exact ⟨fun o1 q => by rw [ho] at q; cases q; exact notSeq_cell hd, o', ho', notSeq_cell hd'⟩
    · obtain ⟨mm, hn, hm⟩ := ev.ns
      have nl : env.locals ≠ c := by
        rintro q
        obtain ⟨o1, es, ep, q1, q2, _⟩ := hn
        rw [q, ho] at q1; cases q1; rw [hd] at q2; cases q2
      refine ⟨ev.fn, ev.glob, ev.blt, ⟨mm, Ns.like hn fun o e => ⟨o, hs'.extBut _ _ nl e, .refl o⟩, fun y q e1 e2 => ?_⟩, fun y q e1 e2 => ?_, ev.newL, ev.baseL, ev.baseC, fun y d e => ?_, ev.apart, ev.hasC⟩
      · rcases Rho.get_put e1 with ⟨rfl, rfl⟩ | ⟨ne, e1⟩
        · rw [hx] at e2; cases e2
        · obtain ⟨w, a, b⟩ := hm y q e1 e2
          exact ⟨w, a, b.mv mv fo⟩
      · rcases Rho.get_put e1 with ⟨rfl, rfl⟩ | ⟨ne, e1⟩
        · exact ⟨c, v, hc, hc', hv.mv mv fo⟩
        · obtain ⟨d, w, a, b, r⟩ := ev.cell y q e1 e2
          have : d ≠ c := by rintro rfl; exact ne (ofString_inj (ev.apart _ _ _ a hc))
          exact ⟨d, w, a, b.sameBut hs' this, r.mv mv fo⟩
      · obtain ⟨a, w, b⟩ := ev.newC y d e
        by_cases q : d = c
        · subst q; exact ⟨a, some v, hc'⟩
        · exact ⟨a, w, b.sameBut hs' q⟩

theorem Asg.refl {F : Addr → Prop} {h : Heap} (m : Sim C σ h) (fo : Fok C σ h F) (has : ∀ c, F c → ∃ o, h.get? c = some o ∧ ¬ isSeq o) : Asg C env F σ h h :=
  ⟨.refl, fo, fun _ f => f, m, fun c f => let ⟨o, e, q⟩ := has c f; ⟨fun o1 e1 => by rw [e] at e1; cases e1; exact q, o, e, q⟩⟩
theorem Asg.trans {F F' : Addr → Prop} {h h' h'' : Heap} (x : Asg C env F σ h h') (y : Asg C env F' σ h' h'') : Asg C env (fun c => F c ∨ F' c) σ h h'' where
  mv := fun c o f e => y.mv c o (fun q => f (.inr q)) (x.mv c o (fun q => f (.inl q)) e)
  fok := fun c f => by
    by_cases q : F c
    · exact x.fok c q
    · rcases f with f | f
      · exact absurd f q
      · obtain ⟨a, b⟩ := y.fok c f
        refine ⟨a, b.imp (fun ⟨b1, b2⟩ => ⟨b1, fun vs n e => b2 vs n (x.mv c _ q e)⟩) id⟩
  frs := fun l f => y.frs l (x.frs l f)
  sim := y.sim
  has := fun c f => by
    by_cases q : F' c
    · obtain ⟨a, b⟩ := y.has c q
      refine ⟨fun o e => ?_, b⟩
      by_cases q2 : F c
      · exact (x.has c q2).1 o e
      · exact a o (x.mv c o q2 e)
    · rcases f with f | f
      · obtain ⟨a, o, e, b⟩ := x.has c f
        exact ⟨a, o, y.mv c o q e, b⟩
      · exact absurd f q
theorem Asg.mono {F F' : Addr → Prop} {h h' : Heap} (x : Asg C env F σ h h') (k : ∀ c, F' c ↔ F c) : Asg C env F' σ h h' :=
  ⟨x.mv.mono fun c f => (k c).mpr f, fun c f => x.fok c ((k c).mp f), x.frs, x.sim, fun c f => x.has c ((k c).mp f)⟩

theorem slot_cons {x : String} {xs : List String} {c : Addr} : slot env (x :: xs) c ↔ (slot env [x] c ∨ slot env xs c) := by
  constructor
  · rintro ⟨y, hy, q⟩
    rcases List.mem_cons.mp hy with rfl | hy
    · exact .inl ⟨y, List.mem_singleton.mpr rfl, q⟩
    · exact .inr ⟨y, hy, q⟩
  · rintro (⟨y, hy, q⟩ | ⟨y, hy, q⟩)
    · rw [List.mem_singleton] at hy; subst hy; exact ⟨y, List.mem_cons_self, q⟩
    · exact ⟨y, List.mem_cons_of_mem _ hy, q⟩
theorem assign_name {x : String} {p : PV} {v : Value} {pos : Pos} {K : Unit → Shared → Prop} (ev : EnvR C env ρ σ s.heap) (m : Sim C σ s.heap)
    (hx : env.kindOf (Str.ofString x) = some .local ∨ env.kindOf (Str.ofString x) = some .cell) (hv : VR C σ s.heap p v)
    (hK : ∀ s', Asg C env (slot env [x]) σ s.heap s'.heap → EnvR C env (ρ.put x p) σ s'.heap → Rest s s' → K () s') : wpAny (Mo C) A (assign (.Name (Str.ofString x) pos) env v) K Er s :=
  wpAny_assign_Name (store_name ev m hx hv hK)

theorem assign_names {sc : Scope} : ∀ {xs : List String} {es : List Expr} {ps : List PV} {vs : List Value} {ρ : Rho} {s : Shared} {K : Unit → Shared → Prop}, mNames sc xs es = true → EnvR C env ρ σ s.heap → Sim C σ s.heap →
    (∀ x ∈ xs, env.kindOf (Str.ofString x) = some .local ∨ env.kindOf (Str.ofString x) = some .cell) → VRs C σ s.heap ps vs → ps.length = xs.length →
    (∀ s', Asg C env (slot env xs) σ s.heap s'.heap → EnvR C env (ρ.puts xs ps) σ s'.heap → Rest s s' → K () s') → wpAny (Mo C) A (assignInOrder ((assignEach es env).map (·.2)) vs) K Er s
  | [], [], ps, vs, ρ, s, K, hm, ev, m, hx, hv, hl, hK => by
    have : ps = [] := List.length_eq_zero_iff.mp hl
    subst this
    simp only [VRs] at hv; subst hv
    exact wpAny_pure (hK s (.refl m (fun c ⟨y, hy, _⟩ => by cases hy) (fun c ⟨y, hy, _⟩ => by cases hy)) ev ⟨rfl, rfl⟩)
  | [], _ :: _, _, _, _, _, _, hm, _, _, _, _, _, _ => by simp [mNames] at hm
  | x :: xs, [], _, _, _, _, _, hm, _, _, _, _, _, _ => by simp [mNames] at hm
  | x :: xs, e :: es, ps, vs, ρ, s, K, hm, ev, m, hx, hv, hl, hK => by
    cases e with
    | Name y pos =>
      simp only [mNames, Bool.and_eq_true, Vl.nm, beq_iff_eq] at hm
      obtain ⟨⟨⟨⟨rfl, _⟩, _⟩, _⟩, hm⟩ := hm
      cases ps with
      | nil => simp at hl
      | cons p ps =>
        simp only [VRs] at hv
        obtain ⟨v, r, rfl, hv, hr⟩ := hv
        show wpAny _ _ (holding r (assign _ env v) >>= fun _ => assignInOrder ((assignEach es env).map (·.2)) r) K Er s
        refine wpAny_bind (wpAny_holding (assign_name ev m (hx x List.mem_cons_self) hv fun s1 a1 ev1 r1 => ?_))
        refine assign_names hm ev1 a1.sim (fun y hy => hx y (List.mem_cons_of_mem _ hy)) (hr.mv a1.mv a1.fok) (by simpa using hl) fun s2 a2 ev2 r2 => ?_
        exact hK s2 ((a1.trans a2).mono fun c => slot_cons) ev2 (r1.trans r2)
    | _ => simp [mNames] at hm

theorem each_plain {sc : Scope} : ∀ {xs : List String} {es : List Expr}, mNames sc xs es = true → (assignEach es env).length = xs.length ∧ (assignEach es env).findIdx? (·.1) = Option.none
  | [], [], _ => ⟨rfl, rfl⟩
  | [], _ :: _, hm => by simp [mNames] at hm
  | x :: xs, [], hm => by simp [mNames] at hm
  | x :: xs, e :: es, hm => by
    cases e with
    | Name y pos =>
      simp only [mNames, Bool.and_eq_true] at hm
      obtain ⟨a, b⟩ := each_plain hm.2
      simp [assignEach, a, List.findIdx?_cons, b]
    | _ => simp [mNames] at hm

/-- a value is bound to a target -/
theorem assign_ok {sc : Scope} {tg : Tg} {t : Expr} {p : PV} {v : Value} {ρ' : Rho} {K : Unit → Shared → Prop} (hh : (∃ x, tg = .name x) ∨ A.handled = Option.none) (ht : mTg sc tg t = true) (ev : EnvR C env ρ σ s.heap) (m : Sim C σ s.heap)
    (hx : ∀ x ∈ tg.names, env.kindOf (Str.ofString x) = some .local ∨ env.kindOf (Str.ofString x) = some .cell) (hv : VR C σ s.heap p v) (hb : bindT tg p ρ = some ρ')
    (hK : ∀ s', Asg C env (slot env tg.names) σ s.heap s'.heap → EnvR C env ρ' σ s'.heap → Rest s s' → K () s') : wpAny (Mo C) A (assign t env v) K Er s := by
  cases tg with
  | name x =>
    cases t with
    | Name y pos =>
      simp only [mTg, Bool.and_eq_true, Vl.nm, beq_iff_eq] at ht
      obtain ⟨⟨rfl, _⟩, _⟩ := ht
      simp only [bindT] at hb; cases hb
      exact assign_name ev m (hx x (List.mem_singleton.mpr rfl)) hv hK
    | _ => simp [mTg] at ht
  | tup xs =>
    cases t with
    | Tuple es a b =>
      simp only [mTg] at ht
      cases p with
      | tup ps =>
        simp only [bindT] at hb
        split at hb
        · rename_i hl
          cases hb
          simp only [VR] at hv
          obtain ⟨a, n, vs, rfl, es', g1, g2⟩ := hv
          obtain ⟨q1, q2⟩ := each_plain (env := env) ht
          have hsz : vs.size = ps.length := by simpa using g2.length
          refine wpAny_assign_Tuple (hh.resolve_left fun ⟨x, h⟩ => by cases h) ⟨_, g1, rfl, n, rfl⟩ (by rw [q1, hsz, hl]) q2 fun h' he => ?_
          have kp : ∀ b o, s.heap.get? b = some o → h'.get? b = some o := fun b o e => he b o (Nat.ne_of_lt (Heap.lt_size e)) e
          have st : Step none1 σ s.heap σ h' := .more kp
          refine assign_names (s := { s with heap := h' }) ht (ev.step st) (m.more kp) hx (g2.step st) hl fun s2 a2 ev2 r2 => ?_
          refine hK s2 ⟨fun c o f e => a2.mv c o f (kp c o e), fun c f => ?_, fun l f => a2.frs l (f.step st fun _ _ _ _ q => q), a2.sim, fun c f => ?_⟩ ev2 r2
          · obtain ⟨q3, q4⟩ := a2.fok c f
            exact ⟨q3, q4.imp (fun ⟨b1, b2⟩ => ⟨b1, fun vs n e => b2 vs n (kp c _ e)⟩) id⟩
          · obtain ⟨q3, q4⟩ := a2.has c f
            exact ⟨fun o e => q3 o (kp c o e), q4⟩
        · cases hb
      | _ => simp [bindT] at hb
    | _ => simp [mTg] at ht
end
end Vl
end

section
open PySem
set_option linter.unusedVariables false
set_option linter.unusedSimpArgs false
namespace Vl

/-! a comprehension's own block of names -/

theorem lookup_cons_ne {α : Type} {x y : Str} {v : α} {l : List (Str × α)} (h : x ≠ y) : List.lookup x ((y, v) :: l) = List.lookup x l := by
  rw [List.lookup_cons, beq_eq_false_iff_ne.mpr h]
theorem lookup_cons_self {α : Type} {x : Str} {v : α} {l : List (Str × α)} : List.lookup x ((x, v) :: l) = some v := by
  rw [List.lookup_cons, beq_self_eq_true]

theorem closure_ok {env : Env} : ∀ (names : List (Str × NameKind)) (acc : List (Str × Addr)), (∀ n, (n, NameKind.free) ∈ names → ∃ c, env.cells.lookup n = some c) → (∀ x c, acc.lookup x = some c → env.cells.lookup x = some c) →
    ∃ cl, (forIn names acc (fun (p : Str × NameKind) (cs : List (Str × Addr)) => if (p.2 == NameKind.free) = true then do let a ← cellOf env p.1; pure (ForInStep.yield ((p.1, a) :: cs)) else pure (ForInStep.yield cs)) : Sem _) = pure cl ∧
      (∀ x c, cl.lookup x = some c → env.cells.lookup x = some c) ∧ (∀ x, ((x, NameKind.free) ∈ names ∨ (acc.lookup x).isSome) → (cl.lookup x).isSome)
  | [], acc, _, ha => ⟨acc, rfl, ha, fun x h => h.elim (fun q => by cases q) id⟩
  | (n, k) :: r, acc, hf, ha => by
    by_cases hk : k = .free
    · subst hk
      obtain ⟨c, hc⟩ := hf n List.mem_cons_self
      obtain ⟨cl, e1, e2, e3⟩ := closure_ok r ((n, c) :: acc) (fun y hy => hf y (List.mem_cons_of_mem _ hy)) (fun x d hx => by
        by_cases q : x = n
        · subst q; rw [lookup_cons_self] at hx; cases hx; exact hc
        · rw [lookup_cons_ne q] at hx; exact ha x d hx)
      refine ⟨cl, ?_, e2, fun x h => e3 x ?_⟩
      · rw [List.forIn_cons]
        simp only [beq_self_eq_true, if_true]
        have : cellOf env n = pure c := by unfold cellOf; rw [hc]
        rw [this]
        exact e1
      · rcases h with h | h
        · rcases List.mem_cons.mp h with h | h
          · cases h; right; rw [lookup_cons_self]; rfl
          · exact .inl h
        · right
          by_cases q : x = n
          · subst q; rw [lookup_cons_self]; rfl
          · rw [lookup_cons_ne q]; exact h
    · obtain ⟨cl, e1, e2, e3⟩ := closure_ok r acc (fun y hy => hf y (List.mem_cons_of_mem _ hy)) ha
      refine ⟨cl, ?_, e2, fun x h => e3 x ?_⟩
      · rw [List.forIn_cons]
        have : (k == NameKind.free) = false := by simpa using hk
        simp only [this, Bool.false_eq_true, if_false]
        exact e1
      · rcases h with h | h
        · rcases List.mem_cons.mp h with h | h
          · cases h; exact absurd rfl hk
          · exact .inl h
        · exact .inr h

theorem closureFor_ok {env : Env} {scope : Scope} (hf : ∀ n, (n, NameKind.free) ∈ scope.names → ∃ c, env.cells.lookup n = some c) :
    ∃ cl, closureFor scope env = pure cl ∧ (∀ x c, cl.lookup x = some c → env.cells.lookup x = some c) ∧ (∀ x, (x, NameKind.free) ∈ scope.names → ∃ c, cl.lookup x = some c) := by
  obtain ⟨cl, e1, e2, e3⟩ := closure_ok scope.names [] hf (fun x c h => by simp at h)
  refine ⟨cl, ?_, e2, fun x h => Option.isSome_iff_exists.mp (e3 x (.inl h))⟩
  simp only [closureFor]
  have : (forIn scope.names ([] : List (Str × Addr)) (fun (x : Str × NameKind) (cs : List (Str × Addr)) => match x with
      | (name, kind) => if (kind == NameKind.free) = true then do let a ← cellOf env name; pure (ForInStep.yield ((name, a) :: cs)) else pure (ForInStep.yield cs)) : Sem _) = pure cl := e1
  first | exact this | (rw [this]; rfl)

theorem cells_other : ∀ (names : List (Str × NameKind)) (n : Nat) (acc : List (Str × Addr)) (x : Str), (x, NameKind.cell) ∉ names → (cellsFrom n names acc).lookup x = acc.lookup x
  | [], _, _, _, _ => rfl
  | (y, k) :: r, n, acc, x, h => by
    have hr : (x, NameKind.cell) ∉ r := fun q => h (List.mem_cons_of_mem _ q)
    unfold cellsFrom
    split
    · rename_i hk
      rw [cells_other r (n + 1) _ x hr, lookup_cons_ne]
      rintro rfl
      have : k = .cell := by simpa using hk
      subst this
      exact h List.mem_cons_self
    · exact cells_other r n acc x hr

theorem cells_own : ∀ (names : List (Str × NameKind)) (n : Nat) (acc : List (Str × Addr)) (x : Str), (x, NameKind.cell) ∈ names → ∃ c, n ≤ c ∧ (cellsFrom n names acc).lookup x = some c
  | (y, k) :: r, n, acc, x, h => by
    by_cases hr : (x, NameKind.cell) ∈ r
    · unfold cellsFrom
      split
      · obtain ⟨c, a, b⟩ := cells_own r (n + 1) ((y, n) :: acc) x hr
        exact ⟨c, Nat.le_of_succ_le a, b⟩
      · exact cells_own r n acc x hr
    · rcases List.mem_cons.mp h with h | h
      · cases h
        unfold cellsFrom
        rw [if_pos (by rfl)]
        refine ⟨n, Nat.le_refl _, ?_⟩
        rw [cells_other r (n + 1) _ _ hr, lookup_cons_self]
      · exact absurd h hr

/-- the cells: the new ones are empty and apart, the others are as before -/
structure CellsR (h : Heap) (lo : Nat) (cs acc : List (Str × Addr)) : Prop where
  new : ∀ n c, cs.lookup n = some c → (lo ≤ c ∧ h.IsCell c Option.none) ∨ acc.lookup n = some c
  apart : ∀ n n' c, lo ≤ c → cs.lookup n = some c → cs.lookup n' = some c → n = n'

theorem cellsR : ∀ (names : List (Str × NameKind)) (h : Heap) (lo : Nat) (acc₀ acc : List (Str × Addr)), CellsR h lo acc acc₀ → (∀ n c, acc.lookup n = some c → c < h.objs.size) → lo ≤ h.objs.size →
    CellsR (pushCells h names) lo (cellsFrom h.objs.size names acc) acc₀
  | [], _, _, _, _, x, _, _ => x
  | (name, kind) :: r, h, lo, acc₀, acc, x, hb, hlo => by
    unfold pushCells cellsFrom
    split
    · have := cellsR r (h.push { cls := .type "cell", data := .cell Option.none }) lo acc₀ ((name, h.objs.size) :: acc)
        ⟨fun n c hm => by
          by_cases q : n = name
          · subst q; rw [lookup_cons_self] at hm; cases hm; exact .inl ⟨hlo, ⟨_, Heap.get?_push_size _ rfl, rfl⟩⟩
          · rw [lookup_cons_ne q] at hm
            exact (x.new n c hm).imp (fun ⟨a, b⟩ => ⟨a, b.keeps fun b o e => Heap.get?_push_of_some _ e⟩) id,
        fun n n' c hc h1 h2 => by
          by_cases q : n = name
          · subst q; rw [lookup_cons_self] at h1; cases h1
            by_cases q' : n' = n
            · exact q'.symm
            · rw [lookup_cons_ne q'] at h2; exact absurd (hb n' _ h2) (Nat.lt_irrefl _)
          · rw [lookup_cons_ne q] at h1
            by_cases q' : n' = name
            · subst q'; rw [lookup_cons_self] at h2; cases h2; exact absurd (hb n _ h1) (Nat.lt_irrefl _)
            · rw [lookup_cons_ne q'] at h2; exact x.apart n n' c hc h1 h2⟩
        (fun n c hm => by
          rw [Heap.size_push]
          by_cases q : n = name
          · subst q; rw [lookup_cons_self] at hm; cases hm; exact Nat.lt_succ_self _
          · rw [lookup_cons_ne q] at hm; exact Nat.lt_succ_of_lt (hb n c hm)) (by rw [Heap.size_push]; exact Nat.le_succ_of_le hlo)
      rwa [Heap.size_push] at this
    · exact cellsR r h lo acc₀ acc x hb hlo

section
variable {C : Cx} {A : Around} {E : Value → Shared → Prop} {s : Shared}

noncomputable def compE (scope : Scope) (cl : List (Str × Addr)) (L : Addr) (env : Env) : Env :=
  { scope, locals := L, globals := env.globals, cells := cellsFrom (L + 1) scope.names cl, qual := env.qual, func := Option.none, code := env.code, frame := env.frame, builtins := env.builtins }

theorem newCompEnv {env : Env} {scope : Scope} {cl : List (Str × Addr)} {Q : Env → Shared → Prop}
    (h : Q (compE scope cl s.heap.objs.size env) { s with heap := pushCells (s.heap.push { cls := .type "dict", data := .dict #[] }) scope.names }) :
    wpAny (Mo C) A (newFunctionEnv scope env.globals cl [] env.qual Option.none .none (some env)) Q E s := by
  simp only [newFunctionEnv, Option.isSome_some, if_true]
  refine wpAny_bind (wpAny_alloc ?_)
  refine wpAny_bind (wpAny_layCells _ (fun name kind cells => by cases hkc : kind == NameKind.cell <;> simp) _ _ _ _ ?_)
  rw [show ({ s with heap := s.heap.push { cls := .type "dict", data := .dict #[] } } : Shared).heap.objs.size = s.heap.objs.size + 1 from Heap.size_push ..]
  exact wpAny_bind (wpAny_pure (wpAny_pure h))

theorem lookup_map_kind {f : Str × NameKind → NameKind} : ∀ {names : List (Str × NameKind)} {x : Str}, (names.map fun p => (p.1, f p)).lookup x = (names.lookup x).map fun k => f (x, k)
  | [], x => rfl
  | (n, k) :: r, x => by
    by_cases q : x = n
    · subst q; simp only [List.map_cons, lookup_cons_self, Option.map_some]
    · simp only [List.map_cons, lookup_cons_ne q]; exact lookup_map_kind

theorem relabel_kind {env cenv : Env} {scope : Scope} {x : Str} (hf : env.scope.kind = .function) :
    Env.kindOf { cenv with scope := relabel scope env } x = (scope.names.lookup x).map fun k => if k = .free ∧ env.kindOf x = some .cell then .cell else k := by
  show (relabel scope env).names.lookup x = _
  have : (relabel scope env).names = scope.names.map fun p => (p.1, if (p.2 == .free && env.scope.kind == .function && env.kindOf p.1 == some .cell) = true then .cell else p.2) := by
    unfold relabel
    refine List.map_congr_left fun p _ => ?_
    obtain ⟨n, k⟩ := p
    dsimp only
    split <;> rfl
  rw [this, lookup_map_kind]
  congr 1
  funext k
  simp only [hf, beq_self_eq_true, Bool.and_true, Bool.and_eq_true, beq_iff_eq]

theorem compOk_iff {sc sc' : Scope} (h : compOk sc sc' = true) : sc'.kind = .function ∧ (∀ n, (n, NameKind.free) ∈ sc'.names → sc.names.lookup n = some .cell ∨ sc.names.lookup n = some .free) ∧ (∀ n k, (n, k) ∈ sc'.names → sc'.names.lookup n = some k) := by
  simp only [compOk, Bool.and_eq_true, beq_iff_eq, List.all_eq_true, decide_eq_true_eq] at h
  obtain ⟨⟨⟨⟨⟨h1, _⟩, _⟩, h2⟩, h3⟩, _⟩ := h
  refine ⟨h1, fun n hn => ?_, fun n k hn => h3 (n, k) hn⟩
  have := h2 (n, .free) hn
  simpa [Bool.or_eq_true] using this

/-- the names of a block, as the environment has them -/
structure ScR (sc : Scope) (env : Env) : Prop where
  loc : ∀ y, sc.names.lookup y = some .local → env.kindOf y = some .local
  cell : ∀ y, sc.names.lookup y = some .cell → env.kindOf y = some .cell
  free : ∀ y, sc.names.lookup y = some .free → env.kindOf y = some .cell ∨ env.kindOf y = some .free
  glob : ∀ y, sc.names.lookup y = some .globalImplicit → env.kindOf y = some .globalImplicit
theorem ScR.self (env : Env) : ScR env.scope env := ⟨fun _ h => h, fun _ h => h, fun _ h => .inr h, fun _ h => h⟩

/-- the block stands -/
theorem comp_env {sc : Scope} {env : Env} {ρ : Rho} {σ : PH} {scope : Scope} {cl : List (Str × Addr)} {tg : Tg} (ev : EnvR C env ρ σ s.heap) (m : Sim C σ s.heap) (sr : ScR sc env) (ok : compOk sc scope = true) (ow : ownOk tg scope = true)
    (c1 : ∀ x c, cl.lookup x = some c → env.cells.lookup x = some c) (c2 : ∀ x, (x, NameKind.free) ∈ scope.names → ∃ c, cl.lookup x = some c)
    {cenv : Env} (hc : cenv = { compE scope cl s.heap.objs.size env with scope := relabel scope env }) {h' : Heap} (hh : h' = pushCells (s.heap.push { cls := .type "dict", data := .dict #[] }) scope.names) :
    EnvR C cenv (blank tg ρ) σ h' ∧ (∀ b o, s.heap.get? b = some o → h'.get? b = some o) ∧ cenv.locals = s.heap.objs.size ∧
    (∀ x, scope.names.lookup x = some .local → cenv.kindOf x = some .local) ∧ (∀ x, scope.names.lookup x = some .cell → cenv.kindOf x = some .cell ∧ ∀ c, cenv.cells.lookup x = some c → s.heap.objs.size ≤ c) ∧
    (∀ x k, scope.names.lookup x = some k → k ≠ .free → cenv.kindOf x = some k) ∧ (∀ x, scope.names.lookup x = some .free → cenv.kindOf x = some .cell ∨ cenv.kindOf x = some .free) ∧ (∀ x c, cenv.cells.lookup x = some c → s.heap.objs.size ≤ c ∨ env.cells.lookup x = some c) := by
  obtain ⟨k1, k2, k3⟩ := compOk_iff ok
  have k2 : ∀ n, (n, NameKind.free) ∈ scope.names → env.kindOf n = some .cell ∨ env.kindOf n = some .free := fun n hn => (k2 n hn).elim (fun q => .inl (sr.cell n q)) (sr.free n)
  have kd : ∀ x, cenv.kindOf x = (scope.names.lookup x).map fun k => if k = .free ∧ env.kindOf x = some .cell then .cell else k := fun x => by rw [hc]; exact relabel_kind ev.fn
  have kp : ∀ b o, s.heap.get? b = some o → h'.get? b = some o := fun b o e => by rw [hh]; exact pushCells_keeps _ _ b o (Heap.get?_push_of_some _ e)
  have hl : cenv.locals = s.heap.objs.size := by rw [hc]; rfl
  have hcs : cenv.cells = cellsFrom (s.heap.objs.size + 1) scope.names cl := by rw [hc]; rfl
  have CR : CellsR h' (s.heap.objs.size + 1) cenv.cells cl := by
    have := cellsR scope.names (s.heap.push { cls := .type "dict", data := .dict #[] }) (s.heap.objs.size + 1) cl cl ⟨fun n c h => .inr h, fun n n' c hc h1 h2 => by
      obtain ⟨_, v, o, q, _⟩ := ev.newC n c (c1 n c h1)
      exact absurd (Heap.lt_size q) (Nat.not_lt.mpr (Nat.le_of_succ_le hc))⟩ (fun n c h => by
        obtain ⟨_, v, o, q, _⟩ := ev.newC n c (c1 n c h)
        rw [Heap.size_push]; exact Nat.lt_succ_of_lt (Heap.lt_size q)) (by rw [Heap.size_push]; exact Nat.le_refl _)
    rw [Heap.size_push] at this
    rw [hcs, hh]; exact this
  have old : ∀ x c, cenv.cells.lookup x = some c → c < s.heap.objs.size + 1 → env.cells.lookup x = some c := fun x c h q => by
    rcases CR.new x c h with ⟨a, _⟩ | a
    · exact absurd q (Nat.not_lt.mpr a)
    · exact c1 x c a
  have oc : ∀ x, scope.names.lookup x = some .cell → ∃ c, s.heap.objs.size + 1 ≤ c ∧ cenv.cells.lookup x = some c := fun x h => by
    rw [hcs]; exact cells_own _ _ _ _ (mem_of_lookup h)
  have fc : ∀ x, scope.names.lookup x = some .free → cenv.cells.lookup x = cl.lookup x := fun x h => by
    rw [hcs]
    refine cells_other _ _ _ _ fun q => ?_
    have := k3 x .cell q; rw [h] at this; cases this
  have st : Step none1 σ s.heap σ h' := .more kp
  refine ⟨⟨?_, ?_, ?_, ?_, ?_, ?_, ?_, ?_, ?_, ?_, ?_⟩, kp, hl, ?_, ?_, ?_, ?_, ?_⟩
  · rw [hc]; exact k1
  · rw [hc]; exact ev.glob
  · rw [hc]; exact ev.blt
  · refine ⟨fun _ => Option.none, ?_, fun x p e1 e2 => ?_⟩
    · rw [hl, hh]; exact (Heap.Ns.new s.heap (.type "dict")).keeps (pushCells_keeps _ _)
    · obtain ⟨q0, qn, _⟩ := blank_get e1
      rw [kd] at e2
      exfalso
      cases e : scope.names.lookup (Str.ofString x) with
      | none => rw [e] at e2; cases e2
      | some k =>
        rw [e] at e2
        simp only [Option.map_some, Option.some.injEq] at e2
        split at e2
        · cases e2
        · subst e2
          simp only [ownOk, List.all_eq_true] at ow
          have := ow _ (mem_of_lookup e)
          simp [Vl.nm] at this
          rcases this with this | ⟨y, hy, this⟩
          · exact q0 (ofString_inj this)
          · exact qn (ofString_inj this ▸ hy)
  · intro x p e1 e2
    obtain ⟨q0, qn, e1⟩ := blank_get e1
    have hfree : scope.names.lookup (Str.ofString x) = some .free := by
      rw [kd] at e2
      cases e : scope.names.lookup (Str.ofString x) with
      | none => rw [e] at e2; rcases e2 with e2 | e2 <;> cases e2
      | some k =>
        rw [e] at e2
        simp only [Option.map_some, Option.some.injEq] at e2
        by_cases hk : k = .free
        · rw [hk]
        · rw [if_neg (fun q => hk q.1)] at e2
          rcases e2 with e2 | e2
          · subst e2
            simp only [ownOk, List.all_eq_true] at ow
            have := ow _ (mem_of_lookup e)
            simp [Vl.nm] at this
            rcases this with this | ⟨y, hy, this⟩
            · exact absurd (ofString_inj this) q0
            · exact absurd (ofString_inj this ▸ hy) qn
          · exact absurd e2 hk
    obtain ⟨c, hcl⟩ := c2 _ (mem_of_lookup hfree)
    have := k2 _ (mem_of_lookup hfree)
    obtain ⟨c', v, a, b, d⟩ := ev.cell x p e1 this
    have : c' = c := by have := c1 _ _ hcl; rw [a] at this; cases this; rfl
    subst this
    exact ⟨c', v, (fc _ hfree).trans hcl, b.keeps kp, d.step st⟩
  · rw [hl]; exact m.fresh (Nat.le_refl _)
  · rw [hl]; exact m.freshB (Nat.le_refl _)
  · intro x c h
    by_cases q : c < s.heap.objs.size + 1
    · exact ev.baseC x c (old x c h q)
    · exact m.freshB (Nat.le_of_succ_le (Nat.not_lt.mp q))
  · intro x c h
    rcases CR.new x c h with ⟨a, b⟩ | a
    · exact ⟨m.fresh (Nat.le_of_succ_le a), _, b⟩
    · obtain ⟨q, v, b⟩ := ev.newC x c (c1 x c a)
      exact ⟨q, v, b.keeps kp⟩
  · intro x y c h1 h2
    by_cases q : c < s.heap.objs.size + 1
    · exact ev.apart x y c (old x c h1 q) (old y c h2 q)
    · exact CR.apart x y c (Nat.not_lt.mp q) h1 h2
  · intro x h
    rw [kd] at h
    cases e : scope.names.lookup x with
    | none => rw [e] at h; rcases h with h | h <;> cases h
    | some k =>
      by_cases hk : k = .free
      · subst hk
        obtain ⟨c, hcl⟩ := c2 _ (mem_of_lookup e)
        exact ⟨c, (fc _ e).trans hcl⟩
      · rw [e] at h
        simp only [Option.map_some, Option.some.injEq] at h
        rw [if_neg (fun q => hk q.1)] at h
        rcases h with h | h
        · subst h; obtain ⟨c, _, q⟩ := oc _ e; exact ⟨c, q⟩
        · exact absurd h hk
  · intro x h
    rw [kd, h]; rfl
  · intro x h
    refine ⟨by rw [kd, h]; rfl, fun c hx => ?_⟩
    obtain ⟨c', q1, q2⟩ := oc x h
    rw [hx] at q2; cases q2; exact Nat.le_of_succ_le q1
  · intro x k h hk
    rw [kd, h, Option.map_some, if_neg (fun q => hk q.1)]
  · intro x h
    rw [kd, h, Option.map_some]
    by_cases q : env.kindOf x = some .cell
    · rw [if_pos ⟨rfl, q⟩]; exact .inl rfl
    · rw [if_neg (fun w => q w.2)]; exact .inr rfl
  · intro x c h
    rcases CR.new x c h with ⟨a, _⟩ | a
    · exact .inl (Nat.le_of_succ_le a)
    · exact .inr (c1 x c a)
end
end Vl
end

section
open PySem
set_option linter.unusedVariables false
set_option linter.unusedSimpArgs false
namespace Vl

section
variable {C : Cx} {A : Around} {R : Result → Shared → Prop} {s : Shared}

abbrev tests (ifs : List Expr) (env : Env) : Sem Bool := forIn ifs true fun c r => if r = true then do let ok ← isTrue c env (eval c env); pure (ForInStep.yield ok) else pure (ForInStep.yield r)

theorem compLoop_let {elt target iter : Expr} {ifs : List Expr} {scope : Scope} {pos : Pos} {it acc : Value} {env : Env} {Er : Value → Shared → Prop} (hEr : Er = notedBy (Mo C) A env fun e s' => R (.error e) s') (I : Nat → Shared → Prop)
    (turn : ∀ n s, I n s → wpAny (Mo C) A (pyNext it) (fun r s₁ => match r with
      | Option.none => R (.ok .next) s₁
      | some v => wpAny (Mo C) A (letOwnedTupleGo target it v) (fun _ s₁' => wpAny (Mo C) A (assign target env v) (fun _ s₂ =>
          wpAny (Mo C) A (tests ifs env) (fun ok s₃ =>
            if ok = true then wpAny (Mo C) A (eval elt env) (fun x s₄ =>
              wpAny (Mo C) A (call (.builtin "list.append") [acc, x]) (fun _ s₅ => ∃ m, m < n ∧ I m s₅) Er s₄) Er s₃
            else ∃ m, m < n ∧ I m s₃) Er s₂) Er s₁') Er s₁) Er s)
    (n : Nat) (h : I n s) :
    codeAny (Mo C) A (.compLoop (.ListComp elt [⟨target, iter, ifs, 0⟩] scope pos) 0 it acc env) R s := by
  subst hEr
  refine codeAny_loop rfl I (fun n s hI => ?_) n h
  show wpAny _ A ((compTurn (.ListComp elt [⟨target, iter, ifs, 0⟩] scope pos) 0 it acc env).onRaise (fun x => do noteFrame x env; theTreesLotGoes x)) _ _ s
  refine wpAny_noted ?_
  rw [compTurn_list]
  refine wpAny_bind (wpAny_standAt (wpAny_bind (wpAny_mono (turn n s hI) (fun r s₁ h₁ => ?_) fun _ _ h' => h')))
  cases r with
  | none => exact wpAny_pure h₁
  | some v =>
    refine wpAny_bind (wpAny_mono h₁ (fun _ s₁' h₁' => ?_) fun _ _ h' => h')
    refine wpAny_bind (wpAny_mono h₁' (fun _ s₂ h₂ => wpAny_bind (wpAny_mono h₂ (fun ok s₃ h₃ => ?_) fun _ _ h' => h')) fun _ _ h' => h')
    cases ok with
    | false => exact wpAny_pure ⟨rfl, h₃⟩
    | true =>
      exact wpAny_bind (wpAny_bind (wpAny_mono h₃ (fun x s₄ h₄ => wpAny_bind (wpAny_mono h₄ (fun _ s₅ h₅ => wpAny_pure (wpAny_pure ⟨rfl, h₅⟩)) fun _ _ h' => h')) fun _ _ h' => h'))

theorem keep_list {σ σ' : PH} {h h' : Heap} {D : Addr} {av : Array Value} {nn : Nat} (st : Step none1 σ h σ' h') (hD : h.get? D = some (lstO av nn)) (hσ : σ D = Option.none) : h'.get? D = some (lstO av nn) ∧ σ' D = Option.none := by
  obtain ⟨a, o', b, c⟩ := st.keep D _ hD hσ
  rw [(c fun f => f.elim).eq (by simp)] at b
  exact ⟨b, a⟩

theorem comp_loop {elt iter t : Expr} {ifs : List Expr} {scope : Scope} {pos : Pos} {I D : Addr} {fp : List Addr} {St : Nat → PH → Heap → Prop} {xs : List PV} {chk : PH → Prop} {cenv : Env} {tg : Tg} {ρ : Rho}
    {tst : Rho → PH → (Bool → PH → Prop) → Prop} {el : Rho → PH → Post → Prop} {Kfin : List PV → PH → Prop} {σ : PH} {s₀ : Shared} {sc : Scope} {n : Nat} {l : List Env}
    (S : Src C A t I fp xs chk St) (hh : A.handled = Option.none) (ht : mTg sc tg t = true) (own : ∀ x ∈ tg.names, cenv.kindOf (Str.ofString x) = some .local ∨ cenv.kindOf (Str.ofString x) = some .cell)
    (slotF : ∀ c, slot cenv tg.names c → s₀.heap.get? c = Option.none) (fpF : ∀ b ∈ fp, s₀.heap.get? b = Option.none) (DF : s₀.heap.get? D = Option.none) (DB : C.B.get? D = Option.none)
    (hfl : cenv.locals ∉ fp) (hfc : ∀ x c, cenv.cells.lookup x = some c → c ∉ fp) (hfD : D ∉ fp) (ak : AOK C n A l σ s₀.heap) (hlen : xs.length ≤ lim)
    (htst : ∀ ρ' σ' s' Kb, EnvR C cenv ρ' σ' s'.heap → Sim C σ' s'.heap → AOK C n A l σ' s'.heap → tst ρ' σ' Kb → ∀ Er', wpAny (Mo C) A (tests ifs cenv) (fun ok s'' => ∃ σ'', Sim C σ'' s''.heap ∧ Step none1 σ' s'.heap σ'' s''.heap ∧ Rest s' s'' ∧ Kb ok σ'') Er' s')
    (hel : ∀ ρ' σ' s' Q, EnvR C cenv ρ' σ' s'.heap → Sim C σ' s'.heap → AOK C n A l σ' s'.heap → el ρ' σ' Q → ∀ Er', wpAny (Mo C) A (eval elt cenv) (VP C none1 σ' s' Q) Er' s')
    (hR : ∀ acc σ2 s2 av nn, Sim C σ2 s2.heap → Step none1 σ s₀.heap σ2 s2.heap → Rest s₀ s2 → s2.heap.get? D = some (lstO av nn) → VRs C σ2 s2.heap acc av.toList → σ2 D = Option.none → (∃ m, s2.heap.Ns cenv.locals m) → σ2 cenv.locals = Option.none → Kfin acc σ2 → R (.ok .next) s2)
    {σ1 : PH} (hst : St 0 σ1 s.heap) (m : Sim C σ1 s.heap) (ev : EnvR C cenv (blank tg ρ) σ1 s.heap) (st : Step none1 σ s₀.heap σ1 s.heap) (r : Rest s₀ s) (hD : s.heap.get? D = some (lstO #[] 0)) (hσD : σ1 D = Option.none)
    (hgo : compGo chk tg ρ tst el xs [] σ1 Kfin) :
    codeAny (Mo C) A (.compLoop (.ListComp elt [⟨t, iter, ifs, 0⟩] scope pos) 0 (.ref I) (.ref D) cenv) R s := by
  refine compLoop_let rfl (fun k s' => ∃ i acc σ' av nn, k = xs.length - i + 1 ∧ i ≤ xs.length ∧ acc.length ≤ i ∧ St i σ' s'.heap ∧ Sim C σ' s'.heap ∧ EnvR C cenv (blank tg ρ) σ' s'.heap ∧ Step none1 σ s₀.heap σ' s'.heap ∧ Rest s₀ s' ∧
    s'.heap.get? D = some (lstO av nn) ∧ σ' D = Option.none ∧ VRs C σ' s'.heap acc av.toList ∧ compGo chk tg ρ tst el (xs.drop i) acc σ' Kfin) ?_ _
    ⟨0, [], σ1, #[], 0, rfl, Nat.zero_le _, Nat.zero_le _, hst, m, ev, st, r, hD, hσD, by simp [VRs], by simpa using hgo⟩
  clear hst m ev st r hD hσD hgo
  rintro k s' ⟨i, acc, σ', av, nn, rfl, hi, hai, hst, m, ev, st, r, hD, hσD, hacc, hgo⟩
  by_cases hlt : i < xs.length
  · have hx : xs[i]? = some xs[i] := List.getElem?_eq_getElem hlt
    rw [List.drop_eq_getElem_cons hlt] at hgo
    simp only [compGo] at hgo
    obtain ⟨hchk, hgo⟩ := hgo
    refine S.item hx m hchk hst fun v s1 hlet => ?_
    refine hlet _ _ fun s2 hv m2 mv2 hst2 r2 => ?_
    have fo := S.fok hst
    cases hb : bindC tg xs[i] ρ with
    | none => rw [hb] at hgo; exact hgo.elim
    | some ρ' =>
      rw [hb] at hgo
      simp only at hgo
      have ev2 := ev.mv mv2 fo hfl hfc
      have hD2 := mv2 D _ hfD hD
      have hacc2 := hacc.mv mv2 fo
      have st2 := st.mv mv2 fpF
      refine assign_ok (.inr hh) ht ev2 m2 own hv hb fun s3 a3 ev3 r3 => ?_
      have hslD : ¬ slot cenv tg.names D := fun q => by
        obtain ⟨_, _⟩ := a3.has D q
        exact absurd ⟨av, nn, rfl⟩ ((a3.has D q).1 _ hD2)
      have hslf : ∀ b ∈ fp, ¬ slot cenv tg.names b := fun b hb => by
        rintro ⟨x, _, q | q⟩
        · exact hfl (q.2 ▸ hb)
        · exact hfc _ _ q.2 hb
      have hD3 := a3.mv D _ hslD hD2
      have hacc3 := hacc2.mv a3.mv a3.fok
      have st3 := st2.mv a3.mv slotF
      have hst3 := S.mv hst2 a3.mv a3.fok hslf
      have weak : ∀ {σ4 h4}, EnvR C cenv ρ' σ4 h4 → EnvR C cenv (blank tg ρ) σ4 h4 := fun x => x.weak fun y q e => bind_weak hb e
      refine wpAny_mono (htst ρ' σ' s3 _ ev3 a3.sim (ak.step st3) hgo _) (fun ok s4 h4 => ?_) fun _ _ x => x
      obtain ⟨σ4, m4, st34, r4, hgo⟩ := h4
      have hst4 := S.step hst3 st34 (fun _ _ f => f)
      obtain ⟨hD4, hσD4⟩ := keep_list st34 hD3 hσD
      have ev4 := ev3.step st34
      have hacc4 := hacc3.step st34
      have st4 := st3.trans st34
      cases ok with
      | false =>
        simp only [Bool.false_eq_true, if_false] at hgo ⊢
        exact ⟨xs.length - (i + 1) + 1, by omega, i + 1, acc, σ4, av, nn, rfl, hlt, Nat.le_succ_of_le hai, hst4, m4, weak ev4, st4, ((r.trans r2).trans r3).trans r4, hD4, hσD4, hacc4, hgo⟩
      | true =>
        simp only [if_true] at hgo ⊢
        refine wpAny_mono (hel ρ' σ4 s4 _ ev4 m4 (ak.step st4) hgo _) (fun y s5 h5 => ?_) fun _ _ x => x
        obtain ⟨p, σ5, hv5, m5, st45, r5, hgo⟩ := h5
        have hst5 := S.step hst4 st45 (fun _ _ f => f)
        obtain ⟨hD5, hσD5⟩ := keep_list st45 hD4 hσD4
        have ev5 := ev4.step st45
        have hacc5 := hacc4.step st45
        have st5 := st4.trans st45
        have hsz : av.size = acc.length := by simpa using hacc.length
        refine wpAny_list_append_plain ⟨nn, hD5⟩ (fun h6 hl6 hs6 => ?_) (by rw [hsz]; simp only [lim] at hlen; exact Nat.le_trans (Nat.le_trans hai (Nat.le_of_lt hlt)) (Nat.le_trans hlen (by decide)))
        obtain ⟨n6, hl6⟩ := hl6
        have mv6 : Mv (· = D) s5.heap h6 := fun c o f e => hs6.extBut c o f e
        have fo6 : Fok C σ5 s5.heap (· = D) := fun c f => by
          have f : c = D := f
          subst f
          exact ⟨DB, .inl ⟨hσD5, noTup_of hD5 (by simp)⟩⟩
        have m6 : Sim C σ5 h6 := m5.mv mv6 fo6 fun c f q => by
          have f : c = D := f
          subst f; rw [hσD5] at q; cases q
        have ev6 : EnvR C cenv ρ' σ5 h6 := ev5.mv mv6 fo6 (fun q => by
            obtain ⟨_, ⟨o, es, ep, e, hd, _⟩, _⟩ := ev5.ns
            have q : cenv.locals = D := q
            rw [q, hD5] at e; cases e; cases hd) fun y c hc q => by
              have q : c = D := q
              subst q
              obtain ⟨_, v1, o1, q1, q2⟩ := ev5.newC y _ hc
              rw [hD5] at q1; cases q1; cases q2
        refine ⟨xs.length - (i + 1) + 1, by omega, i + 1, acc ++ [p], σ5, av.push y, n6, rfl, hlt, by simpa using hai, S.mv hst5 mv6 fo6 (fun b hb q => hfD (by rw [← (q : b = D)]; exact hb)), m6, weak ev6,
          st5.mv mv6 (fun c f => by have f : c = D := f; subst f; exact DF), (((r.trans r2).trans r3).trans r4).trans r5, hl6, hσD5, ?_, hgo⟩
        rw [Array.toList_push]
        exact (hacc5.append (by simp only [VRs]; exact ⟨y, [], rfl, hv5, rfl⟩)).mv mv6 fo6
  · have hi' : i = xs.length := by omega
    subst hi'
    rw [List.drop_length] at hgo
    simp only [compGo] at hgo
    refine S.done m hgo.1 hst fun s2 m2 mv2 r2 => ?_
    have fo := S.fok hst
    refine hR acc σ' s2 av nn m2 (st.mv mv2 fpF) (r.trans r2) (mv2 D _ hfD hD) (hacc.mv mv2 fo) hσD ?_ ev.newL hgo.2
    obtain ⟨mm, hn, _⟩ := (ev.mv mv2 fo hfl hfc).ns
    exact ⟨mm, hn⟩
end
end Vl
end

section
open PySem
set_option linter.unusedVariables false
set_option linter.unusedSimpArgs false
namespace Vl

/-- what a loop goes over is made -/
noncomputable def IterRun (C : Cx) (A : Around) (env : Env) (t iter : Expr) (σ : PH) (s : Shared) (K : List PV → (PH → Prop) → PH → Prop) (Er : Value → Shared → Prop) : Prop :=
  ∀ R : Value → Shared → Prop, (∀ I fp St σ1 s1 xs chk, Src C A t I fp xs chk St → St 0 σ1 s1.heap → Sim C σ1 s1.heap → Step none1 σ s.heap σ1 s1.heap → Rest s s1 →
    (∀ b ∈ fp, s.heap.get? b = Option.none ∧ b < s1.heap.objs.size) → xs.length ≤ lim → K xs chk σ1 → R (.ref I) s1) →
    wpAny (Mo C) A (eval iter env) (fun x s₁ => wpAny (Mo C) A (pyIter x) R Er s₁) Er s

section
variable {C : Cx} {σ : PH} {h : Heap} {D : Addr} {po : PO}
mutual
theorem VR.adopt (nt : ∀ vs n, h.get? D ≠ some (tupO vs n)) : ∀ (p : PV) (v : Value), VR C σ h p v → VR C (σ.set D po) h p v
  | .none, _, e => by simpa only [VR] using e
  | .bool _, _, e => by simpa only [VR] using e
  | .int _, _, e => by simpa only [VR] using e
  | .str _, _, e => by simpa only [VR] using e
  | .ref _, _, e => by simpa only [VR] using e
  | .scr _, _, e => by simpa only [VR] using e
  | .tup l, v, e => by
    simp only [VR] at e ⊢
    obtain ⟨a, n, vs, e1, es, e2, e5⟩ := e
    refine ⟨a, n, vs, e1, ?_, e2, VRs.adopt nt l _ e5⟩
    rw [PH.set_ne]
    · exact es
    · rintro rfl; exact nt vs n e2
theorem VRs.adopt (nt : ∀ vs n, h.get? D ≠ some (tupO vs n)) : ∀ (l : List PV) (vs : List Value), VRs C σ h l vs → VRs C (σ.set D po) h l vs
  | [], _, e => by simpa only [VRs] using e
  | p :: ps, vs, e => by
    simp only [VRs] at e ⊢
    obtain ⟨v, r, e1, e2, e3⟩ := e
    exact ⟨v, r, e1, VR.adopt nt p v e2, VRs.adopt nt ps r e3⟩
end
theorem OR.adopt (nt : ∀ vs n, h.get? D ≠ some (tupO vs n)) : ∀ (p : PO) (o : Obj), OR C σ h p o → OR C (σ.set D po) h p o
  | .list l, o, ⟨vs, n, e2, e3⟩ => ⟨vs, n, e2, VRs.adopt nt _ _ e3⟩
  | .exc _, _, e => e
  | .hid, _, e => e
theorem Sim.adopt (m : Sim C σ h) (hσ : σ D = Option.none) (nt : ∀ vs n, h.get? D ≠ some (tupO vs n)) {ob : Obj} (e : h.get? D = some ob) (b : C.B.get? D = Option.none) (r : OR C σ h po ob) (hr : po.needs C.ok := by trivial) : Sim C (σ.set D po) h where
  rich := fun x o' e' => by
    by_cases q : x = D
    · subst q; rw [PH.set_same] at e'; cases e'; exact hr
    · rw [PH.set_ne _ _ q] at e'; exact m.rich x o' e'
  base := m.base
  new := fun x o' e' => by
    by_cases q : x = D
    · subst q; exact b
    · rw [PH.set_ne _ _ q] at e'; exact m.new x o' e'
  objs := fun x o' e' => by
    by_cases q : x = D
    · subst q; rw [PH.set_same] at e'; cases e'; exact ⟨ob, e, r.adopt nt⟩
    · rw [PH.set_ne _ _ q] at e'
      obtain ⟨o1, h1, h2⟩ := m.objs x o' e'
      exact ⟨o1, h1, h2.adopt nt⟩
end

theorem isOwn_iff {sc : Scope} {y : Str} (h : isOwn sc y = true) : sc.names.lookup y = some .local ∨ sc.names.lookup y = some .cell := by
  simpa [isOwn, Bool.or_eq_true] using h
theorem mNames_own {sc : Scope} : ∀ {xs : List String} {es : List Expr}, mNames sc xs es = true → ∀ x ∈ xs, sc.names.lookup (Str.ofString x) = some .local ∨ sc.names.lookup (Str.ofString x) = some .cell
  | [], [], _, x, hx => by cases hx
  | [], _ :: _, hm, _, _ => by simp [mNames] at hm
  | x :: xs, [], hm, _, _ => by simp [mNames] at hm
  | x :: xs, e :: es, hm, y, hy => by
    cases e with
    | Name z pos =>
      simp only [mNames, Bool.and_eq_true, Vl.nm, beq_iff_eq] at hm
      obtain ⟨⟨⟨⟨rfl, h1⟩, _⟩, _⟩, h2⟩ := hm
      rcases List.mem_cons.mp hy with rfl | hy
      · exact isOwn_iff h1
      · exact mNames_own h2 y hy
    | _ => simp [mNames] at hm
theorem mTg_own {sc : Scope} {tg : Tg} {t : Expr} (h : mTg sc tg t = true) : ∀ x ∈ tg.names, sc.names.lookup (Str.ofString x) = some .local ∨ sc.names.lookup (Str.ofString x) = some .cell := by
  cases tg with
  | name x =>
    cases t with
    | Name y pos =>
      simp only [mTg, Bool.and_eq_true, Vl.nm, beq_iff_eq] at h
      obtain ⟨⟨rfl, h1⟩, _⟩ := h
      intro z hz
      simp only [Tg.names, List.mem_singleton] at hz; subst hz
      exact isOwn_iff h1
    | _ => simp [mTg] at h
  | tup xs =>
    cases t with
    | Tuple es a b => simp only [mTg] at h; exact mNames_own h
    | _ => simp [mTg] at h

section
variable {C : Cx} {A : Around} {s : Shared}

theorem comp_ok {elt iter t : Expr} {ifs : List Expr} {scope sc : Scope} {pos pos' : Pos} {env : Env} {tg : Tg} {ρ : Rho}
    {tst : Rho → PH → (Bool → PH → Prop) → Prop} {el : Rho → PH → Post → Prop} {Q : Post} {σ : PH} {n : Nat} {l : List Env} {use : Option (Value → Sem Unit)} {Q' Er : Value → Shared → Prop}
    (hca : A.handled = Option.none) (ev : EnvR C env ρ σ s.heap) (ak : AOK C n A l σ s.heap) (sr : ScR sc env) (ok : compOk sc scope = true) (ow : ownOk tg scope = true) (ht : mTg scope tg t = true)
    (hs : ∀ x, foldedSetIterable iter env x = pure x)
    (hit : IterRun C A env t iter σ s (fun xs chk σ1 => compGo chk tg ρ tst el xs [] σ1 fun acc σ2 => wnew (.list acc) σ2 Q) Er)
    (htst : ∀ cenv, ScR scope cenv → ∀ ρ' σ' s' Kb, EnvR C cenv ρ' σ' s'.heap → Sim C σ' s'.heap → AOK C n A l σ' s'.heap → tst ρ' σ' Kb → ∀ Er', wpAny (Mo C) A (tests ifs cenv) (fun ok s'' => ∃ σ'', Sim C σ'' s''.heap ∧ Step none1 σ' s'.heap σ'' s''.heap ∧ Rest s' s'' ∧ Kb ok σ'') Er' s')
    (hel : ∀ cenv, ScR scope cenv → ∀ ρ' σ' s' Q, EnvR C cenv ρ' σ' s'.heap → Sim C σ' s'.heap → AOK C n A l σ' s'.heap → el ρ' σ' Q → ∀ Er', wpAny (Mo C) A (eval elt cenv) (VP C none1 σ' s' Q) Er' s')
    (hfin : ∀ D σ3 s3 L, Sim C σ3 s3.heap → Step none1 σ s.heap σ3 s3.heap → Rest s s3 → s.heap.get? L = Option.none → σ3 L = Option.none → C.B.get? L = Option.none → (∃ m, s3.heap.Ns L m) → Q (.ref D) σ3 → compPost (Mo C) A Er use Q' (.ref D) L (.ok .next) s3) :
    wpAny (Mo C) A (comprehension (.ListComp elt [⟨t, iter, ifs, 0⟩] scope pos) scope env pos' (newList []) false (eval iter env) use) Q' Er s := by
  obtain ⟨k1, k2, k3⟩ := compOk_iff ok
  have k2' : ∀ n, (n, NameKind.free) ∈ scope.names → env.kindOf n = some .cell ∨ env.kindOf n = some .free := fun n hn => (k2 n hn).elim (fun q => .inl (sr.cell n q)) (sr.free n)
  obtain ⟨cl, c0, c1, c2⟩ := closureFor_ok (env := env) (scope := scope) fun n hn => ev.hasC n (k2' n hn)
  refine wpAny_comprehension_free (g := ⟨t, iter, ifs, 0⟩) (gs := []) rfl hs c0 k1 (fun x hx hl => by have := k3 x.1 x.2 hx; rw [hl] at this; exact this) ?_
  refine hit _ fun I fp St σ1 s1 xs chk S hst m1 st1 r1 hfp hlen hgo => ?_
  refine wpAny_newObj_type ?_
  refine newCompEnv ?_
  generalize hs2 : ({ s1 with heap := s1.heap.push { cls := .type "list", dict := Option.none, data := .seq ([] : List Value).toArray } } : Shared) = s2
  have hh2 : s2.heap = s1.heap.push (lstO #[] 0) := by rw [← hs2]
  have hrest : Rest s1 s2 := by rw [← hs2]; exact ⟨rfl, rfl⟩
  have kp12 : ∀ b o, s1.heap.get? b = some o → s2.heap.get? b = some o := fun b o e => by rw [hh2]; exact Heap.get?_push_of_some _ e
  have m2 : Sim C σ1 s2.heap := m1.more kp12
  have st2 : Step none1 σ s.heap σ1 s2.heap := st1.trans (.more kp12)
  have hsz2 : s2.heap.objs.size = s1.heap.objs.size + 1 := by rw [hh2, Heap.size_push]
  obtain ⟨ev3, kp3, hL, q1, q2, q3, q4, q5⟩ := comp_env (s := s2) (tg := tg) (ev.step st2) m2 sr ok ow c1 c2 rfl rfl
  generalize hce : ({ compE scope cl s2.heap.objs.size env with scope := relabel scope env } : Env) = cenv at ev3 hL q1 q2 q3 q4 q5 ⊢
  generalize hh3 : pushCells (s2.heap.push { cls := .type "dict", data := .dict #[] }) scope.names = h3 at ev3 kp3 ⊢
  have srC : ScR scope cenv := ⟨q1, fun y h => (q2 y h).1, q4, fun y h => q3 y _ h (by simp)⟩
  have st3 : Step none1 σ s.heap σ1 h3 := st2.trans (.more kp3)
  have m3 : Sim C σ1 h3 := m2.more kp3
  have hst3 : St 0 σ1 h3 := S.step (S := none1) hst (.more fun b o e => kp3 b o (kp12 b o e)) (fun _ _ f => f)
  have e1 : s1.heap.get? s1.heap.objs.size = Option.none := get_fresh _ (Nat.le_refl _)
  have e2 : ∀ c, s2.heap.objs.size ≤ c → s.heap.get? c = Option.none := fun c hc => st2.old m2 (get_fresh _ hc)
  have hDs2 : s2.heap.get? s1.heap.objs.size = some (lstO #[] 0) := by rw [hh2]; exact Heap.get?_push_size _ rfl
  have own : ∀ x ∈ tg.names, scope.names.lookup (Str.ofString x) = some .local ∨ scope.names.lookup (Str.ofString x) = some .cell := mTg_own ht
  have loop := fun (s' : Shared) (hs' : s' = { s2 with heap := h3 }) => comp_loop (s := s') (scope := scope) (iter := iter) (pos := pos) (R := compPost (Mo C) A Er use Q' (.ref s1.heap.objs.size) cenv.locals) (s₀ := s) S hca ht
    (fun x hx => (own x hx).imp (q1 _) fun h => (q2 _ h).1)
    (fun c hc => by
      obtain ⟨x, hx, w | w⟩ := hc
      · rw [w.2, hL]; exact e2 _ (Nat.le_refl _)
      · rcases own x hx with h | h
        · rw [q1 _ h] at w; cases w.1
        · exact e2 _ ((q2 _ h).2 c w.2))
    (fun b hb => (hfp b hb).1) (st1.old m1 e1) (m1.freshB (Nat.le_refl _))
    (fun hf => by rw [hL] at hf; exact absurd (hfp _ hf).2 (Nat.not_lt.mpr (by rw [hsz2]; exact Nat.le_succ _)))
    (fun x c hc hf => by
      rcases q5 x c hc with w | w
      · exact absurd (hfp c hf).2 (Nat.not_lt.mpr (Nat.le_trans (by rw [hsz2]; exact Nat.le_succ _) w))
      · obtain ⟨_, v, o, e, _⟩ := ev.newC x c w
        rw [(hfp c hf).1] at e; cases e)
    (fun hf => absurd (hfp _ hf).2 (Nat.lt_irrefl _)) ak hlen (htst cenv srC) (hel cenv srC)
    (fun acc σ2 s4 av nn m4 st4 r4 hD4 hacc hσD ⟨mm, hn⟩ hσL hq => by
      have hLD : cenv.locals ≠ s1.heap.objs.size := by rw [hL, hsz2]; exact Nat.succ_ne_self _
      have nt := noTup_of hD4 (by simp)
      refine hfin s1.heap.objs.size (σ2.set s1.heap.objs.size (.list acc)) s4 cenv.locals ?_ (st4.add _ (st1.old m1 e1) ?_) r4 (by rw [hL]; exact e2 _ (Nat.le_refl _)) (by rw [PH.set_ne _ _ hLD]; exact hσL) (by rw [hL]; exact m2.freshB (Nat.le_refl _)) ⟨mm, hn⟩ (hq _ hσD)
      · exact m4.adopt hσD nt hD4 (m1.freshB (Nat.le_refl _)) ⟨av, nn, rfl, hacc⟩
      · cases w : σ s1.heap.objs.size with
        | none => rfl
        | some o => obtain ⟨o', w'⟩ := st1.grow _ o w; rw [m1.fresh (Nat.le_refl _)] at w'; cases w')
    (σ1 := σ1) (by rw [hs']; exact hst3) (by rw [hs']; exact m3) (by rw [hs']; exact ev3) (by rw [hs']; exact st3) (by rw [hs']; exact r1.trans hrest) (by rw [hs']; exact kp3 _ _ hDs2) (m1.fresh (Nat.le_refl _)) hgo
  have hLe : (compE scope cl s2.heap.objs.size env).locals = cenv.locals := by rw [hL]; rfl
  rw [hLe]
  exact codeAny_compStart_list (loop _ rfl) (S.self (σ := σ1) (i := 0) hst3 (loop _ rfl))

/-- a comprehension's value -/
theorem comp_val {elt iter t : Expr} {ifs : List Expr} {scope sc : Scope} {pos : Pos} {env : Env} {tg : Tg} {ρ : Rho}
    {tst : Rho → PH → (Bool → PH → Prop) → Prop} {el : Rho → PH → Post → Prop} {Q : Post} {X : XPost} {σ : PH} {n : Nat} {l : List Env}
    (hca : A.handled = Option.none) (ev : EnvR C env ρ σ s.heap) (ak : AOK C n A l σ s.heap) (sr : ScR sc env) (ok : compOk sc scope = true) (ow : ownOk tg scope = true) (ht : mTg scope tg t = true)
    (hs : ∀ x, foldedSetIterable iter env x = pure x)
    (hit : IterRun C A env t iter σ s (fun xs chk σ1 => compGo chk tg ρ tst el xs [] σ1 fun acc σ2 => wnew (.list acc) σ2 Q) (XP C none1 σ s X))
    (htst : ∀ cenv, ScR scope cenv → ∀ ρ' σ' s' Kb, EnvR C cenv ρ' σ' s'.heap → Sim C σ' s'.heap → AOK C n A l σ' s'.heap → tst ρ' σ' Kb → ∀ Er', wpAny (Mo C) A (tests ifs cenv) (fun ok s'' => ∃ σ'', Sim C σ'' s''.heap ∧ Step none1 σ' s'.heap σ'' s''.heap ∧ Rest s' s'' ∧ Kb ok σ'') Er' s')
    (hel : ∀ cenv, ScR scope cenv → ∀ ρ' σ' s' Q, EnvR C cenv ρ' σ' s'.heap → Sim C σ' s'.heap → AOK C n A l σ' s'.heap → el ρ' σ' Q → ∀ Er', wpAny (Mo C) A (eval elt cenv) (VP C none1 σ' s' Q) Er' s') :
    EOK C A σ s (eval (.ListComp elt [⟨t, iter, ifs, 0⟩] scope pos) env) Q X := by
  show wpAny _ _ _ _ _ _
  rw [eval_ListComp]
  refine comp_ok (use := Option.none) hca ev ak sr ok ow ht hs hit htst hel fun D σ3 s3 L m3 st3 r3 h1 h2 h3 ⟨mm, hn⟩ hq => ?_
  refine ⟨mm, hn, fun h' hs' => ?_⟩
  have mv : Mv (· = L) s3.heap h' := fun c o f e => hs'.extBut c o f e
  obtain ⟨o, es, ep, ho, hd, _⟩ := hn
  have fo : Fok C σ3 s3.heap (· = L) := fun c f => by
    have f : c = L := f
    subst f; exact ⟨h3, .inl ⟨h2, noTup_seq ho (notSeq_dict hd)⟩⟩
  refine ⟨.ref D, σ3, rfl, m3.mv mv fo (fun c f q => by have f : c = L := f; subst f; rw [h2] at q; cases q), st3.mv mv (fun c f => by have f : c = L := f; subst f; exact h1), r3, hq⟩
end
end Vl
end

section
open PySem
set_option linter.unusedVariables false
set_option linter.unusedSimpArgs false
namespace Vl

noncomputable def xShape (x : Expr) : Nat → Prop
  | 0 => ∃ c k p, x = .Constant c k p
  | 1 => ∃ y p, x = .Name y p
  | 2 => ∃ l o r p, x = .BinOp l o r p
  | 3 => ∃ o y p, x = .UnaryOp o y p
  | 4 => ∃ o vs p, x = .BoolOp o vs p
  | 5 => ∃ l os cs p, x = .Compare l os cs p
  | 7 => ∃ es k p, x = .Tuple es k p
  | 8 => ∃ es p, x = .List es p
  | 10 => ∃ u v p, x = .Subscript u v p
  | 11 => ∃ e gs sc p, x = .ListComp e gs sc p
  | 12 => ∃ f as kw p, x = .Call f as kw p
  | 13 => ∃ y z p, x = .Attribute y z p
  | 14 => ∃ lo hi st p, x = .Slice lo hi st p
  | _ => True
theorem xinv (x : Expr) : xShape x (xk x) := by
  cases x with
  | Constant c k p => exact (⟨c, k, p, rfl⟩ : ∃ c' k' p', Expr.Constant c k p = .Constant c' k' p')
  | Name y p => exact (⟨y, p, rfl⟩ : ∃ y' p', Expr.Name y p = .Name y' p')
  | BinOp l o r p => exact (⟨l, o, r, p, rfl⟩ : ∃ l' o' r' p', Expr.BinOp l o r p = .BinOp l' o' r' p')
  | UnaryOp o y p => exact (⟨o, y, p, rfl⟩ : ∃ o' y' p', Expr.UnaryOp o y p = .UnaryOp o' y' p')
  | BoolOp o vs p => exact (⟨o, vs, p, rfl⟩ : ∃ o' vs' p', Expr.BoolOp o vs p = .BoolOp o' vs' p')
  | Compare l os cs p => exact (⟨l, os, cs, p, rfl⟩ : ∃ l' os' cs' p', Expr.Compare l os cs p = .Compare l' os' cs' p')
  | Tuple es k p => exact (⟨es, k, p, rfl⟩ : ∃ es' k' p', Expr.Tuple es k p = .Tuple es' k' p')
  | List es p => exact (⟨es, p, rfl⟩ : ∃ es' p', Expr.List es p = .List es' p')
  | Subscript u v p => exact (⟨u, v, p, rfl⟩ : ∃ u' v' p', Expr.Subscript u v p = .Subscript u' v' p')
  | ListComp e gs sc p => exact (⟨e, gs, sc, p, rfl⟩ : ∃ e' gs' sc' p', Expr.ListComp e gs sc p = .ListComp e' gs' sc' p')
  | Call f as kw p => exact (⟨f, as, kw, p, rfl⟩ : ∃ f' as' kw' p', Expr.Call f as kw p = .Call f' as' kw' p')
  | Attribute y z p => exact (⟨y, z, p, rfl⟩ : ∃ y' z' p', Expr.Attribute y z p = .Attribute y' z' p')
  | Slice lo hi st p => exact (⟨lo, hi, st, p, rfl⟩ : ∃ lo' hi' st' p', Expr.Slice lo hi st p = .Slice lo' hi' st' p')
  | _ => exact True.intro
noncomputable def sShape (x : Stmt) : Nat → Prop
  | 0 => ∃ ts v p, x = .Assign ts v p
  | 1 => ∃ v p, x = .Expr v p
  | 2 => ∃ v p, x = .Return v p
  | 3 => ∃ u y z p, x = .If u y z p
  | 4 => ∃ t i y z p, x = .For t i y z p
  | 6 => ∃ v c p, x = .Raise v c p
  | 7 => ∃ y hs z w p, x = .Try y hs z w p
  | _ => True
theorem sinv (x : Stmt) : sShape x (sk x) := by
  cases x with
  | Assign ts v p => exact (⟨ts, v, p, rfl⟩ : ∃ ts' v' p', Stmt.Assign ts v p = .Assign ts' v' p')
  | Expr v p => exact (⟨v, p, rfl⟩ : ∃ v' p', Stmt.Expr v p = .Expr v' p')
  | Return v p => exact (⟨v, p, rfl⟩ : ∃ v' p', Stmt.Return v p = .Return v' p')
  | If u y z p => exact (⟨u, y, z, p, rfl⟩ : ∃ u' y' z' p', Stmt.If u y z p = .If u' y' z' p')
  | For t i y z p => exact (⟨t, i, y, z, p, rfl⟩ : ∃ t' i' y' z' p', Stmt.For t i y z p = .For t' i' y' z' p')
  | Raise v c p => exact (⟨v, c, p, rfl⟩ : ∃ v' c' p', Stmt.Raise v c p = .Raise v' c' p')
  | Try y hs z w p => exact (⟨y, hs, z, w, p, rfl⟩ : ∃ y' hs' z' w' p', Stmt.Try y hs z w p = .Try y' hs' z' w' p')
  | _ => exact True.intro
theorem xk_of {x : Expr} {k : Nat} {b : Bool} (h : (xk x == k && b) = true) : xShape x k ∧ b = true := by
  obtain ⟨h1, h2⟩ := Bool.and_eq_true_iff.mp h
  have := xinv x
  rw [beq_iff_eq.mp h1] at this
  exact ⟨this, h2⟩
theorem sk_of {x : Stmt} {k : Nat} {b : Bool} (h : (sk x == k && b) = true) : sShape x k ∧ b = true := by
  obtain ⟨h1, h2⟩ := Bool.and_eq_true_iff.mp h
  have := sinv x
  rw [beq_iff_eq.mp h1] at this
  exact ⟨this, h2⟩
theorem and2 {a b : Bool} (h : (a && b) = true) : a = true ∧ b = true := Bool.and_eq_true_iff.mp h
theorem and3 {a b c : Bool} (h : (a && b && c) = true) : a = true ∧ b = true ∧ c = true := let ⟨h1, h2⟩ := and2 h; let ⟨h3, h4⟩ := and2 h1; ⟨h3, h4, h2⟩
theorem and4 {a b c d : Bool} (h : (a && b && c && d) = true) : a = true ∧ b = true ∧ c = true ∧ d = true := let ⟨h1, h2⟩ := and2 h; let ⟨h3, h4, h5⟩ := and3 h1; ⟨h3, h4, h5, h2⟩
theorem and5 {a b c d e : Bool} (h : (a && b && c && d && e) = true) : a = true ∧ b = true ∧ c = true ∧ d = true ∧ e = true := let ⟨h1, h2⟩ := and2 h; let ⟨h3, h4, h5, h6⟩ := and4 h1; ⟨h3, h4, h5, h6, h2⟩
theorem and6 {a b c d e f : Bool} (h : (a && b && c && d && e && f) = true) : a = true ∧ b = true ∧ c = true ∧ d = true ∧ e = true ∧ f = true := let ⟨h1, h2⟩ := and2 h; let ⟨h3, h4, h5, h6, h7⟩ := and5 h1; ⟨h3, h4, h5, h6, h7, h2⟩
theorem nmE {y : Str} {x : String} (h : Vl.nm y x = true) : y = Str.ofString x := beq_iff_eq.mp h

section
variable {sc : Scope} {x : Expr}
theorem v_const {f : Const → Bool} (h : (xk x == 0 && qConst f x) = true) : ∃ c k p, x = .Constant c k p ∧ f c = true := by
  obtain ⟨⟨c, k, p, rfl⟩, h⟩ := xk_of h
  exact ⟨c, k, p, rfl, h⟩
theorem v_name {f : Str → Bool} {y : String} (h : (xk x == 1 && qName f y x) = true) : ∃ p, x = .Name (Str.ofString y) p ∧ f (Str.ofString y) = true ∧ notDebug (Str.ofString y) = true := by
  obtain ⟨⟨z, p, rfl⟩, h⟩ := xk_of h
  obtain ⟨h1, h2, h3⟩ := and3 (show (Vl.nm z y && f z && notDebug z) = true from h)
  rw [nmE h1] at h2 h3 ⊢
  exact ⟨p, rfl, h2, h3⟩
theorem v_un {u : UnaryOp} {f : XB} (h : (xk x == 3 && qUn u f x) = true) : ∃ y p, x = .UnaryOp u y p ∧ f y = true := by
  obtain ⟨⟨o, y, p, rfl⟩, h⟩ := xk_of h
  obtain ⟨h1, h2⟩ := and2 (show (decide (o = u) && f y) = true from h)
  rw [of_decide_eq_true h1]
  exact ⟨y, p, rfl, h2⟩
theorem v_bool {u : BoolOp} {f g : XB} (h : (xk x == 4 && qBool u f g x) = true) : ∃ y p, f y = true ∧ ((∃ z, x = .BoolOp u [y, z] p ∧ g z = true) ∨ (∃ z w r, x = .BoolOp u (y :: z :: w :: r) p ∧ g (.BoolOp u (z :: w :: r) p) = true)) := by
  obtain ⟨⟨o, vs, p, rfl⟩, h⟩ := xk_of h
  cases vs with
  | nil => exact absurd h Bool.false_ne_true
  | cons y r =>
    cases r with
    | nil => exact absurd h Bool.false_ne_true
    | cons z r =>
      cases r with
      | nil =>
        obtain ⟨h1, h2⟩ := and2 (show (decide (o = u) && (f y && g z)) = true from h)
        rw [of_decide_eq_true h1]
        exact ⟨y, p, (and2 h2).1, .inl ⟨z, rfl, (and2 h2).2⟩⟩
      | cons w r =>
        obtain ⟨h1, h2⟩ := and2 (show (decide (o = u) && (f y && g (.BoolOp o (z :: w :: r) p))) = true from h)
        rw [of_decide_eq_true h1] at h2 ⊢
        exact ⟨y, p, (and2 h2).1, .inr ⟨z, w, r, rfl, (and2 h2).2⟩⟩
theorem v_is {u : CmpOp} {f g : XB} (h : (xk x == 5 && qIs u f g x) = true) : ∃ l c p, x = .Compare l [u] [c] p ∧ f l = true ∧ g c = true := by
  obtain ⟨⟨l, os, cs, p, rfl⟩, h⟩ := xk_of h
  match os, cs, h with
  | [o], [c], h =>
    obtain ⟨h1, h2⟩ := and2 (show (decide (o = u) && (f l && g c)) = true from h)
    rw [of_decide_eq_true h1]
    exact ⟨l, c, p, rfl, (and2 h2).1, (and2 h2).2⟩
theorem v_call {f : XB} {g : List Expr → Bool} (h : hCl f g x = true) : ∃ y as p, x = .Call y as [] p ∧ f y = true ∧ g as = true := by
  obtain ⟨⟨y, as, kw, p, rfl⟩, h⟩ := xk_of (k := 12) (b := qCall f g x) h
  cases kw with
  | nil => exact ⟨y, as, p, rfl, and2 h⟩
  | cons => exact absurd h Bool.false_ne_true
theorem v_sub {f g : XB} (h : hSub f g x = true) : ∃ u v p, x = .Subscript u v p ∧ f u = true ∧ g v = true := by
  obtain ⟨⟨u, v, p, rfl⟩, h⟩ := xk_of (k := 10) (b := qSub f g x) h
  exact ⟨u, v, p, rfl, and2 h⟩
theorem v_at {a : String} {f : XB} {g : Pos → Bool} (h : hAt a f g x = true) : ∃ y p, x = .Attribute y (Str.ofString a) p ∧ f y = true ∧ notCall y = true ∧ g p = true := by
  obtain ⟨⟨y, z, p, rfl⟩, h⟩ := xk_of (k := 13) (b := qAttr a f g x) h
  obtain ⟨h1, h2, h3, h4⟩ := and4 (show (f y && notCall y && Vl.nm z a && g p) = true from h)
  rw [nmE h3]
  exact ⟨y, p, rfl, h1, h2, h4⟩
theorem i_none (h : mE sc .none x = true) : ∃ k p, x = .Constant .none k p := by
  obtain ⟨c, k, p, rfl, h⟩ := v_const (f := cNone) h
  cases c with
  | none => exact ⟨k, p, rfl⟩
  | _ => exact absurd h Bool.false_ne_true
theorem i_bool {b : Bool} (h : mE sc (.bool b) x = true) : ∃ k p, x = .Constant (.bool b) k p := by
  obtain ⟨c, k, p, rfl, h⟩ := v_const (f := cBool b) h
  cases c with
  | bool v => rw [beq_iff_eq.mp (show (b == v) = true from h)]; exact ⟨k, p, rfl⟩
  | _ => exact absurd h Bool.false_ne_true
theorem i_int {b : Int} (h : mE sc (.int b) x = true) : ∃ k p, x = .Constant (.int b) k p := by
  obtain ⟨c, k, p, rfl, h⟩ := v_const (f := cInt b) h
  cases c with
  | int v => rw [of_decide_eq_true (show decide (b = v) = true from h)]; exact ⟨k, p, rfl⟩
  | _ => exact absurd h Bool.false_ne_true
theorem i_str {b : String} (h : mE sc (.str b) x = true) : ∃ k p, x = .Constant (.str (Str.ofString b)) k p := by
  obtain ⟨c, k, p, rfl, h⟩ := v_const (f := cStr b) h
  cases c with
  | str v => rw [nmE (show Vl.nm v b = true from h)]; exact ⟨k, p, rfl⟩
  | _ => exact absurd h Bool.false_ne_true
theorem i_loc {b : String} (h : mE sc (.loc b) x = true) : ∃ p, x = .Name (Str.ofString b) p ∧ isLoc sc (Str.ofString b) = true ∧ notDebug (Str.ofString b) = true := by
  exact v_name (f := isLoc sc) h
theorem i_glob {b : String} (h : mE sc (.glob b) x = true) : ∃ p, x = .Name (Str.ofString b) p ∧ isGlob sc (Str.ofString b) = true ∧ notDebug (Str.ofString b) = true := by
  exact v_name (f := isGlob sc) h
theorem i_bin {op : BOp} {a b : E} (h : mE sc (.bin op a b) x = true) : ∃ l o r p, x = .BinOp l o r p ∧ mOp op o = true ∧ mE sc a l = true ∧ mE sc b r = true := by
  obtain ⟨⟨l, o, r, p, rfl⟩, h⟩ := xk_of (k := 2) (b := qBin op (mE sc a) (mE sc b) x) h
  exact ⟨l, o, r, p, rfl, and3 h⟩
theorem i_neg {a : E} (h : mE sc (.neg a) x = true) : ∃ y p, x = .UnaryOp .USub y p ∧ mE sc a y = true := by
  exact v_un (u := .USub) (f := mE sc a) h
theorem i_not {a : E} (h : mE sc (.not_ a) x = true) : ∃ y p, x = .UnaryOp .Not y p ∧ mE sc a y = true := by
  exact v_un (u := .Not) (f := mE sc a) h
theorem i_and {a b : E} (h : mE sc (.and_ a b) x = true) : ∃ y p, mE sc a y = true ∧ ((∃ z, x = .BoolOp .And [y, z] p ∧ mE sc b z = true) ∨ (∃ z w r, x = .BoolOp .And (y :: z :: w :: r) p ∧ mE sc b (.BoolOp .And (z :: w :: r) p) = true)) := by
  exact v_bool (u := .And) (f := mE sc a) (g := mE sc b) h
theorem i_or {a b : E} (h : mE sc (.or_ a b) x = true) : ∃ y p, mE sc a y = true ∧ ((∃ z, x = .BoolOp .Or [y, z] p ∧ mE sc b z = true) ∨ (∃ z w r, x = .BoolOp .Or (y :: z :: w :: r) p ∧ mE sc b (.BoolOp .Or (z :: w :: r) p) = true)) := by
  exact v_bool (u := .Or) (f := mE sc a) (g := mE sc b) h
theorem i_isNone {a : E} (h : mE sc (.isNone a) x = true) : ∃ l k p q, x = .Compare l [.Is] [.Constant .none k p] q ∧ mE sc a l = true := by
  obtain ⟨l, c, p, rfl, h1, h2⟩ := v_is (u := .Is) (f := mE sc a) (g := hNone) h
  obtain ⟨k, q, rfl⟩ := i_none (sc := sc) h2
  exact ⟨l, k, q, p, rfl, h1⟩
theorem i_notNone {a : E} (h : mE sc (.notNone a) x = true) : ∃ l k p q, x = .Compare l [.IsNot] [.Constant .none k p] q ∧ mE sc a l = true := by
  obtain ⟨l, c, p, rfl, h1, h2⟩ := v_is (u := .IsNot) (f := mE sc a) (g := hNone) h
  obtain ⟨k, q, rfl⟩ := i_none (sc := sc) h2
  exact ⟨l, k, q, p, rfl, h1⟩
theorem i_cmp {op : COp} {a b : E} (h : mE sc (.cmp op a b) x = true) : ∃ l o r p, x = .Compare l [o] [r] p ∧ mC op o = true ∧ mE sc a l = true ∧ mE sc b r = true ∧ behindInMarks o r = false := by
  obtain ⟨⟨l, os, cs, p, rfl⟩, h⟩ := xk_of (k := 5) (b := qCmp op (mE sc a) (mE sc b) x) h
  match os, cs, h with
  | [o], [r], h =>
    obtain ⟨h1, h2, h3, h4⟩ := and4 (show (mC op o && mE sc a l && mE sc b r && !(behindInMarks o r)) = true from h)
    exact ⟨l, o, r, p, rfl, h1, h2, h3, by simpa using h4⟩
theorem i_cmp2 {o1 o2 : COp} {a b c : E} (h : mE sc (.cmp2 a o1 b o2 c) x = true) : ∃ l p1 p2 r1 r2 p, x = .Compare l [p1, p2] [r1, r2] p ∧ mC o1 p1 = true ∧ mC o2 p2 = true ∧ mE sc a l = true ∧ mE sc b r1 = true ∧ mE sc c r2 = true ∧ behindInMarks p2 r2 = false := by
  obtain ⟨⟨l, os, cs, p, rfl⟩, h⟩ := xk_of (k := 5) (b := qCmp2 o1 o2 (mE sc a) (mE sc b) (mE sc c) x) h
  match os, cs, h with
  | [p1, p2], [r1, r2], h =>
    obtain ⟨h1, h2, h3, h4, h5, h6⟩ := and6 (show (mC o1 p1 && mC o2 p2 && mE sc a l && mE sc b r1 && mE sc c r2 && !(behindInMarks p2 r2)) = true from h)
    exact ⟨l, p1, p2, r1, r2, p, rfl, h1, h2, h3, h4, h5, by simpa using h6⟩
theorem i_tup {l : List E} (h : mE sc (.tup l) x = true) : ∃ es k p, x = .Tuple es k p ∧ mEs sc l es = true ∧ es.length ≤ 100 := by
  obtain ⟨⟨es, k, p, rfl⟩, h⟩ := xk_of (k := 7) (b := qTup (mEs sc l) x) h
  exact ⟨es, k, p, rfl, (and2 h).1, of_decide_eq_true (and2 h).2⟩
theorem i_list {l : List E} (h : mE sc (.list l) x = true) : ∃ es p, x = .List es p ∧ mEs sc l es = true ∧ es.length ≤ 100 := by
  obtain ⟨⟨es, p, rfl⟩, h⟩ := xk_of (k := 8) (b := qList (mEs sc l) x) h
  exact ⟨es, p, rfl, (and2 h).1, of_decide_eq_true (and2 h).2⟩
theorem i_sub {a b : E} (h : mE sc (.sub a b) x = true) : ∃ u v p, x = .Subscript u v p ∧ mE sc a u = true ∧ mE sc b v = true := by
  exact v_sub (f := mE sc a) (g := mE sc b) h
theorem i_upto {a b : E} (h : mE sc (.upto a b) x = true) : ∃ u v q p, x = .Subscript u (.Slice Option.none (some v) Option.none q) p ∧ mE sc a u = true ∧ mE sc b v = true := by
  obtain ⟨u, v, p, rfl, h1, h2⟩ := v_sub (f := mE sc a) (g := hTo (mE sc b)) h
  obtain ⟨⟨lo, hi, st, q, rfl⟩, h⟩ := xk_of (k := 14) (b := qTo (mE sc b) v) h2
  match lo, hi, st, h with
  | Option.none, some w, Option.none, h => exact ⟨u, w, q, p, rfl, h1, h⟩
theorem i_from {a b : E} (h : mE sc (.from_ a b) x = true) : ∃ u v q p, x = .Subscript u (.Slice (some v) Option.none Option.none q) p ∧ mE sc a u = true ∧ mE sc b v = true := by
  obtain ⟨u, v, p, rfl, h1, h2⟩ := v_sub (f := mE sc a) (g := hFr (mE sc b)) h
  obtain ⟨⟨lo, hi, st, q, rfl⟩, h⟩ := xk_of (k := 14) (b := qFrom (mE sc b) v) h2
  match lo, hi, st, h with
  | some w, Option.none, Option.none, h => exact ⟨u, w, q, p, rfl, h1, h⟩
theorem i_comp {elt : E} {tg : Tg} {k : IK} {it : List E} (h : mE sc (.comp elt tg k it) x = true) : ∃ e t i sc' p, x = .ListComp e [⟨t, i, [], 0⟩] sc' p ∧ mIt sc k it i = true ∧ mTg sc' tg t = true ∧ mE sc' elt e = true ∧ compOk sc sc' = true ∧ ownOk tg sc' = true := by
  obtain ⟨⟨e, gs, sc', p, rfl⟩, h⟩ := xk_of (k := 11) (b := qComp sc tg (mIt sc k it) (fun sc' => mE sc' elt) x) h
  match gs, h with
  | [⟨t, i, [], a⟩], h =>
    obtain ⟨h1, h2⟩ := and2 (show (decide (a = 0) && (mIt sc k it i && mTg sc' tg t && mE sc' elt e && compOk sc sc' && ownOk tg sc')) = true from h)
    rw [of_decide_eq_true h1]
    exact ⟨e, t, i, sc', p, rfl, and5 h2⟩
theorem i_compIf {elt c : E} {tg : Tg} {k : IK} {it : List E} (h : mE sc (.compIf elt tg k it c) x = true) : ∃ e t i f sc' p, x = .ListComp e [⟨t, i, [f], 0⟩] sc' p ∧ mIt sc k it i = true ∧ mTg sc' tg t = true ∧ mE sc' elt e = true ∧ mE sc' c f = true ∧ compOk sc sc' = true ∧ ownOk tg sc' = true := by
  obtain ⟨⟨e, gs, sc', p, rfl⟩, h⟩ := xk_of (k := 11) (b := qCompIf sc tg (mIt sc k it) (fun sc' => mE sc' elt) (fun sc' => mE sc' c) x) h
  match gs, h with
  | [⟨t, i, [f], a⟩], h =>
    obtain ⟨h1, h2⟩ := and2 (show (decide (a = 0) && (mIt sc k it i && mTg sc' tg t && mE sc' elt e && mE sc' c f && compOk sc sc' && ownOk tg sc')) = true from h)
    rw [of_decide_eq_true h1]
    exact ⟨e, t, i, f, sc', p, rfl, and6 h2⟩
theorem i_call {f : String} {args : List E} (h : mE sc (.call f args) x = true) : ∃ y as p, x = .Call y as [] p ∧ glb sc f y = true ∧ plainName f = true ∧ mEs sc args as = true ∧ as.length ≤ 20 := by
  obtain ⟨y, as, p, rfl, h1, h2⟩ := v_call h
  exact ⟨y, as, p, rfl, (and2 h1).1, (and2 h1).2, (and2 h2).1, of_decide_eq_true (and2 h2).2⟩
theorem hBi1_inv {n : String} {f : List Expr → Bool} (h : hBi1 sc n f x = true) : ∃ y as p, x = .Call y as [] p ∧ glb sc n y = true ∧ f as = true ∧ as.length ≤ 20 := by
  obtain ⟨y, as, p, rfl, h1, h2⟩ := v_call h
  exact ⟨y, as, p, rfl, h1, (and2 h2).1, of_decide_eq_true (and2 h2).2⟩
theorem i_bi {b : BI} {args : List E} (h : mE sc (.bi b args) x = true) : ∃ y as p, x = .Call y as [] p ∧ glb sc b.nm y = true ∧ mEs sc args as = true ∧ as.length ≤ 20 := hBi1_inv h
theorem i_isi {a : E} {ts : List String} (h : mE sc (.isi a ts) x = true) : ∃ f y t p, x = .Call f [y, t] [] p ∧ glb sc "isinstance" f = true ∧ mE sc a y = true ∧ mType sc ts t = true := by
  obtain ⟨f, as, p, rfl, h1, h2⟩ := v_call h
  match as, h2 with
  | [y, t], h2 => exact ⟨f, y, t, p, rfl, h1, (and2 h2).1, (and2 h2).2⟩
theorem i_meth {o : E} {m : Me} {args : List E} (h : mE sc (.meth o m args) x = true) : ∃ y as p q, x = .Call (.Attribute y (Str.ofString "append") p) as [] q ∧ mE sc o y = true ∧ notCall y = true ∧ mEs sc args as = true ∧ as.length = 1 ∧ (p.endLine == q.line) = true := by
  obtain ⟨⟨f, as, kw, q, rfl⟩, h⟩ := xk_of (k := 12) (b := qMeth (fun q => hAt "append" (mE sc o) fun p => p.endLine == q.line) (fun as => mEs sc args as && decide (as.length = 1)) x) h
  cases kw with
  | cons => exact absurd h Bool.false_ne_true
  | nil =>
    obtain ⟨h1, h2⟩ := and2 (show (hAt "append" (mE sc o) (fun p => p.endLine == q.line) f && (mEs sc args as && decide (as.length = 1))) = true from h)
    obtain ⟨y, p, rfl, h3, h4, h5⟩ := v_at h1
    exact ⟨y, as, p, q, rfl, h3, h4, (and2 h2).1, of_decide_eq_true (and2 h2).2, h5⟩
end

/-! the kinds -/
noncomputable def E.k : E → Nat
  | .none | .bool _ | .int _ | .str _ => 0 | .loc _ | .glob _ => 1 | .bin .. => 2 | .neg _ | .not_ _ => 3 | .and_ .. | .or_ .. => 4 | .isNone _ | .notNone _ | .cmp .. | .cmp2 .. => 5 | .tup _ => 7 | .list _ => 8 
  | .sub .. | .upto .. | .from_ .. => 10 | .comp .. | .compIf .. => 11 | .call .. | .bi .. | .isi .. | .meth .. => 12
theorem mE_kind {sc : Scope} {e : E} {x : Expr} (h : mE sc e x = true) : xk x = e.k := by
  cases e with
  | none => obtain ⟨_, _, rfl⟩ := i_none h; rfl
  | bool => obtain ⟨_, _, rfl⟩ := i_bool h; rfl
  | int => obtain ⟨_, _, rfl⟩ := i_int h; rfl
  | str => obtain ⟨_, _, rfl⟩ := i_str h; rfl
  | loc => obtain ⟨_, rfl, _⟩ := i_loc h; rfl
  | glob => obtain ⟨_, rfl, _⟩ := i_glob h; rfl
  | bin => obtain ⟨_, _, _, _, rfl, _⟩ := i_bin h; rfl
  | neg => obtain ⟨_, _, rfl, _⟩ := i_neg h; rfl
  | not_ => obtain ⟨_, _, rfl, _⟩ := i_not h; rfl
  | and_ => obtain ⟨_, _, _, ⟨_, rfl, _⟩ | ⟨_, _, _, rfl, _⟩⟩ := i_and h <;> rfl
  | or_ => obtain ⟨_, _, _, ⟨_, rfl, _⟩ | ⟨_, _, _, rfl, _⟩⟩ := i_or h <;> rfl
  | isNone => obtain ⟨_, _, _, _, rfl, _⟩ := i_isNone h; rfl
  | notNone => obtain ⟨_, _, _, _, rfl, _⟩ := i_notNone h; rfl
  | cmp => obtain ⟨_, _, _, _, rfl, _⟩ := i_cmp h; rfl
  | cmp2 => obtain ⟨_, _, _, _, _, _, rfl, _⟩ := i_cmp2 h; rfl
  | tup => obtain ⟨_, _, _, rfl, _⟩ := i_tup h; rfl
  | list => obtain ⟨_, _, rfl, _⟩ := i_list h; rfl
  | sub => obtain ⟨_, _, _, rfl, _⟩ := i_sub h; rfl
  | upto => obtain ⟨_, _, _, _, rfl, _⟩ := i_upto h; rfl
  | from_ => obtain ⟨_, _, _, _, rfl, _⟩ := i_from h; rfl
  | comp => obtain ⟨_, _, _, _, _, rfl, _⟩ := i_comp h; rfl
  | compIf => obtain ⟨_, _, _, _, _, _, rfl, _⟩ := i_compIf h; rfl
  | call => obtain ⟨_, _, _, rfl, _⟩ := i_call h; rfl
  | bi => obtain ⟨_, _, _, rfl, _⟩ := i_bi h; rfl
  | isi => obtain ⟨_, _, _, _, rfl, _⟩ := i_isi h; rfl
  | meth => obtain ⟨_, _, _, _, rfl, _⟩ := i_meth h; rfl
theorem E.k_lt (e : E) : e.k < 99 := by cases e <;> exact Nat.le_of_ble_eq_true rfl
theorem mE_not {sc : Scope} {e : E} {x : Expr} (hx : xk x = 99) : mE sc e x = false := by
  cases h : mE sc e x with
  | false => rfl
  | true => have := mE_kind h; have := e.k_lt; omega
theorem E.isTup {e : E} (h : e.k = 7) : noTup e = false := by cases e <;> first | rfl | exact absurd h (Nat.ne_of_beq_eq_false rfl)
theorem E.isComp {e : E} (h : e.k = 11) : (∃ elt tg k it, e = .comp elt tg k it) ∨ (∃ elt tg k it c, e = .compIf elt tg k it c) := by
  cases e <;> first | exact .inl ⟨_, _, _, _, rfl⟩ | exact .inr ⟨_, _, _, _, _, rfl⟩ | exact absurd h (Nat.ne_of_beq_eq_false rfl)

/-! the statements -/
section
variable {sc : Scope} {x : Stmt}
theorem v_asg {f g : XB} (h : kAsg f g x = true) : ∃ t v pos, x = .Assign [t] v pos ∧ f t = true ∧ g v = true := by
  obtain ⟨⟨ts, v, p, rfl⟩, h⟩ := sk_of (k := 0) (b := rAsg f g x) h
  match ts, h with
  | [t], h => exact ⟨t, v, p, rfl, and2 h⟩
theorem j_name {y : String} {e : E} (h : mS sc (.assign (.name y) e) x = true) : ∃ pz v pos, x = .Assign [.Name (Str.ofString y) pz] v pos ∧ mTg sc (.name y) (.Name (Str.ofString y) pz) = true ∧ mE sc e v = true := by
  obtain ⟨t, v, pos, rfl, h1, h3⟩ := v_asg h
  obtain ⟨p, rfl, h4, h5⟩ := v_name (f := isOwn sc) h1
  exact ⟨p, v, pos, rfl, by simp only [mTg, Vl.nm, h4, h5, beq_self_eq_true, Bool.and_self], h3⟩
theorem j_tup {xs : List String} {e : E} (h : mS sc (.assign (.tup xs) e) x = true) : ∃ es a b v pos, x = .Assign [.Tuple es a b] v pos ∧ mTg sc (.tup xs) (.Tuple es a b) = true ∧ noTup e = true ∧ mE sc e v = true := by
  obtain ⟨t, v, pos, rfl, h1, h3⟩ := v_asg h
  obtain ⟨⟨es, a, b, rfl⟩, h1⟩ := xk_of (k := 7) (b := qTupT (mNames sc xs) t) h1
  exact ⟨es, a, b, v, pos, rfl, h1, (and2 h3).1, (and2 h3).2⟩
theorem j_idx {o i e : E} (h : mS sc (.setIdx o i e) x = true) : ∃ u y p v pos, x = .Assign [.Subscript u y p] v pos ∧ mE sc o u = true ∧ mE sc i y = true ∧ mE sc e v = true := by
  obtain ⟨t, v, pos, rfl, h1, h3⟩ := v_asg h
  obtain ⟨u, y, p, rfl, h4, h5⟩ := v_sub h1
  exact ⟨u, y, p, v, pos, rfl, h4, h5, h3⟩
theorem j_expr {e : E} (h : mS sc (.expr e) x = true) : ∃ v pos, x = .Expr v pos ∧ droppable e = true ∧ mE sc e v = true := by
  obtain ⟨⟨v, p, rfl⟩, h⟩ := sk_of (k := 1) (b := rExpr (fun v => droppable e && mE sc e v) x) h
  exact ⟨v, p, rfl, and2 h⟩
theorem j_ret {e : E} (h : mS sc (.ret e) x = true) : ∃ v pos, x = .Return (some v) pos ∧ mE sc e v = true := by
  obtain ⟨⟨v, p, rfl⟩, h⟩ := sk_of (k := 2) (b := rRet (mE sc e) x) h
  cases v with
  | none => exact absurd h Bool.false_ne_true
  | some v => exact ⟨v, p, rfl, h⟩
theorem j_if {t : E} {b o : List S} (h : mS sc (.if_ t b o) x = true) : ∃ u y z pos, x = .If u y z pos ∧ mE sc t u = true ∧ mSs sc b y = true ∧ mSs sc o z = true := by
  obtain ⟨⟨u, y, z, p, rfl⟩, h⟩ := sk_of (k := 3) (b := rIf (mE sc t) (mSs sc b) (mSs sc o) x) h
  exact ⟨u, y, z, p, rfl, and3 h⟩
theorem j_for {tg : Tg} {k : IK} {it : List E} {b : List S} (h : mS sc (.for_ tg k it b) x = true) : ∃ t i y pos, x = .For t i y [] pos ∧ mTg sc tg t = true ∧ mIt sc k it i = true ∧ mSs sc b y = true := by
  obtain ⟨⟨t, i, y, z, p, rfl⟩, h⟩ := sk_of (k := 4) (b := rFor (mTg sc tg) (mIt sc k it) (mSs sc b) x) h
  cases z with
  | cons => exact absurd h Bool.false_ne_true
  | nil => exact ⟨t, i, y, p, rfl, and3 h⟩
theorem j_raise {c : String} {args : List E} (h : mS sc (.raise c args) x = true) : ∃ y as p pos, x = .Raise (some (.Call y as [] p)) Option.none pos ∧ glb sc c y = true ∧ mEs sc args as = true ∧ as.length ≤ 20 := by
  obtain ⟨⟨v, ca, pos, rfl⟩, h⟩ := sk_of (k := 6) (b := rRaise (hBi1 sc c (mEs sc args)) x) h
  match v, ca, h with
  | some v, Option.none, h =>
    obtain ⟨y, as, p, rfl, h1, h2, h3⟩ := hBi1_inv (show hBi1 sc c (mEs sc args) v = true from h)
    exact ⟨y, as, p, pos, rfl, h1, h2, h3⟩
theorem v_try {f : SBs} {g : List ExceptHandler → Bool} (h : kTry f g x = true) : ∃ y hs pos, x = .Try y hs [] [] pos ∧ f y = true ∧ g hs = true := by
  obtain ⟨⟨y, hs, z, w, p, rfl⟩, h⟩ := sk_of (k := 7) (b := rTry f g x) h
  match z, w, h with
  | [], [], h => exact ⟨y, hs, p, rfl, and2 h⟩
theorem v_hd {c z : String} {g : SBs} {e : ExceptHandler} (h : rHd sc c z g e = true) : ∃ t n hb hr p, e = .ExceptHandler (some t) n (hb :: hr) p ∧ glb sc c t = true ∧ exName sc z n = true ∧ g (hb :: hr) = true := by
  obtain ⟨t, n, b, p⟩ := e
  match t, b, h with
  | some t, hb :: hr, h => exact ⟨t, n, hb, hr, p, rfl, and3 h⟩
theorem j_try1 {b h1 : List S} {c z : String} (h : mS sc (.try1 b c z h1) x = true) : ∃ y t n hb hr p pos, x = .Try y [.ExceptHandler (some t) n (hb :: hr) p] [] [] pos ∧ mSs sc b y = true ∧ glb sc c t = true ∧ exName sc z n = true ∧ mSs sc h1 (hb :: hr) = true := by
  obtain ⟨y, hs, pos, rfl, h1, h2⟩ := v_try h
  match hs, h2 with
  | [e], h2 =>
    obtain ⟨t, n, hb, hr, p, rfl, h3, h4, h5⟩ := v_hd h2
    exact ⟨y, t, n, hb, hr, p, pos, rfl, h1, h3, h4, h5⟩
end
end Vl
end

section
open PySem
set_option linter.unusedVariables false
set_option linter.unusedSimpArgs false
namespace Vl

noncomputable def BP (C : Cx) (σ : PH) (s : Shared) (K : Bool → PH → Prop) (b : Bool) (s1 : Shared) : Prop := ∃ σ1, Sim C σ1 s1.heap ∧ Step none1 σ s.heap σ1 s1.heap ∧ Rest s s1 ∧ K b σ1

noncomputable def EvalOK (C : Cx) (G : Gx) (n : Nat) (e : E) : Prop := ∀ (sc : Scope) (x : Expr) (env : Env) (ρ : Rho) (σ : PH) (s : Shared) (A : Around) (l : List Env) (Q : Post) (X : XPost),
  mE sc e x = true → ScR sc env → EnvR C env ρ σ s.heap → Sim C σ s.heap → AOK C n A l σ s.heap → we G (CallOK C n) e ρ σ Q X → EOK C A σ s (eval x env) Q X
noncomputable def TestOK (C : Cx) (G : Gx) (n : Nat) (e : E) : Prop := ∀ (sc : Scope) (x : Expr) (env : Env) (ρ : Rho) (σ : PH) (s : Shared) (A : Around) (l : List Env) (Q : Post) (K : Bool → PH → Prop) (X : XPost),
  mE sc e x = true → ScR sc env → EnvR C env ρ σ s.heap → Sim C σ s.heap → AOK C n A l σ s.heap → we G (CallOK C n) e ρ σ Q X → (∀ v σ1, Q v σ1 → ∃ b, v = .bool b ∧ K b σ1) →
  wpAny (Mo C) A (isTrue x env (eval x env)) (BP C σ s K) (XP C none1 σ s X) s

section
variable {C : Cx} {G : Gx} {mg mb : Str → Option Value} {n : Nat} {A : Around} {σ : PH} {s : Shared} {X : XPost}

theorem EOK.seq {t : Sem Value} {Q' : Post} {R : Value → Shared → Prop} {σ1 : PH} {s1 : Shared} (h : EOK C A σ1 s1 t Q' X) (st : Step none1 σ s.heap σ1 s1.heap) (r : Rest s s1)
    (k : ∀ v s2 p σ2, VR C σ2 s2.heap p v → Sim C σ2 s2.heap → Step none1 σ s.heap σ2 s2.heap → Step none1 σ1 s1.heap σ2 s2.heap → Rest s s2 → Q' p σ2 → R v s2) : wpAny (Mo C) A t R (XP C none1 σ s X) s1 :=
  wpAny_mono h (fun v s2 ⟨p, σ2, a, b, c, d, e⟩ => k v s2 p σ2 a b (st.trans c) c (r.trans d) e) fun _ _ x => XP.from st r x
theorem EOKs.seq {t : Sem (List Value)} {Q' : List PV → PH → Prop} {R : List Value → Shared → Prop} {σ1 : PH} {s1 : Shared} (h : EOKs C A σ1 s1 t Q' X) (st : Step none1 σ s.heap σ1 s1.heap) (r : Rest s s1)
    (k : ∀ v s2 p σ2, VRs C σ2 s2.heap p v → Sim C σ2 s2.heap → Step none1 σ s.heap σ2 s2.heap → Step none1 σ1 s1.heap σ2 s2.heap → Rest s s2 → Q' p σ2 → R v s2) : wpAny (Mo C) A t R (XP C none1 σ s X) s1 :=
  wpAny_mono h (fun v s2 ⟨p, σ2, a, b, c, d, e⟩ => k v s2 p σ2 a b (st.trans c) c (r.trans d) e) fun _ _ x => XP.from st r x
theorem VP.to0 {t : Sem Value} {Q : Post} {σ1 : PH} {s1 : Shared} {Er : Value → Shared → Prop} (st : Step none1 σ s.heap σ1 s1.heap) (r : Rest s s1) (h : wpAny (Mo C) A t (VP C none1 σ1 s1 Q) (fun _ _ => False) s1) : wpAny (Mo C) A t (VP C none1 σ s Q) Er s1 :=
  wpAny_mono h (fun _ _ x => VP.from st r x) fun _ _ x => x.elim

/-- what is shown of the richer things by texts of their own -/
structure Todo (C : Cx) (G : Gx) (n : Nat) : Prop where
  isi : C.ok → ∀ a ts, stat ts = false → EvalOK C G n a → EvalOK C G n (.isi a ts)

theorem AOK.u100 {l : List Env} {h : Heap} (a : AOK C n A l σ h) : A.units + 100 < cLine := by have := a.units; omega

theorem truthy_b {b : Bool} {R : Bool → Shared → Prop} {Er : Value → Shared → Prop} (h : R b s) : wpAny (Mo C) A (truthy (.bool b)) R Er s := wpAny_truthy_bool h

noncomputable def plainTest : Expr → Bool
  | .UnaryOp .Not .. => false
  | .BoolOp .. => false
  | .IfExp .. => false
  | .Compare .. => false
  | _ => true

/-- a test that is told by the value -/
theorem test_of {e : E} (h : EvalOK C G n e) (hp : ∀ sc x, mE sc e x = true → plainTest x = true) : TestOK C G n e := by
  intro sc x env ρ σ s A l Q K X hm sr ev m ak w hK
  have hx := hp sc x hm
  have he : isTrue x env (eval x env) = (do let v ← eval x env; standAt x.pos; holding [v] (truthy v)) := by
    cases x with
    | UnaryOp op a b => cases op <;> first | rfl | simp [plainTest] at hx
    | BoolOp => simp [plainTest] at hx
    | IfExp => simp [plainTest] at hx
    | Compare => simp [plainTest] at hx
    | _ => rfl
  refine wpAny_isTrue_value (EOK.then (h sc x env ρ σ s A l Q X hm sr ev m ak w) fun v s1 p σ1 hv m1 st1 r1 q => ?_) he
  obtain ⟨b, rfl, q'⟩ := hK p σ1 q
  simp only [VR] at hv; subst hv
  exact truthy_b ⟨σ1, m1, st1, r1, q'⟩

theorem ok_none : EvalOK C G n .none := by
  intro sc x env ρ σ s A l Q X hm sr ev m ak w
  obtain ⟨k, p, rfl⟩ := i_none hm
  exact wpAny_Constant_none (VP.here m rfl ⟨rfl, rfl⟩ vr_none w)
theorem ok_bool {b : Bool} : EvalOK C G n (.bool b) := by
  intro sc x env ρ σ s A l Q X hm sr ev m ak w
  obtain ⟨k, p, rfl⟩ := i_bool hm
  exact wpAny_Constant_bool (VP.here m rfl ⟨rfl, rfl⟩ vr_bool w)
theorem ok_int {b : Int} : EvalOK C G n (.int b) := by
  intro sc x env ρ σ s A l Q X hm sr ev m ak w
  obtain ⟨k, p, rfl⟩ := i_int hm
  exact wpAny_Constant_int (VP.here m rfl ⟨rfl, rfl⟩ (vr_int _) w)
theorem ok_str {b : String} : EvalOK C G n (.str b) := by
  intro sc x env ρ σ s A l Q X hm sr ev m ak w
  obtain ⟨k, p, rfl⟩ := i_str hm
  exact wpAny_Constant_str (VP.here (p := .str b) m rfl ⟨rfl, rfl⟩ ⟨_, rfl⟩ w)
theorem isLoc_env {sc : Scope} {env : Env} {y : Str} (sr : ScR sc env) (h : isLoc sc y = true) : isLoc env.scope y = true := by
  have : ∀ k, env.kindOf y = some k → (k = .local ∨ k = .cell ∨ k = .free) → isLoc env.scope y = true := fun k hk hc => by
    have hk : env.scope.names.lookup y = some k := hk
    unfold isLoc; rw [hk]; rcases hc with rfl | rfl | rfl <;> rfl
  rcases isLoc_iff h with q | q | q
  · exact this _ (sr.loc y q) (.inl rfl)
  · exact this _ (sr.cell y q) (.inr (.inl rfl))
  · rcases sr.free y q with q | q
    · exact this _ q (.inr (.inl rfl))
    · exact this _ q (.inr (.inr rfl))
theorem ok_loc {b : String} : EvalOK C G n (.loc b) := by
  intro sc x env ρ σ s A l Q X hm sr ev m ak w
  obtain ⟨p, rfl, h1, h2⟩ := i_loc hm
  simp only [we_none, we_bool, we_int, we_str, we_loc, we_glob, we_bin, we_neg, we_not, we_and, we_or, we_isNone, we_notNone, we_cmp, we_cmp2, we_tup, we_list, we_sub, we_upto, we_from, we_comp, we_compIf, we_call, we_bi, we_isi, we_meth] at w
  cases e : ρ.get b with
  | none => rw [e] at w; exact w.elim
  | some v => rw [e] at w; exact load_loc ev (isLoc_env sr h1) h2 e fun v' hv => VP.here m rfl ⟨rfl, rfl⟩ hv w
theorem ok_glob (g : GOK C G mg mb) {b : String} : EvalOK C G n (.glob b) := by
  intro sc x env ρ σ s A l Q X hm sr ev m ak w
  obtain ⟨p, rfl, h1, h2⟩ := i_glob hm
  simp only [we_none, we_bool, we_int, we_str, we_loc, we_glob, we_bin, we_neg, we_not, we_and, we_or, we_isNone, we_notNone, we_cmp, we_cmp2, we_tup, we_list, we_sub, we_upto, we_from, we_comp, we_compIf, we_call, we_bi, we_isi, we_meth] at w
  cases e : G.glob b with
  | none => rw [e] at w; exact w.elim
  | some v =>
    rw [e] at w
    obtain ⟨v', e1, e2⟩ := g.glob b v e
    exact load_glob g ev m (sr.glob _ (by simpa [isGlob] using h1)) h2 e1 (VP.here m rfl ⟨rfl, rfl⟩ (e2 _ _) w)
theorem ok_bin {op : BOp} {a b : E} (ha : EvalOK C G n a) (hb : EvalOK C G n b) : EvalOK C G n (.bin op a b) := by
  intro sc x env ρ σ s A l Q X hm sr ev m ak w
  obtain ⟨u, o, v, p, rfl, h1, h2, h3⟩ := i_bin hm
  simp only [we_none, we_bool, we_int, we_str, we_loc, we_glob, we_bin, we_neg, we_not, we_and, we_or, we_isNone, we_notNone, we_cmp, we_cmp2, we_tup, we_list, we_sub, we_upto, we_from, we_comp, we_compIf, we_call, we_bi, we_isi, we_meth] at w
  refine wpAny_BinOp (EOK.then (ha sc u env ρ σ s A l _ X h2 sr ev m ak w) fun v1 s1 p1 σ1 hv1 m1 st1 r1 w => ?_)
  refine EOK.seq (hb sc v env ρ σ1 s1 A l _ X h3 sr (ev.step st1) m1 (ak.step st1) w) st1 r1 fun v2 s2 p2 σ2 hv2 m2 st2 st12 r2 w => ?_
  exact VP.to0 st2 r2 (bin_ok h1 m2 (hv1.step st12) hv2 w)
theorem ok_neg {a : E} (ha : EvalOK C G n a) : EvalOK C G n (.neg a) := by
  intro sc x env ρ σ s A l Q X hm sr ev m ak w
  obtain ⟨u, p, rfl, h2⟩ := i_neg hm
  simp only [we_none, we_bool, we_int, we_str, we_loc, we_glob, we_bin, we_neg, we_not, we_and, we_or, we_isNone, we_notNone, we_cmp, we_cmp2, we_tup, we_list, we_sub, we_upto, we_from, we_comp, we_compIf, we_call, we_bi, we_isi, we_meth] at w
  refine wpAny_UnaryOp (EOK.then (ha sc u env ρ σ s A l _ X h2 sr ev m ak w) fun v1 s1 p1 σ1 hv1 m1 st1 r1 w => ?_)
  cases p1 <;> first | exact w.elim | skip
  obtain ⟨t, rfl⟩ := hv1
  exact VP.to0 st1 r1 (P.neg_int (VP.here m1 rfl ⟨rfl, rfl⟩ (vr_int _) w))
theorem ok_not {a : E} (ha : EvalOK C G n a) : EvalOK C G n (.not_ a) := by
  intro sc x env ρ σ s A l Q X hm sr ev m ak w
  obtain ⟨u, p, rfl, h2⟩ := i_not hm
  simp only [we_none, we_bool, we_int, we_str, we_loc, we_glob, we_bin, we_neg, we_not, we_and, we_or, we_isNone, we_notNone, we_cmp, we_cmp2, we_tup, we_list, we_sub, we_upto, we_from, we_comp, we_compIf, we_call, we_bi, we_isi, we_meth] at w
  refine wpAny_UnaryOp (EOK.then (ha sc u env ρ σ s A l _ X h2 sr ev m ak w) fun v1 s1 p1 σ1 hv1 m1 st1 r1 w => ?_)
  cases p1 <;> first | exact w.elim | skip
  simp only [VR] at hv1; subst hv1
  exact VP.to0 st1 r1 (not_value (truthy_b (VP.here m1 rfl ⟨rfl, rfl⟩ vr_bool w)))
theorem tst_not {a : E} (ha : TestOK C G n a) : TestOK C G n (.not_ a) := by
  intro sc x env ρ σ s A l Q K X hm sr ev m ak w hK
  obtain ⟨u, p, rfl, h2⟩ := i_not hm
  simp only [we_none, we_bool, we_int, we_str, we_loc, we_glob, we_bin, we_neg, we_not, we_and, we_or, we_isNone, we_notNone, we_cmp, we_cmp2, we_tup, we_list, we_sub, we_upto, we_from, we_comp, we_compIf, we_call, we_bi, we_isi, we_meth] at w
  refine wpAny_isTrue_Not (wpAny_mono (ha sc u env ρ σ s A l _ (fun b σ1 => K (!b) σ1) X h2 sr ev m ak w fun v σ1 q => ?_) (fun b s1 x => x) fun _ _ x => x)
  cases v <;> first | exact q.elim | skip
  obtain ⟨b', e, q⟩ := hK _ _ q
  cases e
  exact ⟨_, rfl, q⟩

theorem And_more {env : Env} {x y z : Expr} {r : List Expr} {pos : Pos} {Q Er : Value → Shared → Prop}
    (h : wpAny (Mo C) A (eval x env) (fun v s₁ => wpAny (Mo C) A (truthy v) (fun t s₂ => if t then wpAny (Mo C) A (eval (.BoolOp .And (y :: z :: r) pos) env) Q Er s₂ else Q v s₂) Er s₁) Er s) :
    wpAny (Mo C) A (eval (.BoolOp .And (x :: y :: z :: r) pos) env) Q Er s := by
  show wpAny (Mo C) A (do
    let v ← eval x env
    standAt pos
    let t ← holding [v] (truthy v)
    match BoolOp.And, t with
    | .And, false | .Or, true => pure v
    | _, _ => boolOp pos .And (eval y env :: eval z env :: evalEach r env)) Q Er s
  refine wpAny_bind (wpAny_mono h (fun v s₁ h₁ => wpAny_bind (wpAny_standAt (wpAny_bind (wpAny_holding (wpAny_mono h₁ (fun t s₂ h₂ => ?_) fun _ _ x => x))))) fun _ _ x => x)
  cases t with
  | false => exact wpAny_pure h₂
  | true => exact h₂
theorem Or_more {env : Env} {x y z : Expr} {r : List Expr} {pos : Pos} {Q Er : Value → Shared → Prop}
    (h : wpAny (Mo C) A (eval x env) (fun v s₁ => wpAny (Mo C) A (truthy v) (fun t s₂ => if t then Q v s₂ else wpAny (Mo C) A (eval (.BoolOp .Or (y :: z :: r) pos) env) Q Er s₂) Er s₁) Er s) :
    wpAny (Mo C) A (eval (.BoolOp .Or (x :: y :: z :: r) pos) env) Q Er s := by
  show wpAny (Mo C) A (do
    let v ← eval x env
    standAt pos
    let t ← holding [v] (truthy v)
    match BoolOp.Or, t with
    | .And, false | .Or, true => pure v
    | _, _ => boolOp pos .Or (eval y env :: eval z env :: evalEach r env)) Q Er s
  refine wpAny_bind (wpAny_mono h (fun v s₁ h₁ => wpAny_bind (wpAny_standAt (wpAny_bind (wpAny_holding (wpAny_mono h₁ (fun t s₂ h₂ => ?_) fun _ _ x => x))))) fun _ _ x => x)
  cases t with
  | false => exact h₂
  | true => exact wpAny_pure h₂

theorem ok_and {a b : E} (ha : EvalOK C G n a) (hb : EvalOK C G n b) : EvalOK C G n (.and_ a b) := by
  intro sc x env ρ σ s A l Q X hm sr ev m ak w
  obtain ⟨y, p, h1, h2⟩ := i_and hm
  simp only [we_none, we_bool, we_int, we_str, we_loc, we_glob, we_bin, we_neg, we_not, we_and, we_or, we_isNone, we_notNone, we_cmp, we_cmp2, we_tup, we_list, we_sub, we_upto, we_from, we_comp, we_compIf, we_call, we_bi, we_isi, we_meth] at w
  have key : ∀ x' , mE sc b x' = true → wpAny (Mo C) A (eval y env) (fun v s₁ => wpAny (Mo C) A (truthy v) (fun t s₂ => if t then wpAny (Mo C) A (eval x' env) (VP C none1 σ s Q) (XP C none1 σ s X) s₂ else VP C none1 σ s Q v s₂) (XP C none1 σ s X) s₁) (XP C none1 σ s X) s := fun x' hx' => by
    refine EOK.then (ha sc y env ρ σ s A l _ X h1 sr ev m ak w) fun v1 s1 p1 σ1 hv1 m1 st1 r1 w => ?_
    cases p1 <;> first | exact w.elim | skip
    rename_i bb
    simp only [VR] at hv1; subst hv1
    refine truthy_b ?_
    cases bb with
    | true => exact EOK.after st1 r1 (hb sc x' env ρ σ1 s1 A l _ X hx' sr (ev.step st1) m1 (ak.step st1) w)
    | false => exact VP.from st1 r1 (VP.here m1 rfl ⟨rfl, rfl⟩ vr_bool w)
  rcases h2 with ⟨z, rfl, h3⟩ | ⟨z, w', r, rfl, h3⟩
  · exact wpAny_And2 (key z h3)
  · exact And_more (key _ h3)
theorem ok_or {a b : E} (ha : EvalOK C G n a) (hb : EvalOK C G n b) : EvalOK C G n (.or_ a b) := by
  intro sc x env ρ σ s A l Q X hm sr ev m ak w
  obtain ⟨y, p, h1, h2⟩ := i_or hm
  simp only [we_none, we_bool, we_int, we_str, we_loc, we_glob, we_bin, we_neg, we_not, we_and, we_or, we_isNone, we_notNone, we_cmp, we_cmp2, we_tup, we_list, we_sub, we_upto, we_from, we_comp, we_compIf, we_call, we_bi, we_isi, we_meth] at w
  have key : ∀ x' , mE sc b x' = true → wpAny (Mo C) A (eval y env) (fun v s₁ => wpAny (Mo C) A (truthy v) (fun t s₂ => if t then VP C none1 σ s Q v s₂ else wpAny (Mo C) A (eval x' env) (VP C none1 σ s Q) (XP C none1 σ s X) s₂) (XP C none1 σ s X) s₁) (XP C none1 σ s X) s := fun x' hx' => by
    refine EOK.then (ha sc y env ρ σ s A l _ X h1 sr ev m ak w) fun v1 s1 p1 σ1 hv1 m1 st1 r1 w => ?_
    cases p1 <;> first | exact w.elim | skip
    rename_i bb
    simp only [VR] at hv1; subst hv1
    refine truthy_b ?_
    cases bb with
    | false => exact EOK.after st1 r1 (hb sc x' env ρ σ1 s1 A l _ X hx' sr (ev.step st1) m1 (ak.step st1) w)
    | true => exact VP.from st1 r1 (VP.here m1 rfl ⟨rfl, rfl⟩ vr_bool w)
  rcases h2 with ⟨z, rfl, h3⟩ | ⟨z, w', r, rfl, h3⟩
  · exact wpAny_Or2 (key z h3)
  · exact Or_more (key _ h3)

theorem BP.from {σ1 : PH} {s1 : Shared} {K : Bool → PH → Prop} {b : Bool} {s2 : Shared} (st : Step none1 σ s.heap σ1 s1.heap) (r : Rest s s1) (x : BP C σ1 s1 K b s2) : BP C σ s K b s2 :=
  let ⟨σ2, a, b, c, d⟩ := x; ⟨σ2, a, st.trans b, r.trans c, d⟩
theorem BP.after {t : Sem Bool} {σ1 : PH} {s1 : Shared} {K : Bool → PH → Prop} (st : Step none1 σ s.heap σ1 s1.heap) (r : Rest s s1) (h : wpAny (Mo C) A t (BP C σ1 s1 K) (XP C none1 σ1 s1 X) s1) :
    wpAny (Mo C) A t (BP C σ s K) (XP C none1 σ s X) s1 := wpAny_mono h (fun _ _ x => BP.from st r x) fun _ _ x => XP.from st r x

theorem tst_and {a b : E} (ha : TestOK C G n a) (hb : TestOK C G n b) : TestOK C G n (.and_ a b) := by
  intro sc x env ρ σ s A l Q K X hm sr ev m ak w hK
  obtain ⟨y, p, h1, h2⟩ := i_and hm
  simp only [we_none, we_bool, we_int, we_str, we_loc, we_glob, we_bin, we_neg, we_not, we_and, we_or, we_isNone, we_notNone, we_cmp, we_cmp2, we_tup, we_list, we_sub, we_upto, we_from, we_comp, we_compIf, we_call, we_bi, we_isi, we_meth] at w
  have key : ∀ (t : Sem Bool) (x' : Expr), mE sc b x' = true → (∀ (R : Bool → Shared → Prop) (Er : Value → Shared → Prop) (s' : Shared), wpAny (Mo C) A (isTrue x' env (eval x' env)) R Er s' → wpAny (Mo C) A t R Er s') →
      wpAny (Mo C) A (isTrue y env (eval y env)) (fun b s₁ => if b then wpAny (Mo C) A t (BP C σ s K) (XP C none1 σ s X) s₁ else BP C σ s K false s₁) (XP C none1 σ s X) s := fun t x' hx' ht => by
    refine wpAny_mono (ha sc y env ρ σ s A l _ (fun bb σ1 => if bb then we G (CallOK C n) b ρ σ1 Q X else Q (.bool false) σ1) X h1 sr ev m ak w fun v σ1 q => ?_) (fun bb s1 hbb => ?_) fun _ _ x => x
    · cases v <;> first | exact q.elim | skip
      rename_i bb; cases bb <;> exact ⟨_, rfl, by simpa using q⟩
    · obtain ⟨σ1, m1, st1, r1, w⟩ := hbb
      cases bb with
      | true => exact ht _ _ _ (BP.after st1 r1 (hb sc x' env ρ σ1 s1 A l _ K X hx' sr (ev.step st1) m1 (ak.step st1) w hK))
      | false =>
        obtain ⟨b', e, q⟩ := hK _ _ w
        cases e
        exact ⟨σ1, m1, st1, r1, q⟩
  rcases h2 with ⟨z, rfl, h3⟩ | ⟨z, w', r, rfl, h3⟩
  · refine wpAny_isTrue_BoolOp (wpAny_allTrue_And_cons (key _ z h3 fun R Er s' h => wpAny_allTrue_And_cons (wpAny_mono h (fun b s1 hb => ?_) fun _ _ x => x)))
    cases b with
    | true => exact wpAny_allTrue_And_nil hb
    | false => exact hb
  · exact wpAny_isTrue_BoolOp (wpAny_allTrue_And_cons (key _ _ h3 fun R Er s' h => h))
theorem tst_or {a b : E} (ha : TestOK C G n a) (hb : TestOK C G n b) : TestOK C G n (.or_ a b) := by
  intro sc x env ρ σ s A l Q K X hm sr ev m ak w hK
  obtain ⟨y, p, h1, h2⟩ := i_or hm
  simp only [we_none, we_bool, we_int, we_str, we_loc, we_glob, we_bin, we_neg, we_not, we_and, we_or, we_isNone, we_notNone, we_cmp, we_cmp2, we_tup, we_list, we_sub, we_upto, we_from, we_comp, we_compIf, we_call, we_bi, we_isi, we_meth] at w
  have key : ∀ (t : Sem Bool) (x' : Expr), mE sc b x' = true → (∀ (R : Bool → Shared → Prop) (Er : Value → Shared → Prop) (s' : Shared), wpAny (Mo C) A (isTrue x' env (eval x' env)) R Er s' → wpAny (Mo C) A t R Er s') →
      wpAny (Mo C) A (isTrue y env (eval y env)) (fun b s₁ => if b then BP C σ s K true s₁ else wpAny (Mo C) A t (BP C σ s K) (XP C none1 σ s X) s₁) (XP C none1 σ s X) s := fun t x' hx' ht => by
    refine wpAny_mono (ha sc y env ρ σ s A l _ (fun bb σ1 => if bb then Q (.bool true) σ1 else we G (CallOK C n) b ρ σ1 Q X) X h1 sr ev m ak w fun v σ1 q => ?_) (fun bb s1 hbb => ?_) fun _ _ x => x
    · cases v <;> first | exact q.elim | skip
      rename_i bb; cases bb <;> exact ⟨_, rfl, by simpa using q⟩
    · obtain ⟨σ1, m1, st1, r1, w⟩ := hbb
      cases bb with
      | false => exact ht _ _ _ (BP.after st1 r1 (hb sc x' env ρ σ1 s1 A l _ K X hx' sr (ev.step st1) m1 (ak.step st1) w hK))
      | true =>
        obtain ⟨b', e, q⟩ := hK _ _ w
        cases e
        exact ⟨σ1, m1, st1, r1, q⟩
  rcases h2 with ⟨z, rfl, h3⟩ | ⟨z, w', r, rfl, h3⟩
  · refine wpAny_isTrue_BoolOp (wpAny_allTrue_Or_cons (key _ z h3 fun R Er s' h => wpAny_allTrue_Or_cons (wpAny_mono h (fun b s1 hb => ?_) fun _ _ x => x)))
    cases b with
    | true => exact hb
    | false => exact wpAny_allTrue_Or_nil hb
  · exact wpAny_isTrue_BoolOp (wpAny_allTrue_Or_cons (key _ _ h3 fun R Er s' h => h))

theorem beq_none {σ : PH} {h : Heap} {p : PV} {v : Value} (hv : VR C σ h p v) : (v == Value.none) = (match p with | .none => true | _ => false) := by
  cases p <;> simp only [VR] at hv
  · subst hv; rfl
  · subst hv; rfl
  · obtain ⟨t, rfl⟩ := hv; rfl
  · obtain ⟨t, rfl⟩ := hv; rfl
  · obtain ⟨a, _, _, rfl, _⟩ := hv; rfl
  · subst hv; rfl
  · obtain ⟨a, _, _, _, rfl, _⟩ := hv; rfl
theorem ok_isNone {a : E} (ha : EvalOK C G n a) : EvalOK C G n (.isNone a) := by
  intro sc x env ρ σ s A l Q X hm sr ev m ak w
  obtain ⟨u, k, p, q, rfl, h1⟩ := i_isNone hm
  simp only [we_none, we_bool, we_int, we_str, we_loc, we_glob, we_bin, we_neg, we_not, we_and, we_or, we_isNone, we_notNone, we_cmp, we_cmp2, we_tup, we_list, we_sub, we_upto, we_from, we_comp, we_compIf, we_call, we_bi, we_isi, we_meth] at w
  refine wpAny_Compare1 (EOK.then (ha sc u env ρ σ s A l _ X h1 sr ev m ak w) fun v1 s1 p1 σ1 hv1 m1 st1 r1 w => ?_)
  refine wpAny_Constant_none (VP.to0 st1 r1 (is_none (VP.here m1 rfl ⟨rfl, rfl⟩ vr_bool ?_)))
  rw [beq_none hv1]
  cases p1 <;> exact w
theorem ok_notNone {a : E} (ha : EvalOK C G n a) : EvalOK C G n (.notNone a) := by
  intro sc x env ρ σ s A l Q X hm sr ev m ak w
  obtain ⟨u, k, p, q, rfl, h1⟩ := i_notNone hm
  simp only [we_none, we_bool, we_int, we_str, we_loc, we_glob, we_bin, we_neg, we_not, we_and, we_or, we_isNone, we_notNone, we_cmp, we_cmp2, we_tup, we_list, we_sub, we_upto, we_from, we_comp, we_compIf, we_call, we_bi, we_isi, we_meth] at w
  refine wpAny_Compare1 (EOK.then (ha sc u env ρ σ s A l _ X h1 sr ev m ak w) fun v1 s1 p1 σ1 hv1 m1 st1 r1 w => ?_)
  refine wpAny_Constant_none (VP.to0 st1 r1 (isNot_none (VP.here m1 rfl ⟨rfl, rfl⟩ vr_bool ?_)))
  rw [beq_none hv1]
  cases p1 <;> exact w
theorem tst_isNone {a : E} (ha : EvalOK C G n a) : TestOK C G n (.isNone a) := by
  intro sc x env ρ σ s A l Q K X hm sr ev m ak w hK
  obtain ⟨u, k, p, q, rfl, h1⟩ := i_isNone hm
  simp only [we_none, we_bool, we_int, we_str, we_loc, we_glob, we_bin, we_neg, we_not, we_and, we_or, we_isNone, we_notNone, we_cmp, we_cmp2, we_tup, we_list, we_sub, we_upto, we_from, we_comp, we_compIf, we_call, we_bi, we_isi, we_meth] at w
  refine wpAny_isTrue_Compare1 (EOK.then (ha sc u env ρ σ s A l _ X h1 sr ev m ak w) fun v1 s1 p1 σ1 hv1 m1 st1 r1 w => ?_)
  refine wpAny_Constant_none (is_none (truthy_b ?_))
  rw [beq_none hv1]
  cases p1 <;> (obtain ⟨b, e, q⟩ := hK _ _ w; cases e; exact ⟨σ1, m1, st1, r1, q⟩)
theorem tst_notNone {a : E} (ha : EvalOK C G n a) : TestOK C G n (.notNone a) := by
  intro sc x env ρ σ s A l Q K X hm sr ev m ak w hK
  obtain ⟨u, k, p, q, rfl, h1⟩ := i_notNone hm
  simp only [we_none, we_bool, we_int, we_str, we_loc, we_glob, we_bin, we_neg, we_not, we_and, we_or, we_isNone, we_notNone, we_cmp, we_cmp2, we_tup, we_list, we_sub, we_upto, we_from, we_comp, we_compIf, we_call, we_bi, we_isi, we_meth] at w
  refine wpAny_isTrue_Compare1 (EOK.then (ha sc u env ρ σ s A l _ X h1 sr ev m ak w) fun v1 s1 p1 σ1 hv1 m1 st1 r1 w => ?_)
  refine wpAny_Constant_none (isNot_none (truthy_b ?_))
  rw [beq_none hv1]
  cases p1 <;> (obtain ⟨b, e, q⟩ := hK _ _ w; cases e; exact ⟨σ1, m1, st1, r1, q⟩)

theorem ok_cmp {op : COp} {a b : E} (ha : EvalOK C G n a) (hb : EvalOK C G n b) : EvalOK C G n (.cmp op a b) := by
  intro sc x env ρ σ s A l Q X hm sr ev m ak w
  obtain ⟨u, o, v, p, rfl, h1, h2, h3, h4⟩ := i_cmp hm
  simp only [we_none, we_bool, we_int, we_str, we_loc, we_glob, we_bin, we_neg, we_not, we_and, we_or, we_isNone, we_notNone, we_cmp, we_cmp2, we_tup, we_list, we_sub, we_upto, we_from, we_comp, we_compIf, we_call, we_bi, we_isi, we_meth] at w
  refine wpAny_Compare1 (EOK.then (ha sc u env ρ σ s A l _ X h2 sr ev m ak w) fun v1 s1 p1 σ1 hv1 m1 st1 r1 w => ?_) h4
  refine EOK.seq (hb sc v env ρ σ1 s1 A l _ X h3 sr (ev.step st1) m1 (ak.step st1) w) st1 r1 fun v2 s2 p2 σ2 hv2 m2 st2 st12 r2 w => ?_
  refine VP.to0 st2 r2 (wpAny_mono (cmp_ok h1 m2 ak.u100 (hv1.step st12) hv2 w) (fun v s3 h => ?_) fun _ _ x => x)
  obtain ⟨p3, σ3, e1, e2, e3, e4, bb, rfl, e5⟩ := h
  exact ⟨.bool bb, σ3, e1, e2, e3, e4, e5⟩
theorem tst_cmp {op : COp} {a b : E} (ha : EvalOK C G n a) (hb : EvalOK C G n b) : TestOK C G n (.cmp op a b) := by
  intro sc x env ρ σ s A l Q K X hm sr ev m ak w hK
  obtain ⟨u, o, v, p, rfl, h1, h2, h3, h4⟩ := i_cmp hm
  simp only [we_none, we_bool, we_int, we_str, we_loc, we_glob, we_bin, we_neg, we_not, we_and, we_or, we_isNone, we_notNone, we_cmp, we_cmp2, we_tup, we_list, we_sub, we_upto, we_from, we_comp, we_compIf, we_call, we_bi, we_isi, we_meth] at w
  refine wpAny_isTrue_Compare1 (EOK.then (ha sc u env ρ σ s A l _ X h2 sr ev m ak w) fun v1 s1 p1 σ1 hv1 m1 st1 r1 w => ?_) h4
  refine EOK.seq (hb sc v env ρ σ1 s1 A l _ X h3 sr (ev.step st1) m1 (ak.step st1) w) st1 r1 fun v2 s2 p2 σ2 hv2 m2 st2 st12 r2 w => ?_
  refine wpAny_mono (cmp_ok h1 m2 ak.u100 (hv1.step st12) hv2 w) (fun v s3 h => ?_) fun _ _ x => x
  obtain ⟨p3, σ3, e1, e2, e3, e4, bb, rfl, e5⟩ := h
  simp only [VR] at e1; subst e1
  obtain ⟨b', e, q⟩ := hK _ _ e5
  cases e
  exact truthy_b ⟨σ3, e2, st2.trans e3, r2.trans e4, q⟩
theorem lastMarks2 {p1 p2 : CmpOp} {r1 r2 : Expr} (h : behindInMarks p2 r2 = false) : lastMarks [p1, p2] [r1, r2] = false := by
  simpa [lastMarks] using h
theorem ok_cmp2 {o1 o2 : COp} {a b c : E} (ha : EvalOK C G n a) (hb : EvalOK C G n b) (hc : EvalOK C G n c) : EvalOK C G n (.cmp2 a o1 b o2 c) := by
  intro sc x env ρ σ s A l Q X hm sr ev m ak w
  obtain ⟨u, p1, p2, y1, y2, p, rfl, h1, h2, h3, h4, h5, h6⟩ := i_cmp2 hm
  simp only [we_none, we_bool, we_int, we_str, we_loc, we_glob, we_bin, we_neg, we_not, we_and, we_or, we_isNone, we_notNone, we_cmp, we_cmp2, we_tup, we_list, we_sub, we_upto, we_from, we_comp, we_compIf, we_call, we_bi, we_isi, we_meth] at w
  refine PyProof.Rows.Compare_chain (EOK.then (ha sc u env ρ σ s A l _ X h3 sr ev m ak w) fun v1 s1 q1 σ1 hv1 m1 st1 r1 w => ?_) (lastMarks2 h6)
  refine PyProof.Rows.chain_link (EOK.seq (hb sc y1 env ρ σ1 s1 A l _ X h4 sr (ev.step st1) m1 (ak.step st1) w) st1 r1 fun v2 s2 q2 σ2 hv2 m2 st2 st12 r2 w => ?_)
  refine wpAny_mono (cmp_ok h1 m2 ak.u100 (hv1.step st12) hv2 w) (fun v s3 h => ?_) fun _ _ x => x
  obtain ⟨p3, σ3, e1, e2, e3, e4, bb, rfl, w⟩ := h
  simp only [VR] at e1; subst e1
  refine truthy_b ?_
  have st3 := st2.trans e3
  have r3 := r2.trans e4
  cases bb with
  | false => exact ⟨.bool false, σ3, vr_bool, e2, st3, r3, w⟩
  | true =>
    simp only [if_true] at w ⊢
    refine PyProof.Rows.chain_last (EOK.seq (hc sc y2 env ρ σ3 s3 A l _ X h5 sr (ev.step st3) e2 (ak.step st3) w) st3 r3 fun v4 s4 q4 σ4 hv4 m4 st4 st34 r4 w => ?_)
    refine VP.to0 st4 r4 (wpAny_mono (cmp_ok h2 m4 ak.u100 ((hv2.step e3).step st34) hv4 w) (fun v s5 h => ?_) fun _ _ x => x)
    obtain ⟨p5, σ5, e1, e2, e3, e4, bb, rfl, e5⟩ := h
    exact ⟨.bool bb, σ5, e1, e2, e3, e4, e5⟩
theorem tst_cmp2 {o1 o2 : COp} {a b c : E} (ha : EvalOK C G n a) (hb : EvalOK C G n b) (hc : EvalOK C G n c) : TestOK C G n (.cmp2 a o1 b o2 c) := by
  intro sc x env ρ σ s A l Q K X hm sr ev m ak w hK
  obtain ⟨u, p1, p2, y1, y2, p, rfl, h1, h2, h3, h4, h5, h6⟩ := i_cmp2 hm
  simp only [we_none, we_bool, we_int, we_str, we_loc, we_glob, we_bin, we_neg, we_not, we_and, we_or, we_isNone, we_notNone, we_cmp, we_cmp2, we_tup, we_list, we_sub, we_upto, we_from, we_comp, we_compIf, we_call, we_bi, we_isi, we_meth] at w
  refine PyProof.Rows.isTrue_chain (EOK.then (ha sc u env ρ σ s A l _ X h3 sr ev m ak w) fun v1 s1 q1 σ1 hv1 m1 st1 r1 w => ?_) (lastMarks2 h6)
  refine PyProof.Rows.test_link (EOK.seq (hb sc y1 env ρ σ1 s1 A l _ X h4 sr (ev.step st1) m1 (ak.step st1) w) st1 r1 fun v2 s2 q2 σ2 hv2 m2 st2 st12 r2 w => ?_)
  refine wpAny_mono (cmp_ok h1 m2 ak.u100 (hv1.step st12) hv2 w) (fun v s3 h => ?_) fun _ _ x => x
  obtain ⟨p3, σ3, e1, e2, e3, e4, bb, rfl, w⟩ := h
  simp only [VR] at e1; subst e1
  refine truthy_b ?_
  have st3 := st2.trans e3
  have r3 := r2.trans e4
  cases bb with
  | false =>
    obtain ⟨b', e, q⟩ := hK _ _ w
    cases e
    exact ⟨σ3, e2, st3, r3, q⟩
  | true =>
    simp only [if_true] at w ⊢
    refine PyProof.Rows.test_last (EOK.seq (hc sc y2 env ρ σ3 s3 A l _ X h5 sr (ev.step st3) e2 (ak.step st3) w) st3 r3 fun v4 s4 q4 σ4 hv4 m4 st4 st34 r4 w => ?_)
    refine wpAny_mono (cmp_ok h2 m4 ak.u100 ((hv2.step e3).step st34) hv4 w) (fun v s5 h => ?_) fun _ _ x => x
    obtain ⟨p5, σ5, e1, e2, e3, e4, bb, rfl, e5⟩ := h
    simp only [VR] at e1; subst e1
    obtain ⟨b', e, q⟩ := hK _ _ e5
    cases e
    exact truthy_b ⟨σ5, e2, st4.trans e3, r4.trans e4, q⟩
end
end Vl
end

section
open PySem
set_option linter.unusedVariables false
set_option linter.unusedSimpArgs false
namespace Vl

/-! what matches is no starred thing and no set -/
theorem mE_starred {sc : Scope} {e : E} {y : Expr} {p : Pos} : mE sc e (.Starred y p) = false := mE_not rfl
theorem mE_set {sc : Scope} {e : E} {es : List Expr} {k : Nat} {p : Pos} : mE sc e (.Set es k p) = false := mE_not rfl
theorem mEs_plain {sc : Scope} : ∀ {es : List E} {xs : List Expr}, mEs sc es xs = true → plainArgs xs = true
  | [], [], _ => rfl
  | [], _ :: _, h => by simp [mEs] at h
  | _ :: _, [], h => by simp [mEs] at h
  | e :: es, x :: xs, h => by
    simp only [mEs, Bool.and_eq_true] at h
    cases x with
    | Starred y p => rw [mE_starred] at h; cases h.1
    | _ => simp only [plainArgs]; exact mEs_plain h.2
theorem mEs_length {sc : Scope} : ∀ {es : List E} {xs : List Expr}, mEs sc es xs = true → xs.length = es.length
  | [], [], _ => rfl
  | [], _ :: _, h => by simp [mEs] at h
  | _ :: _, [], h => by simp [mEs] at h
  | e :: es, x :: xs, h => by
    simp only [mEs, Bool.and_eq_true] at h
    simp [mEs_length h.2]
theorem folded_of {sc : Scope} {e : E} {x : Expr} (h : mE sc e x = true) (env : Env) : ∀ v, foldedSetIterable x env v = pure v := by
  intro v
  cases x with
  | Set es k p => rw [mE_set] at h; cases h
  | _ => rfl
theorem it_call {sc : Scope} {n : String} {m : Nat} {es : List E} {x : Expr} (h : hCl (glb sc n) (fun as => mEs sc es as && decide (as.length = m)) x = true) : ∃ p as q, x = .Call (.Name (Str.ofString n) p) as [] q ∧ sc.names.lookup (Str.ofString n) = some .globalImplicit ∧ notDebug (Str.ofString n) = true ∧ mEs sc es as = true ∧ as.length = m := by
  obtain ⟨y, as, q, rfl, h1, h2⟩ := v_call h
  obtain ⟨p, rfl, h3, h4⟩ := glb_iff h1
  exact ⟨p, as, q, rfl, h3, h4, (and2 h2).1, of_decide_eq_true (and2 h2).2⟩
theorem it_val {sc : Scope} {es : List E} {x : Expr} (h : mEs sc es [x] = true) : ∃ a, es = [a] ∧ mE sc a x = true := by
  match es, h with
  | [a], h => exact ⟨a, rfl, (and2 (show (mE sc a x && mEs sc [] []) = true from h)).1⟩
  | a :: b :: r, h => exact absurd (and2 (show (mE sc a x && mEs sc (b :: r) []) = true from h)).2 Bool.false_ne_true
theorem folded_it {sc : Scope} {k : IK} {es : List E} {x : Expr} (h : mIt sc k es x = true) (env : Env) : ∀ v, foldedSetIterable x env v = pure v := by
  cases k with
  | val => obtain ⟨a, rfl, h2⟩ := it_val h; exact folded_of h2 env
  | range => obtain ⟨_, _, _, rfl, _⟩ := it_call h; intro v; rfl

section
variable {C : Cx} {G : Gx} {mg mb : Str → Option Value} {n : Nat}

/-- arguments, one after another -/
theorem wes_ok : ∀ {es : List E}, (∀ e ∈ es, EvalOK C G n e) → ∀ {sc : Scope} {xs : List Expr} {pos : Pos} {env : Env} {ρ : Rho} {σ : PH} {s : Shared} {A : Around} {l : List Env} {Q : List PV → PH → Prop} {X : XPost},
    mEs sc es xs = true → ScR sc env → EnvR C env ρ σ s.heap → Sim C σ s.heap → AOK C n A l σ s.heap → wes G (CallOK C n) es ρ σ Q X → EOKs C A σ s (spliced (backTo pos (starEach xs env))) (fun ps σ1 => ps.length = es.length ∧ Q ps σ1) X
  | [], _, sc, [], pos, env, ρ, σ, s, A, l, Q, X, hm, sr, ev, m, ak, w => by
    simp only [wes_nil, wes_cons] at w
    exact Calls.spliced_nil ⟨[], σ, rfl, m, .refl _ _ _, ⟨rfl, rfl⟩, rfl, w⟩
  | [], _, sc, _ :: _, pos, env, ρ, σ, s, A, l, Q, X, hm, sr, ev, m, ak, w => by simp [mEs] at hm
  | _ :: _, _, sc, [], pos, env, ρ, σ, s, A, l, Q, X, hm, sr, ev, m, ak, w => by simp [mEs] at hm
  | e :: es, h, sc, x :: xs, pos, env, ρ, σ, s, A, l, Q, X, hm, sr, ev, m, ak, w => by
    have hp := mEs_plain hm
    simp only [mEs, Bool.and_eq_true] at hm
    simp only [wes_nil, wes_cons] at w
    have hne : ∀ y p, x ≠ .Starred y p := by rintro y p rfl; cases hp
    rw [starEach_cons hne]
    show wpAny _ _ (spliced ((false, eval x env) :: backTo pos (starEach xs env))) _ _ s
    refine Calls.spliced_cons (EOK.then (h e List.mem_cons_self sc x env ρ σ s A l _ X hm.1 sr ev m ak w) fun v1 s1 p1 σ1 hv1 m1 st1 r1 w => ?_)
    refine EOKs.seq (wes_ok (fun e' he' => h e' (List.mem_cons_of_mem _ he')) hm.2 sr (ev.step st1) m1 (ak.step st1) w) st1 r1 fun vs s2 ps σ2 hvs m2 st2 st12 r2 w => ?_
    exact ⟨p1 :: ps, σ2, by simp only [VRs]; exact ⟨v1, vs, rfl, hv1.step st12, hvs⟩, m2, st2, r2, by simp [w.1], w.2⟩

theorem ok_tup {es : List E} (h : ∀ e ∈ es, EvalOK C G n e) : EvalOK C G n (.tup es) := by
  intro sc x env ρ σ s A l Q X hm sr ev m ak w
  obtain ⟨xs, k, p, rfl, h1, h2⟩ := i_tup hm
  simp only [we_none, we_bool, we_int, we_str, we_loc, we_glob, we_bin, we_neg, we_not, we_and, we_or, we_isNone, we_notNone, we_cmp, we_cmp2, we_tup, we_list, we_sub, we_upto, we_from, we_comp, we_compIf, we_call, we_bi, we_isi, we_meth] at w
  refine wpAny_Tuple_spliced (wpAny_mono (wes_ok h h1 sr ev m ak w) (fun vs s1 hvs => ?_) fun _ _ x => x)
  obtain ⟨ps, σ1, hv, m1, st1, r1, hn, w⟩ := hvs
  refine ⟨?_, VP.from st1 r1 (VP.allocTup (vs := vs.toArray) (n := 0) m1 rfl ⟨rfl, rfl⟩ (by simpa using hv) w)⟩
  rw [hv.length, hn, ← mEs_length h1]
  exact Nat.le_trans h2 (by decide)
theorem ok_list {es : List E} (h : ∀ e ∈ es, EvalOK C G n e) : EvalOK C G n (.list es) := by
  intro sc x env ρ σ s A l Q X hm sr ev m ak w
  obtain ⟨xs, p, rfl, h1, h2⟩ := i_list hm
  simp only [we_none, we_bool, we_int, we_str, we_loc, we_glob, we_bin, we_neg, we_not, we_and, we_or, we_isNone, we_notNone, we_cmp, we_cmp2, we_tup, we_list, we_sub, we_upto, we_from, we_comp, we_compIf, we_call, we_bi, we_isi, we_meth] at w
  refine wpAny_List_spliced (wpAny_mono (wes_ok h h1 sr ev m ak w) (fun vs s1 hvs => ?_) fun _ _ x => x)
  obtain ⟨ps, σ1, hv, m1, st1, r1, hn, w⟩ := hvs
  refine ⟨?_, VP.from st1 r1 (VP.alloc (o := .list ps) m1 rfl ⟨rfl, rfl⟩ rfl ⟨vs.toArray, 0, rfl, by simpa using hv⟩ w)⟩
  rw [hv.length, hn, ← mEs_length h1]
  exact Nat.le_trans h2 (by decide)

theorem ok_sub (T : Todo C G n) {a b : E} (ha : EvalOK C G n a) (hb : EvalOK C G n b) : EvalOK C G n (.sub a b) := by
  intro sc x env ρ σ s A l Q X hm sr ev m ak w
  obtain ⟨u, v, p, rfl, h2, h3⟩ := i_sub hm
  simp only [we_none, we_bool, we_int, we_str, we_loc, we_glob, we_bin, we_neg, we_not, we_and, we_or, we_isNone, we_notNone, we_cmp, we_cmp2, we_tup, we_list, we_sub, we_upto, we_from, we_comp, we_compIf, we_call, we_bi, we_isi, we_meth] at w
  refine PyProof.Rows.Subscript_ (EOK.then (ha sc u env ρ σ s A l _ X h2 sr ev m ak w) fun v1 s1 p1 σ1 hv1 m1 st1 r1 w => ?_)
  refine EOK.seq (hb sc v env ρ σ1 s1 A l _ X h3 sr (ev.step st1) m1 (ak.step st1) w) st1 r1 fun v2 s2 p2 σ2 hv2 m2 st2 st12 r2 w2 => ?_
  refine VP.to0 st2 r2 ?_
  have hv1' := hv1.step st12
  cases e1 : psub σ2 p1 p2 with
  | none => rw [e1] at w2; exact w2.elim
  | some q =>
    cases e2 : plen σ2 p1 with
    | none => rw [e1, e2] at w2; exact w2.elim
    | some k =>
      rw [e1, e2] at w2
      refine sub_ok m2 hv1' hv2 e1 (fun k' hk => ?_) w2.2
      rw [e2] at hk; cases hk
      exact Nat.le_trans w2.1 (by decide)

theorem cut_clip (k : Nat) (i : Int) : clipAt k i = cut k i := by
  unfold clipAt cut
  split <;> split <;> omega

theorem slice_ok (T : Todo C G n) {A : Around} {σ : PH} {s : Shared} {Q : Post} {Er : Value → Shared → Prop} (g : GOK C G mg mb) {value slice : Expr} {p : PV} {v : Value} {lo hi : Option Int} {vl vu : Value} (m : Sim C σ s.heap) (hv : VR C σ s.heap p v)
    (pl : IsPart vl lo) (pu : IsPart vu hi)
    (w : (match p with
      | .ref r => (match σ r with
        | some (.list l) => Okl l ∧ wnew (.list ((l.drop (lo.elim 0 (clipAt l.length))).take (hi.elim l.length (clipAt l.length) - lo.elim 0 (clipAt l.length)))) σ Q
        | _ => False)
      | _ => False)) :
    wpAny (Mo C) A (PyProof.Rows.subscriptTail value slice v (.ref s.heap.objs.size)) (VP C none1 σ s Q) Er { s with heap := s.heap.push { cls := .type "slice", data := .fields #[vl, vu, .none] } } := by
  have st : Step none1 σ s.heap σ (s.heap.push { cls := .type "slice", data := .fields #[vl, vu, .none] }) := .push _ _ _ _
  cases p with
  | ref r =>
    simp only [VR] at hv; subst hv
    dsimp only at w
    cases e : σ r with
    | none => rw [e] at w; exact w.elim
    | some o =>
      rw [e] at w
      cases o with
      | list l =>
        obtain ⟨w1, w2⟩ := w
        obtain ⟨vs, k, h1, h2⟩ := m.list e
        have hn : vs.size = l.length := by simpa using h2.length
        obtain ⟨ops, ho⟩ := ops_of slice (.ref r) (.ref s.heap.objs.size)
        have hL : (s.heap.push { cls := .type "slice", data := .fields #[vl, vu, .none] }).IsList r vs := Heap.IsList.push ⟨_, h1, rfl, k, rfl⟩ _
        refine PyProof.Rows.tail_any (T := "list") (Heap.IsList.typeIs (s := { s with heap := s.heap.push { cls := .type "slice", data := .fields #[vl, vu, .none] } }) hL) slot_list_getitem.lookup
          (wpAny_getItem_list_slice hL (Heap.IsSliceOf.new ..) pl pu .none (by simp) ?_ (by rw [hn]; exact Nat.le_trans w1 (by decide))) ho
        rw [slicePick_plain, hn]
        refine VP.from (s₁ := { s with heap := s.heap.push { cls := .type "slice", data := .fields #[vl, vu, .none] } }) st ⟨rfl, rfl⟩ (VP.alloc (o := .list _) (m.push _) rfl ⟨rfl, rfl⟩ rfl ⟨_, 0, rfl, ?_⟩ w2)
        simpa using ((h2.drop _).take _).step st
      | _ => exact w.elim
  | _ => exact w.elim

theorem ok_upto (T : Todo C G n) (g : GOK C G mg mb) {a b : E} (ha : EvalOK C G n a) (hb : EvalOK C G n b) : EvalOK C G n (.upto a b) := by
  intro sc x env ρ σ s A l Q X hm sr ev m ak w
  obtain ⟨u, v, q, p, rfl, h2, h3⟩ := i_upto hm
  simp only [we_none, we_bool, we_int, we_str, we_loc, we_glob, we_bin, we_neg, we_not, we_and, we_or, we_isNone, we_notNone, we_cmp, we_cmp2, we_tup, we_list, we_sub, we_upto, we_from, we_comp, we_compIf, we_call, we_bi, we_isi, we_meth] at w
  refine PyProof.Rows.Subscript_ (EOK.then (ha sc u env ρ σ s A l _ X h2 sr ev m ak w) fun v1 s1 p1 σ1 hv1 m1 st1 r1 w => ?_)
  refine wpAny_Slice ?_
  rw [evalPart_none, evalPart_some]
  refine wpAny_pure ?_
  refine EOK.seq (hb sc v env ρ σ1 s1 A l _ X h3 sr (ev.step st1) m1 (ak.step st1) w) st1 r1 fun v2 s2 p2 σ2 hv2 m2 st2 st12 r2 w => wpAny_pure ?_
  have hv1' := hv1.step st12
  cases p2 with
  | int k =>
    obtain ⟨tk, rfl⟩ := hv2
    refine wpAny_mono (slice_ok (Er := fun _ _ => False) T g m2 hv1' .none (.int k tk) (Q := Q) ?_) (fun _ _ x => VP.from st2 r2 x) fun _ _ x => x.elim
    simp only [Option.elim, cut_clip, List.drop_zero, Nat.sub_zero]
    cases p1 <;> exact w
  | _ => cases p1 <;> exact w.elim
theorem ok_from (T : Todo C G n) (g : GOK C G mg mb) {a b : E} (ha : EvalOK C G n a) (hb : EvalOK C G n b) : EvalOK C G n (.from_ a b) := by
  intro sc x env ρ σ s A l Q X hm sr ev m ak w
  obtain ⟨u, v, q, p, rfl, h2, h3⟩ := i_from hm
  simp only [we_none, we_bool, we_int, we_str, we_loc, we_glob, we_bin, we_neg, we_not, we_and, we_or, we_isNone, we_notNone, we_cmp, we_cmp2, we_tup, we_list, we_sub, we_upto, we_from, we_comp, we_compIf, we_call, we_bi, we_isi, we_meth] at w
  refine PyProof.Rows.Subscript_ (EOK.then (ha sc u env ρ σ s A l _ X h2 sr ev m ak w) fun v1 s1 p1 σ1 hv1 m1 st1 r1 w => ?_)
  refine wpAny_Slice ?_
  rw [evalPart_none, evalPart_some]
  refine EOK.seq (hb sc v env ρ σ1 s1 A l _ X h3 sr (ev.step st1) m1 (ak.step st1) w) st1 r1 fun v2 s2 p2 σ2 hv2 m2 st2 st12 r2 w => wpAny_pure (wpAny_pure ?_)
  have hv1' := hv1.step st12
  cases p2 with
  | int k =>
    obtain ⟨tk, rfl⟩ := hv2
    refine wpAny_mono (slice_ok (Er := fun _ _ => False) T g m2 hv1' (.int k tk) .none (Q := Q) ?_) (fun _ _ x => VP.from st2 r2 x) fun _ _ x => x.elim
    have ht : ∀ l : List PV, (l.drop (cut l.length k)).take (l.length - cut l.length k) = l.drop (cut l.length k) := fun l => List.take_of_length_le (by simp)
    simp only [Option.elim, cut_clip, ht]
    cases p1 <;> exact w
  | _ => cases p1 <;> exact w.elim

theorem eval_CallName {env : Env} {f : Str} {py p : Pos} {xs : List Expr} : eval (.Call (.Name f py) xs [] p) env = (do callWith p (← eval (.Name f py) env) [] (backTo p (starEach xs env)) (backToKw p (keywordEach [] env))) := rfl

/-- a built-in called by its name -/
theorem call_name {sc : Scope} {env : Env} {ρ : Rho} {σ : PH} {s : Shared} {A : Around} {l : List Env} {X : XPost} {x : String} {v : Value} {py p : Pos} {es : List E} {xs : List Expr} {Q' : List PV → PH → Prop} {R : Value → Shared → Prop}
    (g : GOK C G mg mb) (h : ∀ e ∈ es, EvalOK C G n e) (sr : ScR sc env) (ev : EnvR C env ρ σ s.heap) (m : Sim C σ s.heap) (ak : AOK C n A l σ s.heap)
    (ld : ∀ (R : Value → Shared → Prop) (Er : Value → Shared → Prop), R v s → wpAny (Mo C) A (eval (.Name (Str.ofString x) py) env) R Er s) (kp : Kp C v)
    (h2 : mEs sc es xs = true) (w : wes G (CallOK C n) es ρ σ Q' X)
    (k : ∀ vs s1 ps σ1, VRs C σ1 s1.heap ps vs → Sim C σ1 s1.heap → Step none1 σ s.heap σ1 s1.heap → Rest s s1 → ps.length = es.length → Q' ps σ1 → wpAny (Mo C) A (call v vs) R (XP C none1 σ s X) s1) :
    wpAny (Mo C) A (eval (.Call (.Name (Str.ofString x) py) xs [] p) env) R (XP C none1 σ s X) s := by
  rw [eval_CallName]
  refine wpAny_bind (ld _ _ (callWith_ok (first := []) kp (mEs_plain h2) ?_))
  refine wpAny_mono (wes_ok h h2 sr ev m ak w) (fun vs s1 hvs => ?_) fun _ _ x => x
  obtain ⟨ps, σ1, hv, m1, st1, r1, hn, w⟩ := hvs
  exact ⟨m1.base, k vs s1 ps σ1 hv m1 st1 r1 hn w⟩

theorem ok_call (g : GOK C G mg mb) {f : String} {es : List E} (h : ∀ e ∈ es, EvalOK C G n e) : EvalOK C G n (.call f es) := by
  intro sc x env ρ σ s A l Q X hm sr ev m ak w
  obtain ⟨y, xs, p, rfl, h1, hp, h2, h3⟩ := i_call hm
  obtain ⟨py, rfl, h4, h5⟩ := glb_iff h1
  simp only [we_none, we_bool, we_int, we_str, we_loc, we_glob, we_bin, we_neg, we_not, we_and, we_or, we_isNone, we_notNone, we_cmp, we_cmp2, we_tup, we_list, we_sub, we_upto, we_from, we_comp, we_compIf, we_call, we_bi, we_isi, we_meth] at w
  obtain ⟨v, hv, kp⟩ := g.fn f w.1
  refine call_name g h sr ev m ak (fun R Er hR => load_glob g ev m (sr.glob _ h4) h5 (g.fv f v hp hv) hR) kp h2 w.2 fun vs s1 ps σ1 hvs m1 st1 r1 hn w => ?_
  obtain ⟨v', e, _, w⟩ := w
  rw [hv] at e; cases e
  exact wpAny_mono (w A l s1 vs (ak.step st1) m1 hvs) (fun _ _ x => VP.from st1 r1 x) fun _ _ x => XP.from st1 r1 x

theorem ok_bi (T : Todo C G n) (g : GOK C G mg mb) {b : BI} {es : List E} (h : ∀ e ∈ es, EvalOK C G n e) : EvalOK C G n (.bi b es) := by
  intro sc x env ρ σ s A l Q X hm sr ev m ak w
  have w0 := w
  simp only [we_none, we_bool, we_int, we_str, we_loc, we_glob, we_bin, we_neg, we_not, we_and, we_or, we_isNone, we_notNone, we_cmp, we_cmp2, we_tup, we_list, we_sub, we_upto, we_from, we_comp, we_compIf, we_call, we_bi, we_isi, we_meth] at w
  obtain ⟨y, xs, p, rfl, h1, h2, h3⟩ := i_bi hm
  obtain ⟨py, rfl, h5, h6⟩ := glb_iff h1
  refine call_name g h sr ev m ak (fun R Er hR => load_blt g ev m (sr.glob _ h5) h6 b.mem b.boot hR) (b.kp C) h2 w.2 fun vs s1 ps σ1 hvs m1 st1 r1 hn w' => ?_
  exact VP.to0 st1 r1 (bi_ok (w.1.imp id fun q => ak.calm (g.calm q)) ak.u100 m1 hvs w')

theorem bty_boot {T : String} (h : T ∈ bty) : bootBuiltins (Str.ofString T) = some (.type T) ∧ T ∈ ["len", "all", "any", "sum", "abs", "int", "list", "tuple", "dict", "isinstance", "range", "bool"] := by
  simp only [bty, List.mem_cons, List.not_mem_nil, or_false] at h
  rcases h with rfl | rfl | rfl | rfl | rfl <;> exact ⟨by decide +kernel, by decide⟩

theorem noExc {σ1 : PH} {ty c : String} {p : PV} {a : Addr} {b : Bool} (hb : ty ∈ bty) (hp : p = .ref a) (q : σ1 a = some (.exc c)) (e : isiV G σ1 p [ty] = some b) : False := by
  subst hp
  simp only [isiV, q, List.all_cons, List.all_nil, Bool.and_true] at e
  have : G.isCls ty = false := by
    simp only [bty, List.mem_cons, List.not_mem_nil, or_false] at hb
    rcases hb with rfl | rfl | rfl | rfl | rfl <;> simp [Gx.isCls]
  rw [this] at e; simp at e
theorem ok_isi (T : Todo C G n) (g : GOK C G mg mb) {a : E} {ts : List String} (ha : EvalOK C G n a) : EvalOK C G n (.isi a ts) := by
  intro sc x env ρ σ s A l Q X hm sr ev m ak w
  cases hs : stat ts with
  | false =>
    have hw := w
    simp only [we_none, we_bool, we_int, we_str, we_loc, we_glob, we_bin, we_neg, we_not, we_and, we_or, we_isNone, we_notNone, we_cmp, we_cmp2, we_tup, we_list, we_sub, we_upto, we_from, we_comp, we_compIf, we_call, we_bi, we_isi, we_meth] at hw
    refine T.isi (g.full (hw.1.resolve_left fun h => ?_)) a ts hs ha sc x env ρ σ s A l Q X hm sr ev m ak w
    have : stat ts = true := by
      simp only [stat, Bool.and_eq_true, beq_iff_eq, List.all_eq_true, List.contains_eq_mem, decide_eq_true_eq]
      exact h
    rw [hs] at this; cases this
  | true =>
  obtain ⟨f, y, t, p, rfl, h1, h2, h3⟩ := i_isi hm
  simp only [we_none, we_bool, we_int, we_str, we_loc, we_glob, we_bin, we_neg, we_not, we_and, we_or, we_isNone, we_notNone, we_cmp, we_cmp2, we_tup, we_list, we_sub, we_upto, we_from, we_comp, we_compIf, we_call, we_bi, we_isi, we_meth, isiG_s hs] at w
  obtain ⟨w1, w⟩ := w
  have hst : ts.length = 1 ∧ ∀ t ∈ ts, t ∈ bty := by
    simp only [stat, Bool.and_eq_true, beq_iff_eq, List.all_eq_true, List.contains_eq_mem, decide_eq_true_eq] at hs
    exact hs
  obtain ⟨w2, w3⟩ := hst
  match ts, w2 with
  | [ty], _ =>
    have hb : ty ∈ bty := w3 ty (List.mem_singleton.mpr rfl)
    obtain ⟨py, rfl, h5, h6⟩ := glb_iff h1
    have ht : glb sc ty t = true := by
      unfold mType at h3
      split at h3
      · rename_i es _ _
        simp only [Bool.and_eq_true, decide_eq_true_eq] at h3
        match es, h3 with
        | [], h3 => simp [mTypes] at h3
        | [_], h3 => simp at h3
        | _ :: _ :: _, h3 => simp [mTypes] at h3
      · exact h3
    obtain ⟨pt, rfl, h7, h8⟩ := glb_iff ht
    obtain ⟨b1, b2⟩ := bty_boot hb
    rw [eval_CallName]
    have hy : ∀ z q, y ≠ .Starred z q := by rintro z q rfl; rw [mE_starred] at h2; cases h2
    have pa : plainArgs [y, .Name (Str.ofString ty) pt] = true := by cases y <;> first | rfl | exact absurd rfl (hy _ _)
    refine wpAny_bind (load_blt g ev m (sr.glob _ h5) h6 (by decide) (v := .builtin "isinstance") (by decide +kernel) (callWith_ok (first := []) ⟨.machine, .inr (.inl rfl), W.Looks.of_pure rfl⟩ pa ?_))
    rw [starEach_cons hy]
    show wpAny _ _ (spliced [(false, eval y env), (false, eval (.Name (Str.ofString ty) pt) env)]) _ _ s
    refine Calls.spliced_cons (EOK.then (ha sc y env ρ σ s A l _ X h2 sr ev m ak w) fun v1 s1 p1 σ1 hv1 m1 st1 r1 w => ?_)
    refine Calls.spliced_cons (load_blt g (ev.step st1) m1 (sr.glob _ h7) h8 b2 b1 (Calls.spliced_nil ⟨m1.base, ?_⟩))
    cases e : isiV G σ1 p1 [ty] with
    | none => rw [e] at w; exact w.elim
    | some b =>
      rw [e] at w
      exact VP.to0 st1 r1 (isi_ok hb m1 hv1 e (fun a c hp q => noExc hb hp q e) w)
  | [], h => simp at h
  | _ :: _ :: _, h => simp at h

theorem base_of {x : Expr} {nm : Str} {env : Env} (h : notCall x = true) : attributeBase x nm env (eval x env) = eval x env := by
  cases x <;> first | rfl | simp [notCall] at h

theorem ok_meth (T : Todo C G n) (g : GOK C G mg mb) {o : E} {mm : Me} {es : List E} (ho : EvalOK C G n o) (h : ∀ e ∈ es, EvalOK C G n e) : EvalOK C G n (.meth o mm es) := by
  intro sc x env ρ σ s A l Q X hm sr ev m ak w
  · obtain ⟨y, xs, p, q, rfl, h1, h2, h3, h6, h5⟩ := i_meth hm
    simp only [we_none, we_bool, we_int, we_str, we_loc, we_glob, we_bin, we_neg, we_not, we_and, we_or, we_isNone, we_notNone, we_cmp, we_cmp2, we_tup, we_list, we_sub, we_upto, we_from, we_comp, we_compIf, we_call, we_bi, we_isi, we_meth] at w
    have he := mEs_length h3
    match es, xs, h3, h6, he with
    | [e], [z], h3, _, _ =>
      simp only [mEs, Bool.and_eq_true] at h3
      have hz : ∀ u q, z ≠ .Starred u q := by rintro u q rfl; rw [mE_starred] at h3; cases h3.1
      have hse : starEach [z] env = [(false, eval z env)] := by rw [starEach_cons hz]; rfl
      refine wpAny_Call_append (base_of h2) ?_ h5 (by rw [hse]; rfl) ?_
      · rw [hse]; rfl
      refine EOK.then (ho sc y env ρ σ s A l _ X h1 sr ev m ak w) fun v1 s1 p1 σ1 hv1 m1 st1 r1 w1 => ?_
      obtain ⟨wr, w1⟩ := w1
      cases p1 with
      | ref a =>
        simp only [VR] at hv1; subst hv1
        dsimp only [recv] at wr
        cases e1 : σ1 a with
        | none => rw [e1] at wr; exact wr.elim
        | some o1 =>
          rw [e1] at wr
          cases o1 with
          | list l1 =>
            obtain ⟨vs1, k1, g1, g2⟩ := m1.list e1
            simp only [wes_nil, wes_cons] at w1
            refine ⟨a, vs1, rfl, ⟨_, k1, g1, rfl, rfl, rfl⟩, ?_⟩
            refine EOK.seq (h e List.mem_cons_self sc z env ρ σ1 s1 A l _ X h3.1 sr (ev.step st1) m1 (ak.step st1) w1) st1 r1 fun v2 s2 p2 σ2 hv2 m2 st2 st12 r2 w2 => ?_
            simp only [wmeth] at w2
            cases e2 : σ2 a with
            | none => rw [e2] at w2; exact w2.elim
            | some o2 =>
              rw [e2] at w2
              cases o2 with
              | list l2 =>
                obtain ⟨vs2, k2, g3, g4⟩ := m2.list e2
                have hsz : vs2.size = l2.length := by simpa using g4.length
                refine VP.to0 st2 r2 (wpAny_list_append_plain ⟨k2, g3⟩ (fun h' hl' hs' => ?_) (by rw [hsz]; exact Nat.le_trans (Nat.le_of_lt w2.1) (by decide)))
                obtain ⟨k3, hl'⟩ := hl'
                obtain ⟨u1, u2⟩ := Sim.upd (S := none1) (o' := .list (l2 ++ [p2])) m2 e2 (by simp) hs' hl' ⟨vs2.push v2, k3, rfl, by rw [Array.toList_push]; exact g4.append (by simp only [VRs]; exact ⟨v2, [], rfl, hv2, rfl⟩)⟩
                exact ⟨.none, _, vr_none, u1, u2, ⟨rfl, rfl⟩, w2.2⟩
              | _ => exact w2.elim
          | _ => exact wr.elim
      | _ => exact wr.elim
    | [], _, _, h6, he => simp at he; simp [he] at h6
    | _ :: _ :: _, [_], _, _, he => simp at he
    | [_], [], _, _, he => simp at he
    | _ :: _ :: _, [], _, _, he => simp at he
    | _, _ :: _ :: _, _, h6, _ => simp at h6

theorem iter_all : ∀ k, IterOK C k
  | .val => iter_val
  | .range => iter_range
/-- what a loop goes over, from its expression -/
theorem iter_run (T : Todo C G n) (g : GOK C G mg mb) {sc : Scope} {k : IK} {es : List E} {t i : Expr} {env : Env} {ρ : Rho} {σ : PH} {s : Shared} {A : Around} {l : List Env} {X : XPost} {K : List PV → (PH → Prop) → PH → Prop}
    (hk : G.calm = true) (h : ∀ e ∈ es, EvalOK C G n e) (hi : mIt sc k es i = true) (sr : ScR sc env) (ev : EnvR C env ρ σ s.heap) (m : Sim C σ s.heap) (ak : AOK C n A l σ s.heap)
    (w : wes G (CallOK C n) es ρ σ (fun vs σ1 => match src k vs σ1 with
      | some (xs, chk) => xs.length ≤ lim ∧ K xs chk σ1
      | Option.none => False) X) :
    IterRun C A env t i σ s K (XP C none1 σ s X) := by
  intro R hR
  have fin : ∀ vs s1 ps σ1, VRs C σ1 s1.heap ps vs → Sim C σ1 s1.heap → Step none1 σ s.heap σ1 s1.heap → Rest s s1 → (match src k ps σ1 with
      | some (xs, chk) => xs.length ≤ lim ∧ K xs chk σ1
      | Option.none => False) → mkIter C A k vs R (XP C none1 σ s X) s1 := fun vs s1 ps σ1 hv m1 st1 r1 w => by
    cases e : src k ps σ1 with
    | none => rw [e] at w; exact w.elim
    | some q =>
      obtain ⟨xs, chk⟩ := q
      rw [e] at w
      refine iter_all k A t ps vs σ1 s1 xs chk (fun σ1 => K xs chk σ1) R _ (ak.calm (g.calm hk)) hv m1 e w.1 w.2 fun I fp St σ2 s2 S hst m2 st12 r2 hfp hK => ?_
      refine hR I fp St σ2 s2 xs chk S hst m2 (st1.trans st12) (r1.trans r2) (fun b hb => ⟨st1.old m1 (hfp b hb).1, (hfp b hb).2⟩) w.1 hK
  cases k with
  | val =>
    obtain ⟨a, rfl, hi2⟩ := it_val hi
    simp only [wes_nil, wes_cons] at w
    refine EOK.then (h _ List.mem_cons_self sc i env ρ σ s A l _ X hi2 sr ev m ak w) fun v1 s1 p1 σ1 hv1 m1 st1 r1 w => ?_
    exact fin [v1] s1 [p1] σ1 (by simp only [VRs]; exact ⟨v1, [], rfl, hv1, rfl⟩) m1 st1 r1 w
  | range =>
    obtain ⟨py, as, q, rfl, h5, h6, h7, _⟩ := it_call hi
    exact call_name g h sr ev m ak (fun R Er hR => load_blt g ev m (sr.glob _ h5) h6 (by decide) (v := .type "range") (by decide +kernel) hR) ⟨.machine, .inr (.inl rfl), W.Looks.of_pure rfl⟩
      h7 w fun vs s1 ps σ1 hvs m1 st1 r1 hn w => fin vs s1 ps σ1 hvs m1 st1 r1 w

theorem tests_nil {cenv : Env} {A : Around} {s : Shared} {R : Bool → Shared → Prop} {Er : Value → Shared → Prop} (h : R true s) : wpAny (Mo C) A (tests [] cenv) R Er s := wpAny_tests_nil h

theorem ok_comp (T : Todo C G n) (g : GOK C G mg mb) {elt : E} {tg : Tg} {k : IK} {es : List E} (he : EvalOK C G n elt) (h : ∀ e ∈ es, EvalOK C G n e) : EvalOK C G n (.comp elt tg k es) := by
  intro sc x env ρ σ s A l Q X hm sr ev m ak w
  obtain ⟨e, t, i, sc', p, rfl, h1, h2, h3, h4, h5⟩ := i_comp hm
  simp only [we_none, we_bool, we_int, we_str, we_loc, we_glob, we_bin, we_neg, we_not, we_and, we_or, we_isNone, we_notNone, we_cmp, we_cmp2, we_tup, we_list, we_sub, we_upto, we_from, we_comp, we_compIf, we_call, we_bi, we_isi, we_meth] at w
  refine comp_val (tst := fun _ σ K => K true σ) (el := fun ρ' σ K => we G (CallOK C n) elt ρ' σ K fun _ _ => False) (ak.calm (g.calm w.1)) ev ak sr h4 h5 h2 (folded_it h1 env)
    (iter_run T g w.1 h h1 sr ev m ak w.2) (fun cenv src ρ' σ' s' Kb ev' m' ak' w' Er' => wpAny_tests_nil ⟨σ', m', .refl _ _ _, ⟨rfl, rfl⟩, w'⟩)
    (fun cenv src ρ' σ' s' Q' ev' m' ak' w' Er' => wpAny_mono (he sc' e cenv ρ' σ' s' A l Q' _ h3 src ev' m' ak' w') (fun _ _ x => x) fun _ _ x => by obtain ⟨_, _, _, _, _, _, f⟩ := x; exact f.elim)
theorem ok_compIf (T : Todo C G n) (g : GOK C G mg mb) {elt c : E} {tg : Tg} {k : IK} {es : List E} (he : EvalOK C G n elt) (hc : TestOK C G n c) (h : ∀ e ∈ es, EvalOK C G n e) : EvalOK C G n (.compIf elt tg k es c) := by
  intro sc x env ρ σ s A l Q X hm sr ev m ak w
  obtain ⟨e, t, i, f, sc', p, rfl, h1, h2, h3, h6, h4, h5⟩ := i_compIf hm
  simp only [we_none, we_bool, we_int, we_str, we_loc, we_glob, we_bin, we_neg, we_not, we_and, we_or, we_isNone, we_notNone, we_cmp, we_cmp2, we_tup, we_list, we_sub, we_upto, we_from, we_comp, we_compIf, we_call, we_bi, we_isi, we_meth] at w
  refine comp_val (tst := fun ρ' σ K => we G (CallOK C n) c ρ' σ (fun v σ' => match v with
        | .bool b => K b σ'
        | _ => False) fun _ _ => False) (el := fun ρ' σ K => we G (CallOK C n) elt ρ' σ K fun _ _ => False) (ak.calm (g.calm w.1)) ev ak sr h4 h5 h2 (folded_it h1 env)
    (iter_run T g w.1 h h1 sr ev m ak w.2) (fun cenv src ρ' σ' s' Kb ev' m' ak' w' Er' => ?_)
    (fun cenv src ρ' σ' s' Q' ev' m' ak' w' Er' => wpAny_mono (he sc' e cenv ρ' σ' s' A l Q' _ h3 src ev' m' ak' w') (fun _ _ x => x) fun _ _ x => by obtain ⟨_, _, _, _, _, _, f⟩ := x; exact f.elim)
  refine wpAny_tests_one (wpAny_mono (hc sc' f cenv ρ' σ' s' A l _ Kb _ h6 src ev' m' ak' w' fun v σ1 q => ?_) (fun b s1 x => ?_) fun _ _ x => by obtain ⟨_, _, _, _, _, _, f⟩ := x; exact f.elim)
  · cases v <;> first | exact q.elim | exact ⟨_, rfl, q⟩
  · obtain ⟨σ1, a1, a2, a3, a4⟩ := x
    exact ⟨σ1, a1, a2, a3, a4⟩

theorem plain_of {e : E} (h : ∀ sc x, mE sc e x = true → plainTest x = true) (h1 : EvalOK C G n e) : EvalOK C G n e ∧ TestOK C G n e := ⟨h1, test_of h1 h⟩

mutual
theorem we_ok (T : Todo C G n) (g : GOK C G mg mb) : ∀ e : E, EvalOK C G n e ∧ TestOK C G n e
  | .none => plain_of (fun sc x h => by obtain ⟨k, p, rfl⟩ := i_none h; rfl) ok_none
  | .bool b => plain_of (fun sc x h => by obtain ⟨k, p, rfl⟩ := i_bool h; rfl) ok_bool
  | .int b => plain_of (fun sc x h => by obtain ⟨k, p, rfl⟩ := i_int h; rfl) ok_int
  | .str b => plain_of (fun sc x h => by obtain ⟨k, p, rfl⟩ := i_str h; rfl) ok_str
  | .loc b => plain_of (fun sc x h => by obtain ⟨p, rfl, _⟩ := i_loc h; rfl) ok_loc
  | .glob b => plain_of (fun sc x h => by obtain ⟨p, rfl, _⟩ := i_glob h; rfl) (ok_glob g)
  | .bin op a b => plain_of (fun sc x h => by obtain ⟨_, _, _, _, rfl, _⟩ := i_bin h; rfl) (ok_bin (we_ok T g a).1 (we_ok T g b).1)
  | .neg a => plain_of (fun sc x h => by obtain ⟨_, _, rfl, _⟩ := i_neg h; rfl) (ok_neg (we_ok T g a).1)
  | .not_ a => ⟨ok_not (we_ok T g a).1, tst_not (we_ok T g a).2⟩
  | .and_ a b => ⟨ok_and (we_ok T g a).1 (we_ok T g b).1, tst_and (we_ok T g a).2 (we_ok T g b).2⟩
  | .or_ a b => ⟨ok_or (we_ok T g a).1 (we_ok T g b).1, tst_or (we_ok T g a).2 (we_ok T g b).2⟩
  | .isNone a => ⟨ok_isNone (we_ok T g a).1, tst_isNone (we_ok T g a).1⟩
  | .notNone a => ⟨ok_notNone (we_ok T g a).1, tst_notNone (we_ok T g a).1⟩
  | .cmp op a b => ⟨ok_cmp (we_ok T g a).1 (we_ok T g b).1, tst_cmp (we_ok T g a).1 (we_ok T g b).1⟩
  | .cmp2 a o1 b o2 c => ⟨ok_cmp2 (we_ok T g a).1 (we_ok T g b).1 (we_ok T g c).1, tst_cmp2 (we_ok T g a).1 (we_ok T g b).1 (we_ok T g c).1⟩
  | .tup es => plain_of (fun sc x h => by obtain ⟨_, _, _, rfl, _⟩ := i_tup h; rfl) (ok_tup (wes_all T g es))
  | .list es => plain_of (fun sc x h => by obtain ⟨_, _, rfl, _⟩ := i_list h; rfl) (ok_list (wes_all T g es))
  | .sub a b => plain_of (fun sc x h => by obtain ⟨_, _, _, rfl, _⟩ := i_sub h; rfl) (ok_sub T (we_ok T g a).1 (we_ok T g b).1)
  | .upto a b => plain_of (fun sc x h => by obtain ⟨_, _, _, _, rfl, _⟩ := i_upto h; rfl) (ok_upto T g (we_ok T g a).1 (we_ok T g b).1)
  | .from_ a b => plain_of (fun sc x h => by obtain ⟨_, _, _, _, rfl, _⟩ := i_from h; rfl) (ok_from T g (we_ok T g a).1 (we_ok T g b).1)
  | .comp elt tg k it => plain_of (fun sc x h => by obtain ⟨_, _, _, _, _, rfl, _⟩ := i_comp h; rfl) (ok_comp T g (we_ok T g elt).1 (wes_all T g it))
  | .compIf elt tg k it c => plain_of (fun sc x h => by obtain ⟨_, _, _, _, _, _, rfl, _⟩ := i_compIf h; rfl) (ok_compIf T g (we_ok T g elt).1 (we_ok T g c).2 (wes_all T g it))
  | .call f args => plain_of (fun sc x h => by obtain ⟨_, _, _, rfl, _⟩ := i_call h; rfl) (ok_call g (wes_all T g args))
  | .bi b args => plain_of (fun sc x h => by obtain ⟨_, _, _, rfl, _⟩ := i_bi h; rfl) (ok_bi T g (wes_all T g args))
  | .isi a ts => plain_of (fun sc x h => by obtain ⟨_, _, _, _, rfl, _⟩ := i_isi h; rfl) (ok_isi T g (we_ok T g a).1)
  | .meth o m args => plain_of (fun sc x h => by obtain ⟨_, _, _, _, rfl, _⟩ := i_meth h; rfl) (ok_meth T g (we_ok T g o).1 (wes_all T g args))
theorem wes_all (T : Todo C G n) (g : GOK C G mg mb) : ∀ es : List E, ∀ e ∈ es, EvalOK C G n e
  | [], e, h => by cases h
  | a :: r, e, h => by
    rcases List.mem_cons.mp h with h | h
    · rw [h]; exact (we_ok T g a).1
    · exact wes_all T g r e h
end
end
end Vl
end

section
open PySem
set_option linter.unusedVariables false
set_option linter.unusedSimpArgs false
namespace Vl

noncomputable def ownE (env : Env) : Addr → Prop := fun b => b = env.locals ∨ ∃ x, env.cells.lookup x = some b
noncomputable def FR (C : Cx) (σ : PH) (h : Heap) : Fl → Flow → Prop
  | .next, f => f = .next
  | .ret p, f => ∃ v, f = .ret v ∧ VR C σ h p v
noncomputable def SP (C : Cx) (n : Nat) (A : Around) (l : List Env) (env : Env) (σ : PH) (s : Shared) (Q : SPost) (f : Flow) (s' : Shared) : Prop :=
  ∃ fl ρ' σ', FR C σ' s'.heap fl f ∧ EnvR C env ρ' σ' s'.heap ∧ Sim C σ' s'.heap ∧ Step (ownE env) σ s.heap σ' s'.heap ∧ Rest s s' ∧ AOK C n A l σ' s'.heap ∧ Q fl ρ' σ'
noncomputable def SX (C : Cx) (n : Nat) (A : Around) (l : List Env) (env : Env) (σ : PH) (s : Shared) (X : SXPost) (e : Value) (s' : Shared) : Prop :=
  ∃ x ρ' σ', Fly C x e σ' s.heap s'.heap ∧ EnvR C env ρ' σ' s'.heap ∧ Sim C σ' s'.heap ∧ Step (ownE env) σ s.heap σ' s'.heap ∧ Rest s s' ∧ AOK C n A l σ' s'.heap ∧ X x ρ' σ'

/-- the block is the topmost frame's own -/
noncomputable def TopF (env : Env) (l : List Env) : Prop := ∃ l', l = env :: l' ∧ env.frame = some env.locals
noncomputable def StOK (C : Cx) (G : Gx) (n : Nat) (st : S) : Prop := ∀ (sc : Scope) (x : Stmt) (env : Env) (ρ : Rho) (σ : PH) (s : Shared) (A : Around) (l : List Env) (Q : SPost) (X : SXPost),
  mS sc st x = true → ScR sc env → TopF env l → EnvR C env ρ σ s.heap → Sim C σ s.heap → AOK C n A l σ s.heap → ws G (CallOK C n) (CallOK C.un n) st ρ σ Q X → wpAny (Mo C) A (exec x env) (SP C n A l env σ s Q) (SX C n A l env σ s X) s
noncomputable def StsOK (C : Cx) (G : Gx) (n : Nat) (sts : List S) : Prop := ∀ (sc : Scope) (xs : List Stmt) (env : Env) (ρ : Rho) (σ : PH) (s : Shared) (A : Around) (l : List Env) (Q : SPost) (X : SXPost),
  mSs sc sts xs = true → ScR sc env → TopF env l → EnvR C env ρ σ s.heap → Sim C σ s.heap → AOK C n A l σ s.heap → wss G (CallOK C n) (CallOK C.un n) sts ρ σ Q X → wpAny (Mo C) A (execs xs env) (SP C n A l env σ s Q) (SX C n A l env σ s X) s

/-- raising and catching: texts of their own -/
structure Todo2 (C : Cx) (G : Gx) (n : Nat) : Prop where
  raise : C.ok → C.calm → ∀ c args, (∀ e ∈ args, EvalOK C G n e) → StOK C G n (.raise c args)
  try1 : C.ok → C.calm → ∀ b c x h, StsOK C G n b → StsOK C.un G.un n h → StOK C G n (.try1 b c x h)

section
variable {C : Cx} {G : Gx} {mg mb : Str → Option Value} {n : Nat} {A : Around} {env : Env} {l : List Env} {σ : PH} {s : Shared}

theorem Step.own {h h' : Heap} {σ' : PH} (st : Step none1 σ h σ' h') : Step (ownE env) σ h σ' h' := st.mono fun _ _ f => f.elim
theorem XP.stmt {ρ : Rho} {X : SXPost} {e : Value} {s' : Shared} (ev : EnvR C env ρ σ s.heap) (ak : AOK C n A l σ s.heap) (x : XP C none1 σ s (fun x σ1 => X x ρ σ1) e s') : SX C n A l env σ s X e s' :=
  let ⟨x, σ', a, b, c, d, q⟩ := x; ⟨x, ρ, σ', a, ev.step c, b, c.own, d, ak.step c, q⟩
theorem XP.none {σ1 : PH} {s1 : Shared} {e : Value} {s' : Shared} {P : Prop} (x : XP C none1 σ1 s1 (fun _ _ => False) e s') : P := let ⟨_, _, _, _, _, _, q⟩ := x; q.elim
theorem SX.none {σ1 : PH} {s1 : Shared} {e : Value} {s' : Shared} {P : Prop} (x : SX C n A l env σ1 s1 (fun _ _ _ => False) e s') : P := let ⟨_, _, _, _, _, _, _, _, _, q⟩ := x; q.elim
theorem SP.from {σ1 : PH} {s1 : Shared} {Q : SPost} {f : Flow} {s' : Shared} (st : Step (ownE env) σ s.heap σ1 s1.heap) (r : Rest s s1) (x : SP C n A l env σ1 s1 Q f s') : SP C n A l env σ s Q f s' :=
  let ⟨fl, ρ, σ', a, b, c, d, e, q, w⟩ := x; ⟨fl, ρ, σ', a, b, c, st.trans d, r.trans e, q, w⟩
theorem SX.from {σ1 : PH} {s1 : Shared} {X : SXPost} {f : Value} {s' : Shared} (st : Step (ownE env) σ s.heap σ1 s1.heap) (r : Rest s s1) (x : SX C n A l env σ1 s1 X f s') : SX C n A l env σ s X f s' :=
  let ⟨fl, ρ, σ', a, b, c, d, e, q, w⟩ := x; ⟨fl, ρ, σ', a.from st, b, c, st.trans d, r.trans e, q, w⟩

theorem slot_own {xs : List String} {c : Addr} (h : slot env xs c) : ownE env c := by
  obtain ⟨x, _, q | q⟩ := h
  · exact .inl q.2
  · exact .inr ⟨_, q.2⟩
theorem own_seq {ρ : Rho} {h : Heap} (ev : EnvR C env ρ σ h) {c : Addr} (q : ownE env c) : ∃ o, h.get? c = some o ∧ ¬ isSeq o := by
  rcases q with rfl | ⟨x, q⟩
  · obtain ⟨_, ⟨o, es, ep, e, hd, _⟩, _⟩ := ev.ns
    exact ⟨o, e, notSeq_dict hd⟩
  · obtain ⟨_, v, o, e, hd⟩ := ev.newC x c q
    exact ⟨o, e, notSeq_cell hd⟩
/-- names bound, told from the start -/
theorem Asg.step {xs : List String} {σ₀ : PH} {h₀ h h' : Heap} {ρ₀ : Rho} (a : Asg C env (slot env xs) σ h h') (ev₀ : EnvR C env ρ₀ σ₀ h₀) (st : Step (ownE env) σ₀ h₀ σ h) : Step (ownE env) σ₀ h₀ σ h' :=
  st.mvS a.mv fun c f => .inr ⟨slot_own f, fun o e => by obtain ⟨o', e', q⟩ := own_seq ev₀ (slot_own f); rw [e] at e'; cases e'; exact q, let ⟨o, e, _⟩ := (a.has c f).2; ⟨o, e⟩⟩
theorem AOK.asg {F : Addr → Prop} {h h' : Heap} (ak : AOK C n A l σ h) (a : Asg C env F σ h h') : AOK C n A l σ h' := ⟨ak.depth, ak.units, ak.stack, a.frs l ak.frs, ak.calm⟩

theorem tg_env {sc : Scope} {tg : Tg} {t : Expr} (sr : ScR sc env) (h : mTg sc tg t = true) : ∀ x ∈ tg.names, env.kindOf (Str.ofString x) = some .local ∨ env.kindOf (Str.ofString x) = some .cell :=
  fun x hx => (mTg_own h x hx).imp (sr.loc _) (sr.cell _)

/-- bind and go on -/
theorem bind_end {sc : Scope} {tg : Tg} {t : Expr} {p : PV} {v : Value} {ρ ρ' : Rho} {σ1 : PH} {s1 : Shared} {Q : SPost} {Er : Value → Shared → Prop} (sr : ScR sc env) (ht : mTg sc tg t = true) (hca : (∃ x, tg = .name x) ∨ A.handled = Option.none) (ev : EnvR C env ρ σ s.heap) (ak : AOK C n A l σ s.heap)
    (st : Step none1 σ s.heap σ1 s1.heap) (r : Rest s s1) (m1 : Sim C σ1 s1.heap) (hv : VR C σ1 s1.heap p v) (hb : bindT tg p ρ = some ρ') (w : Q .next ρ' σ1) :
    wpAny (Mo C) A (assign t env v) (fun _ s2 => SP C n A l env σ s Q .next s2) Er s1 :=
  assign_ok hca ht (ev.step st) m1 (tg_env sr ht) hv hb fun s2 a2 ev2 r2 => ⟨.next, ρ', σ1, rfl, ev2, a2.sim, a2.step ev st.own, r.trans r2, (ak.step st).asg a2, w⟩

theorem mE_setcomp {sc : Scope} {e : E} {y : Expr} {g : List Comprehension} {scp : Scope} {p : Pos} : mE sc e (.SetComp y g scp p) = false := mE_not rfl
theorem mE_dictcomp {sc : Scope} {e : E} {y z : Expr} {g : List Comprehension} {scp : Scope} {p : Pos} : mE sc e (.DictComp y z g scp p) = false := mE_not rfl

theorem swaps_name {sc : Scope} {e : E} {x : Expr} {y : Str} {py : Pos} {ln : Nat} (h : mE sc e x = true) : swapsWith x (some (.Name y py)) ln env = pure false ∨
    (swapsWith x (some (.Name y py)) ln env = pure true ∧ ∃ a b c d, x = .ListComp a b c d) := by
  cases x with
  | ListComp a b c d =>
    have : ∃ bb, swapsWith (.ListComp a b c d) (some (.Name y py)) ln env = pure bb := ⟨_, rfl⟩
    obtain ⟨bb, hb⟩ := this
    cases bb with
    | true => exact .inr ⟨hb, _, _, _, _, rfl⟩
    | false => exact .inl hb
  | SetComp => rw [mE_setcomp] at h; cases h
  | DictComp => rw [mE_dictcomp] at h; cases h
  | _ => exact .inl rfl
theorem swaps_other {sc : Scope} {e : E} {x t : Expr} {ln : Nat} (h : mE sc e x = true) (ht : ∀ y p, t ≠ .Name y p) : swapsWith x (some t) ln env = pure false := by
  cases x with
  | ListComp a b c d => cases t <;> first | rfl | exact absurd rfl (ht _ _)
  | SetComp => rw [mE_setcomp] at h; cases h
  | DictComp => rw [mE_dictcomp] at h; cases h
  | _ => rfl
theorem swaps_none {sc : Scope} {e : E} {x : Expr} {ln : Nat} (h : mE sc e x = true) (hd : droppable e = true) : swapsWith x Option.none ln env = pure false := by
  cases e with
  | call f args => obtain ⟨y, as, p, rfl, _⟩ := i_call h; rfl
  | meth o m args => obtain ⟨y, as, p, q, rfl, _⟩ := i_meth h; rfl
  | _ => simp [droppable] at hd

theorem st_expr {e : E} (he : EvalOK C G n e) : StOK C G n (.expr e) := by
  intro sc x env ρ σ s A l Q X hm sr tf ev m ak w
  obtain ⟨v, pos, rfl, hd, hm⟩ := j_expr hm
  simp only [ws_assign_name, ws_assign_tup, ws_setIdx, ws_expr, ws_ret, ws_if, ws_for, ws_raise, ws_try1] at w
  refine wpAny_Expr_any (wpAny_mono (he sc v env ρ σ s A l _ _ hm sr ev m ak w) (fun v s1 hv => ?_) fun _ _ x => XP.stmt ev ak x) ?_ (swaps_none hm hd)
  · obtain ⟨p, σ1, h1, h2, h3, h4, h5⟩ := hv
    exact ⟨.next, ρ, σ1, rfl, ev.step h3, h2, h3.own, h4, ak.step h3, h5⟩
  · simp [interactive, ev.fn]
theorem st_ret {e : E} (he : EvalOK C G n e) : StOK C G n (.ret e) := by
  intro sc x env ρ σ s A l Q X hm sr tf ev m ak w
  obtain ⟨v, pos, rfl, hm⟩ := j_ret hm
  simp only [ws_assign_name, ws_assign_tup, ws_setIdx, ws_expr, ws_ret, ws_if, ws_for, ws_raise, ws_try1] at w
  refine wpAny_Return_some (wpAny_mono (he sc v env ρ σ s A l _ _ hm sr ev m ak w) (fun v s1 hv => ?_) fun _ _ x => XP.stmt ev ak x)
  obtain ⟨p, σ1, h1, h2, h3, h4, h5⟩ := hv
  exact ⟨.ret p, ρ, σ1, ⟨v, rfl, h1⟩, ev.step h3, h2, h3.own, h4, ak.step h3, h5⟩
theorem st_if {t : E} {b o : List S} (ht : TestOK C G n t) (hb : StsOK C G n b) (ho : StsOK C G n o) : StOK C G n (.if_ t b o) := by
  intro sc x env ρ σ s A l Q X hm sr tf ev m ak w
  obtain ⟨u, v, z, pos, rfl, hm1, hm2, hm3⟩ := j_if hm
  simp only [ws_assign_name, ws_assign_tup, ws_setIdx, ws_expr, ws_ret, ws_if, ws_for, ws_raise, ws_try1] at w
  refine wpAny_If (wpAny_mono (ht sc u env ρ σ s A l _ (fun bb σ1 => if bb then wss G (CallOK C n) (CallOK C.un n) b ρ σ1 Q X else wss G (CallOK C n) (CallOK C.un n) o ρ σ1 Q X) _ hm1 sr ev m ak w fun v σ1 q => ?_) (fun bb s1 hbb => ?_) fun _ _ x => XP.stmt ev ak x)
  · cases v <;> first | exact q.elim | skip
    rename_i bb; cases bb <;> exact ⟨_, rfl, by simpa using q⟩
  · obtain ⟨σ1, m1, st1, r1, w⟩ := hbb
    cases bb with
    | true => exact wpAny_mono (hb sc v env ρ σ1 s1 A l Q X hm2 sr tf (ev.step st1) m1 (ak.step st1) w) (fun _ _ x => SP.from st1.own r1 x) fun _ _ x => SX.from st1.own r1 x
    | false => exact wpAny_mono (ho sc z env ρ σ1 s1 A l Q X hm3 sr tf (ev.step st1) m1 (ak.step st1) w) (fun _ _ x => SP.from st1.own r1 x) fun _ _ x => SX.from st1.own r1 x

theorem sts_nil : StsOK C G n [] := by
  intro sc xs env ρ σ s A l Q X hm sr tf ev m ak w
  cases xs with
  | nil => simp only [wss_nil, wss_cons] at w; exact wpAny_execs_nil ⟨.next, ρ, σ, rfl, ev, m, .refl _ _ _, ⟨rfl, rfl⟩, ak, w⟩
  | cons => simp [mSs] at hm
theorem sts_cons {a : S} {r : List S} (ha : StOK C G n a) (hr : StsOK C G n r) : StsOK C G n (a :: r) := by
  intro sc xs env ρ σ s A l Q X hm sr tf ev m ak w
  cases xs with
  | nil => simp [mSs] at hm
  | cons x xs =>
    simp only [mSs, Bool.and_eq_true] at hm
    simp only [wss_nil, wss_cons] at w
    refine wpAny_execs_cons (wpAny_mono (ha sc x env ρ σ s A l _ X hm.1 sr tf ev m ak w) (fun f s1 hf => ?_) fun _ _ x => x)
    obtain ⟨fl, ρ1, σ1, h1, ev1, m1, st1, r1, ak1, w⟩ := hf
    cases fl with
    | next =>
      simp only [FR] at h1; subst h1
      exact wpAny_mono (hr sc xs env ρ1 σ1 s1 A l Q X hm.2 sr tf ev1 m1 ak1 w) (fun _ _ x => SP.from st1 r1 x) fun _ _ x => SX.from st1 r1 x
    | ret p =>
      obtain ⟨v, rfl, hv⟩ := h1
      exact ⟨.ret p, ρ1, σ1, ⟨v, rfl, hv⟩, ev1, m1, st1, r1, ak1, w⟩
end
end Vl
end

section
open PySem
set_option linter.unusedVariables false
set_option linter.unusedSimpArgs false
namespace Vl

/-! the same inside of a handler -/
section
end
section
variable {C : Cx} {σ : PH} {h : Heap}
mutual
theorem VR_un : ∀ (p : PV) (v : Value), VR C.un σ h p v = VR C σ h p v
  | .none, v => by simp only [VR]
  | .bool _, v => by simp only [VR]
  | .int _, v => by simp only [VR]
  | .str _, v => by simp only [VR]
  | .ref _, v => by simp only [VR]
  | .scr l, v => by simp only [VR]; rfl
  | .tup l, v => by simp only [VR, VRs_un l]
theorem VRs_un : ∀ (l : List PV) (vs : List Value), VRs C.un σ h l vs = VRs C σ h l vs
  | [], vs => by simp only [VRs]
  | p :: ps, vs => by simp only [VRs, VR_un p, VRs_un ps]
end
theorem OR_un (p : PO) (o : Obj) : OR C.un σ h p o = OR C σ h p o := by
  cases p <;> simp only [OR, VRs_un] <;> rfl
end
section
variable {C : Cx} {G : Gx} {mg mb : Str → Option Value} {σ : PH} {h : Heap} {env : Env} {ρ : Rho} {n : Nat} {A : Around} {l : List Env}
theorem Sim.un (m : Sim C σ h) : Sim C.un σ h := ⟨m.base, m.new, fun a o e => by simpa only [OR_un] using m.objs a o e, m.rich⟩
theorem Sim.re (m : Sim C.un σ h) : Sim C σ h := ⟨m.base, m.new, fun a o e => by simpa only [OR_un] using m.objs a o e, m.rich⟩
theorem EnvR.un (x : EnvR C env ρ σ h) : EnvR C.un env ρ σ h := ⟨x.fn, x.glob, x.blt, by simpa only [VR_un] using x.ns, by simpa only [VR_un] using x.cell, x.newL, x.baseL, x.baseC, x.newC, x.apart, x.hasC⟩
theorem EnvR.re (x : EnvR C.un env ρ σ h) : EnvR C env ρ σ h := ⟨x.fn, x.glob, x.blt, by simpa only [VR_un] using x.ns, by simpa only [VR_un] using x.cell, x.newL, x.baseL, x.baseC, x.newC, x.apart, x.hasC⟩
theorem AOK.un (x : AOK C n A l σ h) (e : Option Value) : AOK C.un n (A.mark e) l σ h := ⟨x.depth, x.units, x.stack, x.frs, fun h => h.elim⟩
theorem AOK.re {σ' : PH} {h' : Heap} {e : Option Value} (x : AOK C.un n (A.mark e) l σ' h') (y : AOK C n A l σ h) : AOK C n A l σ' h' := ⟨x.depth, x.units, x.stack, x.frs, y.calm⟩
theorem GOK.un (g : GOK C G mg mb) : GOK C.un G.un mg mb := ⟨g.g, g.b, g.nolimit, g.blt, fun x p e => by simpa only [VR_un] using g.glob x p e, g.full, (fun h => by cases h), g.fv, g.fn⟩
end
end Vl
end

section
open PySem
set_option linter.unusedVariables false
set_option linter.unusedSimpArgs false
namespace Vl

section
variable {C : Cx} {G : Gx} {mg mb : Str → Option Value} {n : Nat}

/-- a comprehension whose value is bound while its block still stands -/
theorem comp_use {A : Around} {s : Shared} {elt iter t : Expr} {ifs : List Expr} {scope sc : Scope} {pos pos' : Pos} {env : Env} {tg : Tg} {ρ : Rho} {x : String} {px : Pos}
    {tst : Rho → PH → (Bool → PH → Prop) → Prop} {el : Rho → PH → Post → Prop} {Q : SPost} {X : SXPost} {σ : PH} {l : List Env}
    (hca : A.handled = Option.none) (ev : EnvR C env ρ σ s.heap) (ak : AOK C n A l σ s.heap) (sr : ScR sc env) (ok : compOk sc scope = true) (ow : ownOk tg scope = true) (ht : mTg scope tg t = true) (hx : mTg sc (.name x) (.Name (Str.ofString x) px) = true)
    (hs : ∀ x, foldedSetIterable iter env x = pure x)
    (hit : IterRun C A env t iter σ s (fun xs chk σ1 => compGo chk tg ρ tst el xs [] σ1 fun acc σ2 => wnew (.list acc) σ2 fun v σ3 => Q .next (ρ.put x v) σ3) (SX C n A l env σ s X))
    (htst : ∀ cenv, ScR scope cenv → ∀ ρ' σ' s' Kb, EnvR C cenv ρ' σ' s'.heap → Sim C σ' s'.heap → AOK C n A l σ' s'.heap → tst ρ' σ' Kb → ∀ Er', wpAny (Mo C) A (tests ifs cenv) (fun ok s'' => ∃ σ'', Sim C σ'' s''.heap ∧ Step none1 σ' s'.heap σ'' s''.heap ∧ Rest s' s'' ∧ Kb ok σ'') Er' s')
    (hel : ∀ cenv, ScR scope cenv → ∀ ρ' σ' s' Q, EnvR C cenv ρ' σ' s'.heap → Sim C σ' s'.heap → AOK C n A l σ' s'.heap → el ρ' σ' Q → ∀ Er', wpAny (Mo C) A (eval elt cenv) (VP C none1 σ' s' Q) Er' s') :
    wpAny (Mo C) A (comprehension (.ListComp elt [⟨t, iter, ifs, 0⟩] scope pos) scope env pos' (newList []) false (eval iter env) (some (assign (.Name (Str.ofString x) px) env))) (fun _ s' => SP C n A l env σ s Q .next s') (SX C n A l env σ s X) s := by
  refine comp_ok (Q := fun v σ3 => Q .next (ρ.put x v) σ3) hca ev ak sr ok ow ht hs hit htst hel fun D σ3 s3 L m3 st3 r3 h1 h2 h3 ⟨mm, hn⟩ hq => ?_
  show wpAny _ A (assign (.Name (Str.ofString x) px) env (.ref D)) _ _ _
  refine assign_ok (ρ' := ρ.put x (.ref D)) (.inr hca) hx (ev.step st3) m3 (tg_env sr hx) (p := .ref D) rfl rfl fun s4 a4 ev4 r4 => ?_
  have hLo : ¬ ownE env L := fun q => by obtain ⟨o, e, _⟩ := own_seq ev q; rw [h1] at e; cases e
  have hn4 : s4.heap.Ns L mm := Ns.like hn fun o e => ⟨o, a4.mv L o (fun f => hLo (slot_own f)) e, .refl o⟩
  refine ⟨mm, hn4, fun h' hs' => ?_⟩
  have mv : Mv (· = L) s4.heap h' := fun c o f e => hs'.extBut c o f e
  obtain ⟨o, es, ep, ho, hd, _⟩ := hn4
  have fo : Fok C σ3 s4.heap (· = L) := fun c f => by
    have f : c = L := f
    subst f; exact ⟨h3, .inl ⟨h2, noTup_seq ho (notSeq_dict hd)⟩⟩
  refine ⟨.next, ρ.put x (.ref D), σ3, rfl, ev4.mv mv fo (fun q => hLo (.inl (q : env.locals = L).symm)) (fun y c hc q => hLo (.inr ⟨y, (q : c = L) ▸ hc⟩)), a4.sim.mv mv fo (fun c f q => by have f : c = L := f; subst f; rw [h2] at q; cases q),
    (a4.step ev st3.own).mv mv (fun c f => by have f : c = L := f; subst f; exact h1), r3.trans r4, ((ak.step st3).asg a4).mv mv (fun en he Lf hf q => ?_), hq⟩
  obtain ⟨_, L', o', _, _, e1, _, _, e4, _⟩ := ak.frs en he
  rw [hf] at e1; cases e1
  have q : Lf = L := q
  subst q; rw [h1] at e4; cases e4

theorem IterRun.er {A : Around} {env : Env} {t i : Expr} {σ : PH} {s : Shared} {K : List PV → (PH → Prop) → PH → Prop} {Er Er' : Value → Shared → Prop} (h : IterRun C A env t i σ s K Er) (k : ∀ e s', Er e s' → Er' e s') : True := trivial

theorem iter_stmt (T : Todo C G n) (g : GOK C G mg mb) {sc : Scope} {k : IK} {es : List E} {t i : Expr} {env : Env} {ρ : Rho} {σ : PH} {s : Shared} {A : Around} {l : List Env} {X : SXPost} {K : List PV → (PH → Prop) → PH → Prop}
    (hk : G.calm = true) (h : ∀ e ∈ es, EvalOK C G n e) (hi : mIt sc k es i = true) (sr : ScR sc env) (ev : EnvR C env ρ σ s.heap) (m : Sim C σ s.heap) (ak : AOK C n A l σ s.heap)
    (w : wes G (CallOK C n) es ρ σ (fun vs σ1 => match src k vs σ1 with
      | some (xs, chk) => xs.length ≤ lim ∧ K xs chk σ1
      | Option.none => False) fun x σ1 => X x ρ σ1) :
    ∀ R : Value → Shared → Prop, (∀ I fp St σ1 s1 xs chk, Src C A t I fp xs chk St → St 0 σ1 s1.heap → Sim C σ1 s1.heap → Step none1 σ s.heap σ1 s1.heap → Rest s s1 →
    (∀ b ∈ fp, s.heap.get? b = Option.none ∧ b < s1.heap.objs.size) → xs.length ≤ lim → K xs chk σ1 → R (.ref I) s1) →
    wpAny (Mo C) A (eval i env) (fun x s₁ => wpAny (Mo C) A (pyIter x) R (SX C n A l env σ s X) s₁) (SX C n A l env σ s X) s := fun R hR =>
  wpAny_mono (iter_run T g hk h hi sr ev m ak w R hR) (fun _ _ x => wpAny_mono x (fun _ _ y => y) fun _ _ y => XP.stmt ev ak y) fun _ _ y => XP.stmt ev ak y

theorem assign_one {A : Around} {s : Shared} {env : Env} {t v : Expr} {pos : Pos} {Q : Flow → Shared → Prop} {Er : Value → Shared → Prop} (hs : swapsWith v (some t) pos.line env = pure false) (hw : swappedStores [t] v env = pure Option.none)
    (ht : ∀ y p, t ≠ .Starred y p) (h : wpAny (Mo C) A (eval v env) (fun x s₁ => wpAny (Mo C) A (assign t env x) (fun _ => Q .next) Er s₁) Er s) : wpAny (Mo C) A (exec (.Assign [t] v pos) env) Q Er s := by
  refine wpAny_Assign_stores (wpAny_mono h (fun x s₁ h₁ => ?_) fun _ _ x => x) hs hw
  have : (assignEach [t] env).map (·.2) = [assign t env] := by cases t <;> first | rfl | exact absurd rfl (ht _ _)
  rw [this]
  exact h₁

theorem swapped_name {y : Str} {p : Pos} {v : Expr} {env : Env} : swappedStores [.Name y p] v env = pure Option.none := rfl
theorem swapped_tup {sc : Scope} {e : E} {es : List Expr} {k : Nat} {p : Pos} {v : Expr} {env : Env} (h : mE sc e v = true) (hn : noTup e = true) : swappedStores [.Tuple es k p] v env = pure Option.none := by
  cases v with
  | Tuple a b c =>
    exfalso
    rw [E.isTup (mE_kind h).symm] at hn; cases hn
  | _ => rfl

theorem st_assign (T : Todo C G n) (g : GOK C G mg mb) {tg : Tg} {e : E} (he : EvalOK C G n e)
    (hc : ∀ elt tg' k it, e = .comp elt tg' k it → EvalOK C G n elt ∧ ∀ e ∈ it, EvalOK C G n e) (hcI : ∀ elt tg' k it c, e = .compIf elt tg' k it c → EvalOK C G n elt ∧ TestOK C G n c ∧ ∀ e ∈ it, EvalOK C G n e) : StOK C G n (.assign tg e) := by
  intro sc x env ρ σ s A l Q X hm sr tf ev m ak w
  cases tg with
  | name y =>
    simp only [ws_assign_name, ws_assign_tup, ws_setIdx, ws_expr, ws_ret, ws_if, ws_for, ws_raise, ws_try1] at w
    obtain ⟨pz, v, pos, rfl, hx, h3⟩ := j_name hm
    rcases swaps_name (env := env) (y := Str.ofString y) (py := pz) (ln := pos.line) h3 with hs | ⟨hs, hl⟩
    · refine assign_one hs rfl (by simp) (wpAny_mono (he sc v env ρ σ s A l _ _ h3 sr ev m ak w) (fun v1 s1 hv => ?_) fun _ _ x => XP.stmt ev ak x)
      obtain ⟨p1, σ1, hv1, m1, st1, r1, w1⟩ := hv
      exact bind_end sr hx (.inl ⟨_, rfl⟩) ev ak st1 r1 m1 hv1 rfl w1
    · rw [exec_Assign_Name_used _ _ _ _ hs]
      refine wpAny_bind (wpAny_standAt (wpAny_bind ?_))
      have fin : ∀ {elt t iter : Expr} {ifs : List Expr} {scope : Scope} {p : Pos}, v = .ListComp elt [⟨t, iter, ifs, 0⟩] scope p →
          wpAny (Mo C) A (comprehension (.ListComp elt [⟨t, iter, ifs, 0⟩] scope p) scope env (firstIterPos [⟨t, iter, ifs, 0⟩] p) (newList []) false (eval iter env) (some (assign (.Name (Str.ofString y) pz) env))) (fun _ s' => SP C n A l env σ s Q .next s') (SX C n A l env σ s X) s →
          wpAny (Mo C) A (evalThenUse v env (assign (.Name (Str.ofString y) pz) env)) (fun _ s' => wpAny (Mo C) A (pure .next : Sem Flow) (SP C n A l env σ s Q) (SX C n A l env σ s X) s') (SX C n A l env σ s X) s := by
        rintro elt t iter ifs scope p rfl h
        show wpAny _ A (do let _ ← comprehension (.ListComp elt [⟨t, iter, ifs, 0⟩] scope p) scope env _ (newList []) false (eval iter env) (some (assign (.Name (Str.ofString y) pz) env))) _ _ s
        exact wpAny_bind (wpAny_mono h (fun _ s' hq => wpAny_pure (wpAny_pure hq)) fun _ _ e => e)
      have isC : (∃ elt tg' k it, e = .comp elt tg' k it) ∨ (∃ elt tg' k it c, e = .compIf elt tg' k it c) := by
        obtain ⟨a, b, c, d, rfl⟩ := hl
        exact E.isComp (mE_kind h3).symm
      rcases isC with ⟨elt, tg', k, it, rfl⟩ | ⟨elt, tg', k, it, c, rfl⟩
      · obtain ⟨he1, he2⟩ := hc _ _ _ _ rfl
        obtain ⟨e, t, i, sc', p, rfl, h1, h2, h3', h4, h5⟩ := i_comp h3
        simp only [we_none, we_bool, we_int, we_str, we_loc, we_glob, we_bin, we_neg, we_not, we_and, we_or, we_isNone, we_notNone, we_cmp, we_cmp2, we_tup, we_list, we_sub, we_upto, we_from, we_comp, we_compIf, we_call, we_bi, we_isi, we_meth] at w
        refine fin rfl (comp_use (tst := fun _ σ K => K true σ) (el := fun ρ' σ K => we G (CallOK C n) elt ρ' σ K fun _ _ => False) (ak.calm (g.calm w.1)) ev ak sr h4 h5 h2 hx (folded_it h1 env)
          (iter_stmt T g w.1 he2 h1 sr ev m ak w.2) (fun cenv src ρ' σ' s' Kb ev' m' ak' w' Er' => wpAny_tests_nil ⟨σ', m', .refl _ _ _, ⟨rfl, rfl⟩, w'⟩)
          (fun cenv src ρ' σ' s' Q' ev' m' ak' w' Er' => wpAny_mono (he1 sc' e cenv ρ' σ' s' A l Q' _ h3' src ev' m' ak' w') (fun _ _ x => x) fun _ _ x => XP.none x))
      · obtain ⟨he1, hc1, he2⟩ := hcI _ _ _ _ _ rfl
        obtain ⟨e, t, i, f, sc', p, rfl, h1, h2, h3', h6, h4, h5⟩ := i_compIf h3
        simp only [we_none, we_bool, we_int, we_str, we_loc, we_glob, we_bin, we_neg, we_not, we_and, we_or, we_isNone, we_notNone, we_cmp, we_cmp2, we_tup, we_list, we_sub, we_upto, we_from, we_comp, we_compIf, we_call, we_bi, we_isi, we_meth] at w
        refine fin rfl (comp_use (tst := fun ρ' σ K => we G (CallOK C n) c ρ' σ (fun v σ' => match v with
            | .bool b => K b σ'
            | _ => False) fun _ _ => False) (el := fun ρ' σ K => we G (CallOK C n) elt ρ' σ K fun _ _ => False) (ak.calm (g.calm w.1)) ev ak sr h4 h5 h2 hx (folded_it h1 env)
          (iter_stmt T g w.1 he2 h1 sr ev m ak w.2) (fun cenv src ρ' σ' s' Kb ev' m' ak' w' Er' => ?_)
          (fun cenv src ρ' σ' s' Q' ev' m' ak' w' Er' => wpAny_mono (he1 sc' e cenv ρ' σ' s' A l Q' _ h3' src ev' m' ak' w') (fun _ _ x => x) fun _ _ x => XP.none x))
        refine wpAny_tests_one (wpAny_mono (hc1 sc' f cenv ρ' σ' s' A l _ Kb _ h6 src ev' m' ak' w' fun v σ1 q => ?_) (fun b s1 x => ?_) fun _ _ x => XP.none x)
        · cases v <;> first | exact q.elim | exact ⟨_, rfl, q⟩
        · obtain ⟨σ1, a1, a2, a3, a4⟩ := x
          exact ⟨σ1, a1, a2, a3, a4⟩
  | tup xs =>
    simp only [ws_assign_name, ws_assign_tup, ws_setIdx, ws_expr, ws_ret, ws_if, ws_for, ws_raise, ws_try1] at w
    obtain ⟨es, a, b, v, pos, rfl, hx, hn, h3⟩ := j_tup hm
    refine assign_one (swaps_other h3 (by simp)) (swapped_tup h3 hn) (by simp) (wpAny_mono (he sc v env ρ σ s A l _ _ h3 sr ev m ak w.2) (fun v1 s1 hv => ?_) fun _ _ x => XP.stmt ev ak x)
    obtain ⟨p1, σ1, hv1, m1, st1, r1, w1⟩ := hv
    cases hb : bindT (.tup xs) p1 ρ with
    | none => rw [hb] at w1; exact w1.elim
    | some ρ' => rw [hb] at w1; exact bind_end sr hx (.inr (ak.calm (g.calm w.1))) ev ak st1 r1 m1 hv1 hb w1

theorem st_idx {o i e : E} (ho : EvalOK C G n o) (hi : EvalOK C G n i) (he : EvalOK C G n e) : StOK C G n (.setIdx o i e) := by
  intro sc x env ρ σ s A l Q X hm sr tf ev m ak w
  obtain ⟨u, y, p, v, pos, rfl, h1, h2, h3⟩ := j_idx hm
  simp only [ws_assign_name, ws_assign_tup, ws_setIdx, ws_expr, ws_ret, ws_if, ws_for, ws_raise, ws_try1] at w
  refine wpAny_Assign_Subscript (wpAny_mono (he sc v env ρ σ s A l _ _ h3 sr ev m ak w) (fun v1 s1 hv => ?_) fun _ _ x => XP.stmt ev ak x) (swaps_other h3 (by simp))
  obtain ⟨p1, σ1, hv1, m1, st1, r1, w1⟩ := hv
  refine wpAny_mono (EOK.seq (ho sc u env ρ σ1 s1 A l _ _ h1 sr (ev.step st1) m1 (ak.step st1) w1) st1 r1 fun v2 s2 p2 σ2 hv2 m2 st2 st12 r2 w2 => ?_) (fun _ _ x => x) fun _ _ x => XP.stmt ev ak x
  refine wpAny_mono (EOK.seq (hi sc y env ρ σ2 s2 A l _ _ h2 sr (ev.step st2) m2 (ak.step st2) w2) st2 r2 fun v3 s3 p3 σ3 hv3 m3 st3 st23 r3 w3 => ?_) (fun _ _ x => x) fun _ _ x => XP.stmt ev ak x
  cases p2 with
  | ref a =>
    simp only [VR] at hv2; subst hv2
    have hv1' := (hv1.step st12).step st23
    dsimp only at w3
    have fin : ∀ s' (o' : PO), Sim C (σ3.set a o') s'.heap → Step none1 σ3 s3.heap (σ3.set a o') s'.heap → Rest s3 s' → Q .next ρ (σ3.set a o') → SP C n A l env σ s Q .next s' := fun s' o' m4 st4 r4 w4 =>
      ⟨.next, ρ, _, rfl, ev.step (st3.trans st4), m4, (st3.trans st4).own, r3.trans r4, ak.step (st3.trans st4), w4⟩
    cases e1 : σ3 a with
    | none => rw [e1] at w3; cases p3 <;> exact w3.elim
    | some o1 =>
      rw [e1] at w3
      cases o1 with
      | list ll =>
        cases p3 with
        | int k =>
          obtain ⟨tk, rfl⟩ := hv3
          dsimp only at w3
          cases hj : place ll.length k with
          | none => rw [hj] at w3; exact w3.elim
          | some j =>
            rw [hj] at w3
            obtain ⟨vs, k', g1, g2⟩ := m3.list e1
            have hn : vs.size = ll.length := by simpa using g2.length
            refine setItem_exact g1 (by rw [hn]; exact Nat.le_trans w3.1 (by decide)) (by rw [hn]; exact hj) ?_
            have hsb : Heap.SameBut a s3.heap (s3.heap.update a (Obj.mapSeq (·.setIfInBounds j v1))) := Heap.SameBut.update ..
            have hob : ∃ k2, (s3.heap.update a (Obj.mapSeq (·.setIfInBounds j v1))).get? a = some (lstO (vs.setIfInBounds j v1) k2) := by
              refine ⟨?_, ?_⟩
              rotate_left
              · rw [Heap.get?_update_self _ g1 rfl]; simp only [Obj.mapSeq, lstO]; rfl
            obtain ⟨k2, hob⟩ := hob
            obtain ⟨u1, u2⟩ := Sim.upd (S := none1) (o' := .list (ll.set j p1)) m3 e1 (by simp) hsb hob ⟨_, k2, rfl, by rw [Array.toList_setIfInBounds]; exact g2.set j hv1'⟩
            exact fin { s3 with heap := s3.heap.update a (Obj.mapSeq (·.setIfInBounds j v1)) } _ u1 u2 ⟨rfl, rfl⟩ w3.2
        | _ => exact w3.elim
      | _ => cases p3 <;> exact w3.elim
  | _ => exact w3.elim

theorem st_for (T : Todo C G n) (g : GOK C G mg mb) {tg : Tg} {k : IK} {es : List E} {b : List S} (h : ∀ e ∈ es, EvalOK C G n e) (hb : StsOK C G n b) : StOK C G n (.for_ tg k es b) := by
  intro sc x env ρ σ s A l Q X hm sr tf ev m ak w
  obtain ⟨t, i, y, pos, rfl, h1, h2, h3⟩ := j_for hm
  simp only [ws_assign_name, ws_assign_tup, ws_setIdx, ws_expr, ws_ret, ws_if, ws_for, ws_raise, ws_try1] at w
  refine wpAny_For ?_ (folded_it h2 env)
  refine iter_stmt (t := t) T g w.1 h h2 sr ev m ak w.2 _ fun I fp St σ1 s1 xs chk Sr hst m1 st1 r1 hfp hlen hgo => ?_
  have hfo : ∀ b ∈ fp, ¬ ownE env b := fun b hb q => by obtain ⟨o, e, _⟩ := own_seq ev q; rw [(hfp b hb).1] at e; cases e
  have hfr : ∀ en ∈ l, ∀ L, en.frame = some L → L ∉ fp := fun en he L hf q => by
    obtain ⟨_, L', o', _, _, e1, _, _, e4, _⟩ := ak.frs en he
    rw [hf] at e1; cases e1
    rw [(hfp L q).1] at e4; cases e4
  refine codeAny_forLoop_any (fun kk s' => ∃ i ρ' σ', kk = xs.length - i + 1 ∧ i ≤ xs.length ∧ St i σ' s'.heap ∧ Sim C σ' s'.heap ∧ EnvR C env ρ' σ' s'.heap ∧ Step (ownE env) σ s.heap σ' s'.heap ∧ Rest s s' ∧ AOK C n A l σ' s'.heap ∧
    forGo chk tg (fun ρ σ K => wss G (CallOK C n) (CallOK C.un n) b ρ σ K fun _ _ _ => False) Q (xs.drop i) ρ' σ') ?_ _
    ⟨0, ρ, σ1, rfl, Nat.zero_le _, hst, m1, ev.step st1, st1.own, r1, ak.step st1, by simpa using hgo⟩
  clear hst m1 hgo
  rintro kk s' ⟨i, ρ', σ', rfl, hi, hst, m', ev', st', r', ak', hgo⟩
  have fo := Sr.fok hst
  by_cases hlt : i < xs.length
  · have hx : xs[i]? = some xs[i] := List.getElem?_eq_getElem hlt
    rw [List.drop_eq_getElem_cons hlt] at hgo
    simp only [forGo] at hgo
    obtain ⟨hchk, hgo⟩ := hgo
    refine Sr.item hx m' hchk hst fun v s1 hlet => ?_
    refine hlet _ _ fun s2 hv m2 mv2 hst2 r2 => ?_
    cases hb' : bindT tg xs[i] ρ' with
    | none => rw [hb'] at hgo; exact hgo.elim
    | some ρ2 =>
      rw [hb'] at hgo
      simp only at hgo
      have ev2 := ev'.mv mv2 fo (fun q => hfo _ q (.inl rfl)) fun y c hc q => hfo _ q (.inr ⟨y, hc⟩)
      have st2 := st'.mv mv2 (fun c hc => (hfp c hc).1)
      have ak2 := ak'.mv mv2 (fun en he L hf q => hfr en he L hf q)
      refine assign_ok (.inr (ak.calm (g.calm w.1))) h1 ev2 m2 (tg_env sr h1) hv hb' fun s3 a3 ev3 r3 => ?_
      have st3 := a3.step ev st2
      have ak3 := ak2.asg a3
      have hst3 := Sr.mv hst2 a3.mv a3.fok fun b hb q => hfo b hb (slot_own q)
      refine wpAny_mono (hb sc y env ρ2 σ' s3 A l _ _ h3 sr tf ev3 a3.sim ak3 hgo) (fun f s4 h4 => ?_) fun _ _ x => SX.none x
      obtain ⟨fl, ρ4, σ4, f4, ev4, m4, st4, r4, ak4, hgo⟩ := h4
      have hst4 := Sr.step hst3 st4 hfo
      cases fl with
      | next =>
        simp only [FR] at f4; subst f4
        exact ⟨xs.length - (i + 1) + 1, by omega, i + 1, ρ4, σ4, rfl, hlt, hst4, m4, ev4, st3.trans st4, ((r'.trans r2).trans r3).trans r4, ak4, hgo⟩
      | ret p =>
        obtain ⟨v4, rfl, hv4⟩ := f4
        exact ⟨.ret p, ρ4, σ4, ⟨v4, rfl, hv4⟩, ev4, m4, st3.trans st4, ((r'.trans r2).trans r3).trans r4, ak4, hgo⟩
  · have hi' : i = xs.length := by omega
    subst hi'
    rw [List.drop_length] at hgo
    simp only [forGo] at hgo
    refine Sr.done m' hgo.1 hst fun s2 m2 mv2 r2 => ?_
    refine wpAny_execs_nil ?_
    exact ⟨.next, ρ', σ', rfl, ev'.mv mv2 fo (fun q => hfo _ q (.inl rfl)) (fun y c hc q => hfo _ q (.inr ⟨y, hc⟩)), m2, st'.mv mv2 (fun c hc => (hfp c hc).1), r'.trans r2, ak'.mv mv2 (fun en he L hf q => hfr en he L hf q), hgo.2⟩

end

section
variable {mg mb : Str → Option Value} {n : Nat}
mutual
theorem ws_ok : ∀ (st : S) {C : Cx} {G : Gx} (T : Todo C G n) (T2 : Todo2 C G n) (Tu : Todo C.un G.un n) (T2u : Todo2 C.un G.un n) (g : GOK C G mg mb), StOK C G n st
  | .assign tg e, _, _, T, T2, Tu, T2u, g => st_assign T g (we_ok T g e).1 (fun elt tg' k it _ => ⟨(we_ok T g elt).1, wes_all T g it⟩) (fun elt tg' k it c _ => ⟨(we_ok T g elt).1, (we_ok T g c).2, wes_all T g it⟩)
  | .setIdx o i e, _, _, T, T2, Tu, T2u, g => st_idx (we_ok T g o).1 (we_ok T g i).1 (we_ok T g e).1
  | .expr e, _, _, T, T2, Tu, T2u, g => st_expr (we_ok T g e).1
  | .ret e, _, _, T, T2, Tu, T2u, g => st_ret (we_ok T g e).1
  | .if_ t b o, _, _, T, T2, Tu, T2u, g => st_if (we_ok T g t).2 (wss_ok b T T2 Tu T2u g) (wss_ok o T T2 Tu T2u g)
  | .for_ tg k it b, _, _, T, T2, Tu, T2u, g => st_for T g (wes_all T g it) (wss_ok b T T2 Tu T2u g)
  | .raise c args, _, _, T, T2, Tu, T2u, g => by
    intro sc x env ρ σ s A l Q X hm sr tf ev m ak w
    have w0 := w
    simp only [ws_assign_name, ws_assign_tup, ws_setIdx, ws_expr, ws_ret, ws_if, ws_for, ws_raise, ws_try1] at w
    exact T2.raise (g.full w.1.1) (g.calm w.1.2.1) c args (wes_all T g args) sc x env ρ σ s A l Q X hm sr tf ev m ak w0
  | .try1 b c x h, _, _, T, T2, Tu, T2u, g => by
    have h1 := wss_ok b T T2 Tu T2u g
    have h2 := wss_ok h Tu T2u Tu T2u g.un
    intro sc x env ρ σ s A l Q X hm sr tf ev m ak w
    have w0 := w
    simp only [ws_assign_name, ws_assign_tup, ws_setIdx, ws_expr, ws_ret, ws_if, ws_for, ws_raise, ws_try1] at w
    exact T2.try1 (g.full w.1.1) (g.calm w.1.2.1) _ _ _ _ h1 h2 sc x env ρ σ s A l Q X hm sr tf ev m ak w0
theorem wss_ok : ∀ (sts : List S) {C : Cx} {G : Gx} (T : Todo C G n) (T2 : Todo2 C G n) (Tu : Todo C.un G.un n) (T2u : Todo2 C.un G.un n) (g : GOK C G mg mb), StsOK C G n sts
  | [], _, _, T, T2, Tu, T2u, g => sts_nil
  | a :: r, _, _, T, T2, Tu, T2u, g => sts_cons (ws_ok a T T2 Tu T2u g) (wss_ok r T T2 Tu T2u g)
end
end
end Vl
end

section
open PySem
set_option linter.unusedVariables false
set_option linter.unusedSimpArgs false
namespace Vl

/-! an exception that is noted at a frame: what stays, to the sign -/
section
variable {M : Model} {A : Around} {E : Value → Shared → Prop} {s : Shared}

noncomputable def frsOf (l : List Env) : List Addr := l.filterMap (·.frame)

/-- the heap behind a note: e has a new entry, frames differ in their slots at most, all else is as before -/
structure Noted (l : List Env) (e : Addr) (oe : Obj) (F : Addr → Prop) (h h' : Heap) : Prop where
  same : ∀ b o, ¬ F b → b ∉ frsOf l → h.get? b = some o → h'.get? b = some o
  slots : ∀ b o, ¬ F b → h.get? b = some o → ∃ sl, h'.get? b = some { o with slots := sl }
  exc : ∃ T oT ts, h.get? T = Option.none ∧ T ≠ e ∧ h'.get? e = some (oe.mapFields (·.setIfInBounds 1 (.ref T))) ∧ h'.get? T = some oT ∧ oT.data = .fields ts ∧ ts[3]? = some Value.none
  alive : ∀ b, F b → (∃ o, h.get? b = some o) → ∃ o, h'.get? b = some o

theorem entry_ok {base : Heap} {env : Env} {outer : List Env} {L e : Addr} {oe : Obj} {vs : Array Value} {head : Value} {hadNext : Bool} {Q : Unit → Shared → Prop}
    (hfr : A.frames = some (env :: outer)) (hl : s.heap.FunFrames base (env :: outer)) (hf : env.frame = some L) (he : s.heap.get? e = some oe) (hd : oe.data = .fields vs) (hsz : 1 < vs.size)
    (h : ∀ h', Noted (env :: outer) e oe (· = e) s.heap h' → Q () { s with heap := h' }) :
    wpAny M A (do let a ← frameOf env; let pl ← entryPlaceOf L hadNext; let b ← EntryCells.newEntry head a .none (rawInt L) .none pl; setField (.ref e) 1 b) (fun _ s' => wpAny M A (setFlight (.ref e) Option.none) Q E s') E s := by
  have hene : e ∉ frsOf (env :: outer) := fun hm => by
    obtain ⟨_, o, ho, hnf⟩ := hl.mem hm
    rw [he] at ho; injection ho with ho; subst ho; exact hnf vs hd
  refine wpAny_bind (wpAny_frameOf_fun hfr hl hf fun h1 hs1 => ?_)
  refine wpAny_bind (wpAny_entryPlaceOf fun pl hpl => ?_)
  unfold EntryCells.newEntry newFields
  refine wpAny_bind (wpAny_newObj_type ?_ (hpl.sizeOk5 _ _ _ _ _))
  generalize hob : ({ cls := .type "traceback", dict := none, data := .fields ([head, .ref L, .none, rawInt L, .none] ++ (if pl.isEmpty then List.replicate 6 Value.none else pl)).toArray } : Obj) = ob
  have hod : ob.data = .fields ([head, .ref L, .none, rawInt L, .none] ++ (if pl.isEmpty then List.replicate 6 Value.none else pl)).toArray := by rw [← hob]
  have hfb : ob.isFreed = false := by rw [← hob]; rfl
  have he1 : h1.get? e = some oe := (hs1.2.1 e hene).trans he
  have he2 := Heap.get?_push_of_some (h := h1) ob he1
  refine wpAny_setField he2 hd hsz ?_
  have hTe : h1.objs.size ≠ e := Nat.ne_of_gt (Heap.lt_size he1)
  have hd3 := Obj.data_mapFields hd (·.setIfInBounds 1 (Value.ref h1.objs.size))
  have he3 := Heap.get?_update_self (Obj.mapFields (·.setIfInBounds 1 (Value.ref h1.objs.size))) he2 (Obj.isFreed_of_fields hd3)
  have hT3 := (Heap.get?_update_other (h1.push ob) (Obj.mapFields (·.setIfInBounds 1 (Value.ref h1.objs.size))) (Ne.symm hTe)).trans (Heap.get?_push_size h1 hfb)
  unfold setFlight
  refine wpAny_bind (wpAny_field he3 hd3 (x := .ref h1.objs.size) (by simp [hsz]) ?_)
  rw [if_pos (show (Value.ref h1.objs.size != Value.none) = true from by simp)]
  have h3s : 3 < (([head, .ref L, .none, rawInt L, .none] ++ (if pl.isEmpty then List.replicate 6 Value.none else pl)).toArray : Array Value).size := by
    simp only [List.size_toArray, List.length_append, List.length_cons, List.length_nil]; omega
  refine wpAny_setField hT3 hod h3s (h _ ?_)
  have hdT := Obj.data_mapFields hod (·.setIfInBounds 3 ((none : Option Addr).elim Value.none fun f => rawInt f))
  have keep : ∀ b o, b ≠ e → h1.get? b = some o →
      (((h1.push ob).update e (Obj.mapFields (·.setIfInBounds 1 (Value.ref h1.objs.size)))).update h1.objs.size
        (Obj.mapFields (·.setIfInBounds 3 ((none : Option Addr).elim Value.none fun f => rawInt f)))).get? b = some o := fun b o hbe hb => by
    have hbT : h1.objs.size ≠ b := Nat.ne_of_gt (Heap.lt_size hb)
    rw [Heap.get?_update_other _ _ hbT, Heap.get?_update_other _ _ (Ne.symm hbe)]
    exact Heap.get?_push_of_some _ hb
  have hee : (((h1.push ob).update e (Obj.mapFields (·.setIfInBounds 1 (Value.ref h1.objs.size)))).update h1.objs.size
        (Obj.mapFields (·.setIfInBounds 3 ((none : Option Addr).elim Value.none fun f => rawInt f)))).get? e = some (oe.mapFields (·.setIfInBounds 1 (.ref h1.objs.size))) := by
    rw [Heap.get?_update_other _ _ hTe]; exact he3
  refine ⟨fun b o hb hm e1 => keep b o hb ((hs1.2.1 b hm).trans e1), fun b o hb e1 => ?_, ⟨h1.objs.size, _, _, ?_, hTe, hee, Heap.get?_update_self _ hT3 (Obj.isFreed_of_fields hdT), hdT, ?_⟩, fun b hb _ => by
    have hb : b = e := hb
    subst hb; exact ⟨_, hee⟩⟩
  · obtain ⟨sl, q⟩ := hs1.2.2 b o e1
    exact ⟨sl, keep b _ hb q⟩
  · cases q : s.heap.get? h1.objs.size with
    | none => rfl
    | some o => obtain ⟨sl, w⟩ := hs1.2.2 _ o q; exact absurd (Heap.lt_size w) (Nat.lt_irrefl _)
  · show (Array.setIfInBounds _ 3 Value.none)[3]? = some Value.none
    rw [Array.getElem?_setIfInBounds_self_of_lt h3s]

/-- noted at its own frame, and no more in flight there -/
theorem note_ok {base : Heap} {env : Env} {outer : List Env} {L e : Addr} {oe : Obj} {vs : Array Value} {Q : Unit → Shared → Prop}
    (hfr : A.frames = some (env :: outer)) (hl : s.heap.FunFrames base (env :: outer)) (hf : env.frame = some L) (he : s.heap.get? e = some oe) (hd : oe.data = .fields vs)
    (hv : vs[1]? = some .none ∨ ∃ T oT ts, vs[1]? = some (.ref T) ∧ T ≠ e ∧ s.heap.get? T = some oT ∧ oT.data = .fields ts ∧ ts[3]? = some .none)
    (h : ∀ h', Noted (env :: outer) e oe (fun b => b = e ∨ vs[1]? = some (.ref b)) s.heap h' → Q () { s with heap := h' }) :
    wpAny M A (noteFrame (.ref e) env) (fun _ s' => wpAny M A (setFlight (.ref e) Option.none) Q E s') E s := by
  unfold noteFrame
  simp only [hf]
  rcases hv with h1 | ⟨T, oT, ts, h1, hTe, hT, hdT, h3⟩
  · refine wpAny_bind (wpAny_field he hd h1 ?_)
    rw [if_neg (by decide)]
    refine entry_ok hfr hl hf he hd (Array.getElem?_eq_some_iff.mp h1).1 fun h' N => h h' ⟨fun b o hb => N.same b o fun q => hb (.inl q), fun b o hb => N.slots b o fun q => hb (.inl q), N.exc, fun b hb => ?_⟩
    rcases hb with hb | hb
    · exact N.alive b hb
    · rw [h1] at hb; cases hb
  · refine wpAny_bind (wpAny_field he hd h1 ?_)
    rw [if_pos (show (Value.ref T != Value.none) = true from by simp)]
    refine wpAny_bind (wpAny_field hT hdT h3 ?_)
    rw [if_neg (show ¬ ((Value.none == rawInt L) = true) from by simp [rawInt])]
    refine wpAny_bind (wpAny_setField hT hdT (Array.getElem?_eq_some_iff.mp h3).1 ?_)
    have other : ∀ b, b ≠ T → (s.heap.update T (Obj.mapFields (·.setIfInBounds 3 Value.none))).get? b = s.heap.get? b := fun b hb => Heap.get?_update_other _ _ (Ne.symm hb)
    have noRecord : ∀ b o, s.heap.get? b = some o → (∀ vs, o.data ≠ .fields vs) → b ≠ T := fun b o hb hnf q => by
      rw [q, hT] at hb; injection hb with hb; subst hb; exact hnf ts hdT
    refine entry_ok hfr (hl.of_keeps fun b o hb hnf => ⟨o, (other b (noRecord b o hb hnf)).trans hb, rfl⟩) hf ((other e (Ne.symm hTe)).trans he) hd (Array.getElem?_eq_some_iff.mp h1).1 fun h' N => h h' ?_
    have hTu : (s.heap.update T (Obj.mapFields (·.setIfInBounds 3 Value.none))).get? T = some (oT.mapFields (·.setIfInBounds 3 Value.none)) := Heap.get?_update_self _ hT (Obj.isFreed_of_fields (Obj.data_mapFields hdT _))
    refine ⟨fun b o hb hm e1 => N.same b o (fun q => hb (.inl q)) hm ((other b fun q => hb (.inr (by rw [q]; exact h1))).trans e1), fun b o hb e1 => N.slots b o (fun q => hb (.inl q)) ((other b fun q => hb (.inr (by rw [q]; exact h1))).trans e1), ?_, fun b hb ho => ?_⟩
    · obtain ⟨T', oT', ts', q1, q2⟩ := N.exc
      refine ⟨T', oT', ts', ?_, q2⟩
      rw [← other T' fun q => by rw [q, hTu] at q1; cases q1]; exact q1
    · rcases hb with hb | hb
      · exact N.alive b hb (by subst hb; exact ⟨_, (other b (Ne.symm hTe)).trans he⟩)
      · rw [h1] at hb; cases hb
        obtain ⟨sl, q⟩ := N.slots T _ hTe hTu
        exact ⟨_, q⟩
end
end Vl
end

section
open PySem
set_option linter.unusedVariables false
set_option linter.unusedSimpArgs false
namespace Vl

section
variable {C : Cx} {σ : PH} {A : Around} {Er : Value → Shared → Prop} {s : Shared} {l : List Env}

/-- a note moves nothing of the call's own -/
theorem Noted.facts {e : Addr} {oe : Obj} {F : Addr → Prop} {h' : Heap} {S : Addr → Prop} {σ₀ : PH} {h₀ : Heap} (N : Noted l e oe F s.heap h') (m : Sim C σ s.heap) (fr : Frs C σ s.heap l)
    (hF : ∀ b, F b → C.B.get? b = Option.none ∧ σ b = Option.none ∧ h₀.get? b = Option.none ∧ ∀ o, s.heap.get? b = some o → ∃ vs, o.data = .fields vs) (st : Step S σ₀ h₀ σ s.heap) :
    Sim C σ h' ∧ Step S σ₀ h₀ σ h' ∧ (∀ b o, ¬ F b → s.heap.get? b = some o → ∃ o', h'.get? b = some o' ∧ Like o o') := by
  have hm : ∀ b, b ∈ frsOf l → σ b = Option.none ∧ C.B.get? b = Option.none ∧ ∃ o es n, s.heap.get? b = some o ∧ o.data = .dict es n := fun b hb => by
    obtain ⟨env, he, q⟩ := List.mem_filterMap.mp hb
    obtain ⟨_, L, o, es, n, e1, e2, e3, e4, e5⟩ := fr env he
    rw [q] at e1; cases e1
    exact ⟨e3, e2, o, es, n, e4, e5⟩
  have lk : ∀ b o, ¬ F b → s.heap.get? b = some o → ∃ o', h'.get? b = some o' ∧ Like o o' := fun b o hb e1 => by
    by_cases hb2 : b ∈ frsOf l
    · obtain ⟨_, _, o2, es, n, e2, e3⟩ := hm b hb2
      rw [e1] at e2; cases e2
      obtain ⟨sl, q⟩ := N.slots b o hb e1
      exact ⟨_, q, rfl, rfl, rfl, fun k => absurd e3 (k es n)⟩
    · exact ⟨o, N.same b o hb hb2 e1, .refl o⟩
  have ha : ∀ b o, s.heap.get? b = some o → ∃ o', h'.get? b = some o' := fun b o e1 => by
    by_cases hb : F b
    · exact N.alive b hb ⟨o, e1⟩
    · obtain ⟨o', q, _⟩ := lk b o hb e1; exact ⟨o', q⟩
  have st2 : Step S σ₀ h₀ σ h' := by
    refine ⟨fun b o e1 e2 => ?_, st.grow, st.hid, fun b e1 => ?_⟩
    · obtain ⟨q1, o', q2, q3⟩ := st.keep b o e1 e2
      have hb : ¬ F b := fun f => by rw [(hF b f).2.2.1] at e1; cases e1
      obtain ⟨o2, q4, q5⟩ := lk b o' hb q2
      exact ⟨q1, o2, q4, fun k => (q3 k).trans q5⟩
    · refine st.live b ?_
      cases q : s.heap.get? b with
      | none => rfl
      | some o => obtain ⟨o', w⟩ := ha b o q; rw [e1] at w; cases w
  have stS : Step F σ s.heap σ h' := by
    refine ⟨fun b o e1 e2 => ?_, fun b o e1 => ⟨o, e1⟩, fun b e1 => e1, fun b e1 => ?_⟩
    · by_cases hb : F b
      · obtain ⟨o', w⟩ := N.alive b hb ⟨o, e1⟩
        exact ⟨e2, o', w, fun k => by obtain ⟨xs, n, q⟩ := k hb; obtain ⟨vs, q2⟩ := (hF b hb).2.2.2 o e1; rw [q] at q2; cases q2⟩
      · obtain ⟨o', w, q⟩ := lk b o hb e1
        exact ⟨e2, o', w, fun _ => q⟩
    · cases q : s.heap.get? b with
      | none => rfl
      | some o => obtain ⟨o', w⟩ := ha b o q; rw [e1] at w; cases w
  have same : ∀ b o, ¬ F b → b ∉ frsOf l → s.heap.get? b = some o → h'.get? b = some o := N.same
  refine ⟨m.step stS (fun a o e1 => ?_) (fun b o e1 => ?_), st2, lk⟩
  · obtain ⟨ob, e2, _⟩ := m.objs a o e1
    rw [e2]
    exact same a ob (fun f => by rw [(hF a f).2.1] at e1; cases e1) (fun f => by rw [(hm a f).1] at e1; cases e1) e2
  · exact same b o (fun f => by rw [(hF b f).1] at e1; cases e1) (fun f => by rw [(hm b f).2.1] at e1; cases e1) (m.base b o e1)

theorem fly_noted {x : PX} {env : Env} {outer : List Env} {L : Addr} {e : Value} {S : Addr → Prop} {σ₀ : PH} {h₀ : Heap} {Q : Unit → Shared → Prop} (hfr : A.frames = some (env :: outer)) (fr : Frs C σ s.heap (env :: outer)) (hf : env.frame = some L) (m : Sim C σ s.heap)
    (f : Fly C x e σ h₀ s.heap) (st : Step S σ₀ h₀ σ s.heap)
    (h : ∀ h', Sim C σ h' → Fly C x e σ h₀ h' → Step S σ₀ h₀ σ h' → (∃ F : Addr → Prop, Step F σ s.heap σ h' ∧ ∀ b o, F b → s.heap.get? b = some o → ∃ vs, o.data = .fields vs) → (∃ a oe vs T oT ts, e = .ref a ∧ h'.get? a = some oe ∧ oe.data = .fields vs ∧ vs[1]? = some (.ref T) ∧ T ≠ a ∧ h'.get? T = some oT ∧ oT.data = .fields ts ∧ ts[3]? = some Value.none) → Q () { s with heap := h' }) :
    wpAny (Mo C) A (noteFrame e env) (fun _ s' => wpAny (Mo C) A (setFlight e Option.none) Q Er s') Er s := by
  obtain ⟨a, o, vs, k, rfl, q2, q3, q4, q5, q6, q7, q8, q9, q10, q11⟩ := f
  refine note_ok hfr fr.fun hf q5 q8 (q10.imp id fun ⟨T, oT, ts, w1, w2, w3, w4, w5, w6, w7⟩ => ⟨T, oT, ts, w1, w2, w6, w7⟩) fun h' N => ?_
  have hF : ∀ b, (b = a ∨ vs[1]? = some (.ref b)) → C.B.get? b = Option.none ∧ σ b = Option.none ∧ h₀.get? b = Option.none ∧ ∀ o, s.heap.get? b = some o → ∃ vs, o.data = .fields vs := fun b hb => by
    rcases hb with rfl | hb
    · exact ⟨q2, q3, q4, fun o' e' => by rw [q5] at e'; cases e'; exact ⟨vs, q8⟩⟩
    · rcases q10 with q10 | ⟨T, oT, ts, w1, w2, w3, w4, w5, w6, w7, w8⟩
      · rw [q10] at hb; cases hb
      · rw [w1] at hb; cases hb
        exact ⟨w3, w4, w5, fun o' e' => by rw [w6] at e'; cases e'; exact ⟨ts, w7⟩⟩
  obtain ⟨m', st', lk⟩ := N.facts m fr hF st
  have dat : ∀ b o, s.heap.get? b = some o → (∀ vs, o.data ≠ .fields vs) → ¬ (b = a ∨ vs[1]? = some (.ref b)) := fun b o e1 e2 f => by
    obtain ⟨vs, e3⟩ := (hF b f).2.2.2 o e1; exact e2 vs e3
  have stF : Step (fun b => b = a ∨ vs[1]? = some (.ref b)) σ s.heap σ h' := by
    refine ⟨fun b ob e1 e2 => ?_, fun b o e1 => ⟨o, e1⟩, fun b e1 => e1, fun b e1 => ?_⟩
    · by_cases hb : b = a ∨ vs[1]? = some (.ref b)
      · obtain ⟨o', w⟩ := N.alive b hb ⟨ob, e1⟩
        exact ⟨e2, o', w, fun k => by obtain ⟨xs, n, q⟩ := k hb; obtain ⟨vs, q2⟩ := (hF b hb).2.2.2 ob e1; rw [q] at q2; cases q2⟩
      · obtain ⟨o', w, q⟩ := lk b ob hb e1
        exact ⟨e2, o', w, fun _ => q⟩
    · cases q : s.heap.get? b with
      | none => rfl
      | some ob =>
        by_cases hb : b = a ∨ vs[1]? = some (.ref b)
        · obtain ⟨o', w⟩ := N.alive b hb ⟨ob, q⟩; rw [e1] at w; cases w
        · obtain ⟨o', w, _⟩ := lk b ob hb q; rw [e1] at w; cases w
  refine h h' m' ?_ st' ⟨_, stF, fun b o f e1 => (hF b f).2.2.2 o e1⟩ ?_
  rotate_left
  · obtain ⟨T, oT, ts, w1, w2, w3, w4, w5, w6⟩ := N.exc
    refine ⟨a, _, _, T, oT, ts, rfl, w3, Obj.data_mapFields q8 _, ?_, w2, w4, w5, w6⟩
    have hsz : 1 < vs.size := by
      rcases q10 with q10 | ⟨T, oT, ts, w1, _⟩
      · exact (Array.getElem?_eq_some_iff.mp q10).1
      · exact (Array.getElem?_eq_some_iff.mp w1).1
    rw [Array.getElem?_setIfInBounds_self_of_lt hsz]
  obtain ⟨T, oT, ts, w1, w2, w3, w4, w5, w6⟩ := N.exc
  have hsz : 1 < vs.size := by
    rcases q10 with q10 | ⟨T, oT, ts, w1, _⟩
    · exact (Array.getElem?_eq_some_iff.mp q10).1
    · exact (Array.getElem?_eq_some_iff.mp w1).1
  have hTB : C.B.get? T = Option.none := by
    cases q : C.B.get? T with
    | none => rfl
    | some o => rw [m.base T o q] at w1; cases w1
  have hTσ : σ T = Option.none := by
    cases q : σ T with
    | none => rfl
    | some o => obtain ⟨ob, e1, _⟩ := m.objs T o q; rw [w1] at e1; cases e1
  refine ⟨a, _, _, k, rfl, q2, q3, q4, w3, q6, (Obj.cls_mapFields _ _).trans q7, Obj.data_mapFields q8 _, ?_, .inr ⟨T, oT, ts, ?_, w2, hTB, hTσ, st.live T w1, w4, w5, w6⟩, ?_⟩
  · rw [Array.getElem?_setIfInBounds_ne (by decide)]; exact q9
  · rw [Array.getElem?_setIfInBounds_self_of_lt hsz]
  · have hdict : (o.mapFields (·.setIfInBounds 1 (.ref T))).dict = o.dict := by
      obtain ⟨c, d, dt, sl⟩ := o; cases dt <;> rfl
    rw [hdict]; exact q11

/-- an exception leaves a function's frame -/
theorem leave_ok {x : PX} {env : Env} {outer : List Env} {L : Addr} {e : Value} {S : Addr → Prop} {σ₀ : PH} {h₀ : Heap} {Q : Unit → Shared → Prop} (hfr : A.frames = some (env :: outer)) (fr : Frs C σ s.heap (env :: outer)) (hf : env.frame = some L) (m : Sim C σ s.heap)
    (f : Fly C x e σ h₀ s.heap) (st : Step S σ₀ h₀ σ s.heap)
    (h : ∀ h', Sim C σ h' → Fly C x e σ h₀ h' → Step S σ₀ h₀ σ h' → Q () { s with heap := h' }) :
    wpAny (Mo C) A (leaving env e) Q Er s := by
  unfold leaving
  exact wpAny_bind (fly_noted hfr fr hf m f st fun h' a b c _ _ => h h' a b c)
end
end Vl
end

section
open PySem
set_option linter.unusedVariables false
set_option linter.unusedSimpArgs false
namespace Vl

/-- the names of a function at its start -/
noncomputable def rho0 (ps ls : List String) (args : List PV) : Rho := ps.zip (args.map some) ++ ls.map fun x => (x, Option.none)

theorem rho0_get : ∀ {ps ls : List String} {args : List PV} {x : String} {p : PV}, (rho0 ps ls args).get x = some p → ∃ i : Nat, ps[i]? = some x ∧ args[i]? = some p
  | [], ls, args, x, p, h => by
    exfalso
    simp only [rho0, List.zip_nil_left, List.nil_append] at h
    induction ls with
    | nil => simp [Rho.get] at h
    | cons y r ih => simp only [List.map_cons, Rho.get] at h; split at h; cases h; exact ih h
  | q :: ps, ls, [], x, p, h => by
    exfalso
    simp only [rho0, List.map_nil, List.zip_nil_right, List.nil_append] at h
    induction ls with
    | nil => simp [Rho.get] at h
    | cons y r ih => simp only [List.map_cons, Rho.get] at h; split at h; cases h; exact ih h
  | q :: ps, ls, a :: args, x, p, h => by
    simp only [rho0, List.map_cons, List.zip_cons_cons, List.cons_append, Rho.get] at h
    split at h
    · rename_i e; subst e; cases h; exact ⟨0, rfl, rfl⟩
    · obtain ⟨i, h1, h2⟩ := rho0_get (ps := ps) (ls := ls) (args := args) h
      exact ⟨i + 1, by simpa using h1, by simpa using h2⟩

section
variable {k : Str → Option NameKind}
theorem bindL_ne : ∀ (binds : List (Str × Value)) (m : Str → Option Value) (x : Str), x ∉ binds.map (·.1) → bindL k binds m x = m x
  | [], m, x, h => rfl
  | (n, v) :: r, m, x, h => by
    simp only [List.map_cons, List.mem_cons, not_or] at h
    unfold bindL
    rw [bindL_ne r _ x h.2]
    split
    · exact if_neg h.1
    · rfl
theorem bindC_ne : ∀ (binds : List (Str × Value)) (m : Str → Option Value) (x : Str), x ∉ binds.map (·.1) → PySem.bindC k binds m x = m x
  | [], m, x, h => rfl
  | (n, v) :: r, m, x, h => by
    simp only [List.map_cons, List.mem_cons, not_or] at h
    unfold PySem.bindC
    rw [bindC_ne r _ x h.2]
    split
    · rfl
    · exact if_neg h.1
theorem bindL_at : ∀ (ns : List Str) (vs : List Value) (m : Str → Option Value) (i : Nat) (x : Str) (v : Value), ns.Nodup → ns[i]? = some x → vs[i]? = some v → k x = some .local → bindL k (ns.zip vs) m x = some v
  | [], _, _, i, x, v, _, h, _, _ => by simp at h
  | _ :: _, [], _, i, x, v, _, _, h, _ => by simp at h
  | n :: ns, w :: vs, m, i, x, v, hd, h1, h2, hk => by
    rw [List.nodup_cons] at hd
    simp only [List.zip_cons_cons]
    unfold bindL
    cases i with
    | zero =>
      simp at h1 h2; subst h1 h2
      rw [bindL_ne _ _ _ (by rintro q; obtain ⟨p, hp, e⟩ := List.mem_map.mp q; have := (List.of_mem_zip (show (p.1, p.2) ∈ _ from hp)).1; rw [e] at this; exact hd.1 this), if_pos hk, if_pos rfl]
    | succ j => exact bindL_at ns vs _ j x v hd.2 (by simpa using h1) (by simpa using h2) hk
theorem bindC_at : ∀ (ns : List Str) (vs : List Value) (m : Str → Option Value) (i : Nat) (x : Str) (v : Value), ns.Nodup → ns[i]? = some x → vs[i]? = some v → k x = some .cell → PySem.bindC k (ns.zip vs) m x = some v
  | [], _, _, i, x, v, _, h, _, _ => by simp at h
  | _ :: _, [], _, i, x, v, _, _, h, _ => by simp at h
  | n :: ns, w :: vs, m, i, x, v, hd, h1, h2, hk => by
    rw [List.nodup_cons] at hd
    simp only [List.zip_cons_cons]
    unfold PySem.bindC
    cases i with
    | zero =>
      simp at h1 h2; subst h1 h2
      rw [bindC_ne _ _ _ (by rintro q; obtain ⟨p, hp, e⟩ := List.mem_map.mp q; have := (List.of_mem_zip (show (p.1, p.2) ∈ _ from hp)).1; rw [e] at this; exact hd.1 this), if_neg (by rw [hk]; simp), if_pos rfl]
    | succ j => exact bindC_at ns vs _ j x v hd.2 (by simpa using h1) (by simpa using h2) hk
end

/-- a function of the text, in the heap and without places -/
structure FnAt (C : Cx) (f : String) (ps : List String) (sts : List S) (a : Addr) (o : Obj) (fd : FuncData) (body : List Stmt) : Prop where
  fv : C.fv f = some (.ref a)
  kp : Kp C (.ref a)
  ho : C.B.get? a = some o
  hd : o.data = .func fd
  cd : C.B.CodeRec fd.code fd.qualname
  hb : fd.body = .stmts body
  clo : fd.closure = []
  glb : fd.globals = mainGlobals
  blt : fd.builtins = builtinsNs
  bind : ∀ vals : List Value, vals.length = ps.length → bindArgs fd ⟨vals, []⟩ = pure ((ps.map Str.ofString).zip vals)
  par : (ps.all fun p => fd.scope.names.lookup (Str.ofString p) == some .local || fd.scope.names.lookup (Str.ofString p) == some .cell) = true
  nd : ps.Nodup
  co : fd.scope.isCoroutine = false
  gen : fd.scope.isGenerator = false
  kind : fd.scope.kind = .function
  free : (fd.scope.names.all fun p => p.2 != .free) = true
  mat : mSs fd.scope sts body = true

section
variable {C : Cx} {G : Gx} {mg mb : Str → Option Value} {n : Nat}

theorem ofString_nodup {l : List String} (h : l.Nodup) : (l.map Str.ofString).Nodup := by
  induction l with
  | nil => exact List.nodup_nil
  | cons x r ih =>
    rw [List.nodup_cons] at h
    rw [List.map_cons, List.nodup_cons]
    exact ⟨fun q => by obtain ⟨y, hy, e⟩ := List.mem_map.mp q; rw [ofString_inj e] at hy; exact h.1 hy, ih h.2⟩

theorem fn_ok (T : Todo C G n) (T2 : Todo2 C G n) (Tu : Todo C.un G.un n) (T2u : Todo2 C.un G.un n) (g : GOK C G mg mb) {f : String} {ps : List String} {sts : List S} {a : Addr} {o : Obj} {fd : FuncData} {body : List Stmt} (F : FnAt C f ps sts a o fd body)
    {args : List PV} {σ : PH} {Q : Post} {X : XPost} (ls : List String) (hlen : args.length = ps.length)
    (w : wss G (CallOK C n) (CallOK C.un n) sts (rho0 ps ls args) σ (fun fl _ σ' => match fl with
      | .next => Q .none σ'
      | .ret v => Q v σ') fun x _ σ' => X x σ') : CallOK C (n + 1) f args σ Q X := by
  refine ⟨.ref a, F.fv, F.kp, fun A l s vs ak m hv => wpAny_call ?_⟩
  have hvl : vs.length = ps.length := hv.length.trans hlen
  have hroom : A.depth < recursionLimit := by have := ak.depth; omega
  have par : ∀ p ∈ ps, fd.scope.names.lookup (Str.ofString p) = some .local ∨ fd.scope.names.lookup (Str.ofString p) = some .cell := fun p hp => by
    have := List.all_eq_true.mp F.par p hp; simpa [Bool.or_eq_true] using this
  refine codeAny_call_cells hroom (m.base _ _ F.ho) F.hd (g.nolimit.keeps m.base) (F.cd.keeps m.base) F.hb (F.bind vs hvl) F.clo (fun x hx => ?_) (fun s₁ ic => ?_) F.co F.gen F.kind
  · have hx1 : x.1 ∈ ps.map Str.ofString := (List.of_mem_zip (show (x.1, x.2) ∈ _ from hx)).1
    obtain ⟨p, hp, e⟩ := List.mem_map.mp hx1
    rw [← e]
    refine (par p hp).imp id fun q => ⟨q, ?_⟩
    obtain ⟨c, _, hc⟩ := cells_own fd.scope.names (s.heap.objs.size + 1) [] _ (mem_of_lookup q)
    rw [hc]; rfl
  generalize hen : callEnvC fd s.heap.objs.size a = env at ic ⊢
  have hloc : env.locals = s.heap.objs.size := by rw [← hen]; rfl
  have hkd : ∀ x, env.kindOf x = fd.scope.names.lookup x := fun x => by rw [← hen]; rfl
  have hcs : env.cells = cellsFrom (s.heap.objs.size + 1) fd.scope.names [] := by rw [← hen]; rfl
  have habove : ∀ x c, env.cells.lookup x = some c → s.heap.objs.size ≤ c := fun x c h => by
    have := ic.above x c (mem_of_lookup h); rw [hloc] at this; exact Nat.le_of_lt this
  have kp : ∀ b o, s.heap.get? b = some o → s₁.heap.get? b = some o := ic.toInCall.keep
  have st1 : Step none1 σ s.heap σ s₁.heap := .more kp
  have m1 : Sim C σ s₁.heap := m.more kp
  have r1 : Rest s s₁ := by obtain ⟨h', tk, e⟩ := ic.toInCall.same; rw [e]; exact ⟨rfl, rfl⟩
  have hv1 := hv.step st1
  have ev : EnvR C env (rho0 ps ls args) σ s₁.heap := by
    refine ⟨by rw [← hen]; exact F.kind, by rw [← hen]; exact F.glb, by rw [← hen]; exact F.blt, ⟨_, ic.toInCall.ns, fun x p e1 e2 => ?_⟩, fun x p e1 e2 => ?_, by rw [hloc]; exact m.fresh (Nat.le_refl _), by rw [hloc]; exact m.freshB (Nat.le_refl _),
      fun x c h => m.freshB (habove x c h), fun x c h => ⟨m.fresh (habove x c h), _, ic.cell x c h⟩, fun x y c h1 h2 => name_of_addr ic.apart (mem_of_lookup h1) (mem_of_lookup h2), fun x h => ?_⟩
    · obtain ⟨i, h1, h2⟩ := rho0_get e1
      obtain ⟨v, h3, h4⟩ := hv1.get i p h2
      refine ⟨v, bindL_at _ _ _ i _ v (ofString_nodup F.nd) (by rw [List.getElem?_map, h1]; rfl) h3 e2, h4⟩
    · obtain ⟨i, h1, h2⟩ := rho0_get e1
      obtain ⟨v, h3, h4⟩ := hv1.get i p h2
      have hcell : env.kindOf (Str.ofString x) = some .cell := e2.resolve_right fun q => by
        rw [hkd] at q
        have := List.all_eq_true.mp F.free _ (mem_of_lookup q)
        simp at this
      obtain ⟨c, _, hc⟩ := cells_own fd.scope.names (s.heap.objs.size + 1) [] _ (mem_of_lookup (by rw [← hkd]; exact hcell))
      rw [← hcs] at hc
      refine ⟨c, v, hc, ?_, h4⟩
      have := ic.cell _ c hc
      rw [bindC_at _ _ _ i _ v (ofString_nodup F.nd) (by rw [List.getElem?_map, h1]; rfl) h3 hcell] at this
      exact this
    · rcases h with h | h
      · obtain ⟨c, _, hc⟩ := cells_own fd.scope.names (s.heap.objs.size + 1) [] _ (mem_of_lookup (by rw [← hkd]; exact h))
        exact ⟨c, by rw [hcs]; exact hc⟩
      · rw [hkd] at h
        have := List.all_eq_true.mp F.free _ (mem_of_lookup h)
        simp at this
  have ak1 : AOK C n (A.deeper env) (env :: l) σ s₁.heap := by
    refine ⟨?_, ?_, ?_, ?_, ak.calm⟩
    · have := ak.depth; show A.depth + 1 + n < _; omega
    · have := ak.units; show A.units + 3 + 30 * n + 300 < _; omega
    · show A.frames.map (env :: ·) = _; rw [ak.stack]; rfl
    · intro en he
      rcases List.mem_cons.mp he with rfl | he
      · obtain ⟨o', es, ep, q1, q2, _⟩ := ic.toInCall.ns
        refine ⟨by rw [ev.fn]; simp, en.locals, o', es, ep, by rw [← hen]; rfl, by rw [hloc]; exact m.freshB (Nat.le_refl _), by rw [hloc]; exact m.fresh (Nat.le_refl _), q1, q2⟩
      · exact (ak.step st1).frs en he
  have sr : ScR fd.scope env := by
    have : fd.scope = env.scope := by rw [← hen]; rfl
    rw [this]; exact .self env
  have back : ∀ {σ' : PH} {s' : Shared}, Step (ownE env) σ s₁.heap σ' s'.heap → Step none1 σ s.heap σ' s'.heap := fun {σ' s'} st => (st1.own.trans st).mono fun b hb q => by
    have hlt : b < s.heap.objs.size := by
      cases e : s.heap.get? b with
      | none => rw [e] at hb; cases hb
      | some o => exact Heap.lt_size e
    rcases q with q | ⟨x, q⟩
    · rw [q, hloc] at hlt; exact (Nat.lt_irrefl _ hlt).elim
    · exact (Nat.lt_irrefl _ (Nat.lt_of_lt_of_le hlt (habove x b q))).elim
  refine wpAny_mono (wss_ok sts T T2 Tu T2u g fd.scope body env (rho0 ps ls args) σ s₁ (A.deeper env) (env :: l) _ _ F.mat sr ⟨l, rfl, by rw [← hen]; rfl⟩ ev m1 ak1 w) (fun fl s' h => ?_) fun x s' h => ?_
  · obtain ⟨f', ρ', σ', h1, _, m', st', r', _, w⟩ := h
    cases f' with
    | next =>
      simp only [FR] at h1; subst h1
      exact ⟨.none, σ', vr_none, m', back st', r1.trans r', w⟩
    | ret p =>
      obtain ⟨v, rfl, hv'⟩ := h1
      exact ⟨p, σ', hv', m', back st', r1.trans r', w⟩
  · obtain ⟨x, ρ', σ', fl, _, m', st', r', ak', w⟩ := h
    have fl0 : Fly C x _ σ' s.heap s'.heap := fl.from st1
    have hfr : env.frame = some env.locals := by rw [← hen]; rfl
    exact leave_ok ak'.stack ak'.frs hfr m' fl0 (back st') fun h' m2 fl2 st2 => ⟨x, σ', fl2, m2, st2, r1.trans r', w⟩
end
end Vl
end

section
open PySem PySem.W PyProof.Rows
set_option linter.unusedVariables false
set_option linter.unusedSimpArgs false
namespace Vl

/-! the text's own kinds of exceptions -/
noncomputable def clsFacts (K : Frag) (D : Addr) : Bool :=
  ((findIn K (.ref D) "__getattribute__" == some (some (.builtin "BaseException.__getattribute__"))) && (findIn K (.ref D) "__getattr__" == some Option.none) && (subIn K (.ref D) (.type "BaseException") == some true)) && hasDictIn K D && (findIn K (.ref D) "__class__" == some (some (.builtin "object.__class__"))) && (specialIn K (.builtin "object.__class__") "__get__" == some (some (.builtin "getset_descriptor.__get__"))) &&
  (takesIn K (.builtin "object.__class__") == some true) && (mroIn K D (.type "object") == some true) && (mroIn K D (.ref D) == some true)

theorem find_data {K : Frag} {D : Addr} {od : Option Obj} {name : Str} {a g : Value} (hc : (clsIn K D).isSome = true) (ha : findIn K (.ref D) name = some (some a)) (hg : specialIn K a "__get__" = some (some g)) (ht : takesIn K a = some true) :
    findObj K D od name = some (.bind g a) := by
  obtain ⟨cd, hc⟩ := Option.isSome_iff_exists.mp hc
  unfold findObj
  rw [hc, Option.bind_some, ha, Option.bind_some]
  simp [hg, ht]

theorem exc_class {prog : Program} {w : World} {A : Around} {E : Value → Shared → Prop} {Q : Option Value → Shared → Prop} {s : Shared} {K : Frag} {x D : Addr} {ox : Obj} {odo : Option Obj}
    (hga : findIn K (.ref D) "__getattribute__" = some (some (.builtin "BaseException.__getattribute__"))) (hgn : findIn K (.ref D) "__getattr__" = some Option.none) (hb : subIn K (.ref D) (.type "BaseException") = some true)
    (hf : findObj K D odo "__class__" = some (.bind (.builtin "getset_descriptor.__get__") (.builtin "object.__class__"))) (hm : mroIn K D (.type "object") = some true)
    (X : K.In s.heap) (I : InstAt s.heap x ox D odo) (h : Q (some (.ref D)) { s with toks := s.toks + 1 }) : wpAny (model prog w) A (getAttr? (.ref x) "__class__") Q E s := by
  obtain ⟨hh, g, d, t, os⟩ := s
  have L0 := I.type (M := model prog w)
  have L1 := looks_findIn (M := model prog w) X hga
  have L2 := looks_findIn (M := model prog w) X hgn
  have L3 := looks_find (M := model prog w) X I hf
  have L4 := looks_subIn (M := model prog w) X hb
  have hx2 : (Value.builtin "BaseException.__getattribute__" == Value.builtin "object.__getattribute__") = false := by decide +kernel
  unfold getAttr? getAttrBy? getAttrBy
  refine wpAny_bind (wpAny_mkText (wpAny_bind (wpAny_attempt (wpAny_holding (wpAny_bind (L0.at (wpAny_bind (L1.at ?_))))))))
  show wpAny _ _ (if (onTheHeap (Value.ref D) && (Value.builtin "BaseException.__getattribute__" == Value.builtin "object.__getattribute__")) = true then _ else _) _ _ _
  rw [if_neg (by rw [hx2, Bool.and_false]; exact Bool.false_ne_true)]
  unfold getAttrByItsOwn hookBefore
  refine wpAny_bind ?_
  rw [if_pos (show onTheHeap (Value.ref D) = true from rfl)]
  refine L2.at ?_
  refine wpAny_bind (wpAny_attempt (wpAny_holding ?_))
  show wpAny _ _ (boundAndCalled _ _ _) _ _ _
  unfold boundAndCalled
  rw [PySem.F.attr_ValueError.ga.bind]
  refine wpAny_bind (wpAny_pure ?_)
  show wpAny _ _ (call (.builtin "BaseException.__getattribute__") [.ref x, .str "__class__" t]) _ _ _
  refine wpAny_call (codeAny_call_builtin PySem.F.attr_ValueError.ga.plain PySem.F.entry_bexc_ga ?_)
  have hk : builtinKind "BaseException.__getattribute__" = some .slot := by decide +kernel
  have hsplit : splitId "BaseException.__getattribute__" = some ("BaseException", "__getattribute__") := by decide +kernel
  have ha := PySem.F.args_bexc_ga (.ref x) (.str "__class__" t)
  simp only [checkBuiltinCall, hk, hsplit]
  refine wpAny_bind ((L0.andThen L4 : Looks (model prog w) hh (isInstance (.ref x) (.type "BaseException")) true).at ?_)
  simp only [Bool.not_true, Bool.false_eq_true, if_false]
  refine wpAny_of_eq (a := ()) ha ?_
  unfold Builtin.«object.__getattribute__»
  refine wpAny_bind (wpAny_pure ?_)
  refine wpAny_bind (wpAny_pure ?_)
  refine wpAny_bind (L0.at ?_)
  refine wpAny_bind (L3.at ?_)
  dsimp only
  show wpAny _ _ (holding [Value.builtin "object.__class__"] (call (.builtin "getset_descriptor.__get__") [.builtin "object.__class__", .ref x, .ref D]) >>= ret) _ _ _
  refine wpAny_bind (wpAny_holding (wpAny_call (class_get (ox := ox) (od := odo) X I hm ?_)))
  exact wpAny_pure (handed_on rfl (wpAny_pure h))

theorem kitx_exc {K : Frag} {x D : Addr} {ox : Obj} {odo : Option Obj} (f : clsFacts K D = true) : KitX K (.ref x) (.ref D) (fun h => InstAt h x ox D odo) := by
  simp only [clsFacts, Bool.and_eq_true, beq_iff_eq] at f
  obtain ⟨⟨⟨⟨⟨⟨⟨⟨hga, hgn⟩, hb⟩, hdct⟩, ha⟩, hn⟩, htk⟩, hm⟩, _⟩ := f
  have hdct' := hdct
  obtain ⟨cdD, hcD, _⟩ := any_some hdct'
  have hcD' := hcD
  refine ⟨fun _ _ _ I => I.type, fun _ _ X _ => ?_, fun h tp dd its n sl X htp => ?_, fun {prog w A E Q s} X I k => ?_⟩
  · unfold clsIn at hcD
    split at hcD
    · rename_i c' d' cd' sl' ho
      intro A' Q' E' s' k q
      unfold isType loadHead
      exact wpAny_bind (wpAny_loadPart (k _ _ (X _ _ ho)) (wpAny_pure q))
    · cases hcD
  · refine Bool.eq_false_iff.mpr fun q => ?_
    have e : D = tp := Value.ref.inj (beq_iff_eq.mp q)
    subst e
    unfold clsIn at hcD
    split at hcD
    · rename_i c' d' cd' sl' ho
      have z := (X _ _ ho).symm.trans htp
      cases z
    · cases hcD
  · have hf : findObj K D odo "__class__" = some (.bind (.builtin "getset_descriptor.__get__") (.builtin "object.__class__")) := find_data (by rw [hcD']; rfl) ha hn htk
    exact exc_class hga hgn hb hf hm X I k

abbrev bmV : List Value := [.type "ValueError", .type "Exception", .type "BaseException", .type "object"]

structure ExcOK (C : Cx) (G : Gx) (mg mb : Str → Option Value) : Prop where
  kin : Frag.In C.K C.B
  cls : ∀ c k, C.cls c = some k → mg (Str.ofString c) = some (.ref k) ∧ clsFacts C.K k = true
  has : ∀ c, G.cs.contains c = true → ∃ k, C.cls c = some k
  hasM : ∀ c, G.mks.contains c = true → ∃ k, C.cls c = some k
  sub : ∀ c k d kd, C.cls c = some k → C.cls d = some kd → exmOne C.K (.ref k) (.ref kd) = some (G.sub c d)
  subV : ∀ c k, C.cls c = some k → exmOne C.K (.ref k) (.type "ValueError") = some (G.sub c "ValueError")
  valV : C.cls "ValueError" = Option.none ∧ mg (Str.ofString "ValueError") = Option.none ∧ mb (Str.ofString "ValueError") = some (.type "ValueError")
  make : ∀ c k, C.cls c = some k → G.mks.contains c = true → OwnCls (Str.ofString c) k bmV "ValueError.__new__" mg C.B

theorem ExcOK.un {C : Cx} {G : Gx} {mg mb : Str → Option Value} (X : ExcOK C G mg mb) : ExcOK C.un G.un mg mb := ⟨X.kin, X.cls, X.has, X.hasM, X.sub, X.subV, X.valV, X.make⟩

noncomputable def clsVal (C : Cx) (d : String) : Value := match C.cls d with
  | some k => .ref k
  | Option.none => .type "ValueError"

section
variable {C : Cx} {G : Gx} {mg mb : Str → Option Value} {n : Nat} {A : Around} {Er : Value → Shared → Prop} {env : Env} {ρ : Rho} {σ : PH} {s : Shared}

theorem isCls_iff {d : String} (h : G.isCls d = true) : G.cs.contains d = true ∨ d = "ValueError" := by
  simp only [Gx.isCls, Bool.or_eq_true, Bool.and_eq_true, beq_iff_eq] at h
  exact h.imp (·.1) id

theorem ExcOK.exm (X : ExcOK C G mg mb) {c d : String} {k : Addr} (hc : C.cls c = some k) (hd : G.cs.contains d = true ∨ d = "ValueError") : exmOne C.K (.ref k) (clsVal C d) = some (G.sub c d) := by
  rcases hd with h | rfl
  · obtain ⟨kd, h2⟩ := X.has d h
    simp only [clsVal, h2]
    exact X.sub c k d kd hc h2
  · simp only [clsVal, X.valV.1]
    exact X.subV c k hc

theorem load_cls (g : GOK C G mg mb) (X : ExcOK C G mg mb) (ev : EnvR C env ρ σ s.heap) (m : Sim C σ s.heap) {d : String} {pos : Pos} {Q : Value → Shared → Prop} (hc : G.cs.contains d = true ∨ d = "ValueError")
    (hl : env.scope.names.lookup (Str.ofString d) = some .globalImplicit) (hd : notDebug (Str.ofString d) = true) (h : Q (clsVal C d) s) : wpAny (Mo C) A (eval (.Name (Str.ofString d) pos) env) Q Er s := by
  rcases hc with h1 | rfl
  · obtain ⟨k, h2⟩ := X.has d h1
    simp only [clsVal, h2] at h
    exact load_glob g ev m hl hd (X.cls d k h2).1 h
  · simp only [notDebug, Bool.and_eq_true, Bool.not_eq_true'] at hd
    simp only [clsVal, X.valV.1] at h
    refine wpAny_Name ?_ hd.1
    rw [loadName_read ev.fn hl]
    refine Calls.loadGlobal_builtin (v := .type "ValueError") ?_ X.valV.2.1 ?_ X.valV.2.2 h
    · rw [ev.glob]; exact g.g.keeps m.base
    · rw [ev.blt]; exact g.b.keeps m.base

theorem kit_of_exm {K : Frag} {k : Addr} {v : Value} {b : Bool} (hk : clsFacts K k = true) (h : exmOne K (.ref k) v = some b) : kitOne K (.ref k) v = some b := by
  unfold exmOne at h
  split at h
  · unfold kitOne
    split
    · rename_i q
      have e : Value.ref k = v := beq_iff_eq.mp q
      subst e
      simp only [clsFacts, Bool.and_eq_true, beq_iff_eq] at hk
      have h2 := kitCls_self h
      rw [hk.2] at h2
      exact h2
    · exact h
  · cases h
where
  kitCls_self {K : Frag} {k : Addr} {b : Bool} (h : kitCls K (.ref k) (.ref k) = some b) : mroIn K k (.ref k) = some b := by
    unfold kitCls at h
    simp only at h
    split at h
    · exact h
    · cases h

theorem kit_any (X : ExcOK C G mg mb) {c : String} {k : Addr} (hc : C.cls c = some k) : ∀ {ts : List String}, (∀ d ∈ ts, G.isCls d = true) → kitAny C.K (.ref k) (ts.map (clsVal C)) = some (ts.any (G.sub c))
  | [], _ => rfl
  | d :: r, h => by
    have h1 := kit_of_exm (X.cls c k hc).2 (X.exm hc (isCls_iff (h d List.mem_cons_self)))
    have h2 := kit_any X hc (ts := r) fun d hd => h d (List.mem_cons_of_mem _ hd)
    simp only [List.map_cons, kitAny, h1, List.any_cons]
    cases G.sub c d with
    | true => rfl
    | false => exact h2

/-- the names of kinds, one after another: nothing moves -/
theorem types_ok (g : GOK C G mg mb) (X : ExcOK C G mg mb) (ev : EnvR C env ρ σ s.heap) (m : Sim C σ s.heap) {sc : Scope} (sr : ScR sc env) {pos : Pos} : ∀ {ts : List String} {es : List Expr} {R : List Value → Shared → Prop}, mTypes sc ts es = true → (∀ d ∈ ts, G.isCls d = true) →
    R (ts.map (clsVal C)) s → wpAny (Mo C) A (spliced (backTo pos (starEach es env))) R Er s
  | [], [], R, _, _, h => Calls.spliced_nil h
  | [], _ :: _, R, hm, _, _ => by simp [mTypes] at hm
  | _ :: _, [], R, hm, _, _ => by simp [mTypes] at hm
  | d :: ts, e :: es, R, hm, hc, h => by
    simp only [mTypes, Bool.and_eq_true] at hm
    obtain ⟨py, rfl, h5, h6⟩ := glb_iff hm.1
    rw [starEach_cons (fun x p q => by cases q)]
    show wpAny _ _ (spliced ((false, eval (.Name (Str.ofString d) py) env) :: backTo pos (starEach es env))) _ _ s
    refine Calls.spliced_cons (load_cls g X ev m (isCls_iff (hc d List.mem_cons_self)) (sr.glob _ h5) h6 ?_)
    exact types_ok g X ev m sr hm.2 (fun d hd => hc d (List.mem_cons_of_mem _ hd)) h

theorem mTypes_len {sc : Scope} : ∀ {ts : List String} {es : List Expr}, mTypes sc ts es = true → es.length = ts.length
  | [], [], _ => rfl
  | [], _ :: _, h => by simp [mTypes] at h
  | _ :: _, [], h => by simp [mTypes] at h
  | _ :: _, _ :: _, h => by simp only [mTypes, Bool.and_eq_true] at h; simp [mTypes_len h.2]

theorem isi_todo (g : GOK C G mg mb) (X : ExcOK C G mg mb) {a : E} {ts : List String} (hs : stat ts = false) (ha : EvalOK C G n a) : EvalOK C G n (.isi a ts) := by
  intro sc x env ρ σ s A l Q X' hm sr ev m ak w
  obtain ⟨f, y, t, p, rfl, h1, h2, h3⟩ := i_isi hm
  simp only [we_isi] at w
  obtain ⟨_, w⟩ := w
  obtain ⟨py, rfl, h5, h6⟩ := glb_iff h1
  rw [eval_CallName]
  have hy : ∀ z q, y ≠ .Starred z q := by rintro z q rfl; rw [mE_starred] at h2; cases h2
  have ht : ∀ z q, t ≠ .Starred z q := by
    rintro z q rfl
    unfold mType at h3
    simp only at h3
    split at h3
    · simp [glb] at h3
    · cases h3
  have pa : plainArgs [y, t] = true := by
    have : plainArgs [t] = true := by cases t <;> first | rfl | exact absurd rfl (ht _ _)
    cases y <;> first | exact this | exact absurd rfl (hy _ _)
  refine wpAny_bind (load_blt g ev m (sr.glob _ h5) h6 (by decide) (v := .builtin "isinstance") (by decide +kernel) (callWith_ok (first := []) ⟨.machine, .inr (.inl rfl), W.Looks.of_pure rfl⟩ pa ?_))
  rw [starEach_cons hy, starEach_cons ht]
  show wpAny _ _ (spliced [(false, eval y env), (false, eval t env)]) _ _ s
  refine Calls.spliced_cons (EOK.then (ha sc y env ρ σ s A l _ X' h2 sr ev m ak w) fun v1 s1 p1 σ1 hv1 m1 st1 r1 w => ?_)
  simp only [isiG, hs, Bool.false_or] at w
  have hex : ∃ b c, p1 = .ref b ∧ σ1 b = some (.exc c) ∧ (∀ d ∈ ts, G.isCls d = true) ∧ Q (.bool (ts.any (G.sub c))) σ1 := by
    by_cases hx : excV σ1 p1 = true
    · rw [if_pos hx] at w
      cases p1 with
      | ref b =>
        cases e : σ1 b with
        | none => simp [excV, e] at hx
        | some o =>
          cases o with
          | exc c =>
            simp only [isiV, e] at w
            by_cases q : ts.all G.isCls = true
            · rw [if_pos q] at w
              exact ⟨b, c, rfl, e, fun d hd => List.all_eq_true.mp q d hd, w⟩
            · rw [if_neg q] at w; exact w.elim
          | _ => simp [excV, e] at hx
      | _ => simp [excV] at hx
    · rw [if_neg hx] at w; exact w.elim
  obtain ⟨b, c, rfl, e1, hts, w⟩ := hex
  simp only [VR] at hv1; subst hv1
  obtain ⟨ob, e2, k, vs, e3, e4, e5, e6, e7⟩ := m1.objs _ _ e1
  have I : InstAt s1.heap b ob k Option.none := by
    refine ⟨e2, e4, by simp [notCls, e5], ?_⟩
    rw [e7]; trivial
  have Z : KitX C.K (.ref b) (.ref k) (fun h => InstAt h b ob k Option.none) := kitx_exc (X.cls c k e3).2
  have kin1 : Frag.In C.K s1.heap := X.kin.keeps m1.base
  unfold mType at h3
  split at h3
  · rename_i es kk pp
    simp only [Bool.and_eq_true, decide_eq_true_eq] at h3
    refine Calls.spliced_cons (wpAny_Tuple_spliced (types_ok g X (ev.step st1) m1 sr h3.1 hts ⟨?_, Calls.spliced_nil ⟨fun b' o' q => Heap.get?_push_of_some _ (m1.base b' o' q), ?_⟩⟩))
    · rw [List.length_map, ← mTypes_len h3.1]
      exact Nat.le_trans (Nat.le_trans h3.2.2 (by decide)) (Nat.le_refl _)
    · refine kia_tup (s := { s1 with heap := s1.heap.push _ }) Z (kin1.keeps fun b' o' q => Heap.get?_push_of_some _ q) ⟨Heap.get?_push_of_some _ e2, I.cls, I.no, by rw [e7]; trivial⟩ (Heap.get?_push_size _ rfl) (kit_any X e3 hts) (by simp) fun tk => ?_
      exact ⟨.bool _, σ1, rfl, m1.push _, st1.trans (.push _ _ _ _), r1.trans ⟨rfl, rfl⟩, w⟩
  · rename_i e0 hne
    match ts, h3, hts, w with
    | [d], h3, hts, w =>
      obtain ⟨pd, rfl, h7, h8⟩ := glb_iff h3
      refine Calls.spliced_cons (load_cls g X (ev.step st1) m1 (isCls_iff (hts d List.mem_cons_self)) (sr.glob _ h7) h8 (Calls.spliced_nil ⟨m1.base, ?_⟩))
      have kk := kit_of_exm (X.cls c k e3).2 (X.exm e3 (isCls_iff (hts d List.mem_cons_self)))
      refine kia_one Z kin1 I kk (by simp) fun tk => ?_
      have w' : Q (.bool (G.sub c d)) σ1 := by simpa using w
      exact ⟨.bool _, σ1, rfl, m1, st1, r1.trans ⟨rfl, rfl⟩, w'⟩
    | [], h3, _, _ => cases h3
    | _ :: _ :: _, h3, _, _ => cases h3
end
end Vl
end

section
open PySem PySem.W PyProof.Rows
set_option linter.unusedVariables false
set_option linter.unusedSimpArgs false
namespace Vl

section
variable {C : Cx} {G : Gx} {mg mb : Str → Option Value} {n : Nat} {A : Around} {env : Env} {ρ : Rho} {σ : PH} {s : Shared} {l : List Env}

theorem args_of {f : Value} {pos : Pos} {as : List Expr} {R : Args → Shared → Prop} {Er : Value → Shared → Prop} (hp : plainArgs as = true) (h : wpAny (Mo C) A (spliced (backTo pos (starEach as env))) (fun vs s' => R ⟨vs, []⟩ s') Er s) :
    wpAny (Mo C) A (evalArgs f true (backTo pos (starEach as env)) []) R Er s := by
  cases as with
  | nil =>
    show wpAny (Mo C) A (evalArgs f true [] []) _ _ s
    unfold evalArgs
    show wpAny (Mo C) A (spliced [] >>= _) _ _ s
    refine wpAny_bind (wpAny_mono h (fun vs s' h' => ?_) fun _ _ x => x)
    exact wpAny_holding (wpAny_bind (wpAny_pure (wpAny_bind (wpAny_pure (wpAny_pure h')))))
  | cons e r =>
    have hne : ∀ x p, e ≠ .Starred x p := by rintro x p rfl; cases hp
    rw [starEach_cons hne] at h ⊢
    exact Calls.evalArgs_plain h

/-- an exception of the text's own is made and flies -/
theorem raise_todo (g : GOK C G mg mb) (X : ExcOK C G mg mb) (hca : C.calm) {c : String} {args : List E} (ha : ∀ e ∈ args, EvalOK C G n e) : StOK C G n (.raise c args) := by
  intro sc x env ρ σ s A l Q X' hm sr tf ev m ak w
  obtain ⟨y, as, p, pos, rfl, h1, h2, h3⟩ := j_raise hm
  obtain ⟨py, rfl, h5, h6⟩ := glb_iff h1
  simp only [ws_raise] at w
  obtain ⟨⟨w1, w2, w3⟩, w⟩ := w
  obtain ⟨k, hk⟩ := X.hasM c w3
  obtain ⟨bm, N, nm, q, bs, hdct, sn, sub, ab, col, dd, k0, k1, k2, k3, k5, mN, hC, hN, hni, T⟩ := (X.make c k hk w3).obj
  have hpl := mEs_plain h2
  refine wpAny_Raise_call_subT PySem.F.excBase_ValueError (nm := nm) (q := q) (C := k) (N := N) (bs := bs) (bm := bm) (hdct := hdct) (sn := sn) (sub := sub) (ab := ab) (col := col) (dd := dd) (k0 := k0) (k1 := k1) (k2 := k2) (k3 := k3) (k5 := k5) (mN := mN)
    (T.hasType (by decide +kernel)) (ak.calm hca) (star_plain hpl) hni ?_
  refine load_glob g ev m (sr.glob _ h5) h6 (X.cls c k hk).1 ⟨rfl, ?_⟩
  refine args_of hpl ?_
  refine wpAny_mono (wes_ok ha h2 sr ev m ak w) (fun vs s1 hvs => ?_) fun _ _ x => XP.stmt ev ak x
  obtain ⟨ps, σ1, hv, m1, st1, r1, hn, w⟩ := hvs
  refine ⟨rfl, ?_, m1.base _ _ hC, hN.keeps m1.base, T.keeps m1.base, fun h' e hx => ?_⟩
  · show vs.length ≤ _
    rw [hv.length, hn, ← mEs_length h2]
    exact Nat.le_trans h3 (by decide)
  obtain ⟨t, e1, e2, e3⟩ := hx.there
  have eB : C.B.get? e = Option.none := by
    cases q : C.B.get? e with
    | none => rfl
    | some o => have := m1.base e o q; rw [hx.new] at this; cases this
  have eσ : σ1 e = Option.none := by
    cases q : σ1 e with
    | none => rfl
    | some o => obtain ⟨ob, z, _⟩ := m1.objs e o q; rw [hx.new] at z; cases z
  have st2 : Step none1 σ s.heap σ1 h' := st1.trans (.more hx.keeps)
  refine ⟨⟨c⟩, ρ, σ1, ⟨e, _, _, k, rfl, eB, eσ, st1.live e hx.new, e1, hk, rfl, rfl, rfl, .inl rfl, rfl⟩, ev.step st2, m1.more hx.keeps, st2.own, r1.trans ⟨rfl, rfl⟩, ak.step st2, w⟩
end
end Vl
end

section
open PySem PySem.W PyProof.Rows
set_option linter.unusedVariables false
set_option linter.unusedSimpArgs false
namespace Vl

section
variable {C : Cx} {G : Gx} {mg mb : Str → Option Value} {n : Nat} {A : Around} {Er : Value → Shared → Prop} {env : Env} {ρ : Rho} {σ : PH} {s : Shared} {l : List Env}

/-- what is not in flight is taken out of flight once more -/
theorem flight_ok {a T : Addr} {oe oT : Obj} {vs ts : Array Value} {Q : Unit → Shared → Prop} (he : s.heap.get? a = some oe) (hd : oe.data = .fields vs) (h1 : vs[1]? = some (.ref T)) (hT : s.heap.get? T = some oT) (hdT : oT.data = .fields ts)
    (h3 : ts[3]? = some .none) (h : ∀ h', (∀ b o, s.heap.get? b = some o → h'.get? b = some o) → Q () { s with heap := h' }) : wpAny (Mo C) A (setFlight (.ref a) Option.none) Q Er s := by
  have hsz := (Array.getElem?_eq_some_iff.mp h3).1
  refine wpAny_setFlight_none he hd h1 hT hdT hsz (h _ fun b o e => ?_)
  have same : ts.setIfInBounds 3 .none = ts := by
    apply Array.ext
    · simp
    · intro i h1 h2
      rw [Array.getElem_setIfInBounds]
      split
      · rename_i q; subst q; exact ((Array.getElem?_eq_some_iff.mp h3).2).symm
      · rfl
  have eT : oT.mapFields (·.setIfInBounds 3 .none) = oT := by
    obtain ⟨c, d, dt, sl⟩ := oT
    simp only at hdT
    subst hdT
    simp only [Obj.mapFields, same]
  by_cases q : b = T
  · subst q
    rw [hT] at e; cases e
    rw [Heap.get?_update_self _ hT (Obj.isFreed_of_fields (Obj.data_mapFields hdT _)), eT]
  · rw [Heap.get?_update_other _ _ (fun e => q e.symm)]; exact e

theorem EnvR.stepF {S : Addr → Prop} {σ' : PH} {h h' : Heap} (x : EnvR C env ρ σ h) (st : Step S σ h σ' h') (hS : ∀ b o, S b → h.get? b = some o → ∃ vs, o.data = .fields vs) : EnvR C env ρ σ' h' where
  fn := x.fn
  glob := x.glob
  blt := x.blt
  ns := by
    obtain ⟨mm, hn, hv⟩ := x.ns
    refine ⟨mm, Ns.like hn fun o e => ?_, fun y p e1 e2 => let ⟨v, a, b⟩ := hv y p e1 e2; ⟨v, a, b.step st⟩⟩
    obtain ⟨_, o', e', lk⟩ := st.keep _ o e x.newL
    obtain ⟨o2, es, ep, e2, hd, _⟩ := hn
    rw [e] at e2; cases e2
    exact ⟨o', e', lk fun f => by obtain ⟨vs, q⟩ := hS _ o f e; rw [hd] at q; cases q⟩
  cell := fun y p e1 e2 => by
    obtain ⟨c, v, a, b, d⟩ := x.cell y p e1 e2
    refine ⟨c, v, a, IsCell.like b fun o e => ?_, d.step st⟩
    obtain ⟨_, o', e', lk⟩ := st.keep _ o e (x.newC _ c a).1
    obtain ⟨o2, e2, hd⟩ := b
    rw [e] at e2; cases e2
    exact ⟨o', e', lk fun f => by obtain ⟨vs, q⟩ := hS _ o f e; rw [hd] at q; cases q⟩
  newL := by
    obtain ⟨mm, ⟨o, es, ep, e, _⟩, _⟩ := x.ns
    exact (st.keep _ o e x.newL).1
  newC := fun y c e => by
    obtain ⟨a, v, o, b, d⟩ := x.newC y c e
    obtain ⟨q, o', e', lk⟩ := st.keep _ o b a
    exact ⟨q, v, o', e', (lk fun f => by obtain ⟨vs, q⟩ := hS _ o f b; rw [d] at q; cases q).2.2.1.trans d⟩
  baseL := x.baseL
  baseC := x.baseC
  apart := x.apart
  hasC := x.hasC
theorem AOK.stepF {S : Addr → Prop} {σ' : PH} {h h' : Heap} (x : AOK C n A l σ h) (st : Step S σ h σ' h') (hS : ∀ b o, S b → h.get? b = some o → ∃ vs, o.data = .fields vs) : AOK C n A l σ' h' :=
  ⟨x.depth, x.units, x.stack, (x.frs.step st fun en he L hf f => by
    obtain ⟨_, L', o', es, nn, e1, _, _, e4, e5⟩ := x.frs en he
    rw [hf] at e1; cases e1
    obtain ⟨vs, q⟩ := hS L o' f e4; rw [e5] at q; cases q), x.calm⟩

/-- what has been caught stands among the call's own -/
theorem EnvR.adopt {h : Heap} {D : Addr} {po : PO} {ob : Obj} {vs : Array Value} (x : EnvR C env ρ σ h) (e : h.get? D = some ob) (hd : ob.data = .fields vs) : EnvR C env ρ (σ.set D po) h := by
  have nt : ∀ ws k, h.get? D ≠ some (tupO ws k) := fun ws k q => by rw [e] at q; cases q; cases hd
  refine ⟨x.fn, x.glob, x.blt, ?_, fun y p e1 e2 => ?_, ?_, x.baseL, x.baseC, fun y c q => ?_, x.apart, x.hasC⟩
  · obtain ⟨mm, hn, hv⟩ := x.ns
    exact ⟨mm, hn, fun y p e1 e2 => let ⟨v, a, b⟩ := hv y p e1 e2; ⟨v, a, VR.adopt nt _ _ b⟩⟩
  · obtain ⟨c, v, a, b, d⟩ := x.cell y p e1 e2
    exact ⟨c, v, a, b, VR.adopt nt _ _ d⟩
  · rw [PH.set_ne]
    · exact x.newL
    · intro q
      obtain ⟨mm, ⟨o, es, ep, e1, e2, _⟩, _⟩ := x.ns
      rw [q, e] at e1; cases e1; rw [hd] at e2; cases e2
  · obtain ⟨a, v, o, b, d⟩ := x.newC y c q
    refine ⟨?_, v, o, b, d⟩
    rw [PH.set_ne]
    · exact a
    · rintro rfl; rw [e] at b; cases b; rw [hd] at d; cases d
theorem AOK.adopt {h : Heap} {D : Addr} {po : PO} {ob : Obj} {vs : Array Value} (x : AOK C n A l σ h) (e : h.get? D = some ob) (hd : ob.data = .fields vs) : AOK C n A l (σ.set D po) h :=
  ⟨x.depth, x.units, x.stack, (fun en he => by
    obtain ⟨k, L, o, es, nn, e1, e2, e3, e4, e5⟩ := x.frs en he
    refine ⟨k, L, o, es, nn, e1, e2, ?_, e4, e5⟩
    rw [PH.set_ne]
    · exact e3
    · rintro rfl; rw [e] at e4; cases e4; rw [hd] at e5; cases e5), x.calm⟩

theorem wipe_get : ∀ {ρ : Rho} {x : String} {p : PV}, ρ.wipe.get x = some p → False
  | [], x, p, h => by cases h
  | (y, o) :: r, x, p, h => by
    have h : (if y = x then Option.none else Rho.get (Rho.wipe r) x) = some p := h
    split at h
    · cases h
    · exact wipe_get h

/-- the name behind a handler goes; nothing is said of the others any more -/
theorem name_goes {x : String} {pos : Pos} {K : Unit → Shared → Prop} (ev : EnvR C env ρ σ s.heap) (m : Sim C σ s.heap) (hx : env.kindOf (Str.ofString x) = some .local)
    (hK : ∀ s', Asg C env (slot env [x]) σ s.heap s'.heap → EnvR C env ρ.wipe σ s'.heap → Rest s s' → K () s') : wpAny (Mo C) A (do bindName env (Str.ofString x) .none; unbindBehindTheSuite env (Str.ofString x) pos) K Er s := by
  obtain ⟨mm, hn, hm⟩ := ev.ns
  have hp : (env.scope.kind == .class || (env.scope.kind == .module && env.locals != env.globals)) = false := by rw [ev.fn]; rfl
  refine wpAny_nameGoes hx hn hp fun h' m' hn' hs' => ?_
  have hF : ∀ c, slot env [x] c → c = env.locals := by
    rintro c ⟨y, hy, q | q⟩
    · exact q.2
    · rw [List.mem_singleton] at hy; subst hy; rw [hx] at q; cases q.1
  obtain ⟨o, es, ep, ho, hd, _⟩ := id hn
  obtain ⟨o', es', ep', ho', hd', _⟩ := id hn'
  have mv : Mv (slot env [x]) s.heap h' := fun c o f e => hs'.extBut c o (fun q => f ⟨x, List.mem_singleton.mpr rfl, .inl ⟨hx, q⟩⟩) e
  have fo : Fok C σ s.heap (slot env [x]) := fun c f => by
    have := hF c f; subst this
    exact ⟨ev.baseL, .inl ⟨ev.newL, noTup_seq ho (notSeq_dict hd)⟩⟩
  have hid : ∀ c, slot env [x] c → σ c = some .hid → ∃ a b, h'.get? c = some (tupO #[a, b] 0) := fun c f q => by
    have := hF c f; subst this; rw [ev.newL] at q; cases q
  have nc : ∀ y c, env.cells.lookup y = some c → c ≠ env.locals := by
    rintro y c q rfl
    obtain ⟨_, v1, o1, q1, q2⟩ := ev.newC y _ q
    rw [ho] at q1; cases q1; rw [hd] at q2; cases q2
  refine hK _ ⟨mv, fo, fun l f => ?_, m.mv mv fo hid, fun c f => ?_⟩ ?_ ⟨rfl, rfl⟩
  · intro en he
    obtain ⟨k, L, o1, es1, n1, e1, e2, e3, e4, e5⟩ := f en he
    by_cases q : L = env.locals
    · subst q; exact ⟨k, _, o', es', ep', e1, e2, e3, ho', hd'⟩
    · exact ⟨k, L, o1, es1, n1, e1, e2, e3, hs'.extBut _ _ q e4, e5⟩
  · have := hF c f; subst this
    exact ⟨fun o1 q => by rw [ho] at q; cases q; exact notSeq_dict hd, o', ho', notSeq_dict hd'⟩
  · exact ⟨ev.fn, ev.glob, ev.blt, ⟨_, hn', fun y q e1 _ => (wipe_get e1).elim⟩, fun y q e1 _ => (wipe_get e1).elim, ev.newL, ev.baseL, ev.baseC, fun y c e => by
      obtain ⟨a, w, b⟩ := ev.newC y c e
      exact ⟨a, w, b.sameBut hs' (nc _ c e)⟩, ev.apart, ev.hasC⟩

theorem exName_iff {sc : Scope} {x : String} {nme : Option Str} (h : exName sc x nme = true) : (nme = Option.none ∧ x = "") ∨ (nme = some (Str.ofString x) ∧ x ≠ "" ∧ sc.names.lookup (Str.ofString x) = some .local) := by
  cases nme with
  | none => exact .inl ⟨rfl, beq_iff_eq.mp h⟩
  | some y =>
    have h : (x != "" && Vl.nm y x && sc.names.lookup y == some .local) = true := h
    obtain ⟨h1, h2, h3⟩ := and3 h
    rw [nmE h2] at h3 ⊢
    exact .inr ⟨rfl, bne_iff_ne.mp h1, beq_iff_eq.mp h3⟩

theorem FR.mv {F : Addr → Prop} {h h' : Heap} {fl : Fl} {f : Flow} (x : FR C σ h fl f) (mv : Mv F h h') (fo : Fok C σ h F) : FR C σ h' fl f := by
  cases fl with
  | next => exact x
  | ret p => obtain ⟨v, e, hv⟩ := x; exact ⟨v, e, hv.mv mv fo⟩
theorem FR_un {h : Heap} {fl : Fl} {f : Flow} (x : FR C.un σ h fl f) : FR C σ h fl f := by
  cases fl with
  | next => exact x
  | ret p => obtain ⟨v, e, hv⟩ := x; exact ⟨v, e, by rw [VR_un] at hv; exact hv⟩
end
end Vl
end

section
open PySem PySem.W PyProof.Rows
set_option linter.unusedVariables false
set_option linter.unusedSimpArgs false
namespace Vl

section
variable {C : Cx} {G : Gx} {mg mb : Str → Option Value} {n : Nat}

theorem try_todo (g : GOK C G mg mb) (X : ExcOK C G mg mb) (hok : C.ok) (hca : C.calm) {b h : List S} {c x : String} (hb : StsOK C G n b) (hh : StsOK C.un G.un n h) : StOK C G n (.try1 b c x h) := by
  intro sc st env ρ σ s A l Q X' hm sr tf ev m ak w
  obtain ⟨y, t, nme, hb0, hr, p, pos, rfl, h1, h2, h3, h4⟩ := j_try1 hm
  obtain ⟨pt, rfl, h5, h6⟩ := glb_iff h2
  simp only [ws_try1] at w
  obtain ⟨⟨w1, w2, w3⟩, w⟩ := w
  refine wpAny_Try_except ?_
  refine wpAny_mono (hb sc y env ρ σ s A l Q _ h1 sr tf ev m ak w) (fun f s1 hf => ?_) fun e s1 hx => ?_
  · obtain ⟨fl, ρ1, σ1, f1, ev1, m1, st1, r1, ak1, q⟩ := hf
    cases fl with
    | next =>
      simp only [FR] at f1; subst f1
      exact wpAny_execs_nil ⟨.next, ρ1, σ1, rfl, ev1, m1, st1, r1, ak1, q⟩
    | ret v =>
      obtain ⟨v', rfl, hv⟩ := f1
      exact ⟨.ret v, ρ1, σ1, ⟨v', rfl, hv⟩, ev1, m1, st1, r1, ak1, q⟩
  · obtain ⟨px, ρ1, σ1, fl, ev1, m1, st1, r1, ak1, w⟩ := hx
    have tf' := tf
    obtain ⟨l', rfl, hfr⟩ := tf'
    refine fly_noted ak1.stack ak1.frs hfr m1 fl st1 fun h' m2 fl2 st2 hst hat => ?_
    obtain ⟨F, stF, hF⟩ := hst
    have ev2 : EnvR C env ρ1 σ1 h' := ev1.stepF stF hF
    have ak2 : AOK C n A (env :: l') σ1 h' := ak1.stepF stF hF
    obtain ⟨a, oe, vs, T, oT, ts, rfl, e1, e2, e3, e4, e5, e6, e7⟩ := hat
    obtain ⟨a', o, vs', k, ea, q2, q3, q4, q5, q6, q7, q8, q9, q10, q11⟩ := fl2
    cases ea
    rw [e1] at q5; cases q5
    have hsub : G.sub px.c c = true := by
      by_cases z : G.sub px.c c = true
      · exact z
      · rw [if_neg z] at w; exact w.elim
    rw [if_pos hsub] at w
    have I : InstAt h' a oe k Option.none := ⟨e1, q7, by simp [notCls, e2], by rw [q11]; trivial⟩
    have hxm := X.exm q6 (.inl w3)
    rw [hsub] at hxm
    refine wpAny_handleBy_cons (codeAny_handlers_test (load_cls (s := { s1 with heap := h' }) g X ev2 m2 (.inl w3) (sr.glob _ h5) h6 ((exm_one (M := Mo C) (X.kin.keeps m2.base) I.type hxm).here ?_))) (by intro q; cases q)
    rw [if_pos rfl]
    -- adopted
    have hσa : σ a = Option.none := by
      cases z : σ a with
      | none => rfl
      | some o' => obtain ⟨ob, z1, _⟩ := m.objs a o' z; rw [q4] at z1; cases z1
    have land : ∀ h2 : Heap, (∀ b o, h'.get? b = some o → h2.get? b = some o) → Sim C (σ1.set a (.exc px.c)) h2 ∧ EnvR C env ρ1 (σ1.set a (.exc px.c)) h2 ∧ Step (ownE env) σ s.heap (σ1.set a (.exc px.c)) h2 ∧ AOK C n A (env :: l') (σ1.set a (.exc px.c)) h2 := fun h2 kp => by
      have m3 : Sim C σ1 h2 := m2.more kp
      have sk : Step none1 σ1 h' σ1 h2 := .more kp
      have nt : ∀ ws k, h2.get? a ≠ some (tupO ws k) := fun ws k z => by rw [kp a _ e1] at z; cases z; cases e2
      exact ⟨m3.adopt q3 nt (kp a _ e1) q2 ⟨k, vs, q6, q7, e2, by rw [e2] at q8; cases q8; exact q9, q11⟩ hok, (ev2.step sk).adopt (kp a _ e1) e2, (st2.trans sk.own).add _ q4 hσa, (ak2.step sk).adopt (kp a _ e1) e2⟩
    have hw : wss G.un (CallOK C.un n) (CallOK C.un n) h (ρ1.bindX x (.ref a)) (σ1.set a (.exc px.c)) (fun fl ρ2 σ2 => Q fl (ρ2.unX x) σ2) (fun _ _ _ => False) := w a q3
    rcases exName_iff h3 with ⟨rfl, rfl⟩ | ⟨rfl, hx0, hxl⟩
    · refine codeAny_handlers_suite (flight_ok (C := C) (s := { s1 with heap := h' }) e1 e2 e3 e5 e6 e7 fun h2 kp => ?_)
      obtain ⟨m3, ev3, st3, ak3⟩ := land h2 kp
      refine wpAny_mono (hh sc (hb0 :: hr) env (ρ1.bindX "" (.ref a)) (σ1.set a (.exc px.c)) { s1 with heap := h2 } (A.mark (some (.ref a))) (env :: l') _ _ h4 sr tf ev3.un m3.un (ak3.un _) hw) (fun f s4 hf => ?_) fun _ _ z => SX.none z
      obtain ⟨fl4, ρ4, σ4, f4, ev4, m4, st4, r4, ak4, q⟩ := hf
      exact ⟨fl4, ρ4, σ4, FR_un f4, ev4.re, m4.re, st3.trans st4, r1.trans r4, ak4.re ak3, q⟩
    · refine codeAny_handlers_suite_as (flight_ok (C := C) (s := { s1 with heap := h' }) e1 e2 e3 e5 e6 e7 fun h2 kp => ?_)
      obtain ⟨m3, ev3, st3, ak3⟩ := land h2 kp
      have hloc := sr.loc _ hxl
      refine store_name (C := C) (s := { s1 with heap := h2 }) (p := .ref a) ev3 m3 (.inl hloc) rfl fun s3 a3 ev4 r3 => ?_
      have st4 := a3.step ev st3
      have ak4 := ak3.asg a3
      have hb1 : ρ1.bindX x (.ref a) = ρ1.put x (.ref a) := if_neg hx0
      rw [hb1] at hw
      refine wpAny_mono (hh sc (hb0 :: hr) env (ρ1.put x (.ref a)) (σ1.set a (.exc px.c)) s3 (A.mark (some (.ref a))) (env :: l') _ _ h4 sr tf ev4.un a3.sim.un (ak4.un _) hw) (fun f s5 hf => ?_) fun _ _ z => SX.none z
      obtain ⟨fl5, ρ5, σ5, f5, ev5, m5, st5, r5, ak5, q⟩ := hf
      have ev5' := ev5.re
      have ak5' := ak5.re ak4
      refine name_goes (C := C) ev5' m5.re hloc fun s6 a6 ev6 r6 => ?_
      have hu : ρ5.unX x = ρ5.wipe := if_neg hx0
      rw [hu] at q
      exact ⟨fl5, ρ5.wipe, σ5, (FR_un f5).mv a6.mv a6.fok, ev6, a6.sim, a6.step ev (st4.trans st5), ((r1.trans r3).trans r5).trans r6, ak5'.asg a6, q⟩

/-- all that is to be shown of exceptions -/
theorem todoE (g : GOK C G mg mb) (X : ExcOK C G mg mb) : Todo C G n := ⟨fun _ a ts hs ha => isi_todo g X hs ha⟩
theorem todo2E (g : GOK C G mg mb) (X : ExcOK C G mg mb) : Todo2 C G n := ⟨fun _ hca c args ha => raise_todo g X hca ha, fun hok hca b c x h hb hh => try_todo g X hok hca hb hh⟩
end
end Vl
end

section
open PySem PySem.W PyProof.Rows
set_option linter.unusedVariables false
set_option linter.unusedSimpArgs false
namespace Vl

/-! the text's own kinds of exceptions, seen in the heap behind the top -/
structure Kinds where
  cs : List String
  mks : List String
  sub : String → String → Bool

noncomputable def addrIn (K : Frag) (c : String) : Option Addr := match nsIn K mainGlobals (Str.ofString c) with
  | some (some (.ref a)) => some a
  | _ => Option.none
noncomputable def kindOK (K : Frag) (k : Kinds) (c : String) : Bool := match addrIn K c with
  | some a => clsFacts K a && (exmOne K (.ref a) (.type "ValueError") == some (k.sub c "ValueError")) && k.cs.all fun d => match addrIn K d with
    | some b => exmOne K (.ref a) (.ref b) == some (k.sub c d)
    | Option.none => false
  | Option.none => false
noncomputable def kindsOK (K : Frag) (k : Kinds) : Bool := k.cs.all (kindOK K k)

noncomputable def nsAddr (o : Obj) : List Addr := match o.data with
  | .cls cd => [cd.ns]
  | _ => []
noncomputable def kAddrs (h : Heap) (cs : List String) : List Addr := mainGlobals :: cs.flatMap fun c => match h.nsMap mainGlobals (Str.ofString c) with
  | some (.ref a) => match h.get? a with
    | some o => a :: nsAddr o
    | Option.none => []
  | _ => []
noncomputable def fragAt (h : Heap) (as : List Addr) : Frag := as.filterMap fun a => (h.get? a).map fun o => (a, o)
theorem fragAt_in {h : Heap} : ∀ {as : List Addr}, (fragAt h as).In h
  | [], a, o, e => by cases e
  | b :: r, a, o, e => by
    cases hb : h.get? b with
    | none =>
      have : fragAt h (b :: r) = fragAt h r := by simp [fragAt, hb]
      rw [this] at e
      exact fragAt_in (as := r) a o e
    | some ob =>
      have : fragAt h (b :: r) = (b, ob) :: fragAt h r := by simp [fragAt, hb]
      rw [this, List.lookup_cons] at e
      by_cases q : a = b
      · subst q
        rw [beq_self_eq_true] at e
        cases e; exact hb
      · rw [beq_eq_false_iff_ne.mpr q] at e
        exact fragAt_in (as := r) a o e

noncomputable def hookE (k : Kinds) : Hook where
  α := Bool
  obs := fun s => kindsOK (fragAt s.heap (kAddrs s.heap k.cs)) k
  val := fun _ => true
  says := fun _ h => ∃ K : Frag, K.In h ∧ kindsOK K k = true
  of := fun _ s e => ⟨_, fragAt_in, e⟩
  keeps := fun _ h h' ⟨K, a, b⟩ kp => ⟨K, a.keeps kp, b⟩

theorem nsIn_ns {K : Frag} {h : Heap} {a : Addr} {m : Str → Option Value} (X : K.In h) (N : h.Ns a m) {x : Str} {v : Value} (e : nsIn K a x = some (some v)) : m x = some v := by
  obtain ⟨o, es, ep, ho, hd, _, hf⟩ := N
  unfold nsIn at e
  split at e
  · rename_i c d es' n' sl hl
    have := X _ _ hl
    rw [ho] at this; cases this
    simp only at hd; cases hd
    split at e
    · rename_i en hen
      cases e
      rw [← hf]
      unfold nsFind findBy
      rw [← Array.find?_toList, hen]; rfl
    · split at e <;> cases e
  · cases e
end Vl
end

section
open PySem
set_option linter.unusedVariables false
set_option linter.unusedSimpArgs false
namespace Vl

theorem zip_lookup {ns : List Str} : ∀ {vs : List Value}, vs.length = ns.length → ns.Nodup → ∀ n ∈ ns, ((ns.zip vs).lookup n).isSome = true := by
  induction ns with
  | nil => intro vs _ _ n hn; cases hn
  | cons a r ih =>
    intro vs hl hd n hn
    cases vs with
    | nil => simp at hl
    | cons v vs =>
      simp only [List.zip_cons_cons]
      by_cases q : n = a
      · subst q; rw [lookup_cons_self]; rfl
      · rw [lookup_cons_ne q]
        exact ih (by simpa using hl) (List.nodup_cons.mp hd).2 n ((List.mem_cons.mp hn).resolve_left q)
theorem zip_filterMap {ns : List Str} : ∀ {vs : List Value}, vs.length = ns.length → ns.Nodup → ns.filterMap (fun n => ((ns.zip vs).lookup n).map (n, ·)) = ns.zip vs := by
  induction ns with
  | nil => intro vs _ _; rfl
  | cons a r ih =>
    intro vs hl hd
    cases vs with
    | nil => simp at hl
    | cons v vs =>
      simp only [List.zip_cons_cons, List.filterMap_cons, lookup_cons_self, Option.map_some]
      congr 1
      have key : ∀ l : List Str, a ∉ l → l.filterMap (fun n => (List.lookup n ((a, v) :: r.zip vs)).map (n, ·)) = l.filterMap (fun n => ((r.zip vs).lookup n).map (n, ·)) := by
        intro l
        induction l with
        | nil => intro _; rfl
        | cons b q ih2 =>
          intro h
          simp only [List.mem_cons, not_or] at h
          simp only [List.filterMap_cons, lookup_cons_ne (fun e => h.1 e.symm : b ≠ a), ih2 h.2]
      rw [key r (List.nodup_cons.mp hd).1]
      exact ih (by simpa using hl) (List.nodup_cons.mp hd).2

theorem bind_plain {fd : FuncData} {as : List Arg} {kd : List (Option Expr)} {ds : List Expr} {vals : List Value} (h1 : fd.params = { posonlyargs := [], args := as, vararg := Option.none, kwonlyargs := [], kw_defaults := kd, kwarg := Option.none, defaults := ds })
    (hd : fd.defaults = .none) (nd : (as.map (·.arg)).Nodup) (hl : vals.length = as.length) : bindArgs fd ⟨vals, []⟩ = pure ((as.map (·.arg)).zip vals) := by
  have hl' : vals.length = (as.map (·.arg)).length := by simpa using hl
  have e1 : ((as.map (·.arg)).filter fun n => (((as.map (·.arg)).zip vals).lookup n).isNone) = [] := by
    rw [List.filter_eq_nil_iff]
    intro n hn
    have := zip_lookup hl' nd n hn
    simp [Option.isSome_iff_ne_none.mp this]
  have e2 := zip_filterMap hl' nd
  have hs : seqItems? (.none : Value) = pure Option.none := rfl
  have hlt : ¬ (vals.length > as.length) := by omega
  unfold bindArgs
  simp only [h1, hd, hs, List.map_nil, List.nil_append, List.append_nil]
  simp [hlt, e1, e2, hl]
  rw [if_neg (by rw [List.drop_nil, List.length_nil, Nat.sub_zero, List.take_length, e1]; simp), ← List.filterMap_map, e2]
end Vl
end

section
open PySem PySem.W PyProof.Rows
set_option linter.unusedVariables false
set_option linter.unusedSimpArgs false
namespace Vl

/-- a function of the text without places -/
structure Fn where
  f : String
  ps : List String
  ls : List String
  b : List S

noncomputable def bltNames : List String := ["len", "all", "any", "sum", "abs", "int", "list", "tuple", "dict", "isinstance", "range", "bool"]

noncomputable def parsOK (ps : List String) : Arguments → Bool
  | ⟨[], as, Option.none, [], _, Option.none, _⟩ => as.map (·.arg) == ps.map Str.ofString
  | _ => false

noncomputable def fnOK (p : Program) (t : Fn) : Bool :=
  match (recsOf p).find? fun d => d.name == Str.ofString t.f with
  | some d => parsOK t.ps d.params && (t.ps.all fun p => d.scope.names.lookup (Str.ofString p) == some .local || d.scope.names.lookup (Str.ofString p) == some .cell) && decide t.ps.Nodup && !d.scope.isCoroutine && !d.scope.isGenerator &&
      d.scope.kind == .function && (d.scope.names.all fun p => p.2 != .free) && mSs d.scope t.b d.body && plainName t.f
  | Option.none => false

noncomputable def topOK (p : Program) (loose : List Str) (gl : List (String × Int)) (tab : List Fn) : Bool :=
  (tab.all (fnOK p)) && (bltNames.all fun x => !startupNames.contains (Str.ofString x) && !loose.contains (Str.ofString x) && !((recsOf p).map (·.name)).contains (Str.ofString x) && !((litsOf p).map (·.1)).contains (Str.ofString x) &&
    !((clssOf p loose).map (·.name)).contains (Str.ofString x)) && gl.all fun q => match valOf p (Str.ofString q.1) with
      | some (.int j) => j == q.2
      | _ => false

/-- the text's kinds of exceptions, as the text says them -/
noncomputable def kindsIn (p : Program) (loose : List Str) (k : Kinds) : Bool :=
  (k.mks.all fun c => k.cs.contains c && specOf p (Str.ofString c) == some ("ValueError.__new__", bmV)) && !k.cs.contains "ValueError" &&
  (!startupNames.contains (Str.ofString "ValueError") && !loose.contains (Str.ofString "ValueError") && !((recsOf p).map (·.name)).contains (Str.ofString "ValueError") && !((litsOf p).map (·.1)).contains (Str.ofString "ValueError") &&
    !((clssOf p loose).map (·.name)).contains (Str.ofString "ValueError"))

noncomputable def cxE (prog : Program) (w : World) (B : Heap) (mg : Str → Option Value) (tab : List Fn) (K : Frag) (k : Kinds) : Cx :=
  { prog, w, B, cls := fun c => if k.cs.contains c then addrIn K c else Option.none, fv := fun f => if tab.any (·.f == f) then mg (Str.ofString f) else Option.none, ok := True, calm := True, K }
noncomputable def gxE (gl : List (String × Int)) (tab : List Fn) (k : Kinds) : Gx :=
  { glob := fun x => (gl.lookup x).map .int, sub := k.sub, full := true, fn := fun f => tab.any (·.f == f), calm := true, cs := k.cs, mks := k.mks }
theorem gx_calm {gl : List (String × Int)} {tab : List Fn} {k : Kinds} : (gxE gl tab k).calm = true := rfl

theorem looks_fn {M : Model} {h : Heap} {a : Addr} {o : Obj} {fd : FuncData} (ho : h.get? a = some o) (hd : o.data = .func fd) : Looks M h (keeperOf (.ref a)) .frame := by
  intro A Q E s hk hQ
  unfold keeperOf
  refine wpAny_bind (wpAny_load (hk a o ho) ?_)
  rw [hd]
  exact wpAny_pure hQ

section
variable {prog p : Program} {w : World} {B : Heap} {mg mb : Str → Option Value} {loose : List Str} {mean : ExcName → Option Value} {gl : List (String × Int)} {tab : List Fn} {K : Frag} {k : Kinds}

theorem parsOK_iff {ps : List String} {a : Arguments} (h : parsOK ps a = true) : ∃ as kd ds, a = { posonlyargs := [], args := as, vararg := Option.none, kwonlyargs := [], kw_defaults := kd, kwarg := Option.none, defaults := ds } ∧ as.map (·.arg) = ps.map Str.ofString := by
  unfold parsOK at h
  split at h
  · exact ⟨_, _, _, rfl, by simpa using h⟩
  · cases h

theorem fn_at (T : Top p loose mean mg mb B) {t : Fn} (ht : t ∈ tab) (h : fnOK p t = true) : ∃ a o fd body, FnAt (cxE prog w B mg tab K k) t.f t.ps t.b a o fd body ∧ mg (Str.ofString t.f) = some (.ref a) := by
  unfold fnOK at h
  split at h
  · rename_i d hd
    simp only [Bool.and_eq_true, Bool.not_eq_true', decide_eq_true_eq, beq_iff_eq] at h
    obtain ⟨⟨⟨⟨⟨⟨⟨⟨h1, h2⟩, h3⟩, h4⟩, h5⟩, h6⟩, h7⟩, h8⟩, h9⟩ := h
    have hname : d.name = Str.ofString t.f := by simpa using List.find?_some hd
    obtain ⟨a, o, pm, code, doc, e1, e2, e3, e4⟩ := T.fn d (List.mem_of_find?_eq_some hd)
    obtain ⟨as, kd, ds, q1, q2⟩ := parsOK_iff h1
    rw [hname] at e1
    refine ⟨a, o, _, d.body, ⟨?_, ⟨.frame, .inl rfl, looks_fn e2 e3⟩, e2, e3, e4, rfl, rfl, rfl, rfl, fun vals hl => ?_, h2, h3, h4, h5, h6, h7, h8⟩, e1⟩
    · show (if tab.any (·.f == t.f) then mg (Str.ofString t.f) else Option.none) = _
      rw [if_pos (List.any_eq_true.mpr ⟨t, ht, by simp⟩)]
      exact e1
    · have hl' : vals.length = as.length := by
        have := congrArg List.length q2
        simp only [List.length_map] at this
        omega
      rw [← q2]
      exact bind_plain q1 rfl (by rw [q2]; exact ofString_nodup h3) hl'
  · cases h

theorem top_ok (T : Top p loose mean mg mb B) (h : topOK p loose gl tab = true) : GOK (cxE prog w B mg tab K k) (gxE gl tab k) mg mb := by
  unfold topOK at h
  simp only [Bool.and_eq_true] at h
  obtain ⟨⟨h1, h2⟩, h3⟩ := h
  refine ⟨T.g, T.b, T.nolimit, fun x hx => ?_, fun x q hq => ?_, (fun _ => trivial), fun _ => trivial, fun f v _ hf => ?_, fun f hf => ?_⟩
  · have := List.all_eq_true.mp h2 x hx
    simp only [Bool.and_eq_true, Bool.not_eq_true', List.contains_eq_mem, decide_eq_false_iff_not] at this
    obtain ⟨⟨⟨⟨a, b⟩, c⟩, d⟩, e⟩ := this
    refine ⟨T.free _ a b c d e, T.builtins _ fun q => ?_⟩
    simp only [List.mem_cons, List.not_mem_nil, or_false] at hx
    rcases hx with rfl | rfl | rfl | rfl | rfl | rfl | rfl | rfl | rfl | rfl | rfl | rfl <;> revert q <;> decide +kernel
  · simp only [gxE] at hq
    obtain ⟨i, hi, rfl⟩ := Option.map_eq_some_iff.mp hq
    have hm : (x, i) ∈ gl := by
      clear h3 h1 h2 hq
      induction gl with
      | nil => simp at hi
      | cons a r ih =>
        obtain ⟨y, j⟩ := a
        by_cases e : x = y
        · subst e; simp at hi; subst hi; exact List.mem_cons_self
        · rw [List.lookup_cons, beq_eq_false_iff_ne.mpr e] at hi
          exact List.mem_cons_of_mem _ (ih hi)
    have := List.all_eq_true.mp h3 _ hm
    split at this
    · rename_i j hj
      have e : j = i := by simpa using this
      subst e
      obtain ⟨v, e1, e2⟩ := T.const _ _ hj
      refine ⟨v, e1, fun σ h => ?_⟩
      have := e2 h
      cases this
      exact ⟨_, rfl⟩
    · cases this
  · show mg _ = _
    simp only [cxE] at hf
    split at hf
    · exact hf
    · cases hf
  · simp only [gxE] at hf
    obtain ⟨t, ht, e⟩ := List.any_eq_true.mp hf
    have e : t.f = f := by simpa using e
    subst e
    obtain ⟨a, o, fd, body, F, e1⟩ := fn_at (prog := prog) (w := w) (tab := tab) (K := K) (k := k) T ht (List.all_eq_true.mp h1 t ht)
    exact ⟨.ref a, F.fv, F.kp⟩
end

section
variable {prog p : Program} {w : World} {B : Heap} {mg mb : Str → Option Value} {loose : List Str} {mean : ExcName → Option Value} {gl : List (String × Int)} {tab : List Fn} {K : Frag} {k : Kinds}
theorem kinds_at (h : kindsOK K k = true) {c : String} (hc : k.cs.contains c = true) : ∃ a, addrIn K c = some a ∧ clsFacts K a = true ∧ exmOne K (.ref a) (.type "ValueError") = some (k.sub c "ValueError") ∧
    ∀ d b, k.cs.contains d = true → addrIn K d = some b → exmOne K (.ref a) (.ref b) = some (k.sub c d) := by
  have h1 := List.all_eq_true.mp h c (by simpa using hc)
  unfold kindOK at h1
  cases e : addrIn K c with
  | none => rw [e] at h1; cases h1
  | some a =>
    rw [e] at h1
    obtain ⟨h2, h3, h4⟩ := and3 h1
    refine ⟨a, rfl, h2, beq_iff_eq.mp h3, fun d b hd hb => ?_⟩
    have h5 := List.all_eq_true.mp h4 d (by simpa using hd)
    rw [hb] at h5
    exact beq_iff_eq.mp h5
theorem addr_ns (X : K.In B) (N : B.Ns mainGlobals mg) {c : String} {a : Addr} (e : addrIn K c = some a) : mg (Str.ofString c) = some (.ref a) := by
  unfold addrIn at e
  split at e
  · rename_i b hb; cases e; exact nsIn_ns X N hb
  · cases e

theorem exc_ok (T : Top p loose mean mg mb B) (X : K.In B) (h : kindsOK K k = true) (hp : kindsIn p loose k = true) : ExcOK (cxE prog w B mg tab K k) (gxE gl tab k) mg mb := by
  obtain ⟨hp1, hp2, hp3⟩ := and3 hp
  have cl : ∀ {c : String} {a : Addr}, (cxE prog w B mg tab K k).cls c = some a → k.cs.contains c = true ∧ addrIn K c = some a := fun {c a} e => by
    have e : (if k.cs.contains c then addrIn K c else Option.none) = some a := e
    by_cases q : k.cs.contains c = true
    · rw [if_pos q] at e; exact ⟨q, e⟩
    · rw [if_neg q] at e; cases e
  have has : ∀ c, k.cs.contains c = true → ∃ a, (cxE prog w B mg tab K k).cls c = some a := fun c hc => by
    obtain ⟨a, e, _⟩ := kinds_at h hc
    exact ⟨a, (if_pos hc).trans e⟩
  refine ⟨X, fun c a e => ?_, has, fun c hc => ?_, fun c a d b e1 e2 => ?_, fun c a e => ?_, ?_, fun c a e hm => ?_⟩
  · obtain ⟨q1, q2⟩ := cl e
    obtain ⟨a', e1, e2, _⟩ := kinds_at h q1
    rw [q2] at e1; cases e1
    exact ⟨addr_ns X T.g q2, e2⟩
  · have hc : k.mks.contains c = true := hc
    exact has c (and2 (List.all_eq_true.mp hp1 c (by simpa using hc))).1
  · obtain ⟨q1, q2⟩ := cl e1
    obtain ⟨q3, q4⟩ := cl e2
    obtain ⟨a', e3, _, _, e4⟩ := kinds_at h q1
    rw [q2] at e3; cases e3
    exact e4 d b q3 q4
  · obtain ⟨q1, q2⟩ := cl e
    obtain ⟨a', e3, _, e4, _⟩ := kinds_at h q1
    rw [q2] at e3; cases e3
    exact e4
  · have hv : k.cs.contains "ValueError" = false := by simpa using hp2
    obtain ⟨z1, z2, z3, z4, z5⟩ := and5 hp3
    simp only [Bool.not_eq_true', List.contains_eq_mem, decide_eq_false_iff_not] at z1 z2 z3 z4 z5
    refine ⟨by show (if k.cs.contains "ValueError" then _ else _) = _; rw [hv]; rfl, T.free _ z1 z2 z3 z4 z5, (T.builtins _ (by decide +kernel)).trans (by decide +kernel)⟩
  · have hm : k.mks.contains c = true := hm
    have hs := beq_iff_eq.mp (and2 (List.all_eq_true.mp hp1 c (by simpa using hm))).2
    obtain ⟨C', O, _⟩ := T.ownAt hs
    have e1 := addr_ns X T.g (cl e).2
    have e2 := O.bound
    rw [e1] at e2; cases e2
    exact O.own
end
end Vl
end

section
open PySem PySem.W PyProof.Rows
set_option linter.unusedVariables false
set_option linter.unusedSimpArgs false
namespace Vl

theorem items_int : ∀ {xs : List WData}, WShape.hasItems [] xs .int = true → ∃ ns : List Int, xs = ns.map .int
  | [], _ => ⟨[], rfl⟩
  | x :: xs, h => by
    have h : (WShape.has [] x .int && WShape.hasItems [] xs .int) = true := h
    obtain ⟨h1, h2⟩ := Bool.and_eq_true_iff.mp h
    obtain ⟨ns, rfl⟩ := items_int h2
    have : ∃ i, x = .int i := by
      exact hasW_int h1
    obtain ⟨i, rfl⟩ := this
    exact ⟨i :: ns, rfl⟩

theorem law_args {l : OpenLaw} (hm : l.most = some 63) (hb : l.bound = Option.none) {args : List WData} (h : l.row.toRowW.claim.pre args = true) : ∃ ns : List Int, args = [.list (ns.map .int)] ∧ ns.length ≤ 63 := by
  have h : (WShape.hasAll [] args [.list .int] && (OpenLaw.pre l).holds [] { args := args }) = true := h
  simp only [Bool.and_eq_true] at h
  obtain ⟨h1, h2⟩ := h
  match args, h1 with
  | [x], h1 =>
    have hx : ∃ xs, x = .list xs ∧ WShape.hasItems [] xs .int = true := by
      have h1 : (WShape.has [] x (.list .int) && WShape.hasAll [] [] []) = true := h1
      have h1 := (Bool.and_eq_true_iff.mp h1).1
      exact hasW_list h1
    obtain ⟨xs, rfl, hx⟩ := hx
    obtain ⟨ns, rfl⟩ := items_int hx
    refine ⟨ns, rfl, ?_⟩
    unfold OpenLaw.pre at h2
    rw [hm, hb] at h2
    simp only [WTm.holds, WTm.value] at h2
    simp only [List.getElem?_cons_zero, List.length_map] at h2
    by_cases hl : ns.length ≤ 63
    · exact hl
    · exfalso
      have : less? (.int (63 : Nat)) (.int (ns.length : Nat)) = some true := by
        simp [less?, Num.less?]; omega
      rw [this] at h2
      simp at h2
  | [], h1 => exact absurd h1 Bool.false_ne_true
  | x :: y :: r, h1 =>
    have h1 : (WShape.has [] x (.list .int) && WShape.hasAll [] (y :: r) []) = true := h1
    exact absurd (Bool.and_eq_true_iff.mp h1).2 Bool.false_ne_true

theorem reads_ints {h : Heap} {cl : Str → Option Addr} : ∀ {ns : List Int} {vs : List Value} {as : List Addr}, ReadsAllW [] cl h vs (ns.map .int) as → vs.length = ns.length ∧ ∀ (i : Nat) (k : Int), ns[i]? = some k → ∃ t, vs[i]? = some (Value.int k t)
  | [], vs, as, r => by cases r; exact ⟨rfl, fun i k e => by simp at e⟩
  | n :: ns, vs, as, r => by
    cases r with
    | cons r1 r2 =>
      cases r1
      obtain ⟨a, b⟩ := reads_ints r2
      refine ⟨by simp [a], fun i k e => ?_⟩
      cases i with
      | zero => simp at e; subst e; exact ⟨_, rfl⟩
      | succ j => simpa using b j k (by simpa using e)

noncomputable def noPH : PH := fun _ => Option.none

theorem law_walk {l : OpenLaw} {q : Program} {loose : List Str} {XP : (Str → Option Value) → Heap → Prop} {d : DefRec} {kwd : List (Str × Expr)} {N : Nat} (gl : List (String × Int)) (tab : List Fn) (k : Kinds)
    (hm : l.most = some 63) (hb : l.bound = Option.none) (hn : d.name = Str.ofString "law") (hchk : topOK q (looseW q loose) gl tab = true) (hkin : kindsIn q (looseW q loose) k = true) (hlaw : tab.any (·.f == "law") = true) (hN : N ≤ 300)
    (pure : ∀ (C : Cx) (mg mb : Str → Option Value), GOK C (gxE gl tab k) mg mb → ExcOK C (gxE gl tab k) mg mb → C.ok → (∀ t ∈ tab, ∃ a o fd body, FnAt C t.f t.ps t.b a o fd body) → ∀ ns : List Int, ns.length ≤ 63 → CallOK C N "law" [.scr ns] noPH (fun v _ => v = .bool true) fun _ _ => False) :
    WalkO q loose XP (Hook.says (hookE k)) l.row.toRowW d kwd fun f vs => PySem.call f vs := by
  intro w s₀ s₁ mg mb G Y fa o pm cd doc dV kV ho hd hcd hD hmg hg args vals as hpre hlay hrd hwl hlo
  refine Ground.open G fun T _ _ _ _ => ?_
  obtain ⟨K, kin, kok⟩ := Y
  obtain ⟨ns, rfl, hns⟩ := law_args hm hb hpre
  have hG : GOK (cxE l.row.toRowW.prog w s₁.heap mg tab K k) (gxE gl tab k) mg mb := top_ok T hchk
  have hF : ∀ t ∈ tab, ∃ a o fd body, FnAt (cxE l.row.toRowW.prog w s₁.heap mg tab K k) t.f t.ps t.b a o fd body := fun t ht => by
    unfold topOK at hchk
    simp only [Bool.and_eq_true] at hchk
    obtain ⟨a, o, fd, body, F, _⟩ := fn_at (prog := l.row.toRowW.prog) (w := w) (tab := tab) (K := K) (k := k) T ht (List.all_eq_true.mp hchk.1.1 t ht)
    exact ⟨a, o, fd, body, F⟩
  obtain ⟨v, hv, _, hcall⟩ := pure _ mg mb hG (exc_ok T kin kok hkin) trivial hF ns hns
  have hv : mg (Str.ofString "law") = some v := by
    simp only [cxE] at hv
    rw [if_pos hlaw] at hv
    exact hv
  rw [hn] at hmg
  rw [hmg] at hv
  cases hv
  cases hrd with
  | cons r1 r2 =>
    cases r2
    cases r1 with
    | list e1 e2 e3 e4 =>
      rename_i a' o' vs n as'
      obtain ⟨e5, e6⟩ := reads_ints e4
      have m : Sim (cxE l.row.toRowW.prog w s₁.heap mg tab K k) noPH s₁.heap := ⟨fun b o e => e, fun a o e => by simp [noPH] at e, fun a o e => by simp [noPH] at e, fun a o e => by simp [noPH] at e⟩
      have ak : AOK (cxE l.row.toRowW.prog w s₁.heap mg tab K k) N callerA [] noPH s₁.heap := by
        refine ⟨?_, ?_, rfl, fun en he => by simp at he, fun _ => rfl⟩
        · show 1 + claimMargin + N < recursionLimit
          unfold claimMargin recursionLimit; omega
        · show 4 + 30 * N + 300 < cLine
          unfold cLine; omega
      have hvr : VRs (cxE l.row.toRowW.prog w s₁.heap mg tab K k) noPH s₁.heap [.scr ns] [.ref a'] := by
        simp only [VRs, VR]
        refine ⟨_, _, rfl, ⟨a', o', n, vs, rfl, e1, e2, e3, by simpa using e5, fun i k e => ?_⟩, rfl⟩
        obtain ⟨t, ht⟩ := e6 i k e
        exact ⟨t, by simpa using ht⟩
      refine wpAny_mono (hcall callerA [] s₁ [.ref a'] ak m hvr) (fun v s' hv => ?_) fun _ _ x => Vl.XP.none x
      obtain ⟨p, σ', h1, h2, h3, h4, rfl⟩ := hv
      simp only [VR] at h1; subst h1
      refine GoodW.toG ⟨.inl ⟨.bool true, .bool true, [], rfl, fun cls => rfl, .bool true, ?_, fun _ => ⟨List.nodup_nil, fun a ha => by cases ha⟩⟩, fun b o e => h2.base b o e, h4.2, h4.1.trans hg⟩
      show (WShape.has [] (.bool true) .bool && WTm.holds [] (.eq .res (.lit (.bool true))) _) = true
      simp [WShape.has, WShape.arms, WTm.holds, WTm.value, W.same]
end Vl
end

section
open PySem
set_option linter.unusedVariables false
set_option linter.unusedSimpArgs false
namespace Vl

/-! helps for the pure side -/
section
variable {G : Gx} {cl : Cl} {σ : PH} {Q : Post} {X : XPost} {K : Bool → PH → Prop}
theorem wb_add (x y : Int) : wbin .add (.int x) (.int y) σ Q = Q (.int (x + y)) σ := rfl
theorem wb_sub (x y : Int) : wbin .sub (.int x) (.int y) σ Q = Q (.int (x - y)) σ := rfl
theorem wb_mul (x y : Int) : wbin .mul (.int x) (.int y) σ Q = ((x.natAbs < 2 ^ 64 ∨ y.natAbs < 2 ^ 64) ∧ Q (.int (x * y)) σ) := rfl
theorem wb_fdiv (x y : Int) : wbin .fdiv (.int x) (.int y) σ Q = (y ≠ 0 ∧ y.natAbs < 1073741824 ∧ Q (.int (x.fdiv y)) σ) := rfl
theorem wb_mod (x y : Int) : wbin .mod (.int x) (.int y) σ Q = (y ≠ 0 ∧ Q (.int (x.fmod y)) σ) := rfl
theorem wb_pow (x y : Int) : wbin .pow (.int x) (.int y) σ Q = (0 ≤ y ∧ y ≤ 1000 ∧ x.natAbs < 2 ^ 64 ∧ Q (.int (x ^ y.toNat)) σ) := rfl
theorem wc_lt (x y : Int) : wcmp .lt (.int x) (.int y) σ K = K (decide (x < y)) σ := rfl
theorem wc_le (x y : Int) : wcmp .le (.int x) (.int y) σ K = K (decide (x ≤ y)) σ := rfl
theorem wc_gt (x y : Int) : wcmp .gt (.int x) (.int y) σ K = K (decide (x > y)) σ := rfl
theorem wc_ge (x y : Int) : wcmp .ge (.int x) (.int y) σ K = K (decide (x ≥ y)) σ := rfl
theorem wc_eq (x y : Int) : wcmp .eq (.int x) (.int y) σ K = K (decide (x = y)) σ := rfl
theorem wc_ne (x y : Int) : wcmp .ne (.int x) (.int y) σ K = K (!decide (x = y)) σ := rfl
theorem wl_scr (l : List Int) : wbi .len [.scr l] σ Q = (l.length ≤ lim ∧ Q (.int l.length) σ) := rfl
theorem wl_tup (l : List PV) : wbi .len [.tup l] σ Q = (l.length ≤ lim ∧ Q (.int l.length) σ) := rfl
theorem wl_list {a : Addr} {l : List PV} (e : σ a = some (.list l)) : wbi .len [.ref a] σ Q = (l.length ≤ lim ∧ Q (.int l.length) σ) := by
  show (match plen σ (.ref a) with
    | some n => n ≤ lim ∧ Q (.int n) σ
    | Option.none => False) = _
  have : plen σ (.ref a) = some l.length := by simp only [plen, e]
  rw [this]
theorem ps_scr (l : List Int) (k : Int) : psub σ (.scr l) (.int k) = ((place l.length k).bind fun j => l[j]?).map .int := rfl
theorem ps_tup (l : List PV) (k : Int) : psub σ (.tup l) (.int k) = ((place l.length k).bind fun j => l[j]?) := rfl
theorem ps_list {a : Addr} {l : List PV} (e : σ a = some (.list l)) (k : Int) : psub σ (.ref a) (.int k) = ((place l.length k).bind fun j => l[j]?) := by simp only [psub, e]
theorem pl_list {a : Addr} {l : List PV} (e : σ a = some (.list l)) : plen σ (.ref a) = some l.length := by simp only [plen, e]
theorem pl_scr (l : List Int) : plen σ (.scr l) = some l.length := rfl
theorem pl_tup (l : List PV) : plen σ (.tup l) = some l.length := rfl
theorem place_in {n : Nat} {k : Int} (h0 : 0 ≤ k) (h1 : k < n) : place n k = some k.toNat := by unfold place; rw [if_pos h0, if_pos h1]
end

/-- nothing of what stood has changed -/
noncomputable def Ext (σ σ' : PH) : Prop := ∀ a o, σ a = some o → σ' a = some o
theorem Ext.refl (σ : PH) : Ext σ σ := fun _ _ e => e
theorem Ext.trans {a b c : PH} (x : Ext a b) (y : Ext b c) : Ext a c := fun r o e => y r o (x r o e)
theorem Ext.set {σ : PH} {a : Addr} (h : σ a = Option.none) (o : PO) : Ext σ (σ.set a o) := fun b p e => by
  rw [PH.set_ne]
  · exact e
  · rintro rfl; rw [h] at e; cases e
theorem Ext.fresh {σ σ' : PH} (x : Ext σ σ') {a : Addr} (h : σ' a = Option.none) : σ a = Option.none := by
  cases e : σ a with
  | none => rfl
  | some o => rw [x a o e] at h; cases h

theorem comp_inv {chk : PH → Prop} {tg : Tg} {ρ : Rho} {el : Rho → PH → Post → Prop} {xs : List PV} {σ : PH} {K : List PV → PH → Prop} (Inv : Nat → List PV → PH → Prop) (h0 : Inv 0 [] σ) (hchk : ∀ i acc σ, Inv i acc σ → chk σ)
    (hel : ∀ i x acc σ, xs[i]? = some x → Inv i acc σ → ∃ ρ', bindC tg x ρ = some ρ' ∧ ∀ K' : Post, (∀ y σ', Inv (i + 1) (acc ++ [y]) σ' → K' y σ') → el ρ' σ K') (hK : ∀ acc σ, Inv xs.length acc σ → K acc σ) :
    compGo chk tg ρ (fun _ σ K => K true σ) el xs [] σ K := by
  have key : ∀ (r : List PV) (i : Nat) (acc : List PV) (σ : PH), i + r.length = xs.length → xs.drop i = r → Inv i acc σ → compGo chk tg ρ (fun _ σ K => K true σ) el r acc σ K := by
    intro r
    induction r with
    | nil =>
      intro i acc σ hi hd hI
      simp only [compGo]
      have : i = xs.length := by simpa using hi
      subst this
      exact ⟨hchk _ _ _ hI, hK _ _ hI⟩
    | cons x r ih =>
      intro i acc σ hi hd hI
      have hlt : i < xs.length := by simp at hi; omega
      have hx : xs[i]? = some x := by
        have := congrArg List.head? hd
        rw [List.head?_drop] at this
        simpa using this
      obtain ⟨ρ', h1, h2⟩ := hel i x acc σ hx hI
      simp only [compGo, h1]
      refine ⟨hchk _ _ _ hI, ?_⟩
      simp only [if_true]
      refine h2 _ fun y σ' hI' => ih (i + 1) (acc ++ [y]) σ' (by simp at hi; omega) ?_ hI'
      rw [← List.drop_drop, hd]; rfl
  exact key xs 0 [] σ (by simp) (by simp) h0

theorem for_inv {chk : PH → Prop} {tg : Tg} {body : Rho → PH → SPost → Prop} {Q : SPost} {xs : List PV} {ρ : Rho} {σ : PH} (Inv : Nat → Rho → PH → Prop) (h0 : Inv 0 ρ σ) (hchk : ∀ i ρ σ, Inv i ρ σ → chk σ)
    (hb : ∀ i x ρ σ, xs[i]? = some x → Inv i ρ σ → ∃ ρ', bindT tg x ρ = some ρ' ∧ ∀ Q' : SPost, (∀ ρ2 σ2, Inv (i + 1) ρ2 σ2 → Q' .next ρ2 σ2) → body ρ' σ Q') (hQ : ∀ ρ σ, Inv xs.length ρ σ → Q .next ρ σ) :
    forGo chk tg body Q xs ρ σ := by
  have key : ∀ (r : List PV) (i : Nat) (ρ : Rho) (σ : PH), i + r.length = xs.length → xs.drop i = r → Inv i ρ σ → forGo chk tg body Q r ρ σ := by
    intro r
    induction r with
    | nil =>
      intro i ρ σ hi hd hI
      simp only [forGo]
      have : i = xs.length := by simpa using hi
      subst this
      exact ⟨hchk _ _ _ hI, hQ _ _ hI⟩
    | cons x r ih =>
      intro i ρ σ hi hd hI
      have hx : xs[i]? = some x := by
        have := congrArg List.head? hd
        rw [List.head?_drop] at this
        simpa using this
      obtain ⟨ρ', h1, h2⟩ := hb i x ρ σ hx hI
      simp only [forGo, h1]
      refine ⟨hchk _ _ _ hI, h2 _ fun ρ2 σ2 hI' => ih (i + 1) ρ2 σ2 (by simp at hi; omega) ?_ hI'⟩
      rw [← List.drop_drop, hd]; rfl
  exact key xs 0 ρ σ (by simp) (by simp) h0

theorem range_get {n i : Nat} {x : PV} (h : ((List.range n).map fun (i : Nat) => PV.int i)[i]? = some x) : i < n ∧ x = .int i := by
  have hi : i < n := by
    rcases Nat.lt_or_ge i n with q | q
    · exact q
    · rw [List.getElem?_eq_none (by simp; exact q)] at h; cases h
  rw [List.getElem?_map, List.getElem?_range hi] at h
  exact ⟨hi, by simpa using h.symm⟩

/-- ints as values -/
abbrev nums (l : List Int) : List PV := l.map .int
theorem allInts_ints : ∀ l : List Int, allInts (nums l) = some l
  | [] => rfl
  | x :: r => by simp only [nums, List.map_cons, allInts]; have := allInts_ints r; simp only [nums] at this; rw [this]; rfl
abbrev dInts (l : List Int) : PyData := .list (l.map .int)
theorem rd_ints {σ : PH} : ∀ l : List Int, Rds σ (l.map .int) (nums l)
  | [] => rfl
  | x :: r => by simp only [List.map_cons, Rds]; exact ⟨_, _, rfl, rfl, rd_ints r⟩
theorem lay_ints : ∀ l : List Int, PyData.canLayAll0 (l.map .int) = true
  | [] => rfl
  | x :: r => by simp only [List.map_cons, PyData.canLayAll0, PyData.canLay0, Bool.true_and]; exact lay_ints r
theorem depth_ints : ∀ l : List Int, PyData.depthAll (l.map .int) ≤ 1
  | [] => by simp [PyData.depthAll]
  | x :: r => by simp only [List.map_cons, PyData.depthAll, PyData.depth]; have := depth_ints r; omega
end Vl

namespace Vl
theorem src_r {σ : PH} (n : Nat) : src .range [.int (n : Int)] σ = some ((List.range n).map fun (i : Nat) => .int i, fun _ => True) := by
  simp only [src]; rw [if_pos (by omega)]; simp
theorem src_l {σ : PH} {a : Addr} {l : List PV} (e : σ a = some (.list l)) : src .val [.ref a] σ = some (l, fun σ' => σ' a = some (.list l)) := by simp only [src, e]
theorem getElem?_snoc {α : Type} {l : List α} {y z : α} {i : Nat} (h : (l ++ [y])[i]? = some z) : l[i]? = some z ∨ (i = l.length ∧ z = y) := by
  rcases Nat.lt_trichotomy i l.length with q | q | q
  · left; rwa [List.getElem?_append_left q] at h
  · right; subst q; simp at h; exact ⟨rfl, h.symm⟩
  · rw [List.getElem?_eq_none (by simp; omega)] at h; cases h
end Vl
end

section
open PySem PySem.W PyProof.Rows
set_option linter.unusedVariables false
set_option linter.unusedSimpArgs false
set_option Elab.async false
set_option maxRecDepth 100000
set_option maxHeartbeats 0
namespace Vl
noncomputable def f_is_count : Fn := ⟨"is_count", ["thing"], [],
  [.ret (.and_ (.isi (.loc "thing") ["int"]) (.and_ (.not_ (.isi (.loc "thing") ["bool"])) (.cmp .ge (.loc "thing") (.int 0))))]⟩
noncomputable def f_is_grid : Fn := ⟨"is_grid", ["thing"], [],
  [.if_ (.or_ (.not_ (.isi (.loc "thing") ["list"])) (.not_ (.cmp2 (.int 1) .le (.bi .len [.loc "thing"]) .le (.glob "MOST")))) [.ret (.bool false)] [],
   .if_ (.or_ (.not_ (.bi .all [.comp (.isi (.loc "row") ["list"]) (.name "row") .val [.loc "thing"]])) (.not_ (.cmp2 (.int 1) .le (.bi .len [.sub (.loc "thing") (.int 0)]) .le (.glob "MOST")))) [.ret (.bool false)] [],
   .ret (.bi .all [.comp (.cmp .eq (.bi .len [.loc "row"]) (.bi .len [.sub (.loc "thing") (.int 0)])) (.name "row") .val [.loc "thing"]])]⟩
noncomputable def f_are_counts : Fn := ⟨"are_counts", ["row"], [],
  [.ret (.bi .all [.comp (.call "is_count" [.loc "count"]) (.name "count") .val [.loc "row"]])]⟩
noncomputable def f_is_table : Fn := ⟨"is_table", ["thing"], [],
  [.ret (.and_ (.call "is_grid" [.loc "thing"]) (.bi .all [.comp (.call "are_counts" [.loc "row"]) (.name "row") .val [.loc "thing"]]))]⟩
noncomputable def f_need_table : Fn := ⟨"need_table", ["thing"], [],
  [.if_ (.not_ (.call "is_table" [.loc "thing"])) [.raise "BadTable" [.str "no table"]] []]⟩
noncomputable def f_need_number : Fn := ⟨"need_number", ["thing"], [],
  [.if_ (.or_ (.not_ (.call "is_count" [.loc "thing"])) (.cmp .eq (.loc "thing") (.int 0))) [.raise "BadNumber" [.str "no number from 1 on"]] []]⟩
noncomputable def f_places_of : Fn := ⟨"places_of", ["grid"], ["found", "row", "column"],
  [.assign (.name "found") (.list []),
   .for_ (.name "row") .range [.bi .len [.loc "grid"]] [.for_ (.name "column") .range [.bi .len [.sub (.loc "grid") (.int 0)]] [.expr (.meth (.loc "found") .append [.tup [.loc "row", .loc "column"]])]],
   .ret (.loc "found")]⟩
noncomputable def f_is_small : Fn := ⟨"is_small", ["table", "place", "bound"], [],
  [.ret (.cmp2 (.int 1) .le (.sub (.sub (.loc "table") (.sub (.loc "place") (.int 0))) (.sub (.loc "place") (.int 1))) .le (.loc "bound"))]⟩
noncomputable def f_small_places : Fn := ⟨"small_places", ["table", "bound"], [],
  [.expr (.call "need_table" [.loc "table"]),
   .expr (.call "need_number" [.loc "bound"]),
   .ret (.compIf (.loc "place") (.name "place") .val [.call "places_of" [.loc "table"]] (.call "is_small" [.loc "table", .loc "place", .loc "bound"]))]⟩
noncomputable def f__law_mix : Fn := ⟨"_law_mix", ["_law_script", "_law_k"], ["_law_cell", "_law_number"],
  [.assign (.name "_law_cell") (.int 0),
   .if_ (.cmp .gt (.bi .len [.loc "_law_script"]) (.int 0)) [.assign (.name "_law_cell") (.bin .add (.sub (.loc "_law_script") (.bin .mod (.loc "_law_k") (.bi .len [.loc "_law_script"]))) (.bin .fdiv (.loc "_law_k") (.bi .len [.loc "_law_script"])))] [],
   .assign (.name "_law_number") (.bin .mod (.bin .mul (.bin .add (.loc "_law_cell") (.bin .mul (.int 7919) (.bin .add (.loc "_law_k") (.int 1)))) (.int 48271)) (.int 2147483647)),
   .ret (.bin .mod (.bin .mul (.loc "_law_number") (.loc "_law_number")) (.int 2147483629))]⟩
noncomputable def f__law_count : Fn := ⟨"_law_count", ["_law_script", "_law_k"], ["_law_number", "_law_more", "_law_some"],
  [.assign (.name "_law_number") (.call "_law_mix" [.loc "_law_script", .loc "_law_k"]),
   .assign (.name "_law_more") (.bin .fdiv (.loc "_law_number") (.int 8)),
   .if_ (.cmp .eq (.bin .mod (.loc "_law_number") (.int 8)) (.int 0)) [.ret (.int 0)] [],
   .assign (.name "_law_some") (.list [.bin .mod (.loc "_law_more") (.int 3), .bin .mod (.loc "_law_more") (.int 5), .bin .mod (.loc "_law_more") (.int 12), .sub (.list [.int 0, .int 1, .int 2, .int 40]) (.bin .mod (.loc "_law_more") (.int 4)), .bin .mod (.loc "_law_more") (.int 1000), .bin .add (.bin .mul (.loc "_law_more") (.bin .pow (.int 10) (.int 11))) (.bin .mod (.loc "_law_more") (.int 7))]),
   .ret (.sub (.loc "_law_some") (.bin .mod (.call "_law_mix" [.loc "_law_script", .int 2]) (.int 6)))]⟩
noncomputable def f__law_table : Fn := ⟨"_law_table", ["_law_script", "_law_high", "_law_wide"], ["_law_table_here", "_law_row"],
  [.assign (.name "_law_table_here") (.list []),
   .for_ (.name "_law_row") .range [.loc "_law_high"] [.expr (.meth (.loc "_law_table_here") .append [.comp (.call "_law_count" [.loc "_law_script", .bin .add (.bin .add (.int 8) (.bin .mul (.loc "_law_wide") (.loc "_law_row"))) (.loc "_law_column")]) (.name "_law_column") .range [.loc "_law_wide"]])],
   .ret (.loc "_law_table_here")]⟩
noncomputable def f__law_bound : Fn := ⟨"_law_bound", ["_law_script"], ["_law_number"],
  [.assign (.name "_law_number") (.call "_law_mix" [.loc "_law_script", .int 3]),
   .if_ (.cmp .eq (.bin .mod (.loc "_law_number") (.int 5)) (.int 0)) [.ret (.bin .add (.int 1) (.bin .mod (.bin .fdiv (.loc "_law_number") (.int 5)) (.bin .pow (.int 10) (.int 9))))] [],
   .ret (.bin .add (.int 1) (.bin .mod (.bin .fdiv (.loc "_law_number") (.int 5)) (.int 4)))]⟩
noncomputable def f__law_due : Fn := ⟨"_law_due", ["_law_table_here", "_law_bound_here"], ["_law_found", "_law_row", "_law_column"],
  [.assign (.name "_law_found") (.list []),
   .for_ (.name "_law_row") .range [.bi .len [.loc "_law_table_here"]] [.for_ (.name "_law_column") .range [.bi .len [.sub (.loc "_law_table_here") (.int 0)]] [.if_ (.and_ (.cmp .gt (.sub (.sub (.loc "_law_table_here") (.loc "_law_row")) (.loc "_law_column")) (.int 0)) (.cmp .le (.sub (.sub (.loc "_law_table_here") (.loc "_law_row")) (.loc "_law_column")) (.loc "_law_bound_here"))) [.expr (.meth (.loc "_law_found") .append [.tup [.loc "_law_row", .loc "_law_column"]])] []]],
   .ret (.loc "_law_found")]⟩
noncomputable def f__law_told : Fn := ⟨"_law_told", ["_law_found", "_law_due_here"], ["_law_place"],
  [.if_ (.or_ (.not_ (.isi (.loc "_law_found") ["list"])) (.cmp .ne (.loc "_law_found") (.loc "_law_due_here"))) [.ret (.bool false)] [],
   .for_ (.name "_law_place") .val [.loc "_law_found"] [.if_ (.or_ (.not_ (.isi (.loc "_law_place") ["tuple"])) (.cmp .ne (.bi .len [.loc "_law_place"]) (.int 2))) [.ret (.bool false)] [], .if_ (.bi .any [.comp (.or_ (.isi (.loc "_law_one") ["bool"]) (.not_ (.isi (.loc "_law_one") ["int"]))) (.name "_law_one") .val [.loc "_law_place"]]) [.ret (.bool false)] []],
   .ret (.bool true)]⟩
noncomputable def f__law_classes : Fn := ⟨"_law_classes", ["_law_e"], ["_law_found"],
  [.assign (.name "_law_found") (.list [.isi (.loc "_law_e") ["BadTable"], .isi (.loc "_law_e") ["BadNumber"]]),
   .if_ (.or_ (.isi (.loc "_law_e") ["BadPlace", "BadView", "NoTable", "NotHidden"]) (.not_ (.isi (.loc "_law_e") ["ValueError"]))) [.ret (.list [])] [],
   .ret (.loc "_law_found")]⟩
noncomputable def f__law_refused : Fn := ⟨"_law_refused", ["_law_table_here", "_law_bound_here"], ["_law_e"],
  [.try1 [.expr (.call "small_places" [.loc "_law_table_here", .loc "_law_bound_here"])] "VeilError" "_law_e" [.ret (.call "_law_classes" [.loc "_law_e"])],
   .ret (.list [])]⟩
noncomputable def law3_bad : List S := [.assign (.name "_law_bad") (.sub (.list [.int 0, .int 0, .bin .sub (.bin .sub (.int 0) (.int 1)) (.bin .fdiv (.loc "_law_number") (.int 8)), .bool true, .bool false, .none, .str "2", .list [.int 2], .tup [.int 2]]) (.bin .mod (.bin .fdiv (.loc "_law_number") (.int 4)) (.int 9))), .if_ (.cmp .eq (.bin .mod (.call "_law_mix" [.loc "_law_script", .int 5]) (.int 3)) (.int 0)) [.ret (.cmp .eq (.call "_law_refused" [.sub (.list [.loc "_law_handed", .list [.list []], .none, .list [.list [.bin .sub (.int 0) (.int 1)]]]) (.bin .add (.int 1) (.bin .mod (.bin .fdiv (.loc "_law_number") (.int 44)) (.int 3))), .loc "_law_bad"]) (.list [.bool true, .bool false]))] [], .ret (.and_ (.cmp .eq (.call "_law_refused" [.loc "_law_handed", .loc "_law_bad"]) (.list [.bool false, .bool true])) (.cmp .eq (.loc "_law_handed") (.loc "_law_table_here")))]
noncomputable def law3_tail : List S :=
  [.if_ (.or_ (.not_ (.call "_law_told" [.call "small_places" [.loc "_law_handed", .loc "_law_bound_here"], .call "_law_due" [.loc "_law_table_here", .loc "_law_bound_here"]])) (.cmp .ne (.loc "_law_handed") (.loc "_law_table_here"))) [.ret (.bool false)] [],
   .assign (.name "_law_row") (.bin .mod (.call "_law_mix" [.loc "_law_script", .int 5]) (.bi .len [.loc "_law_table_here"])),
   .assign (.name "_law_column") (.bin .mod (.call "_law_mix" [.loc "_law_script", .int 6]) (.bi .len [.sub (.loc "_law_table_here") (.int 0)])),
   .setIdx (.sub (.loc "_law_handed") (.loc "_law_row")) (.loc "_law_column") (.sub (.list [.int 0, .loc "_law_bound_here", .bin .add (.loc "_law_bound_here") (.int 1), .int 1]) (.bin .mod (.call "_law_mix" [.loc "_law_script", .int 7]) (.int 4))),
   .ret (.call "_law_told" [.call "small_places" [.loc "_law_handed", .loc "_law_bound_here"], .call "_law_due" [.loc "_law_handed", .loc "_law_bound_here"]])]
noncomputable def f_law : Fn := ⟨"law", ["_law_script"], ["_law_table_here", "_law_handed", "_law_bound_here", "_law_number", "_law_bad", "_law_row", "_law_column"],
   .assign (.name "_law_table_here") (.call "_law_table" [.loc "_law_script", .bin .add (.int 1) (.bin .mod (.call "_law_mix" [.loc "_law_script", .int 0]) (.int 8)), .bin .add (.int 1) (.bin .mod (.call "_law_mix" [.loc "_law_script", .int 1]) (.int 8))]) ::
   .assign (.name "_law_handed") (.comp (.bi .list [.loc "_law_row"]) (.name "_law_row") .val [.loc "_law_table_here"]) ::
   .assign (.name "_law_bound_here") (.call "_law_bound" [.loc "_law_script"]) ::
   .assign (.name "_law_number") (.call "_law_mix" [.loc "_law_script", .int 4]) ::
   .if_ (.cmp .eq (.bin .mod (.loc "_law_number") (.int 4)) (.int 0)) law3_bad [] :: law3_tail⟩
noncomputable def tab : List Fn := [f_is_count, f_is_grid, f_are_counts, f_is_table, f_need_table, f_need_number, f_places_of, f_is_small, f_small_places, f__law_mix, f__law_count, f__law_table, f__law_bound, f__law_due, f__law_told, f__law_classes, f__law_refused, f_law]

noncomputable def kinds3 : Kinds := ⟨["VeilError", "BadTable", "BadView", "BadPlace", "BadNumber", "NoTable", "NotHidden"], ["BadTable", "BadNumber"], fun c d => c == d || d == "VeilError" || d == "ValueError"⟩
noncomputable abbrev G1 : Gx := gxE [("MOST", 8)] tab kinds3

section
variable {C : Cx} {mg mb : Str → Option Value} {n : Nat} {σ : PH} {Q : Post} {X : XPost}
/-- what a call needs to be told; g says whether it is outside of any handler -/
structure Env1 (C : Cx) (G : Gx) (mg mb : Str → Option Value) : Prop where
  g : GOK C G mg mb
  x : ExcOK C G mg mb
  ok : C.ok
  F : ∀ t ∈ tab, ∃ a o fd body, FnAt C t.f t.ps t.b a o fd body
theorem Env1.run {G : Gx} (e : Env1 C G mg mb) (t : Fn) (ht : t ∈ tab) {args : List PV} (hlen : args.length = t.ps.length)
    (w : wss G (CallOK C n) (CallOK C.un n) t.b (rho0 t.ps t.ls args) σ (fun fl _ σ' => match fl with
      | .next => Q .none σ'
      | .ret v => Q v σ') fun x _ σ' => X x σ') : CallOK C (n + 1) t.f args σ Q X := by
  obtain ⟨a, o, fd, body, F⟩ := e.F t ht
  exact fn_ok (todoE e.g e.x) (todo2E e.g e.x) (todoE e.g.un e.x.un) (todo2E e.g.un e.x.un) e.g F t.ls hlen w
theorem FnAt.un {f : String} {ps : List String} {sts : List S} {a : Addr} {o : Obj} {fd : FuncData} {body : List Stmt} (F : FnAt C f ps sts a o fd body) : FnAt C.un f ps sts a o fd body :=
  ⟨F.fv, F.kp, F.ho, F.hd, F.cd, F.hb, F.clo, F.glb, F.blt, F.bind, F.par, F.nd, F.co, F.gen, F.kind, F.free, F.mat⟩
theorem Env1.un {G : Gx} (e : Env1 C G mg mb) : Env1 C.un G.un mg mb := ⟨e.g.un, e.x.un, e.ok, fun t ht => let ⟨a, o, fd, body, F⟩ := e.F t ht; ⟨a, o, fd, body, F.un⟩⟩
end
end Vl
end

section
open PySem PySem.W PyProof.Rows
set_option linter.unusedVariables false
set_option linter.unusedSimpArgs false
set_option Elab.async false
set_option maxRecDepth 100000
set_option maxHeartbeats 0
namespace Vl
section
variable {C : Cx} {mg mb : Str → Option Value} {n : Nat} {σ : PH} {Q : Post} {X : XPost}
theorem mix_ok (e : Env1 C G1 mg mb) {ns : List Int} (hns : ns.length ≤ 63) {k : Int} (h : ∀ m : Int, 0 ≤ m → m < 2147483629 → Q (.int m) σ) : CallOK C (n + 1) "_law_mix" [.scr ns, .int k] σ Q X := by
  refine e.run f__law_mix (by simp [tab]) rfl ?_
  have fin : ∀ c : Int, (Int.natAbs 7919 < 2 ^ 64 ∨ (k + 1).natAbs < 2 ^ 64) ∧ ((c + 7919 * (k + 1)).natAbs < 2 ^ 64 ∨ Int.natAbs 48271 < 2 ^ 64) ∧ (2147483647 : Int) ≠ 0 ∧
      ((((c + 7919 * (k + 1)) * 48271).fmod 2147483647).natAbs < 2 ^ 64 ∨ (((c + 7919 * (k + 1)) * 48271).fmod 2147483647).natAbs < 2 ^ 64) ∧ (2147483629 : Int) ≠ 0 ∧
      Q (.int ((((c + 7919 * (k + 1)) * 48271).fmod 2147483647 * ((c + 7919 * (k + 1)) * 48271).fmod 2147483647).fmod 2147483629)) σ := fun c => by
    have b1 := Int.fmod_nonneg_of_pos ((c + 7919 * (k + 1)) * 48271) (show (0 : Int) < 2147483647 by decide)
    have b2 := Int.fmod_lt_of_pos ((c + 7919 * (k + 1)) * 48271) (show (0 : Int) < 2147483647 by decide)
    refine ⟨.inl (by decide), .inr (by decide), by decide, .inl ?_, by decide, h _ (Int.fmod_nonneg_of_pos _ (by decide)) (Int.fmod_lt_of_pos _ (by decide))⟩
    generalize ((c + 7919 * (k + 1)) * 48271).fmod 2147483647 = m at *
    omega
  simp only [f__law_mix, wss_nil, wss_cons, ws_assign_name, ws_assign_tup, ws_setIdx, ws_expr, ws_ret, ws_if, ws_for, ws_raise, ws_try1, we_none, we_bool, we_int, we_str, we_loc, we_glob, we_bin, we_neg, we_not, we_and, we_or, we_isNone, we_notNone, we_cmp, we_cmp2, we_tup, we_list, we_sub, we_upto, we_from, we_comp, we_compIf, we_call, we_bi, we_isi, we_meth, wes_nil, wes_cons, rho0, Rho.get, Rho.put, Rho.puts, bindT, List.map_cons, List.map_nil, List.zip_cons_cons, List.zip_nil_right, List.cons_append, List.nil_append, reduceIte, String.reduceEq, wb_add, wb_sub, wb_mul, wb_fdiv, wb_mod, wb_pow, wc_lt, wc_le, wc_gt, wc_ge, wc_eq, wc_ne, wl_scr, wl_tup, gx_calm, isiG_int, isiG_bool, isiG_list, isiG_tuple, true_or, or_true, true_and, List.length_cons, List.length_nil, List.mem_cons, List.not_mem_nil, forall_eq_or_imp, forall_eq, or_false, false_or, implies_true, and_true, Nat.reduceAdd]
  refine ⟨by simp only [lim]; omega, ?_⟩
  by_cases hz : ns.length = 0
  · simp only [hz, Int.natCast_zero, gt_iff_lt, Int.lt_irrefl, decide_false]
    exact fin 0
  · have hpos : (0 : Int) < ns.length := by omega
    simp only [gt_iff_lt, hpos, decide_true]
    have c1 := Int.fmod_nonneg_of_pos k hpos
    have c2 := Int.fmod_lt_of_pos k hpos
    have hx : ∃ c, ns[(k.fmod ns.length).toNat]? = some c := by
      refine ⟨ns[(k.fmod ns.length).toNat]'(by omega), List.getElem?_eq_getElem _⟩
    obtain ⟨c, hc⟩ := hx
    refine ⟨by simp only [lim]; omega, by omega, ?_⟩
    rw [ps_scr, pl_scr, place_in c1 c2]
    simp only [Option.bind_some, hc, Option.map_some, wb_add]
    refine ⟨by simp only [lim]; omega, by simp only [lim]; omega, by omega, by omega, ?_⟩
    exact fin _

theorem count_ok (e : Env1 C G1 mg mb) {ns : List Int} (hns : ns.length ≤ 63) {k : Int} (h : ∀ (c : Int) σ', 0 ≤ c → Ext σ σ' → Q (.int c) σ') : CallOK C (n + 2) "_law_count" [.scr ns, .int k] σ Q X := by
  refine e.run f__law_count (by simp [tab]) rfl ?_
  simp only [f__law_count, wss_nil, wss_cons, ws_assign_name, ws_assign_tup, ws_setIdx, ws_expr, ws_ret, ws_if, ws_for, ws_raise, ws_try1, we_none, we_bool, we_int, we_str, we_loc, we_glob, we_bin, we_neg, we_not, we_and, we_or, we_isNone, we_notNone, we_cmp, we_cmp2, we_tup, we_list, we_sub, we_upto, we_from, we_comp, we_compIf, we_call, we_bi, we_isi, we_meth, wes_nil, wes_cons, rho0, Rho.get, Rho.put, Rho.puts, bindT, List.map_cons, List.map_nil, List.zip_cons_cons, List.zip_nil_right, List.cons_append, List.nil_append, reduceIte, String.reduceEq, wb_add, wb_sub, wb_mul, wb_fdiv, wb_mod, wb_pow, wc_lt, wc_le, wc_gt, wc_ge, wc_eq, wc_ne, wl_scr, wl_tup, gx_calm, isiG_int, isiG_bool, isiG_list, isiG_tuple, true_or, or_true, true_and, List.length_cons, List.length_nil, List.mem_cons, List.not_mem_nil, forall_eq_or_imp, forall_eq, or_false, false_or, implies_true, and_true, Nat.reduceAdd]
  refine ⟨by decide, mix_ok e hns fun m h0 h1 => ?_⟩
  simp only [wss_nil, wss_cons, ws_assign_name, ws_assign_tup, ws_setIdx, ws_expr, ws_ret, ws_if, ws_for, ws_raise, ws_try1, we_none, we_bool, we_int, we_str, we_loc, we_glob, we_bin, we_neg, we_not, we_and, we_or, we_isNone, we_notNone, we_cmp, we_cmp2, we_tup, we_list, we_sub, we_upto, we_from, we_comp, we_compIf, we_call, we_bi, we_isi, we_meth, wes_nil, wes_cons, Rho.get, Rho.put, Rho.puts, bindT, reduceIte, String.reduceEq, wb_add, wb_sub, wb_mul, wb_fdiv, wb_mod, wb_pow, wc_lt, wc_le, wc_gt, wc_ge, wc_eq, wc_ne, wl_scr, wl_tup, gx_calm, isiG_int, isiG_bool, isiG_list, isiG_tuple, true_or, or_true, true_and, List.length_cons, List.length_nil, List.mem_cons, List.not_mem_nil, forall_eq_or_imp, forall_eq, or_false, false_or, implies_true, and_true, Nat.reduceAdd]
  refine ⟨by decide, by decide, by decide, ?_⟩
  by_cases hm : m.fmod 8 = 0
  · simp only [hm, decide_true]
    exact h 0 σ (Int.le_refl _) (.refl σ)
  simp only [hm, decide_false]
  have hq0 : 0 ≤ m.fdiv 8 := Int.fdiv_nonneg h0 (by decide)
  generalize m.fdiv 8 = q at *
  refine ⟨by decide, by decide, by decide, fun a1 ha1 => ?_⟩
  have b1 := Int.fmod_nonneg_of_pos q (show (0 : Int) < 4 by decide)
  have b2 := Int.fmod_lt_of_pos q (show (0 : Int) < 4 by decide)
  simp only [wss_nil, wss_cons, ws_assign_name, ws_assign_tup, ws_setIdx, ws_expr, ws_ret, ws_if, ws_for, ws_raise, ws_try1, we_none, we_bool, we_int, we_str, we_loc, we_glob, we_bin, we_neg, we_not, we_and, we_or, we_isNone, we_notNone, we_cmp, we_cmp2, we_tup, we_list, we_sub, we_upto, we_from, we_comp, we_compIf, we_call, we_bi, we_isi, we_meth, wes_nil, wes_cons, Rho.get, Rho.put, Rho.puts, bindT, reduceIte, String.reduceEq, wb_add, wb_sub, wb_mul, wb_fdiv, wb_mod, wb_pow, wc_lt, wc_le, wc_gt, wc_ge, wc_eq, wc_ne, wl_scr, wl_tup, gx_calm, isiG_int, isiG_bool, isiG_list, isiG_tuple, true_or, or_true, true_and, List.length_cons, List.length_nil, List.mem_cons, List.not_mem_nil, forall_eq_or_imp, forall_eq, or_false, false_or, implies_true, and_true, Nat.reduceAdd]
  refine ⟨by decide, ?_⟩
  rw [ps_list (PH.set_same _ _ _), pl_list (PH.set_same _ _ _), place_in b1 (by simpa using b2)]
  have hx : ∃ c : Int, 0 ≤ c ∧ ([PV.int 0, .int 1, .int 2, .int 40] : List PV)[(q.fmod 4).toNat]? = some (.int c) := by
    have : q.fmod 4 = 0 ∨ q.fmod 4 = 1 ∨ q.fmod 4 = 2 ∨ q.fmod 4 = 3 := by omega
    rcases this with w | w | w | w <;> rw [w] <;> exact ⟨_, by decide, rfl⟩
  obtain ⟨c, hc0, hc⟩ := hx
  simp only [Option.bind_some, hc]
  refine ⟨by decide, by decide, by decide, by decide, by decide, .inr (by decide), by decide, fun a2 ha2 => ?_⟩
  have x2 : Ext σ ((σ.set a1 (.list [.int 0, .int 1, .int 2, .int 40])).set a2 (.list [.int (q.fmod 3), .int (q.fmod 5), .int (q.fmod 12), .int c, .int (q.fmod 1000), .int (q * 10 ^ (11 : Int).toNat + q.fmod 7)])) := (Ext.set ha1 _).trans (Ext.set ha2 _)
  simp only [wss_nil, wss_cons, ws_assign_name, ws_assign_tup, ws_setIdx, ws_expr, ws_ret, ws_if, ws_for, ws_raise, ws_try1, we_none, we_bool, we_int, we_str, we_loc, we_glob, we_bin, we_neg, we_not, we_and, we_or, we_isNone, we_notNone, we_cmp, we_cmp2, we_tup, we_list, we_sub, we_upto, we_from, we_comp, we_compIf, we_call, we_bi, we_isi, we_meth, wes_nil, wes_cons, Rho.get, Rho.put, Rho.puts, bindT, reduceIte, String.reduceEq, wb_add, wb_sub, wb_mul, wb_fdiv, wb_mod, wb_pow, wc_lt, wc_le, wc_gt, wc_ge, wc_eq, wc_ne, wl_scr, wl_tup, gx_calm, isiG_int, isiG_bool, isiG_list, isiG_tuple, true_or, or_true, true_and, List.length_cons, List.length_nil, List.mem_cons, List.not_mem_nil, forall_eq_or_imp, forall_eq, or_false, false_or, implies_true, and_true, Nat.reduceAdd]
  refine ⟨by decide, mix_ok e hns fun m2 h20 h21 => ?_⟩
  simp only [wss_nil, wss_cons, ws_assign_name, ws_assign_tup, ws_setIdx, ws_expr, ws_ret, ws_if, ws_for, ws_raise, ws_try1, we_none, we_bool, we_int, we_str, we_loc, we_glob, we_bin, we_neg, we_not, we_and, we_or, we_isNone, we_notNone, we_cmp, we_cmp2, we_tup, we_list, we_sub, we_upto, we_from, we_comp, we_compIf, we_call, we_bi, we_isi, we_meth, wes_nil, wes_cons, Rho.get, Rho.put, Rho.puts, bindT, reduceIte, String.reduceEq, wb_add, wb_sub, wb_mul, wb_fdiv, wb_mod, wb_pow, wc_lt, wc_le, wc_gt, wc_ge, wc_eq, wc_ne, wl_scr, wl_tup, gx_calm, isiG_int, isiG_bool, isiG_list, isiG_tuple, true_or, or_true, true_and, List.length_cons, List.length_nil, List.mem_cons, List.not_mem_nil, forall_eq_or_imp, forall_eq, or_false, false_or, implies_true, and_true, Nat.reduceAdd]
  refine ⟨by decide, ?_⟩
  have d1 := Int.fmod_nonneg_of_pos m2 (show (0 : Int) < 6 by decide)
  have d2 := Int.fmod_lt_of_pos m2 (show (0 : Int) < 6 by decide)
  rw [ps_list (PH.set_same _ _ _), pl_list (PH.set_same _ _ _), place_in d1 (by simpa using d2)]
  have hy : ∃ r : Int, 0 ≤ r ∧ ([PV.int (q.fmod 3), .int (q.fmod 5), .int (q.fmod 12), .int c, .int (q.fmod 1000), .int (q * 10 ^ (11 : Int).toNat + q.fmod 7)] : List PV)[(m2.fmod 6).toNat]? = some (.int r) := by
    have f3 := Int.fmod_nonneg_of_pos q (show (0 : Int) < 3 by decide)
    have f5 := Int.fmod_nonneg_of_pos q (show (0 : Int) < 5 by decide)
    have f12 := Int.fmod_nonneg_of_pos q (show (0 : Int) < 12 by decide)
    have f1000 := Int.fmod_nonneg_of_pos q (show (0 : Int) < 1000 by decide)
    have f7 := Int.fmod_nonneg_of_pos q (show (0 : Int) < 7 by decide)
    have : m2.fmod 6 = 0 ∨ m2.fmod 6 = 1 ∨ m2.fmod 6 = 2 ∨ m2.fmod 6 = 3 ∨ m2.fmod 6 = 4 ∨ m2.fmod 6 = 5 := by omega
    rcases this with w | w | w | w | w | w <;> rw [w] <;> refine ⟨_, ?_, rfl⟩ <;> first | assumption | (have : (0:Int) ≤ q * 10 ^ (11 : Int).toNat := Int.mul_nonneg hq0 (by decide); omega)
  obtain ⟨r, hr0, hr⟩ := hy
  simp only [Option.bind_some, hr]
  exact ⟨by simp [lim], h r _ hr0 x2⟩
end
end Vl
end

section
open PySem PySem.W PyProof.Rows
set_option linter.unusedVariables false
set_option linter.unusedSimpArgs false
set_option Elab.async false
set_option maxRecDepth 100000
set_option maxHeartbeats 0
namespace Vl
section
variable {C : Cx} {mg mb : Str → Option Value} {n : Nat} {σ : PH} {Q : Post} {X : XPost}

noncomputable def TbAt (σ : PH) (a : Addr) (rs : List Addr) (rows : List (List Int)) : Prop :=
  σ a = some (.list (rs.map .ref)) ∧ rs.length = rows.length ∧ ∀ (i : Nat) b r, rs[i]? = some b → rows[i]? = some r → σ b = some (.list (nums r))
theorem TbAt.ext {σ σ' : PH} {a : Addr} {rs : List Addr} {rows : List (List Int)} (t : TbAt σ a rs rows) (x : Ext σ σ') : TbAt σ' a rs rows := ⟨x _ _ t.1, t.2.1, fun i b r h1 h2 => x _ _ (t.2.2 i b r h1 h2)⟩
noncomputable def Shape (rows : List (List Int)) (h w : Nat) : Prop := rows.length = h ∧ ∀ r ∈ rows, r.length = w ∧ ∀ x ∈ r, 0 ≤ x

theorem table_ok (e : Env1 C G1 mg mb) {ns : List Int} (hns : ns.length ≤ 63) {h w : Nat} (hh : h ≤ 8) (hw : w ≤ 8) (k : ∀ a rs rows σ', Ext σ σ' → TbAt σ' a rs rows → Shape rows h w → Q (.ref a) σ') :
    CallOK C (n + 3) "_law_table" [.scr ns, .int h, .int w] σ Q X := by
  refine e.run f__law_table (by simp [tab]) rfl ?_
  simp only [f__law_table, wss_nil, wss_cons, ws_assign_name, ws_assign_tup, ws_setIdx, ws_expr, ws_ret, ws_if, ws_for, ws_raise, ws_try1, we_none, we_bool, we_int, we_str, we_loc, we_glob, we_bin, we_neg, we_not, we_and, we_or, we_isNone, we_notNone, we_cmp, we_cmp2, we_tup, we_list, we_sub, we_upto, we_from, we_comp, we_compIf, we_call, we_bi, we_isi, we_meth, wes_nil, wes_cons, rho0, Rho.get, Rho.put, Rho.puts, bindT, List.map_cons, List.map_nil, List.zip_cons_cons, List.zip_nil_right, List.cons_append, List.nil_append, reduceIte, String.reduceEq, wb_add, wb_sub, wb_mul, wb_fdiv, wb_mod, wb_pow, wc_lt, wc_le, wc_gt, wc_ge, wc_eq, wc_ne, wl_scr, wl_tup, gx_calm, isiG_int, isiG_bool, isiG_list, isiG_tuple, true_or, or_true, true_and, List.length_cons, List.length_nil, List.mem_cons, List.not_mem_nil, forall_eq_or_imp, forall_eq, or_false, false_or, implies_true, and_true, Nat.reduceAdd]
  intro a ha
  simp only [src_r, List.length_map, List.length_range]
  refine ⟨by simp only [lim]; omega, ?_⟩
  refine for_inv (fun i ρ σ' => (∃ o, ρ = [("_law_script", some (.scr ns)), ("_law_high", some (.int h)), ("_law_wide", some (.int w)), ("_law_table_here", some (.ref a)), ("_law_row", o)]) ∧
    ∃ rs rows, TbAt σ' a rs rows ∧ rows.length = i ∧ (∀ r ∈ rows, r.length = w ∧ ∀ x ∈ r, 0 ≤ x) ∧ Ext σ σ') ?_ (fun _ _ _ _ => trivial) ?_ ?_
  · exact ⟨⟨_, rfl⟩, [], [], ⟨PH.set_same _ _ _, rfl, fun i b r h => by simp at h⟩, rfl, (fun r hr => by cases hr), Ext.set ha _⟩
  · rintro i x ρ σ' hx ⟨⟨o, rfl⟩, rs, rows, tb, hi, hs, xt⟩
    obtain ⟨hlt, rfl⟩ := range_get hx
    refine ⟨_, rfl, fun Q' hQ' => ?_⟩
    simp only [wss_nil, wss_cons, ws_assign_name, ws_assign_tup, ws_setIdx, ws_expr, ws_ret, ws_if, ws_for, ws_raise, ws_try1, we_none, we_bool, we_int, we_str, we_loc, we_glob, we_bin, we_neg, we_not, we_and, we_or, we_isNone, we_notNone, we_cmp, we_cmp2, we_tup, we_list, we_sub, we_upto, we_from, we_comp, we_compIf, we_call, we_bi, we_isi, we_meth, wes_nil, wes_cons, Rho.get, Rho.put, Rho.puts, bindT, reduceIte, String.reduceEq, wb_add, wb_sub, wb_mul, wb_fdiv, wb_mod, wb_pow, wc_lt, wc_le, wc_gt, wc_ge, wc_eq, wc_ne, wl_scr, wl_tup, gx_calm, isiG_int, isiG_bool, isiG_list, isiG_tuple, true_or, or_true, true_and, List.length_cons, List.length_nil, List.mem_cons, List.not_mem_nil, forall_eq_or_imp, forall_eq, or_false, false_or, implies_true, and_true, Nat.reduceAdd]
    refine ⟨by simp only [recv, tb.1], ?_⟩
    simp only [src_r, List.length_map, List.length_range]
    refine ⟨by simp only [lim]; omega, ?_⟩
    refine comp_inv (fun j acc σ2 => Ext σ' σ2 ∧ ∃ cs : List Int, acc = nums cs ∧ cs.length = j ∧ ∀ c ∈ cs, 0 ≤ c) ⟨.refl _, [], rfl, rfl, fun c hc => by cases hc⟩ (fun _ _ _ _ => trivial) ?_ ?_
    · rintro j y acc σ2 hy ⟨x2, cs, rfl, hj, hc⟩
      obtain ⟨hjl, rfl⟩ := range_get hy
      refine ⟨_, rfl, fun K' hK' => ?_⟩
      simp only [Tg.names, List.map_cons, List.map_nil, List.cons_append, List.nil_append, blank]
      simp only [wss_nil, wss_cons, ws_assign_name, ws_assign_tup, ws_setIdx, ws_expr, ws_ret, ws_if, ws_for, ws_raise, ws_try1, we_none, we_bool, we_int, we_str, we_loc, we_glob, we_bin, we_neg, we_not, we_and, we_or, we_isNone, we_notNone, we_cmp, we_cmp2, we_tup, we_list, we_sub, we_upto, we_from, we_comp, we_compIf, we_call, we_bi, we_isi, we_meth, wes_nil, wes_cons, Rho.get, Rho.put, Rho.puts, bindT, reduceIte, String.reduceEq, wb_add, wb_sub, wb_mul, wb_fdiv, wb_mod, wb_pow, wc_lt, wc_le, wc_gt, wc_ge, wc_eq, wc_ne, wl_scr, wl_tup, gx_calm, isiG_int, isiG_bool, isiG_list, isiG_tuple, true_or, or_true, true_and, List.length_cons, List.length_nil, List.mem_cons, List.not_mem_nil, forall_eq_or_imp, forall_eq, or_false, false_or, implies_true, and_true, Nat.reduceAdd]
      refine ⟨by decide, .inl (by omega), ?_⟩
      refine count_ok e hns fun c σ3 hc0 x3 => hK' _ _ ⟨x2.trans x3, cs ++ [c], by simp, by simp [hj], fun d hd => ?_⟩
      rcases List.mem_append.mp hd with q | q
      · exact hc d q
      · simp at q; subst q; exact hc0
    · rintro acc σ2 ⟨x2, cs, rfl, hj, hc⟩ b hb
      simp only [List.length_map, List.length_range] at hj
      have hab : b ≠ a := by rintro rfl; rw [x2 _ _ tb.1] at hb; cases hb
      have xa : (σ2.set b (.list (nums cs))) a = some (.list (rs.map .ref)) := (Ext.set hb _) _ _ (x2 _ _ tb.1)
      simp only [wmeth, xa]
      refine ⟨by simp only [List.length_map, lim]; rw [tb.2.1, hi]; omega, hQ' _ _ ⟨⟨_, rfl⟩, rs ++ [b], rows ++ [cs], ⟨by rw [PH.set_same]; simp, by simp [tb.2.1], fun i2 b2 r2 g1 g2 => ?_⟩, by simp [hi], fun r hr => ?_, fun b2 o2 g => ?_⟩⟩
      · rcases getElem?_snoc g1 with q1 | ⟨q1, rfl⟩
        · have hlt2 : i2 < rs.length := (List.getElem?_eq_some_iff.mp q1).1
          have g2' : rows[i2]? = some r2 := by rw [List.getElem?_append_left (by rw [← tb.2.1]; exact hlt2)] at g2; exact g2
          have hb2 := tb.2.2 i2 b2 r2 q1 g2'
          have : b2 ≠ a := by
            rintro rfl
            rw [tb.1] at hb2
            have := congrArg (fun o => match o with | some (PO.list l) => l | _ => []) hb2
            simp only at this
            cases rs with
            | nil => simp at q1
            | cons z zs => cases r2 <;> simp at this
          rw [PH.set_ne _ _ this]
          exact (Ext.set hb _) _ _ (x2 _ _ hb2)
        · rw [q1, tb.2.1] at g2
          simp at g2; subst g2
          rw [PH.set_ne _ _ hab, PH.set_same]
      · rcases List.mem_append.mp hr with q | q
        · exact hs r q
        · simp at q; subst q; exact ⟨hj, hc⟩
      · have : b2 ≠ a := by rintro rfl; rw [ha] at g; cases g
        rw [PH.set_ne _ _ this]
        exact (Ext.set hb _) _ _ (x2 _ _ (xt _ _ g))
  · rintro ρ σ' ⟨⟨o, rfl⟩, rs, rows, tb, hi, hs, xt⟩
    simp only [List.length_map, List.length_range] at hi
    simp only [wss_nil, wss_cons, ws_assign_name, ws_assign_tup, ws_setIdx, ws_expr, ws_ret, ws_if, ws_for, ws_raise, ws_try1, we_none, we_bool, we_int, we_str, we_loc, we_glob, we_bin, we_neg, we_not, we_and, we_or, we_isNone, we_notNone, we_cmp, we_cmp2, we_tup, we_list, we_sub, we_upto, we_from, we_comp, we_compIf, we_call, we_bi, we_isi, we_meth, wes_nil, wes_cons, Rho.get, Rho.put, Rho.puts, bindT, reduceIte, String.reduceEq, wb_add, wb_sub, wb_mul, wb_fdiv, wb_mod, wb_pow, wc_lt, wc_le, wc_gt, wc_ge, wc_eq, wc_ne, wl_scr, wl_tup, gx_calm, isiG_int, isiG_bool, isiG_list, isiG_tuple, true_or, or_true, true_and, List.length_cons, List.length_nil, List.mem_cons, List.not_mem_nil, forall_eq_or_imp, forall_eq, or_false, false_or, implies_true, and_true, Nat.reduceAdd]
    exact k a rs rows σ' xt tb ⟨hi, hs⟩
end
end Vl
end

section
open PySem PySem.W PyProof.Rows
set_option linter.unusedVariables false
set_option linter.unusedSimpArgs false
set_option Elab.async false
set_option maxRecDepth 100000
set_option maxHeartbeats 0
namespace Vl

theorem comp_vals {chk : PH → Prop} {tg : Tg} {ρ : Rho} {el : Rho → PH → Post → Prop} {xs : List PV} {σ : PH} {K : List PV → PH → Prop} (f : Nat → PV) (hchk : ∀ σ', Ext σ σ' → chk σ')
    (hel : ∀ i x σ', xs[i]? = some x → Ext σ σ' → ∃ ρ', bindC tg x ρ = some ρ' ∧ ∀ K' : Post, (∀ σ'', Ext σ' σ'' → K' (f i) σ'') → el ρ' σ' K') (hK : ∀ σ', Ext σ σ' → K ((List.range xs.length).map f) σ') :
    compGo chk tg ρ (fun _ σ K => K true σ) el xs [] σ K := by
  refine comp_inv (fun i acc σ' => Ext σ σ' ∧ acc = (List.range i).map f) ⟨.refl _, rfl⟩ (fun i acc σ' h => hchk _ h.1) ?_ (fun acc σ' h => by rw [h.2]; exact hK _ h.1)
  rintro i x acc σ' hx ⟨xt, rfl⟩
  obtain ⟨ρ', h1, h2⟩ := hel i x σ' hx xt
  exact ⟨ρ', h1, fun K' hK' => h2 K' fun σ'' x2 => hK' _ _ ⟨xt.trans x2, by simp [List.range_succ]⟩⟩

theorem all_true (σ : PH) (Q : Post) {c : Addr} (m : Nat) (k : Q (.bool true) (σ.set c (.list ((List.range m).map fun _ => PV.bool true)))) : wbi .all [.ref c] (σ.set c (.list ((List.range m).map fun _ => PV.bool true))) Q := by
  have hall : ∀ m : List Nat, allBools (m.map fun _ => PV.bool true) = some (m.map fun _ => true) := fun m => by
    induction m with
    | nil => rfl
    | cons x r ih => simp only [List.map_cons, allBools, ih]; rfl
  rw [show ∀ (args : List PV) (σ : PH) (Q : Post), wbi .all args σ Q = wLst σ (fun l => oBs (fun bs => Q (.bool (bs.all id)) σ) (allBools l)) args from fun _ _ _ => rfl, wLst_at (PH.set_same _ _ _), hall]
  show Q _ _
  have : ((List.range m).map fun _ => true).all id = true := by simp
  rw [this]; exact k
theorem range_nums (l : List Int) : ((List.range l.length).map fun i => PV.int (l.getD i 0)) = nums l := by
  refine List.ext_getElem (by simp) fun i h1 h2 => ?_
  simp at h1 h2
  simp [List.getD, h1]

section
variable {C : Cx} {mg mb : Str → Option Value} {n : Nat} {σ : PH} {Q : Post} {X : XPost}

theorem is_count_ok (e : Env1 C G1 mg mb) {x : Int} (hx : 0 ≤ x) (k : Q (.bool true) σ) : CallOK C (n + 1) "is_count" [.int x] σ Q X := by
  refine e.run f_is_count (by simp [tab]) rfl ?_
  simp only [f_is_count, wss_nil, wss_cons, ws_assign_name, ws_assign_tup, ws_setIdx, ws_expr, ws_ret, ws_if, ws_for, ws_raise, ws_try1, we_none, we_bool, we_int, we_str, we_loc, we_glob, we_bin, we_neg, we_not, we_and, we_or, we_isNone, we_notNone, we_cmp, we_cmp2, we_tup, we_list, we_sub, we_upto, we_from, we_comp, we_compIf, we_call, we_bi, we_isi, we_meth, wes_nil, wes_cons, rho0, Rho.get, Rho.put, Rho.puts, bindT, List.map_cons, List.map_nil, List.zip_cons_cons, List.zip_nil_right, List.cons_append, List.nil_append, reduceIte, String.reduceEq, wb_add, wb_sub, wb_mul, wb_fdiv, wb_mod, wb_pow, wc_lt, wc_le, wc_gt, wc_ge, wc_eq, wc_ne, wl_scr, wl_tup, gx_calm, isiG_int, isiG_bool, isiG_list, isiG_tuple, true_or, or_true, true_and, List.length_cons, List.length_nil, List.mem_cons, List.not_mem_nil, forall_eq_or_imp, forall_eq, or_false, false_or, implies_true, and_true, Nat.reduceAdd]
  simp [isiV, hx]
  exact k
theorem are_counts_ok (e : Env1 C G1 mg mb) {a : Addr} {l : List Int} (hl : l.length ≤ 8) (hp : ∀ x ∈ l, 0 ≤ x) (ha : σ a = some (.list (nums l))) (k : ∀ σ', Ext σ σ' → Q (.bool true) σ') : CallOK C (n + 2) "are_counts" [.ref a] σ Q X := by
  refine e.run f_are_counts (by simp [tab]) rfl ?_
  simp only [f_are_counts, wss_nil, wss_cons, ws_assign_name, ws_assign_tup, ws_setIdx, ws_expr, ws_ret, ws_if, ws_for, ws_raise, ws_try1, we_none, we_bool, we_int, we_str, we_loc, we_glob, we_bin, we_neg, we_not, we_and, we_or, we_isNone, we_notNone, we_cmp, we_cmp2, we_tup, we_list, we_sub, we_upto, we_from, we_comp, we_compIf, we_call, we_bi, we_isi, we_meth, wes_nil, wes_cons, rho0, Rho.get, Rho.put, Rho.puts, bindT, List.map_cons, List.map_nil, List.zip_cons_cons, List.zip_nil_right, List.cons_append, List.nil_append, reduceIte, String.reduceEq, wb_add, wb_sub, wb_mul, wb_fdiv, wb_mod, wb_pow, wc_lt, wc_le, wc_gt, wc_ge, wc_eq, wc_ne, wl_scr, wl_tup, gx_calm, isiG_int, isiG_bool, isiG_list, isiG_tuple, true_or, or_true, true_and, List.length_cons, List.length_nil, List.mem_cons, List.not_mem_nil, forall_eq_or_imp, forall_eq, or_false, false_or, implies_true, and_true, Nat.reduceAdd]
  simp only [src_l ha]
  refine ⟨by simp only [lim, List.length_map]; omega, comp_vals (fun _ => .bool true) (fun σ' x => x _ _ ha) ?_ ?_⟩
  · rintro i x σ' hx xt
    rw [List.getElem?_map] at hx
    obtain ⟨y, hy, rfl⟩ := Option.map_eq_some_iff.mp hx
    refine ⟨_, rfl, fun K' hK' => ?_⟩
    simp only [Tg.names, List.map_cons, List.map_nil, List.cons_append, List.nil_append, blank]
    simp only [wss_nil, wss_cons, ws_assign_name, ws_assign_tup, ws_setIdx, ws_expr, ws_ret, ws_if, ws_for, ws_raise, ws_try1, we_none, we_bool, we_int, we_str, we_loc, we_glob, we_bin, we_neg, we_not, we_and, we_or, we_isNone, we_notNone, we_cmp, we_cmp2, we_tup, we_list, we_sub, we_upto, we_from, we_comp, we_compIf, we_call, we_bi, we_isi, we_meth, wes_nil, wes_cons, Rho.get, Rho.put, Rho.puts, bindT, reduceIte, String.reduceEq, wb_add, wb_sub, wb_mul, wb_fdiv, wb_mod, wb_pow, wc_lt, wc_le, wc_gt, wc_ge, wc_eq, wc_ne, wl_scr, wl_tup, gx_calm, isiG_int, isiG_bool, isiG_list, isiG_tuple, true_or, or_true, true_and, List.length_cons, List.length_nil, List.mem_cons, List.not_mem_nil, forall_eq_or_imp, forall_eq, or_false, false_or, implies_true, and_true, Nat.reduceAdd]
    exact ⟨by decide, is_count_ok e (hp y (List.mem_of_getElem? hy)) (hK' _ (.refl _))⟩
  · exact fun σ' xt c hc => all_true _ _ _ (k _ (xt.trans (Ext.set hc _)))

/-- the shape alone -/
noncomputable def Shape0 (rows : List (List Int)) (h w : Nat) : Prop := rows.length = h ∧ ∀ r ∈ rows, r.length = w ∧ True
theorem Shape.s0 {rows : List (List Int)} {h w : Nat} (s : Shape rows h w) : Shape0 rows h w := ⟨s.1, fun r hr => ⟨(s.2 r hr).1, trivial⟩⟩
theorem TbAt.item {σ : PH} {a : Addr} {rs : List Addr} {rows : List (List Int)} (t : TbAt σ a rs rows) {i : Nat} {x : PV} (h : (rs.map PV.ref)[i]? = some x) : ∃ b r, x = .ref b ∧ rs[i]? = some b ∧ rows[i]? = some r ∧ σ b = some (.list (nums r)) := by
  rw [List.getElem?_map] at h
  obtain ⟨b, hb, rfl⟩ := Option.map_eq_some_iff.mp h
  have hlt : i < rows.length := by rw [← t.2.1]; exact (List.getElem?_eq_some_iff.mp hb).1
  exact ⟨b, rows[i], rfl, hb, List.getElem?_eq_getElem hlt, t.2.2 i b _ hb (List.getElem?_eq_getElem hlt)⟩

theorem TbAt.first {σ : PH} {a : Addr} {rs : List Addr} {rows : List (List Int)} (t : TbAt σ a rs rows) {h w : Nat} (hs : Shape0 rows h w) (h1 : 1 ≤ h) : ∃ b r, rs[0]? = some b ∧ rows[0]? = some r ∧ r.length = w ∧ σ b = some (.list (nums r)) ∧ psub σ (.ref a) (.int 0) = some (.ref b) ∧ plen σ (.ref a) = some h := by
  have hlen : 0 < rows.length := by rw [hs.1]; omega
  have hr : rows[0]? = some rows[0] := List.getElem?_eq_getElem hlen
  have hlr : 0 < rs.length := by rw [t.2.1]; exact hlen
  have hb : rs[0]? = some rs[0] := List.getElem?_eq_getElem hlr
  refine ⟨_, _, hb, hr, (hs.2 _ (List.mem_of_getElem? hr)).1, t.2.2 0 _ _ hb hr, ?_, ?_⟩
  · rw [ps_list t.1, place_in (Int.le_refl _) (by simp; omega)]
    simp [hb]
  · rw [pl_list t.1]; simp [t.2.1, hs.1]

theorem is_grid_gen (e : Env1 C G1 mg mb) {a : Addr} {rs : List Addr} {rows : List (List Int)} {h w : Nat} (h1 : 1 ≤ h) (h8 : h ≤ 8) (w8 : w ≤ 8) (t : TbAt σ a rs rows) (hs : Shape0 rows h w) (k : ∀ σ', Ext σ σ' → Q (.bool (decide (1 ≤ w))) σ') :
    CallOK C (n + 1) "is_grid" [.ref a] σ Q X := by
  refine e.run f_is_grid (by simp [tab]) rfl ?_
  have hM : G1.glob "MOST" = some (.int 8) := by rfl
  have hlen : (rs.map PV.ref).length = h := by simp [t.2.1, hs.1]
  simp only [f_is_grid, wss_nil, wss_cons, ws_assign_name, ws_assign_tup, ws_setIdx, ws_expr, ws_ret, ws_if, ws_for, ws_raise, ws_try1, we_none, we_bool, we_int, we_str, we_loc, we_glob, we_bin, we_neg, we_not, we_and, we_or, we_isNone, we_notNone, we_cmp, we_cmp2, we_tup, we_list, we_sub, we_upto, we_from, we_comp, we_compIf, we_call, we_bi, we_isi, we_meth, wes_nil, wes_cons, rho0, Rho.get, Rho.put, Rho.puts, bindT, List.map_cons, List.map_nil, List.zip_cons_cons, List.zip_nil_right, List.cons_append, List.nil_append, reduceIte, String.reduceEq, wb_add, wb_sub, wb_mul, wb_fdiv, wb_mod, wb_pow, wc_lt, wc_le, wc_gt, wc_ge, wc_eq, wc_ne, wl_scr, wl_tup, gx_calm, isiG_int, isiG_bool, isiG_list, isiG_tuple, true_or, or_true, true_and, List.length_cons, List.length_nil, List.mem_cons, List.not_mem_nil, forall_eq_or_imp, forall_eq, or_false, false_or, implies_true, and_true, Nat.reduceAdd]
  have e1 : isiV G1 σ (.ref a) ["list"] = some true := by simp only [isiV, t.1]; rfl
  simp only [e1, Bool.not_true, hM, wl_list t.1, hlen]
  refine ⟨by simp only [lim]; omega, ?_⟩
  have c1 : (1 : Int) ≤ h := by omega
  have c2 : (h : Int) ≤ 8 := by omega
  simp only [wc_le, c1, c2, decide_true, reduceIte, Bool.not_true]
  simp only [src_l t.1, hlen]
  refine ⟨by simp only [lim]; omega, comp_vals (fun _ => .bool true) (fun σ' x => x _ _ t.1) ?_ ?_⟩
  · rintro i x σ' hx xt
    obtain ⟨b, r, rfl, q1, q2, q3⟩ := t.item hx
    refine ⟨_, rfl, fun K' hK' => ?_⟩
    simp only [Tg.names, List.map_cons, List.map_nil, List.cons_append, List.nil_append, blank]
    simp only [wss_nil, wss_cons, ws_assign_name, ws_assign_tup, ws_setIdx, ws_expr, ws_ret, ws_if, ws_for, ws_raise, ws_try1, we_none, we_bool, we_int, we_str, we_loc, we_glob, we_bin, we_neg, we_not, we_and, we_or, we_isNone, we_notNone, we_cmp, we_cmp2, we_tup, we_list, we_sub, we_upto, we_from, we_comp, we_compIf, we_call, we_bi, we_isi, we_meth, wes_nil, wes_cons, Rho.get, Rho.put, Rho.puts, bindT, reduceIte, String.reduceEq, wb_add, wb_sub, wb_mul, wb_fdiv, wb_mod, wb_pow, wc_lt, wc_le, wc_gt, wc_ge, wc_eq, wc_ne, wl_scr, wl_tup, gx_calm, isiG_int, isiG_bool, isiG_list, isiG_tuple, true_or, or_true, true_and, List.length_cons, List.length_nil, List.mem_cons, List.not_mem_nil, forall_eq_or_imp, forall_eq, or_false, false_or, implies_true, and_true, Nat.reduceAdd]
    have : isiV G1 σ' (.ref b) ["list"] = some true := by simp only [isiV, xt _ _ q3]; rfl
    simp only [this]
    exact hK' _ (.refl _)
  intro σ1 x1 c hc
  refine all_true _ _ _ ?_
  have t1 := t.ext (x1.trans (Ext.set hc (.list ((List.range (rs.map PV.ref).length).map fun _ => PV.bool true))))
  generalize hσ : σ1.set c (.list ((List.range (rs.map PV.ref).length).map fun _ => PV.bool true)) = σ2 at t1 ⊢
  have x2 : Ext σ σ2 := by rw [← hσ]; exact x1.trans (Ext.set hc _)
  obtain ⟨b, r, f1, f2, f3, f4, f5, f6⟩ := t1.first hs h1
  simp only [Bool.not_true, f5, f6]
  refine ⟨by simp only [lim]; omega, ?_⟩
  simp only [wl_list f4, List.length_map, f3]
  refine ⟨by simp only [lim]; omega, ?_⟩
  by_cases w1 : 1 ≤ w
  rotate_left
  · have c3 : ¬ ((1 : Int) ≤ w) := by omega
    simp only [hM, wc_le, c3, decide_false, Bool.false_eq_true, if_false, Bool.not_false]
    have := k _ x2
    simp only [w1, decide_false] at this
    exact this
  have c3 : (1 : Int) ≤ w := by omega
  have c4 : (w : Int) ≤ 8 := by omega
  simp only [w1, decide_true] at k
  simp only [hM, wc_le, c3, c4, decide_true, reduceIte, Bool.not_true]
  simp only [src_l t1.1, hlen]
  refine ⟨by simp only [lim]; omega, comp_vals (fun _ => .bool true) (fun σ' x => x _ _ t1.1) ?_ ?_⟩
  · rintro i x σ' hx xt
    obtain ⟨b2, r2, rfl, q1, q2, q3⟩ := t1.item hx
    refine ⟨_, rfl, fun K' hK' => ?_⟩
    simp only [Tg.names, List.map_cons, List.map_nil, List.cons_append, List.nil_append, blank]
    simp only [wss_nil, wss_cons, ws_assign_name, ws_assign_tup, ws_setIdx, ws_expr, ws_ret, ws_if, ws_for, ws_raise, ws_try1, we_none, we_bool, we_int, we_str, we_loc, we_glob, we_bin, we_neg, we_not, we_and, we_or, we_isNone, we_notNone, we_cmp, we_cmp2, we_tup, we_list, we_sub, we_upto, we_from, we_comp, we_compIf, we_call, we_bi, we_isi, we_meth, wes_nil, wes_cons, Rho.get, Rho.put, Rho.puts, bindT, reduceIte, String.reduceEq, wb_add, wb_sub, wb_mul, wb_fdiv, wb_mod, wb_pow, wc_lt, wc_le, wc_gt, wc_ge, wc_eq, wc_ne, wl_scr, wl_tup, gx_calm, isiG_int, isiG_bool, isiG_list, isiG_tuple, true_or, or_true, true_and, List.length_cons, List.length_nil, List.mem_cons, List.not_mem_nil, forall_eq_or_imp, forall_eq, or_false, false_or, implies_true, and_true, Nat.reduceAdd]
    have hr2 := (hs.2 r2 (List.mem_of_getElem? q2)).1
    obtain ⟨b', r', f1, f2, f3, f4, f5, f6⟩ := (t1.ext xt).first hs h1
    simp only [wl_list (xt _ _ q3), List.length_map, hr2]
    refine ⟨by simp only [lim]; omega, ?_⟩
    simp only [f5, f6]
    refine ⟨by simp only [lim]; omega, ?_⟩
    simp only [wl_list f4, List.length_map, f3]
    refine ⟨by simp only [lim]; omega, ?_⟩
    simp only [wc_eq, decide_true]
    exact hK' _ (.refl _)
  · exact fun σ' xt c hc => all_true _ _ _ (k _ (x2.trans (xt.trans (Ext.set hc _))))
theorem is_grid_ok (e : Env1 C G1 mg mb) {a : Addr} {rs : List Addr} {rows : List (List Int)} {h w : Nat} (h1 : 1 ≤ h) (h8 : h ≤ 8) (w1 : 1 ≤ w) (w8 : w ≤ 8) (t : TbAt σ a rs rows) (hs : Shape0 rows h w) (k : ∀ σ', Ext σ σ' → Q (.bool true) σ') :
    CallOK C (n + 1) "is_grid" [.ref a] σ Q X := is_grid_gen e h1 h8 w8 t hs fun σ' x => by rw [decide_eq_true w1]; exact k σ' x
end
end Vl
end

section
open PySem PySem.W PyProof.Rows
set_option linter.unusedVariables false
set_option linter.unusedSimpArgs false
set_option Elab.async false
set_option maxRecDepth 100000
set_option maxHeartbeats 0
namespace Vl
section
variable {C : Cx} {mg mb : Str → Option Value} {n : Nat} {σ : PH} {Q : Post} {X : XPost}

theorem is_table_ok (e : Env1 C G1 mg mb) {a : Addr} {rs : List Addr} {rows : List (List Int)} {h w : Nat} (h1 : 1 ≤ h) (h8 : h ≤ 8) (w1 : 1 ≤ w) (w8 : w ≤ 8) (t : TbAt σ a rs rows) (hs : Shape rows h w) (k : ∀ σ', Ext σ σ' → Q (.bool true) σ') :
    CallOK C (n + 3) "is_table" [.ref a] σ Q X := by
  refine e.run f_is_table (by simp [tab]) rfl ?_
  have hlen : (rs.map PV.ref).length = h := by simp [t.2.1, hs.1]
  simp only [f_is_table, wss_nil, wss_cons, ws_assign_name, ws_assign_tup, ws_setIdx, ws_expr, ws_ret, ws_if, ws_for, ws_raise, ws_try1, we_none, we_bool, we_int, we_str, we_loc, we_glob, we_bin, we_neg, we_not, we_and, we_or, we_isNone, we_notNone, we_cmp, we_cmp2, we_tup, we_list, we_sub, we_upto, we_from, we_comp, we_compIf, we_call, we_bi, we_isi, we_meth, wes_nil, wes_cons, rho0, Rho.get, Rho.put, Rho.puts, bindT, List.map_cons, List.map_nil, List.zip_cons_cons, List.zip_nil_right, List.cons_append, List.nil_append, reduceIte, String.reduceEq, wb_add, wb_sub, wb_mul, wb_fdiv, wb_mod, wb_pow, wc_lt, wc_le, wc_gt, wc_ge, wc_eq, wc_ne, wl_scr, wl_tup, gx_calm, isiG_int, isiG_bool, isiG_list, isiG_tuple, true_or, or_true, true_and, List.length_cons, List.length_nil, List.mem_cons, List.not_mem_nil, forall_eq_or_imp, forall_eq, or_false, false_or, implies_true, and_true, Nat.reduceAdd]
  refine ⟨by decide, is_grid_ok e h1 h8 w1 w8 t hs.s0 fun σ1 x1 => ?_⟩
  have t1 := t.ext x1
  simp only [src_l t1.1, hlen]
  refine ⟨by simp only [lim]; omega, comp_vals (fun _ => .bool true) (fun σ' x => x _ _ t1.1) ?_ ?_⟩
  · rintro i x σ' hx xt
    obtain ⟨b, r, rfl, q1, q2, q3⟩ := t1.item hx
    refine ⟨_, rfl, fun K' hK' => ?_⟩
    simp only [Tg.names, List.map_cons, List.map_nil, List.cons_append, List.nil_append, blank]
    simp only [wss_nil, wss_cons, ws_assign_name, ws_assign_tup, ws_setIdx, ws_expr, ws_ret, ws_if, ws_for, ws_raise, ws_try1, we_none, we_bool, we_int, we_str, we_loc, we_glob, we_bin, we_neg, we_not, we_and, we_or, we_isNone, we_notNone, we_cmp, we_cmp2, we_tup, we_list, we_sub, we_upto, we_from, we_comp, we_compIf, we_call, we_bi, we_isi, we_meth, wes_nil, wes_cons, Rho.get, Rho.put, Rho.puts, bindT, reduceIte, String.reduceEq, wb_add, wb_sub, wb_mul, wb_fdiv, wb_mod, wb_pow, wc_lt, wc_le, wc_gt, wc_ge, wc_eq, wc_ne, wl_scr, wl_tup, gx_calm, isiG_int, isiG_bool, isiG_list, isiG_tuple, true_or, or_true, true_and, List.length_cons, List.length_nil, List.mem_cons, List.not_mem_nil, forall_eq_or_imp, forall_eq, or_false, false_or, implies_true, and_true, Nat.reduceAdd]
    have hr := hs.2 r (List.mem_of_getElem? q2)
    exact ⟨by decide, are_counts_ok e (by omega) hr.2 (xt _ _ q3) hK'⟩
  · exact fun σ' xt c hc => all_true _ _ _ (k _ (x1.trans (xt.trans (Ext.set hc _))))

theorem need_table_ok (e : Env1 C G1 mg mb) {a : Addr} {rs : List Addr} {rows : List (List Int)} {h w : Nat} (h1 : 1 ≤ h) (h8 : h ≤ 8) (w1 : 1 ≤ w) (w8 : w ≤ 8) (t : TbAt σ a rs rows) (hs : Shape rows h w) (k : ∀ σ', Ext σ σ' → Q .none σ') :
    CallOK C (n + 4) "need_table" [.ref a] σ Q X := by
  refine e.run f_need_table (by simp [tab]) rfl ?_
  simp only [f_need_table, wss_nil, wss_cons, ws_assign_name, ws_assign_tup, ws_setIdx, ws_expr, ws_ret, ws_if, ws_for, ws_raise, ws_try1, we_none, we_bool, we_int, we_str, we_loc, we_glob, we_bin, we_neg, we_not, we_and, we_or, we_isNone, we_notNone, we_cmp, we_cmp2, we_tup, we_list, we_sub, we_upto, we_from, we_comp, we_compIf, we_call, we_bi, we_isi, we_meth, wes_nil, wes_cons, rho0, Rho.get, Rho.put, Rho.puts, bindT, List.map_cons, List.map_nil, List.zip_cons_cons, List.zip_nil_right, List.cons_append, List.nil_append, reduceIte, String.reduceEq, wb_add, wb_sub, wb_mul, wb_fdiv, wb_mod, wb_pow, wc_lt, wc_le, wc_gt, wc_ge, wc_eq, wc_ne, wl_scr, wl_tup, gx_calm, isiG_int, isiG_bool, isiG_list, isiG_tuple, true_or, or_true, true_and, List.length_cons, List.length_nil, List.mem_cons, List.not_mem_nil, forall_eq_or_imp, forall_eq, or_false, false_or, implies_true, and_true, Nat.reduceAdd]
  refine ⟨by decide, is_table_ok e h1 h8 w1 w8 t hs fun σ1 x1 => ?_⟩
  simp only [Bool.not_true]
  exact k _ x1

theorem sub_row {σ : PH} {b : Addr} {r : List Int} {j : Nat} (hj : j < r.length) (h : σ b = some (.list (nums r))) : psub σ (.ref b) (.int (j : Int)) = some (.int (r.getD j 0)) ∧ plen σ (.ref b) = some r.length := by
  refine ⟨?_, by rw [pl_list h]; simp⟩
  rw [ps_list h, place_in (by omega) (by simp; omega)]
  simp [List.getD, hj]

end
end Vl
end

section
open PySem PySem.W PyProof.Rows
set_option linter.unusedVariables false
set_option linter.unusedSimpArgs false
set_option Elab.async false
set_option maxRecDepth 100000
set_option maxHeartbeats 0
namespace Vl
section
variable {C : Cx} {mg mb : Str → Option Value} {n : Nat} {σ : PH} {Q : Post} {X : XPost}

/-- no count -/
noncomputable def NoCnt (σ : PH) (v : PV) : Prop := (∃ i : Int, v = .int i ∧ i < 0) ∨ (∃ b, v = .bool b) ∨ v = .none ∨ (∃ s, v = .str s) ∨ (∃ a l, v = .ref a ∧ σ a = some (.list l)) ∨ ∃ l, v = .tup l

theorem is_count_no (e : Env1 C G1 mg mb) {v : PV} (hv : NoCnt σ v) (k : Q (.bool false) σ) : CallOK C (n + 1) "is_count" [v] σ Q X := by
  refine e.run f_is_count (by simp [tab]) rfl ?_
  simp only [f_is_count, wss_nil, wss_cons, ws_assign_name, ws_assign_tup, ws_setIdx, ws_expr, ws_ret, ws_if, ws_for, ws_raise, ws_try1, we_none, we_bool, we_int, we_str, we_loc, we_glob, we_bin, we_neg, we_not, we_and, we_or, we_isNone, we_notNone, we_cmp, we_cmp2, we_tup, we_list, we_sub, we_upto, we_from, we_comp, we_compIf, we_call, we_bi, we_isi, we_meth, wes_nil, wes_cons, rho0, Rho.get, Rho.put, Rho.puts, bindT, List.map_cons, List.map_nil, List.zip_cons_cons, List.zip_nil_right, List.cons_append, List.nil_append, reduceIte, String.reduceEq, wb_add, wb_sub, wb_mul, wb_fdiv, wb_mod, wb_pow, wc_lt, wc_le, wc_gt, wc_ge, wc_eq, wc_ne, wl_scr, wl_tup, gx_calm, isiG_int, isiG_bool, isiG_list, isiG_tuple, true_or, or_true, true_and, List.length_cons, List.length_nil, List.mem_cons, List.not_mem_nil, forall_eq_or_imp, forall_eq, or_false, false_or, implies_true, and_true, Nat.reduceAdd]
  rcases hv with ⟨i, rfl, hi⟩ | ⟨b, rfl⟩ | rfl | ⟨s, rfl⟩ | ⟨a, l, rfl, ha⟩ | ⟨l, rfl⟩
  · have : ¬ (i ≥ 0) := by omega
    simp [isiV, wc_ge, this]; exact k
  · simp [isiV]; exact k
  · simp [isiV]; exact k
  · simp [isiV]; exact k
  · simp [isiV, ha]; exact k
  · simp [isiV]; exact k

theorem need_number_ok (e : Env1 C G1 mg mb) {b : Int} (hb : 1 ≤ b) (k : Q .none σ) : CallOK C (n + 2) "need_number" [.int b] σ Q X := by
  refine e.run f_need_number (by simp [tab]) rfl ?_
  simp only [f_need_number, wss_nil, wss_cons, ws_assign_name, ws_assign_tup, ws_setIdx, ws_expr, ws_ret, ws_if, ws_for, ws_raise, ws_try1, we_none, we_bool, we_int, we_str, we_loc, we_glob, we_bin, we_neg, we_not, we_and, we_or, we_isNone, we_notNone, we_cmp, we_cmp2, we_tup, we_list, we_sub, we_upto, we_from, we_comp, we_compIf, we_call, we_bi, we_isi, we_meth, wes_nil, wes_cons, rho0, Rho.get, Rho.put, Rho.puts, bindT, List.map_cons, List.map_nil, List.zip_cons_cons, List.zip_nil_right, List.cons_append, List.nil_append, reduceIte, String.reduceEq, wb_add, wb_sub, wb_mul, wb_fdiv, wb_mod, wb_pow, wc_lt, wc_le, wc_gt, wc_ge, wc_eq, wc_ne, wl_scr, wl_tup, gx_calm, isiG_int, isiG_bool, isiG_list, isiG_tuple, true_or, or_true, true_and, List.length_cons, List.length_nil, List.mem_cons, List.not_mem_nil, forall_eq_or_imp, forall_eq, or_false, false_or, implies_true, and_true, Nat.reduceAdd]
  refine ⟨by decide, is_count_ok e (by omega) ?_⟩
  have : ¬ (b = 0) := by omega
  simp [this]
  exact k

theorem need_number_no (e : Env1 C G1 mg mb) {v : PV} (hv : NoCnt σ v ∨ v = .int 0) (k : X ⟨"BadNumber"⟩ σ) : CallOK C (n + 2) "need_number" [v] σ Q X := by
  refine e.run f_need_number (by simp [tab]) rfl ?_
  simp only [f_need_number, wss_nil, wss_cons, ws_assign_name, ws_assign_tup, ws_setIdx, ws_expr, ws_ret, ws_if, ws_for, ws_raise, ws_try1, we_none, we_bool, we_int, we_str, we_loc, we_glob, we_bin, we_neg, we_not, we_and, we_or, we_isNone, we_notNone, we_cmp, we_cmp2, we_tup, we_list, we_sub, we_upto, we_from, we_comp, we_compIf, we_call, we_bi, we_isi, we_meth, wes_nil, wes_cons, rho0, Rho.get, Rho.put, Rho.puts, bindT, List.map_cons, List.map_nil, List.zip_cons_cons, List.zip_nil_right, List.cons_append, List.nil_append, reduceIte, String.reduceEq, wb_add, wb_sub, wb_mul, wb_fdiv, wb_mod, wb_pow, wc_lt, wc_le, wc_gt, wc_ge, wc_eq, wc_ne, wl_scr, wl_tup, gx_calm, isiG_int, isiG_bool, isiG_list, isiG_tuple, true_or, or_true, true_and, List.length_cons, List.length_nil, List.mem_cons, List.not_mem_nil, forall_eq_or_imp, forall_eq, or_false, false_or, implies_true, and_true, Nat.reduceAdd]
  refine ⟨by decide, ?_⟩
  rcases hv with hv | rfl
  · refine is_count_no e hv ?_
    simp only [Bool.not_false]
    exact ⟨⟨rfl, rfl⟩, k⟩
  · refine is_count_ok e (by omega) ?_
    simp only [Bool.not_true, decide_true]
    exact ⟨⟨rfl, rfl⟩, k⟩
end
end Vl
end

section
open PySem PySem.W PyProof.Rows
set_option linter.unusedVariables false
set_option linter.unusedSimpArgs false
set_option Elab.async false
set_option maxRecDepth 100000
set_option maxHeartbeats 0
namespace Vl
section
variable {C : Cx} {mg mb : Str → Option Value} {n : Nat} {σ : PH} {Q : Post} {X : XPost}

/-- no table: nothing, a row without counts, a count below nought -/
noncomputable def NoTab (σ : PH) (v : PV) : Prop := v = .none ∨ (∃ a b, v = .ref a ∧ σ a = some (.list [.ref b]) ∧ σ b = some (.list [])) ∨ (∃ a b, v = .ref a ∧ σ a = some (.list [.ref b]) ∧ σ b = some (.list [.int (-1)]))

theorem are_counts_no (e : Env1 C G1 mg mb) {a : Addr} (ha : σ a = some (.list (nums [-1]))) (k : ∀ σ', Ext σ σ' → Q (.bool false) σ') : CallOK C (n + 2) "are_counts" [.ref a] σ Q X := by
  refine e.run f_are_counts (by simp [tab]) rfl ?_
  simp only [f_are_counts, wss_nil, wss_cons, ws_assign_name, ws_assign_tup, ws_setIdx, ws_expr, ws_ret, ws_if, ws_for, ws_raise, ws_try1, we_none, we_bool, we_int, we_str, we_loc, we_glob, we_bin, we_neg, we_not, we_and, we_or, we_isNone, we_notNone, we_cmp, we_cmp2, we_tup, we_list, we_sub, we_upto, we_from, we_comp, we_compIf, we_call, we_bi, we_isi, we_meth, wes_nil, wes_cons, rho0, Rho.get, Rho.put, Rho.puts, bindT, List.map_cons, List.map_nil, List.zip_cons_cons, List.zip_nil_right, List.cons_append, List.nil_append, reduceIte, String.reduceEq, wb_add, wb_sub, wb_mul, wb_fdiv, wb_mod, wb_pow, wc_lt, wc_le, wc_gt, wc_ge, wc_eq, wc_ne, wl_scr, wl_tup, gx_calm, isiG_int, isiG_bool, isiG_list, isiG_tuple, true_or, or_true, true_and, List.length_cons, List.length_nil, List.mem_cons, List.not_mem_nil, forall_eq_or_imp, forall_eq, or_false, false_or, implies_true, and_true, Nat.reduceAdd]
  simp only [src_l ha]
  refine ⟨by decide, comp_vals (fun _ => .bool false) (fun σ' x => x _ _ ha) ?_ ?_⟩
  · rintro i x σ' hx xt
    rw [List.getElem?_map] at hx
    obtain ⟨y, hy, rfl⟩ := Option.map_eq_some_iff.mp hx
    have hy2 : y = -1 := by
      cases i with
      | zero => simp at hy; exact hy.symm
      | succ i => simp at hy
    subst hy2
    refine ⟨_, rfl, fun K' hK' => ?_⟩
    simp only [Tg.names, List.map_cons, List.map_nil, List.cons_append, List.nil_append, blank]
    simp only [wss_nil, wss_cons, ws_assign_name, ws_assign_tup, ws_setIdx, ws_expr, ws_ret, ws_if, ws_for, ws_raise, ws_try1, we_none, we_bool, we_int, we_str, we_loc, we_glob, we_bin, we_neg, we_not, we_and, we_or, we_isNone, we_notNone, we_cmp, we_cmp2, we_tup, we_list, we_sub, we_upto, we_from, we_comp, we_compIf, we_call, we_bi, we_isi, we_meth, wes_nil, wes_cons, Rho.get, Rho.put, Rho.puts, bindT, reduceIte, String.reduceEq, wb_add, wb_sub, wb_mul, wb_fdiv, wb_mod, wb_pow, wc_lt, wc_le, wc_gt, wc_ge, wc_eq, wc_ne, wl_scr, wl_tup, gx_calm, isiG_int, isiG_bool, isiG_list, isiG_tuple, true_or, or_true, true_and, List.length_cons, List.length_nil, List.mem_cons, List.not_mem_nil, forall_eq_or_imp, forall_eq, or_false, false_or, implies_true, and_true, Nat.reduceAdd]
    exact ⟨by decide, is_count_no e (.inl ⟨_, rfl, by decide⟩) (hK' _ (.refl _))⟩
  · intro σ' xt c hc
    rw [show ∀ (args : List PV) (σ : PH) (Q : Post), wbi .all args σ Q = wLst σ (fun l => oBs (fun bs => Q (.bool (bs.all id)) σ) (allBools l)) args from fun _ _ _ => rfl, wLst_at (PH.set_same _ _ _)]
    exact k _ (xt.trans (Ext.set hc _))
theorem is_table_no (e : Env1 C G1 mg mb) {v : PV} (hv : NoTab σ v) (k : ∀ σ', Ext σ σ' → Q (.bool false) σ') : CallOK C (n + 3) "is_table" [v] σ Q X := by
  refine e.run f_is_table (by simp [tab]) rfl ?_
  simp only [f_is_table, wss_nil, wss_cons, ws_assign_name, ws_assign_tup, ws_setIdx, ws_expr, ws_ret, ws_if, ws_for, ws_raise, ws_try1, we_none, we_bool, we_int, we_str, we_loc, we_glob, we_bin, we_neg, we_not, we_and, we_or, we_isNone, we_notNone, we_cmp, we_cmp2, we_tup, we_list, we_sub, we_upto, we_from, we_comp, we_compIf, we_call, we_bi, we_isi, we_meth, wes_nil, wes_cons, rho0, Rho.get, Rho.put, Rho.puts, bindT, List.map_cons, List.map_nil, List.zip_cons_cons, List.zip_nil_right, List.cons_append, List.nil_append, reduceIte, String.reduceEq, wb_add, wb_sub, wb_mul, wb_fdiv, wb_mod, wb_pow, wc_lt, wc_le, wc_gt, wc_ge, wc_eq, wc_ne, wl_scr, wl_tup, gx_calm, isiG_int, isiG_bool, isiG_list, isiG_tuple, true_or, or_true, true_and, List.length_cons, List.length_nil, List.mem_cons, List.not_mem_nil, forall_eq_or_imp, forall_eq, or_false, false_or, implies_true, and_true, Nat.reduceAdd]
  refine ⟨by decide, ?_⟩
  rcases hv with rfl | ⟨a, b, rfl, ha, hb⟩ | ⟨a, b, rfl, ha, hb⟩
  · refine e.run f_is_grid (by simp [tab]) rfl ?_
    simp only [f_is_grid, wss_nil, wss_cons, ws_assign_name, ws_assign_tup, ws_setIdx, ws_expr, ws_ret, ws_if, ws_for, ws_raise, ws_try1, we_none, we_bool, we_int, we_str, we_loc, we_glob, we_bin, we_neg, we_not, we_and, we_or, we_isNone, we_notNone, we_cmp, we_cmp2, we_tup, we_list, we_sub, we_upto, we_from, we_comp, we_compIf, we_call, we_bi, we_isi, we_meth, wes_nil, wes_cons, rho0, Rho.get, Rho.put, Rho.puts, bindT, List.map_cons, List.map_nil, List.zip_cons_cons, List.zip_nil_right, List.cons_append, List.nil_append, reduceIte, String.reduceEq, wb_add, wb_sub, wb_mul, wb_fdiv, wb_mod, wb_pow, wc_lt, wc_le, wc_gt, wc_ge, wc_eq, wc_ne, wl_scr, wl_tup, gx_calm, isiG_int, isiG_bool, isiG_list, isiG_tuple, true_or, or_true, true_and, List.length_cons, List.length_nil, List.mem_cons, List.not_mem_nil, forall_eq_or_imp, forall_eq, or_false, false_or, implies_true, and_true, Nat.reduceAdd]
    simp [isiV]
    exact k _ (.refl _)
  · have t : TbAt σ a [b] [[]] := ⟨ha, rfl, fun i b' r h1 h2 => by
      cases i with
      | zero => simp at h1 h2; subst h1 h2; exact hb
      | succ i => simp at h1⟩
    refine is_grid_gen e (h := 1) (w := 0) (by omega) (by omega) (by omega) t ⟨rfl, fun r hr => by simp at hr; subst hr; exact ⟨rfl, trivial⟩⟩ fun σ1 x1 => ?_
    exact k _ x1
  · have t : TbAt σ a [b] [[-1]] := ⟨ha, rfl, fun i b' r h1 h2 => by
      cases i with
      | zero => simp at h1 h2; subst h1 h2; exact hb
      | succ i => simp at h1⟩
    refine is_grid_ok e (h := 1) (w := 1) (by omega) (by omega) (by omega) (by omega) t ⟨rfl, fun r hr => by simp at hr; subst hr; exact ⟨rfl, trivial⟩⟩ fun σ1 x1 => ?_
    have t1 := t.ext x1
    simp only [src_l t1.1]
    refine ⟨by simp [lim], ?_⟩
    refine comp_vals (fun _ => .bool false) (fun σ' x => x _ _ t1.1) ?_ ?_
    · rintro i x σ' hx xt
      obtain ⟨b2, r2, rfl, q1, q2, q3⟩ := t1.item hx
      refine ⟨_, rfl, fun K' hK' => ?_⟩
      simp only [Tg.names, List.map_cons, List.map_nil, List.cons_append, List.nil_append, blank]
      simp only [wss_nil, wss_cons, ws_assign_name, ws_assign_tup, ws_setIdx, ws_expr, ws_ret, ws_if, ws_for, ws_raise, ws_try1, we_none, we_bool, we_int, we_str, we_loc, we_glob, we_bin, we_neg, we_not, we_and, we_or, we_isNone, we_notNone, we_cmp, we_cmp2, we_tup, we_list, we_sub, we_upto, we_from, we_comp, we_compIf, we_call, we_bi, we_isi, we_meth, wes_nil, wes_cons, Rho.get, Rho.put, Rho.puts, bindT, reduceIte, String.reduceEq, wb_add, wb_sub, wb_mul, wb_fdiv, wb_mod, wb_pow, wc_lt, wc_le, wc_gt, wc_ge, wc_eq, wc_ne, wl_scr, wl_tup, gx_calm, isiG_int, isiG_bool, isiG_list, isiG_tuple, true_or, or_true, true_and, List.length_cons, List.length_nil, List.mem_cons, List.not_mem_nil, forall_eq_or_imp, forall_eq, or_false, false_or, implies_true, and_true, Nat.reduceAdd]
      refine ⟨by decide, ?_⟩
      have hr2 : r2 = [-1] := by
        cases i with
        | zero => simp at q2; exact q2.symm
        | succ i => simp at q2
      subst hr2
      refine are_counts_no e (xt _ _ q3) hK'
    · intro σ' xt c hc
      rw [show ∀ (args : List PV) (σ : PH) (Q : Post), wbi .all args σ Q = wLst σ (fun l => oBs (fun bs => Q (.bool (bs.all id)) σ) (allBools l)) args from fun _ _ _ => rfl, wLst_at (PH.set_same _ _ _)]
      exact k _ (x1.trans (xt.trans (Ext.set hc _)))

theorem need_table_no (e : Env1 C G1 mg mb) {v : PV} (hv : NoTab σ v) (k : ∀ σ', Ext σ σ' → X ⟨"BadTable"⟩ σ') : CallOK C (n + 4) "need_table" [v] σ Q X := by
  refine e.run f_need_table (by simp [tab]) rfl ?_
  simp only [f_need_table, wss_nil, wss_cons, ws_assign_name, ws_assign_tup, ws_setIdx, ws_expr, ws_ret, ws_if, ws_for, ws_raise, ws_try1, we_none, we_bool, we_int, we_str, we_loc, we_glob, we_bin, we_neg, we_not, we_and, we_or, we_isNone, we_notNone, we_cmp, we_cmp2, we_tup, we_list, we_sub, we_upto, we_from, we_comp, we_compIf, we_call, we_bi, we_isi, we_meth, wes_nil, wes_cons, rho0, Rho.get, Rho.put, Rho.puts, bindT, List.map_cons, List.map_nil, List.zip_cons_cons, List.zip_nil_right, List.cons_append, List.nil_append, reduceIte, String.reduceEq, wb_add, wb_sub, wb_mul, wb_fdiv, wb_mod, wb_pow, wc_lt, wc_le, wc_gt, wc_ge, wc_eq, wc_ne, wl_scr, wl_tup, gx_calm, isiG_int, isiG_bool, isiG_list, isiG_tuple, true_or, or_true, true_and, List.length_cons, List.length_nil, List.mem_cons, List.not_mem_nil, forall_eq_or_imp, forall_eq, or_false, false_or, implies_true, and_true, Nat.reduceAdd]
  refine ⟨by decide, is_table_no e hv fun σ1 x1 => ?_⟩
  simp only [Bool.not_false]
  exact ⟨⟨rfl, rfl⟩, k _ x1⟩
end
end Vl
end

section
open PySem PySem.W PyProof.Rows
set_option linter.unusedVariables false
set_option linter.unusedSimpArgs false
set_option Elab.async false
set_option maxRecDepth 100000
set_option maxHeartbeats 0
namespace Vl

noncomputable def cell (rows : List (List Int)) (i j : Nat) : Int := (rows.getD i []).getD j 0
noncomputable def pv2 (p : Nat × Nat) : PV := .tup [.int p.1, .int p.2]
/-- the places of the first i rows, those that P lets in -/
noncomputable def plc (P : Nat → Nat → Bool) (w i : Nat) : List (Nat × Nat) := (List.range i).flatMap fun i => ((List.range w).filter (P i)).map fun j => (i, j)
theorem plc_succ (P : Nat → Nat → Bool) (w i : Nat) : plc P w (i + 1) = plc P w i ++ ((List.range w).filter (P i)).map fun j => (i, j) := by
  simp [plc, List.range_succ]

theorem compIf_inv {chk : PH → Prop} {tg : Tg} {ρ : Rho} {tst : Rho → PH → (Bool → PH → Prop) → Prop} {el : Rho → PH → Post → Prop} {xs : List PV} {σ : PH} {K : List PV → PH → Prop} (Inv : Nat → List PV → PH → Prop) (h0 : Inv 0 [] σ) (hchk : ∀ i acc σ, Inv i acc σ → chk σ)
    (hel : ∀ i x acc σ, xs[i]? = some x → Inv i acc σ → ∃ ρ', bindC tg x ρ = some ρ' ∧ ∀ Kb : Bool → PH → Prop,
      (∀ σ1, (∀ K' : Post, (∀ y σ2, Inv (i + 1) (acc ++ [y]) σ2 → K' y σ2) → el ρ' σ1 K') → Kb true σ1) → (∀ σ1, Inv (i + 1) acc σ1 → Kb false σ1) → tst ρ' σ Kb) (hK : ∀ acc σ, Inv xs.length acc σ → K acc σ) :
    compGo chk tg ρ tst el xs [] σ K := by
  have key : ∀ (r : List PV) (i : Nat) (acc : List PV) (σ : PH), i + r.length = xs.length → xs.drop i = r → Inv i acc σ → compGo chk tg ρ tst el r acc σ K := by
    intro r
    induction r with
    | nil =>
      intro i acc σ hi hd hI
      simp only [compGo]
      have : i = xs.length := by simpa using hi
      subst this
      exact ⟨hchk _ _ _ hI, hK _ _ hI⟩
    | cons x r ih =>
      intro i acc σ hi hd hI
      have hx : xs[i]? = some x := by
        have := congrArg List.head? hd
        rw [List.head?_drop] at this
        simpa using this
      have hd' : xs.drop (i + 1) = r := by rw [← List.drop_drop, hd]; rfl
      obtain ⟨ρ', h1, h2⟩ := hel i x acc σ hx hI
      simp only [compGo, h1]
      refine ⟨hchk _ _ _ hI, h2 _ (fun σ1 h3 => ?_) fun σ1 h3 => ?_⟩
      · simp only [if_true]
        exact h3 _ fun y σ2 hI' => ih (i + 1) (acc ++ [y]) σ2 (by simp at hi; omega) hd' hI'
      · simp only [Bool.false_eq_true, if_false]
        exact ih (i + 1) acc σ1 (by simp at hi; omega) hd' h3
  exact key xs 0 [] σ (by simp) (by simp) h0

section
variable {C : Cx} {mg mb : Str → Option Value} {n : Nat} {σ : PH} {Q : Post} {X : XPost}

theorem places_of_ok (e : Env1 C G1 mg mb) {a : Addr} {rs : List Addr} {rows : List (List Int)} {h w : Nat} (h1 : 1 ≤ h) (h8 : h ≤ 8) (w8 : w ≤ 8) (t : TbAt σ a rs rows) (hs : Shape0 rows h w)
    (k : ∀ c σ', Ext σ σ' → σ c = Option.none → σ' c = some (.list ((plc (fun _ _ => true) w h).map pv2)) → (plc (fun _ _ => true) w h).length ≤ 64 → Q (.ref c) σ') : CallOK C (n + 1) "places_of" [.ref a] σ Q X := by
  refine e.run f_places_of (by simp [tab]) rfl ?_
  have hlen : (rs.map PV.ref).length = h := by simp [t.2.1, hs.1]
  simp only [f_places_of, wss_nil, wss_cons, ws_assign_name, ws_assign_tup, ws_setIdx, ws_expr, ws_ret, ws_if, ws_for, ws_raise, ws_try1, we_none, we_bool, we_int, we_str, we_loc, we_glob, we_bin, we_neg, we_not, we_and, we_or, we_isNone, we_notNone, we_cmp, we_cmp2, we_tup, we_list, we_sub, we_upto, we_from, we_comp, we_compIf, we_call, we_bi, we_isi, we_meth, wes_nil, wes_cons, rho0, Rho.get, Rho.put, Rho.puts, bindT, List.map_cons, List.map_nil, List.zip_cons_cons, List.zip_nil_right, List.cons_append, List.nil_append, reduceIte, String.reduceEq, wb_add, wb_sub, wb_mul, wb_fdiv, wb_mod, wb_pow, wc_lt, wc_le, wc_gt, wc_ge, wc_eq, wc_ne, wl_scr, wl_tup, gx_calm, isiG_int, isiG_bool, isiG_list, isiG_tuple, true_or, or_true, true_and, List.length_cons, List.length_nil, List.mem_cons, List.not_mem_nil, forall_eq_or_imp, forall_eq, or_false, false_or, implies_true, and_true, Nat.reduceAdd]
  intro c hc
  have tc := t.ext (Ext.set hc (.list []))
  simp only [wl_list tc.1, hlen]
  refine ⟨by simp only [lim]; omega, ?_⟩
  simp only [src_r, List.length_map, List.length_range]
  refine ⟨by simp only [lim]; omega, ?_⟩
  refine for_inv (fun i ρ σ' => (∃ o1 o2, ρ = [("grid", some (.ref a)), ("found", some (.ref c)), ("row", o1), ("column", o2)]) ∧ Ext σ σ' ∧ σ' c = some (.list ((plc (fun _ _ => true) w i).map pv2)) ∧ (plc (fun _ _ => true) w i).length ≤ 8 * i) ?_ (fun _ _ _ _ => trivial) ?_ ?_
  · exact ⟨⟨_, _, rfl⟩, Ext.set hc _, PH.set_same _ _ _, by simp [plc]⟩
  · rintro i x ρ σ' hx ⟨⟨o1, o2, rfl⟩, xt, hcc, hl⟩
    obtain ⟨hlt, rfl⟩ := range_get hx
    refine ⟨_, rfl, fun Q' hQ' => ?_⟩
    simp only [wss_nil, wss_cons, ws_assign_name, ws_assign_tup, ws_setIdx, ws_expr, ws_ret, ws_if, ws_for, ws_raise, ws_try1, we_none, we_bool, we_int, we_str, we_loc, we_glob, we_bin, we_neg, we_not, we_and, we_or, we_isNone, we_notNone, we_cmp, we_cmp2, we_tup, we_list, we_sub, we_upto, we_from, we_comp, we_compIf, we_call, we_bi, we_isi, we_meth, wes_nil, wes_cons, Rho.get, Rho.put, Rho.puts, bindT, reduceIte, String.reduceEq, wb_add, wb_sub, wb_mul, wb_fdiv, wb_mod, wb_pow, wc_lt, wc_le, wc_gt, wc_ge, wc_eq, wc_ne, wl_scr, wl_tup, gx_calm, isiG_int, isiG_bool, isiG_list, isiG_tuple, true_or, or_true, true_and, List.length_cons, List.length_nil, List.mem_cons, List.not_mem_nil, forall_eq_or_imp, forall_eq, or_false, false_or, implies_true, and_true, Nat.reduceAdd]
    obtain ⟨b, r, f1, f2, f3, f4, f5, f6⟩ := (t.ext xt).first hs h1
    simp only [f5, f6]
    refine ⟨by simp only [lim]; omega, ?_⟩
    simp only [wl_list f4, List.length_map, f3]
    refine ⟨by simp only [lim]; omega, ?_⟩
    simp only [src_r, List.length_map, List.length_range]
    refine ⟨by simp only [lim]; omega, ?_⟩
    refine for_inv (fun j ρ σ2 => (∃ o2, ρ = [("grid", some (.ref a)), ("found", some (.ref c)), ("row", some (.int i)), ("column", o2)]) ∧ Ext σ σ2 ∧ σ2 c = some (.list ((plc (fun _ _ => true) w i ++ (List.range j).map fun j => (i, j)).map pv2))) ?_ (fun _ _ _ _ => trivial) ?_ ?_
    · exact ⟨⟨_, rfl⟩, xt, by simpa using hcc⟩
    · rintro j x ρ σ2 hx ⟨⟨o2, rfl⟩, x2, hc2⟩
      obtain ⟨hjl, rfl⟩ := range_get hx
      refine ⟨_, rfl, fun Q2 hQ2 => ?_⟩
      simp only [wss_nil, wss_cons, ws_assign_name, ws_assign_tup, ws_setIdx, ws_expr, ws_ret, ws_if, ws_for, ws_raise, ws_try1, we_none, we_bool, we_int, we_str, we_loc, we_glob, we_bin, we_neg, we_not, we_and, we_or, we_isNone, we_notNone, we_cmp, we_cmp2, we_tup, we_list, we_sub, we_upto, we_from, we_comp, we_compIf, we_call, we_bi, we_isi, we_meth, wes_nil, wes_cons, Rho.get, Rho.put, Rho.puts, bindT, reduceIte, String.reduceEq, wb_add, wb_sub, wb_mul, wb_fdiv, wb_mod, wb_pow, wc_lt, wc_le, wc_gt, wc_ge, wc_eq, wc_ne, wl_scr, wl_tup, gx_calm, isiG_int, isiG_bool, isiG_list, isiG_tuple, true_or, or_true, true_and, List.length_cons, List.length_nil, List.mem_cons, List.not_mem_nil, forall_eq_or_imp, forall_eq, or_false, false_or, implies_true, and_true, Nat.reduceAdd]
      refine ⟨by simp only [recv, hc2], ?_⟩
      simp only [wmeth, hc2]
      refine ⟨by simp only [List.length_map, List.length_append, List.length_range, lim]; omega, hQ2 _ _ ⟨⟨_, rfl⟩, fun b o hb => ?_, ?_⟩⟩
      · have : b ≠ c := by rintro rfl; rw [hc] at hb; cases hb
        rw [PH.set_ne _ _ this]; exact x2 _ _ hb
      · rw [PH.set_same]; simp [List.range_succ, pv2]
    · rintro ρ σ2 ⟨⟨o2, rfl⟩, x2, hc2⟩
      simp only [List.length_map, List.length_range] at hc2
      have hft : (List.range w).filter (fun _ => true) = List.range w := List.filter_eq_self.mpr fun _ _ => rfl
      refine hQ' _ _ ⟨⟨_, _, rfl⟩, x2, ?_, ?_⟩
      · rw [plc_succ, hft]; exact hc2
      · rw [plc_succ, hft]; simp; omega
  · rintro ρ σ' ⟨⟨o1, o2, rfl⟩, xt, hcc, hl⟩
    simp only [List.length_map, List.length_range] at hcc hl
    simp only [wss_nil, wss_cons, ws_assign_name, ws_assign_tup, ws_setIdx, ws_expr, ws_ret, ws_if, ws_for, ws_raise, ws_try1, we_none, we_bool, we_int, we_str, we_loc, we_glob, we_bin, we_neg, we_not, we_and, we_or, we_isNone, we_notNone, we_cmp, we_cmp2, we_tup, we_list, we_sub, we_upto, we_from, we_comp, we_compIf, we_call, we_bi, we_isi, we_meth, wes_nil, wes_cons, Rho.get, Rho.put, Rho.puts, bindT, reduceIte, String.reduceEq, wb_add, wb_sub, wb_mul, wb_fdiv, wb_mod, wb_pow, wc_lt, wc_le, wc_gt, wc_ge, wc_eq, wc_ne, wl_scr, wl_tup, gx_calm, isiG_int, isiG_bool, isiG_list, isiG_tuple, true_or, or_true, true_and, List.length_cons, List.length_nil, List.mem_cons, List.not_mem_nil, forall_eq_or_imp, forall_eq, or_false, false_or, implies_true, and_true, Nat.reduceAdd]
    exact k c σ' xt hc hcc (by omega)

theorem sub_at {a : Addr} {rs : List Addr} {rows : List (List Int)} {h w : Nat} (t : TbAt σ a rs rows) (hs : Shape0 rows h w) {i j : Nat} (hi : i < h) (hj : j < w) :
    ∃ b, psub σ (.ref a) (.int i) = some (.ref b) ∧ plen σ (.ref a) = some h ∧ psub σ (.ref b) (.int j) = some (.int (cell rows i j)) ∧ plen σ (.ref b) = some w := by
  have hir : i < rows.length := by rw [hs.1]; exact hi
  have hri : rows[i]? = some rows[i] := List.getElem?_eq_getElem hir
  have hid : i < rs.length := by rw [t.2.1]; exact hir
  have hdi : rs[i]? = some rs[i] := List.getElem?_eq_getElem hid
  have hb := t.2.2 i _ _ hdi hri
  have hw := (hs.2 _ (List.mem_of_getElem? hri)).1
  obtain ⟨p1, p2⟩ := sub_row (σ := σ) (j := j) (by rw [hw]; exact hj) hb
  refine ⟨rs[i], ?_, ?_, ?_, by rw [p2, hw]⟩
  · rw [ps_list t.1, place_in (by omega) (by simp; omega)]
    simp [hdi]
  · rw [pl_list t.1]; simp [t.2.1, hs.1]
  · rw [p1]; simp [cell, hri]

/-- a small count -/
noncomputable def smal (rows : List (List Int)) (b : Int) (i j : Nat) : Bool := decide (1 ≤ cell rows i j) && decide (cell rows i j ≤ b)

theorem is_small_ok (e : Env1 C G1 mg mb) {a : Addr} {rs : List Addr} {rows : List (List Int)} {h w : Nat} {b : Int} (h8 : h ≤ 8) (w8 : w ≤ 8) (t : TbAt σ a rs rows) (hs : Shape0 rows h w) {i j : Nat} (hi : i < h) (hj : j < w) (k : Q (.bool (smal rows b i j)) σ) :
    CallOK C (n + 1) "is_small" [.ref a, pv2 (i, j), .int b] σ Q X := by
  refine e.run f_is_small (by simp [tab]) rfl ?_
  simp only [f_is_small, wss_nil, wss_cons, ws_assign_name, ws_assign_tup, ws_setIdx, ws_expr, ws_ret, ws_if, ws_for, ws_raise, ws_try1, we_none, we_bool, we_int, we_str, we_loc, we_glob, we_bin, we_neg, we_not, we_and, we_or, we_isNone, we_notNone, we_cmp, we_cmp2, we_tup, we_list, we_sub, we_upto, we_from, we_comp, we_compIf, we_call, we_bi, we_isi, we_meth, wes_nil, wes_cons, rho0, Rho.get, Rho.put, Rho.puts, bindT, List.map_cons, List.map_nil, List.zip_cons_cons, List.zip_nil_right, List.cons_append, List.nil_append, reduceIte, String.reduceEq, wb_add, wb_sub, wb_mul, wb_fdiv, wb_mod, wb_pow, wc_lt, wc_le, wc_gt, wc_ge, wc_eq, wc_ne, wl_scr, wl_tup, gx_calm, isiG_int, isiG_bool, isiG_list, isiG_tuple, true_or, or_true, true_and, List.length_cons, List.length_nil, List.mem_cons, List.not_mem_nil, forall_eq_or_imp, forall_eq, or_false, false_or, implies_true, and_true, Nat.reduceAdd]
  obtain ⟨d, p1, p2, p3, p4⟩ := sub_at t hs hi hj
  have q0 : psub σ (pv2 (i, j)) (.int 0) = some (.int i) := rfl
  have q1 : psub σ (pv2 (i, j)) (.int 1) = some (.int j) := rfl
  have q2 : plen σ (pv2 (i, j)) = some 2 := rfl
  simp only [q0, q1, q2, p1, p2, p3, p4]
  refine ⟨by decide, by simp only [lim]; omega, by decide, by simp only [lim]; omega, ?_⟩
  simp only [wc_le]
  unfold smal at k
  by_cases c1 : 1 ≤ cell rows i j
  · simp only [c1, decide_true, if_true, Bool.true_and] at k ⊢
    exact k
  · simp only [c1, decide_false, Bool.false_eq_true, if_false, Bool.false_and] at k ⊢
    exact k
end
end Vl
end

section
open PySem PySem.W PyProof.Rows
set_option linter.unusedVariables false
set_option linter.unusedSimpArgs false
set_option Elab.async false
set_option maxRecDepth 100000
set_option maxHeartbeats 0
namespace Vl

theorem plc_mem {P : Nat → Nat → Bool} {w h : Nat} {p : Nat × Nat} (hp : p ∈ plc P w h) : p.1 < h ∧ p.2 < w := by
  simp only [plc, List.mem_flatMap, List.mem_map, List.mem_filter, List.mem_range] at hp
  obtain ⟨i, hi, j, ⟨hj, _⟩, rfl⟩ := hp
  exact ⟨hi, hj⟩
theorem plc_filter (P : Nat → Nat → Bool) (w : Nat) : ∀ h, (plc (fun _ _ => true) w h).filter (fun p => P p.1 p.2) = plc P w h
  | 0 => rfl
  | h + 1 => by
    rw [plc_succ, plc_succ, List.filter_append, plc_filter P w h, List.filter_eq_self.mpr (fun _ _ => rfl), List.filter_map]
    rfl
theorem plc_len {P : Nat → Nat → Bool} {w : Nat} (w8 : w ≤ 8) : ∀ h, (plc P w h).length ≤ 8 * h
  | 0 => by simp [plc]
  | h + 1 => by
    rw [plc_succ, List.length_append, List.length_map]
    have := plc_len (P := P) w8 h
    have := List.length_filter_le (P h) (List.range w)
    simp at this
    omega

section
variable {C : Cx} {mg mb : Str → Option Value} {n : Nat} {σ : PH} {Q : Post} {X : XPost}

theorem small_places_ok (e : Env1 C G1 mg mb) {a : Addr} {rs : List Addr} {rows : List (List Int)} {h w : Nat} {b : Int} (hb : 1 ≤ b) (h1 : 1 ≤ h) (h8 : h ≤ 8) (w1 : 1 ≤ w) (w8 : w ≤ 8) (t : TbAt σ a rs rows) (hs : Shape rows h w)
    (k : ∀ d σ', Ext σ σ' → σ d = Option.none → σ' d = some (.list ((plc (smal rows b) w h).map pv2)) → Q (.ref d) σ') : CallOK C (n + 5) "small_places" [.ref a, .int b] σ Q X := by
  refine e.run f_small_places (by simp [tab]) rfl ?_
  simp only [f_small_places, wss_nil, wss_cons, ws_assign_name, ws_assign_tup, ws_setIdx, ws_expr, ws_ret, ws_if, ws_for, ws_raise, ws_try1, we_none, we_bool, we_int, we_str, we_loc, we_glob, we_bin, we_neg, we_not, we_and, we_or, we_isNone, we_notNone, we_cmp, we_cmp2, we_tup, we_list, we_sub, we_upto, we_from, we_comp, we_compIf, we_call, we_bi, we_isi, we_meth, wes_nil, wes_cons, rho0, Rho.get, Rho.put, Rho.puts, bindT, List.map_cons, List.map_nil, List.zip_cons_cons, List.zip_nil_right, List.cons_append, List.nil_append, reduceIte, String.reduceEq, wb_add, wb_sub, wb_mul, wb_fdiv, wb_mod, wb_pow, wc_lt, wc_le, wc_gt, wc_ge, wc_eq, wc_ne, wl_scr, wl_tup, gx_calm, isiG_int, isiG_bool, isiG_list, isiG_tuple, true_or, or_true, true_and, List.length_cons, List.length_nil, List.mem_cons, List.not_mem_nil, forall_eq_or_imp, forall_eq, or_false, false_or, implies_true, and_true, Nat.reduceAdd]
  refine ⟨by decide, need_table_ok e h1 h8 w1 w8 t hs fun σ1 x1 => ?_⟩
  refine ⟨by decide, need_number_ok (n := n + 2) e hb ?_⟩
  refine ⟨by decide, places_of_ok (n := n + 3) e h1 h8 w8 (t.ext x1) hs.s0 fun c σ2 x2 hc hcc hl => ?_⟩
  simp only [src_l hcc, List.length_map]
  refine ⟨by simp only [lim]; omega, ?_⟩
  refine compIf_inv (fun i acc σ' => Ext σ2 σ' ∧ acc = (((plc (fun _ _ => true) w h).take i).filter fun p => smal rows b p.1 p.2).map pv2) ⟨.refl _, rfl⟩ (fun i acc σ' hI => hI.1 _ _ hcc) ?_ ?_
  · rintro i x acc σ' hx ⟨x3, rfl⟩
    rw [List.getElem?_map] at hx
    obtain ⟨p, hp, rfl⟩ := Option.map_eq_some_iff.mp hx
    obtain ⟨m1, m2⟩ := plc_mem (List.mem_of_getElem? hp)
    have htk : (plc (fun _ _ => true) w h).take (i + 1) = (plc (fun _ _ => true) w h).take i ++ [p] := by
      rw [List.take_succ, hp]; rfl
    refine ⟨_, rfl, fun Kb h1 h2 => ?_⟩
    simp only [Tg.names, List.map_cons, List.map_nil, List.cons_append, List.nil_append, blank]
    simp only [wss_nil, wss_cons, ws_assign_name, ws_assign_tup, ws_setIdx, ws_expr, ws_ret, ws_if, ws_for, ws_raise, ws_try1, we_none, we_bool, we_int, we_str, we_loc, we_glob, we_bin, we_neg, we_not, we_and, we_or, we_isNone, we_notNone, we_cmp, we_cmp2, we_tup, we_list, we_sub, we_upto, we_from, we_comp, we_compIf, we_call, we_bi, we_isi, we_meth, wes_nil, wes_cons, Rho.get, Rho.put, Rho.puts, bindT, reduceIte, String.reduceEq, wb_add, wb_sub, wb_mul, wb_fdiv, wb_mod, wb_pow, wc_lt, wc_le, wc_gt, wc_ge, wc_eq, wc_ne, wl_scr, wl_tup, gx_calm, isiG_int, isiG_bool, isiG_list, isiG_tuple, true_or, or_true, true_and, List.length_cons, List.length_nil, List.mem_cons, List.not_mem_nil, forall_eq_or_imp, forall_eq, or_false, false_or, implies_true, and_true, Nat.reduceAdd]
    refine ⟨by decide, is_small_ok (n := n + 3) (i := p.1) (j := p.2) e h8 w8 (t.ext (x1.trans (x2.trans x3))) hs.s0 m1 m2 ?_⟩
    cases hsm : smal rows b p.1 p.2 with
    | true =>
      refine h1 _ fun K' hK' => hK' _ _ ⟨x3, ?_⟩
      rw [htk]; simp [hsm]
    | false =>
      refine h2 _ ⟨x3, ?_⟩
      rw [htk]; simp [hsm]
  · rintro acc σ' ⟨x3, rfl⟩ d hd
    simp only [List.length_map] 
    have xx := x1.trans (x2.trans x3)
    refine k d _ (xx.trans (Ext.set hd _)) (xx.fresh hd) ?_
    rw [PH.set_same, List.take_of_length_le (by simp), plc_filter]

/-- no table, or no number -/
theorem small_places_noT (e : Env1 C G1 mg mb) {v b : PV} (hv : NoTab σ v) (k : ∀ σ', Ext σ σ' → X ⟨"BadTable"⟩ σ') : CallOK C (n + 5) "small_places" [v, b] σ Q X := by
  refine e.run f_small_places (by simp [tab]) rfl ?_
  simp only [f_small_places, wss_nil, wss_cons, ws_assign_name, ws_assign_tup, ws_setIdx, ws_expr, ws_ret, ws_if, ws_for, ws_raise, ws_try1, we_none, we_bool, we_int, we_str, we_loc, we_glob, we_bin, we_neg, we_not, we_and, we_or, we_isNone, we_notNone, we_cmp, we_cmp2, we_tup, we_list, we_sub, we_upto, we_from, we_comp, we_compIf, we_call, we_bi, we_isi, we_meth, wes_nil, wes_cons, rho0, Rho.get, Rho.put, Rho.puts, bindT, List.map_cons, List.map_nil, List.zip_cons_cons, List.zip_nil_right, List.cons_append, List.nil_append, reduceIte, String.reduceEq, wb_add, wb_sub, wb_mul, wb_fdiv, wb_mod, wb_pow, wc_lt, wc_le, wc_gt, wc_ge, wc_eq, wc_ne, wl_scr, wl_tup, gx_calm, isiG_int, isiG_bool, isiG_list, isiG_tuple, true_or, or_true, true_and, List.length_cons, List.length_nil, List.mem_cons, List.not_mem_nil, forall_eq_or_imp, forall_eq, or_false, false_or, implies_true, and_true, Nat.reduceAdd]
  exact ⟨by decide, need_table_no e hv k⟩
theorem small_places_noN (e : Env1 C G1 mg mb) {a : Addr} {rs : List Addr} {rows : List (List Int)} {h w : Nat} {v : PV} (hv : ∀ σ', Ext σ σ' → NoCnt σ' v ∨ v = .int 0) (h1 : 1 ≤ h) (h8 : h ≤ 8) (w1 : 1 ≤ w) (w8 : w ≤ 8) (t : TbAt σ a rs rows) (hs : Shape rows h w)
    (k : ∀ σ', Ext σ σ' → X ⟨"BadNumber"⟩ σ') : CallOK C (n + 5) "small_places" [.ref a, v] σ Q X := by
  refine e.run f_small_places (by simp [tab]) rfl ?_
  simp only [f_small_places, wss_nil, wss_cons, ws_assign_name, ws_assign_tup, ws_setIdx, ws_expr, ws_ret, ws_if, ws_for, ws_raise, ws_try1, we_none, we_bool, we_int, we_str, we_loc, we_glob, we_bin, we_neg, we_not, we_and, we_or, we_isNone, we_notNone, we_cmp, we_cmp2, we_tup, we_list, we_sub, we_upto, we_from, we_comp, we_compIf, we_call, we_bi, we_isi, we_meth, wes_nil, wes_cons, rho0, Rho.get, Rho.put, Rho.puts, bindT, List.map_cons, List.map_nil, List.zip_cons_cons, List.zip_nil_right, List.cons_append, List.nil_append, reduceIte, String.reduceEq, wb_add, wb_sub, wb_mul, wb_fdiv, wb_mod, wb_pow, wc_lt, wc_le, wc_gt, wc_ge, wc_eq, wc_ne, wl_scr, wl_tup, gx_calm, isiG_int, isiG_bool, isiG_list, isiG_tuple, true_or, or_true, true_and, List.length_cons, List.length_nil, List.mem_cons, List.not_mem_nil, forall_eq_or_imp, forall_eq, or_false, false_or, implies_true, and_true, Nat.reduceAdd]
  refine ⟨by decide, need_table_ok e h1 h8 w1 w8 t hs fun σ1 x1 => ?_⟩
  exact ⟨by decide, need_number_no (n := n + 2) e (hv _ x1) (k _ x1)⟩
end
end Vl
end

section
open PySem PySem.W PyProof.Rows
set_option linter.unusedVariables false
set_option linter.unusedSimpArgs false
set_option Elab.async false
set_option maxRecDepth 100000
set_option maxHeartbeats 0
namespace Vl
section
variable {C : Cx} {mg mb : Str → Option Value} {n : Nat} {σ : PH} {Q : Post} {X : XPost}

theorem bound_ok (e : Env1 C G1 mg mb) {ns : List Int} (hns : ns.length ≤ 63) (k : ∀ b : Int, 1 ≤ b → Q (.int b) σ) : CallOK C (n + 2) "_law_bound" [.scr ns] σ Q X := by
  refine e.run f__law_bound (by simp [tab]) rfl ?_
  simp only [f__law_bound, wss_nil, wss_cons, ws_assign_name, ws_assign_tup, ws_setIdx, ws_expr, ws_ret, ws_if, ws_for, ws_raise, ws_try1, we_none, we_bool, we_int, we_str, we_loc, we_glob, we_bin, we_neg, we_not, we_and, we_or, we_isNone, we_notNone, we_cmp, we_cmp2, we_tup, we_list, we_sub, we_upto, we_from, we_comp, we_compIf, we_call, we_bi, we_isi, we_meth, wes_nil, wes_cons, rho0, Rho.get, Rho.put, Rho.puts, bindT, List.map_cons, List.map_nil, List.zip_cons_cons, List.zip_nil_right, List.cons_append, List.nil_append, reduceIte, String.reduceEq, wb_add, wb_sub, wb_mul, wb_fdiv, wb_mod, wb_pow, wc_lt, wc_le, wc_gt, wc_ge, wc_eq, wc_ne, wl_scr, wl_tup, gx_calm, isiG_int, isiG_bool, isiG_list, isiG_tuple, true_or, or_true, true_and, List.length_cons, List.length_nil, List.mem_cons, List.not_mem_nil, forall_eq_or_imp, forall_eq, or_false, false_or, implies_true, and_true, Nat.reduceAdd]
  refine ⟨by decide, mix_ok e hns fun m h0 h1 => ?_⟩
  simp only [wss_nil, wss_cons, ws_assign_name, ws_assign_tup, ws_setIdx, ws_expr, ws_ret, ws_if, ws_for, ws_raise, ws_try1, we_none, we_bool, we_int, we_str, we_loc, we_glob, we_bin, we_neg, we_not, we_and, we_or, we_isNone, we_notNone, we_cmp, we_cmp2, we_tup, we_list, we_sub, we_upto, we_from, we_comp, we_compIf, we_call, we_bi, we_isi, we_meth, wes_nil, wes_cons, Rho.get, Rho.put, Rho.puts, bindT, reduceIte, String.reduceEq, wb_add, wb_sub, wb_mul, wb_fdiv, wb_mod, wb_pow, wc_lt, wc_le, wc_gt, wc_ge, wc_eq, wc_ne, wl_scr, wl_tup, gx_calm, isiG_int, isiG_bool, isiG_list, isiG_tuple, true_or, or_true, true_and, List.length_cons, List.length_nil, List.mem_cons, List.not_mem_nil, forall_eq_or_imp, forall_eq, or_false, false_or, implies_true, and_true, Nat.reduceAdd]
  refine ⟨by decide, ?_⟩
  by_cases hm : m.fmod 5 = 0
  · have hd : decide (m.fmod 5 = 0) = true := decide_eq_true hm
    simp only [hd]
    refine ⟨by decide, by decide, by decide, by decide, by decide, by decide, ?_⟩
    refine k _ ?_
    have := Int.fmod_nonneg_of_pos (m.fdiv 5) (show (0 : Int) < 10 ^ Int.toNat 9 by decide)
    omega
  · have hd : decide (m.fmod 5 = 0) = false := decide_eq_false hm
    simp only [hd]
    refine ⟨by decide, by decide, by decide, ?_⟩
    refine k _ ?_
    have := Int.fmod_nonneg_of_pos (m.fdiv 5) (show (0 : Int) < 4 by decide)
    omega

theorem due_ok (e : Env1 C G1 mg mb) {a : Addr} {rs : List Addr} {rows : List (List Int)} {h w : Nat} {b : Int} (h1 : 1 ≤ h) (h8 : h ≤ 8) (w8 : w ≤ 8) (t : TbAt σ a rs rows) (hs : Shape0 rows h w)
    (k : ∀ c σ', Ext σ σ' → σ c = Option.none → σ' c = some (.list ((plc (smal rows b) w h).map pv2)) → Q (.ref c) σ') : CallOK C (n + 1) "_law_due" [.ref a, .int b] σ Q X := by
  refine e.run f__law_due (by simp [tab]) rfl ?_
  have hlen : (rs.map PV.ref).length = h := by simp [t.2.1, hs.1]
  simp only [f__law_due, wss_nil, wss_cons, ws_assign_name, ws_assign_tup, ws_setIdx, ws_expr, ws_ret, ws_if, ws_for, ws_raise, ws_try1, we_none, we_bool, we_int, we_str, we_loc, we_glob, we_bin, we_neg, we_not, we_and, we_or, we_isNone, we_notNone, we_cmp, we_cmp2, we_tup, we_list, we_sub, we_upto, we_from, we_comp, we_compIf, we_call, we_bi, we_isi, we_meth, wes_nil, wes_cons, rho0, Rho.get, Rho.put, Rho.puts, bindT, List.map_cons, List.map_nil, List.zip_cons_cons, List.zip_nil_right, List.cons_append, List.nil_append, reduceIte, String.reduceEq, wb_add, wb_sub, wb_mul, wb_fdiv, wb_mod, wb_pow, wc_lt, wc_le, wc_gt, wc_ge, wc_eq, wc_ne, wl_scr, wl_tup, gx_calm, isiG_int, isiG_bool, isiG_list, isiG_tuple, true_or, or_true, true_and, List.length_cons, List.length_nil, List.mem_cons, List.not_mem_nil, forall_eq_or_imp, forall_eq, or_false, false_or, implies_true, and_true, Nat.reduceAdd]
  intro c hc
  have tc := t.ext (Ext.set hc (.list []))
  simp only [wl_list tc.1, hlen]
  refine ⟨by simp only [lim]; omega, ?_⟩
  simp only [src_r, List.length_map, List.length_range]
  refine ⟨by simp only [lim]; omega, ?_⟩
  refine for_inv (fun i ρ σ' => (∃ o1 o2, ρ = [("_law_table_here", some (.ref a)), ("_law_bound_here", some (.int b)), ("_law_found", some (.ref c)), ("_law_row", o1), ("_law_column", o2)]) ∧ Ext σ σ' ∧ σ' c = some (.list ((plc (smal rows b) w i).map pv2))) ?_ (fun _ _ _ _ => trivial) ?_ ?_
  · exact ⟨⟨_, _, rfl⟩, Ext.set hc _, PH.set_same _ _ _⟩
  · rintro i x ρ σ' hx ⟨⟨o1, o2, rfl⟩, xt, hcc⟩
    obtain ⟨hlt, rfl⟩ := range_get hx
    have hl := plc_len (P := smal rows b) w8 i
    refine ⟨_, rfl, fun Q' hQ' => ?_⟩
    simp only [wss_nil, wss_cons, ws_assign_name, ws_assign_tup, ws_setIdx, ws_expr, ws_ret, ws_if, ws_for, ws_raise, ws_try1, we_none, we_bool, we_int, we_str, we_loc, we_glob, we_bin, we_neg, we_not, we_and, we_or, we_isNone, we_notNone, we_cmp, we_cmp2, we_tup, we_list, we_sub, we_upto, we_from, we_comp, we_compIf, we_call, we_bi, we_isi, we_meth, wes_nil, wes_cons, Rho.get, Rho.put, Rho.puts, bindT, reduceIte, String.reduceEq, wb_add, wb_sub, wb_mul, wb_fdiv, wb_mod, wb_pow, wc_lt, wc_le, wc_gt, wc_ge, wc_eq, wc_ne, wl_scr, wl_tup, gx_calm, isiG_int, isiG_bool, isiG_list, isiG_tuple, true_or, or_true, true_and, List.length_cons, List.length_nil, List.mem_cons, List.not_mem_nil, forall_eq_or_imp, forall_eq, or_false, false_or, implies_true, and_true, Nat.reduceAdd]
    obtain ⟨b', r, f1, f2, f3, f4, f5, f6⟩ := (t.ext xt).first hs h1
    simp only [f5, f6]
    refine ⟨by simp only [lim]; omega, ?_⟩
    simp only [wl_list f4, List.length_map, f3]
    refine ⟨by simp only [lim]; omega, ?_⟩
    simp only [src_r, List.length_map, List.length_range]
    refine ⟨by simp only [lim]; omega, ?_⟩
    refine for_inv (fun j ρ σ2 => (∃ o2, ρ = [("_law_table_here", some (.ref a)), ("_law_bound_here", some (.int b)), ("_law_found", some (.ref c)), ("_law_row", some (.int i)), ("_law_column", o2)]) ∧ Ext σ σ2 ∧
      σ2 c = some (.list ((plc (smal rows b) w i ++ ((List.range j).filter (smal rows b i)).map fun j => (i, j)).map pv2))) ?_ (fun _ _ _ _ => trivial) ?_ ?_
    · exact ⟨⟨_, rfl⟩, xt, by simpa using hcc⟩
    · rintro j x ρ σ2 hx ⟨⟨o2, rfl⟩, x2, hc2⟩
      obtain ⟨hjl, rfl⟩ := range_get hx
      refine ⟨_, rfl, fun Q2 hQ2 => ?_⟩
      simp only [wss_nil, wss_cons, ws_assign_name, ws_assign_tup, ws_setIdx, ws_expr, ws_ret, ws_if, ws_for, ws_raise, ws_try1, we_none, we_bool, we_int, we_str, we_loc, we_glob, we_bin, we_neg, we_not, we_and, we_or, we_isNone, we_notNone, we_cmp, we_cmp2, we_tup, we_list, we_sub, we_upto, we_from, we_comp, we_compIf, we_call, we_bi, we_isi, we_meth, wes_nil, wes_cons, Rho.get, Rho.put, Rho.puts, bindT, reduceIte, String.reduceEq, wb_add, wb_sub, wb_mul, wb_fdiv, wb_mod, wb_pow, wc_lt, wc_le, wc_gt, wc_ge, wc_eq, wc_ne, wl_scr, wl_tup, gx_calm, isiG_int, isiG_bool, isiG_list, isiG_tuple, true_or, or_true, true_and, List.length_cons, List.length_nil, List.mem_cons, List.not_mem_nil, forall_eq_or_imp, forall_eq, or_false, false_or, implies_true, and_true, Nat.reduceAdd]
      obtain ⟨d, p1, p2, p3, p4⟩ := sub_at (t.ext x2) hs hlt hjl
      simp only [p1, p2, p3, p4]
      have hfl := List.length_filter_le (smal rows b i) (List.range j)
      simp only [List.length_range] at hfl
      refine ⟨by simp only [lim]; omega, by simp only [lim]; omega, ?_⟩
      have skip : smal rows b i j = false → Q2 .next [("_law_table_here", some (.ref a)), ("_law_bound_here", some (.int b)), ("_law_found", some (.ref c)), ("_law_row", some (.int i)), ("_law_column", some (.int j))] σ2 := fun hsm =>
        hQ2 _ _ ⟨⟨_, rfl⟩, x2, by rw [List.range_succ, List.filter_append]; simpa [hsm] using hc2⟩
      by_cases c1 : cell rows i j > 0
      · simp only [wc_gt, c1, decide_true, p1, p2, p3, p4]
        refine ⟨by simp only [lim]; omega, by simp only [lim]; omega, ?_⟩
        by_cases c2 : cell rows i j ≤ b
        · simp only [wc_le, c2, decide_true]
          have hsm : smal rows b i j = true := by
            have : 1 ≤ cell rows i j := by omega
            simp [smal, this, c2]
          refine ⟨by simp only [recv, hc2], ?_⟩
          simp only [wmeth, hc2]
          refine ⟨by simp only [List.length_map, List.length_append, lim]; omega, hQ2 _ _ ⟨⟨_, rfl⟩, fun b o hb => ?_, ?_⟩⟩
          · have : b ≠ c := by rintro rfl; rw [hc] at hb; cases hb
            rw [PH.set_ne _ _ this]; exact x2 _ _ hb
          · rw [PH.set_same, List.range_succ, List.filter_append]; simp [hsm, pv2]
        · simp only [wc_le, c2, decide_false]
          exact skip (by simp [smal, c2])
      · simp only [wc_gt, c1, decide_false]
        exact skip (by have : ¬ (1 ≤ cell rows i j) := by omega
                       simp [smal, this])
    · rintro ρ σ2 ⟨⟨o2, rfl⟩, x2, hc2⟩
      simp only [List.length_map, List.length_range] at hc2
      exact hQ' _ _ ⟨⟨_, _, rfl⟩, x2, by rw [plc_succ]; exact hc2⟩
  · rintro ρ σ' ⟨⟨o1, o2, rfl⟩, xt, hcc⟩
    simp only [List.length_map, List.length_range] at hcc
    simp only [wss_nil, wss_cons, ws_assign_name, ws_assign_tup, ws_setIdx, ws_expr, ws_ret, ws_if, ws_for, ws_raise, ws_try1, we_none, we_bool, we_int, we_str, we_loc, we_glob, we_bin, we_neg, we_not, we_and, we_or, we_isNone, we_notNone, we_cmp, we_cmp2, we_tup, we_list, we_sub, we_upto, we_from, we_comp, we_compIf, we_call, we_bi, we_isi, we_meth, wes_nil, wes_cons, Rho.get, Rho.put, Rho.puts, bindT, reduceIte, String.reduceEq, wb_add, wb_sub, wb_mul, wb_fdiv, wb_mod, wb_pow, wc_lt, wc_le, wc_gt, wc_ge, wc_eq, wc_ne, wl_scr, wl_tup, gx_calm, isiG_int, isiG_bool, isiG_list, isiG_tuple, true_or, or_true, true_and, List.length_cons, List.length_nil, List.mem_cons, List.not_mem_nil, forall_eq_or_imp, forall_eq, or_false, false_or, implies_true, and_true, Nat.reduceAdd]
    exact k c σ' xt hc hcc
end
end Vl
end

section
open PySem PySem.W PyProof.Rows
set_option linter.unusedVariables false
set_option linter.unusedSimpArgs false
set_option Elab.async false
set_option maxRecDepth 100000
set_option maxHeartbeats 0
namespace Vl

noncomputable def dP (l : List (Nat × Nat)) : PyData := .list (l.map fun p => .tuple [.int p.1, .int p.2])
theorem rd_P {σ : PH} : ∀ l : List (Nat × Nat), Rds σ (l.map fun p => .tuple [.int p.1, .int p.2]) (l.map pv2)
  | [] => rfl
  | x :: r => ⟨_, _, rfl, ⟨_, rfl, _, _, rfl, rfl, _, _, rfl, rfl, rfl⟩, rd_P r⟩
theorem lay_P : ∀ l : List (Nat × Nat), PyData.canLayAll0 (l.map fun p => .tuple [.int p.1, .int p.2]) = true
  | [] => rfl
  | x :: r => by simp only [List.map_cons, PyData.canLayAll0, PyData.canLay0, lay_P r]; rfl
theorem depth_P : ∀ l : List (Nat × Nat), PyData.depthAll (l.map fun p => .tuple [.int p.1, .int p.2]) ≤ 2
  | [] => by simp [PyData.depthAll]
  | x :: r => by have := depth_P r; simp only [List.map_cons, PyData.depthAll, PyData.depth]; omega
theorem ok_P (l : List (Nat × Nat)) : okD (dP l) := ⟨lay_P l, by simp only [dP, PyData.depth]; have := depth_P l; omega⟩
theorem src_t {σ : PH} (l : List PV) : src .val [.tup l] σ = some (l, fun _ => True) := rfl

theorem isiG_exc {G : Gx} {σ : PH} {a : Addr} {c : String} {ts : List String} (h : σ a = some (.exc c)) (hall : ts.all G.isCls = true) : isiG G σ (.ref a) ts = some (ts.any (G.sub c)) := by
  have hx : excV σ (.ref a) = true := by simp [excV, h]
  simp only [isiG, hx, Bool.or_true, if_true, isiV, h, hall]

section
variable {C : Cx} {mg mb : Str → Option Value} {n : Nat} {σ : PH} {Q : Post} {X : XPost}

theorem told_ok (e : Env1 C G1 mg mb) {a d : Addr} {l : List (Nat × Nat)} (hl : l.length ≤ 64) (ha : σ a = some (.list (l.map pv2))) (hd : σ d = some (.list (l.map pv2))) (k : ∀ σ', Ext σ σ' → Q (.bool true) σ') : CallOK C (n + 1) "_law_told" [.ref a, .ref d] σ Q X := by
  refine e.run f__law_told (by simp [tab]) rfl ?_
  simp only [f__law_told, wss_nil, wss_cons, ws_assign_name, ws_assign_tup, ws_setIdx, ws_expr, ws_ret, ws_if, ws_for, ws_raise, ws_try1, we_none, we_bool, we_int, we_str, we_loc, we_glob, we_bin, we_neg, we_not, we_and, we_or, we_isNone, we_notNone, we_cmp, we_cmp2, we_tup, we_list, we_sub, we_upto, we_from, we_comp, we_compIf, we_call, we_bi, we_isi, we_meth, wes_nil, wes_cons, rho0, Rho.get, Rho.put, Rho.puts, bindT, List.map_cons, List.map_nil, List.zip_cons_cons, List.zip_nil_right, List.cons_append, List.nil_append, reduceIte, String.reduceEq, wb_add, wb_sub, wb_mul, wb_fdiv, wb_mod, wb_pow, wc_lt, wc_le, wc_gt, wc_ge, wc_eq, wc_ne, wl_scr, wl_tup, gx_calm, isiG_int, isiG_bool, isiG_list, isiG_tuple, true_or, or_true, true_and, List.length_cons, List.length_nil, List.mem_cons, List.not_mem_nil, forall_eq_or_imp, forall_eq, or_false, false_or, implies_true, and_true, Nat.reduceAdd]
  have h1 : isiV G1 σ (.ref a) ["list"] = some true := by simp only [isiV, ha]; rfl
  simp only [h1, Bool.not_true]
  refine ⟨dP l, dP l, ⟨a, _, rfl, ha, rd_P l⟩, ⟨d, _, rfl, hd, rd_P l⟩, ok_P l, ok_P l, ?_⟩
  rw [SeqAt.eqv_refl _ (ok_P l).1]
  simp only [Bool.not_true]
  simp only [src_l ha]
  refine ⟨by simp only [lim, List.length_map]; omega, ?_⟩
  refine for_inv (fun i ρ σ' => (∃ o, ρ = [("_law_found", some (.ref a)), ("_law_due_here", some (.ref d)), ("_law_place", o)]) ∧ Ext σ σ') ⟨⟨_, rfl⟩, .refl _⟩ (fun i ρ σ' hI => hI.2 _ _ ha) ?_ ?_
  · rintro i x ρ σ' hx ⟨⟨o, rfl⟩, xt⟩
    rw [List.getElem?_map] at hx
    obtain ⟨p, hp, rfl⟩ := Option.map_eq_some_iff.mp hx
    refine ⟨_, rfl, fun Q' hQ' => ?_⟩
    simp only [pv2]
    simp only [wss_nil, wss_cons, ws_assign_name, ws_assign_tup, ws_setIdx, ws_expr, ws_ret, ws_if, ws_for, ws_raise, ws_try1, we_none, we_bool, we_int, we_str, we_loc, we_glob, we_bin, we_neg, we_not, we_and, we_or, we_isNone, we_notNone, we_cmp, we_cmp2, we_tup, we_list, we_sub, we_upto, we_from, we_comp, we_compIf, we_call, we_bi, we_isi, we_meth, wes_nil, wes_cons, Rho.get, Rho.put, Rho.puts, bindT, reduceIte, String.reduceEq, wb_add, wb_sub, wb_mul, wb_fdiv, wb_mod, wb_pow, wc_lt, wc_le, wc_gt, wc_ge, wc_eq, wc_ne, wl_scr, wl_tup, gx_calm, isiG_int, isiG_bool, isiG_list, isiG_tuple, true_or, or_true, true_and, List.length_cons, List.length_nil, List.mem_cons, List.not_mem_nil, forall_eq_or_imp, forall_eq, or_false, false_or, implies_true, and_true, Nat.reduceAdd]
    have h2 : isiV G1 σ' (.tup [.int p.1, .int p.2]) ["tuple"] = some true := rfl
    simp only [h2, Bool.not_true, src_t]
    refine ⟨by decide, ?_⟩
    have hd2 : decide ((((2 : Nat) : Int)) = 2) = true := by decide
    simp only [hd2, Bool.not_true]
    refine ⟨by simp [lim], ?_⟩
    refine comp_vals (fun _ => .bool false) (fun _ _ => trivial) ?_ ?_
    · rintro i2 y σ2 hy x2
      refine ⟨_, rfl, fun K' hK' => ?_⟩
      simp only [Tg.names, List.map_cons, List.map_nil, List.cons_append, List.nil_append, blank]
      have hyi : ∃ z : Int, y = .int z := by
        rcases i2 with _ | _ | i2
        · simp at hy; exact ⟨_, hy.symm⟩
        · simp at hy; exact ⟨_, hy.symm⟩
        · simp at hy
      obtain ⟨z, rfl⟩ := hyi
      simp only [wss_nil, wss_cons, ws_assign_name, ws_assign_tup, ws_setIdx, ws_expr, ws_ret, ws_if, ws_for, ws_raise, ws_try1, we_none, we_bool, we_int, we_str, we_loc, we_glob, we_bin, we_neg, we_not, we_and, we_or, we_isNone, we_notNone, we_cmp, we_cmp2, we_tup, we_list, we_sub, we_upto, we_from, we_comp, we_compIf, we_call, we_bi, we_isi, we_meth, wes_nil, wes_cons, Rho.get, Rho.put, Rho.puts, bindT, reduceIte, String.reduceEq, wb_add, wb_sub, wb_mul, wb_fdiv, wb_mod, wb_pow, wc_lt, wc_le, wc_gt, wc_ge, wc_eq, wc_ne, wl_scr, wl_tup, gx_calm, isiG_int, isiG_bool, isiG_list, isiG_tuple, true_or, or_true, true_and, List.length_cons, List.length_nil, List.mem_cons, List.not_mem_nil, forall_eq_or_imp, forall_eq, or_false, false_or, implies_true, and_true, Nat.reduceAdd]
      simp [isiV]
      exact hK' _ (.refl _)
    · intro σ2 x2 c hc
      rw [show ∀ (args : List PV) (σ : PH) (Q : Post), wbi .any args σ Q = wLst σ (fun l => oBs (fun bs => Q (.bool (bs.any id)) σ) (allBools l)) args from fun _ _ _ => rfl, wLst_at (PH.set_same _ _ _)]
      exact hQ' _ _ ⟨⟨_, rfl⟩, xt.trans (x2.trans (Ext.set hc _))⟩
  · rintro ρ σ' ⟨⟨o, rfl⟩, xt⟩
    simp only [wss_nil, wss_cons, ws_assign_name, ws_assign_tup, ws_setIdx, ws_expr, ws_ret, ws_if, ws_for, ws_raise, ws_try1, we_none, we_bool, we_int, we_str, we_loc, we_glob, we_bin, we_neg, we_not, we_and, we_or, we_isNone, we_notNone, we_cmp, we_cmp2, we_tup, we_list, we_sub, we_upto, we_from, we_comp, we_compIf, we_call, we_bi, we_isi, we_meth, wes_nil, wes_cons, Rho.get, Rho.put, Rho.puts, bindT, reduceIte, String.reduceEq, wb_add, wb_sub, wb_mul, wb_fdiv, wb_mod, wb_pow, wc_lt, wc_le, wc_gt, wc_ge, wc_eq, wc_ne, wl_scr, wl_tup, gx_calm, isiG_int, isiG_bool, isiG_list, isiG_tuple, true_or, or_true, true_and, List.length_cons, List.length_nil, List.mem_cons, List.not_mem_nil, forall_eq_or_imp, forall_eq, or_false, false_or, implies_true, and_true, Nat.reduceAdd]
    exact k _ xt

theorem classes_ok (e : Env1 C G1.un mg mb) {a : Addr} {c : String} (ha : σ a = some (.exc c)) (hc : c = "BadTable" ∨ c = "BadNumber") (k : ∀ d σ', Ext σ σ' → σ' d = some (.list [.bool (c == "BadTable"), .bool (c == "BadNumber")]) → Q (.ref d) σ') :
    CallOK C (n + 1) "_law_classes" [.ref a] σ Q X := by
  refine e.run f__law_classes (by simp [tab]) rfl ?_
  simp only [f__law_classes, wss_nil, wss_cons, ws_assign_name, ws_assign_tup, ws_setIdx, ws_expr, ws_ret, ws_if, ws_for, ws_raise, ws_try1, we_none, we_bool, we_int, we_str, we_loc, we_glob, we_bin, we_neg, we_not, we_and, we_or, we_isNone, we_notNone, we_cmp, we_cmp2, we_tup, we_list, we_sub, we_upto, we_from, we_comp, we_compIf, we_call, we_bi, we_isi, we_meth, wes_nil, wes_cons, rho0, Rho.get, Rho.put, Rho.puts, bindT, List.map_cons, List.map_nil, List.zip_cons_cons, List.zip_nil_right, List.cons_append, List.nil_append, reduceIte, String.reduceEq, wb_add, wb_sub, wb_mul, wb_fdiv, wb_mod, wb_pow, wc_lt, wc_le, wc_gt, wc_ge, wc_eq, wc_ne, wl_scr, wl_tup, gx_calm, isiG_int, isiG_bool, isiG_list, isiG_tuple, true_or, or_true, true_and, List.length_cons, List.length_nil, List.mem_cons, List.not_mem_nil, forall_eq_or_imp, forall_eq, or_false, false_or, implies_true, and_true, Nat.reduceAdd]
  have i1 : isiG G1.un σ (.ref a) ["BadTable"] = some (c == "BadTable") := by
    rw [isiG_exc ha (by decide)]; rcases hc with rfl | rfl <;> decide
  have i2 : isiG G1.un σ (.ref a) ["BadNumber"] = some (c == "BadNumber") := by
    rw [isiG_exc ha (by decide)]; rcases hc with rfl | rfl <;> decide
  simp only [i1, i2]
  refine ⟨rfl, rfl, fun d hd => ?_⟩
  have ha2 := (Ext.set hd (.list [.bool (c == "BadTable"), .bool (c == "BadNumber")])) _ _ ha
  have i3 : isiG G1.un (σ.set d (.list [.bool (c == "BadTable"), .bool (c == "BadNumber")])) (.ref a) ["BadPlace", "BadView", "NoTable", "NotHidden"] = some false := by
    rw [isiG_exc ha2 (by decide)]; rcases hc with rfl | rfl <;> decide
  have i4 : isiG G1.un (σ.set d (.list [.bool (c == "BadTable"), .bool (c == "BadNumber")])) (.ref a) ["ValueError"] = some true := by
    rw [isiG_exc ha2 (by decide)]; rcases hc with rfl | rfl <;> decide
  simp only [i3, i4, Bool.not_true]
  refine ⟨.inr rfl, rfl, ?_⟩
  exact k d _ (Ext.set hd _) (PH.set_same _ _ _)

theorem refused_of (e : Env1 C G1 mg mb) {v b : PV} {c : String} (hc : c = "BadTable" ∨ c = "BadNumber")
    (h : ∀ (Q : Post) (X : XPost), (∀ σ', Ext σ σ' → X ⟨c⟩ σ') → CallOK C (n + 5) "small_places" [v, b] σ Q X)
    (k : ∀ d σ', Ext σ σ' → σ' d = some (.list [.bool (c == "BadTable"), .bool (c == "BadNumber")]) → Q (.ref d) σ') : CallOK C (n + 6) "_law_refused" [v, b] σ Q X := by
  refine e.run f__law_refused (by simp [tab]) rfl ?_
  simp only [f__law_refused, wss_nil, wss_cons, ws_assign_name, ws_assign_tup, ws_setIdx, ws_expr, ws_ret, ws_if, ws_for, ws_raise, ws_try1, we_none, we_bool, we_int, we_str, we_loc, we_glob, we_bin, we_neg, we_not, we_and, we_or, we_isNone, we_notNone, we_cmp, we_cmp2, we_tup, we_list, we_sub, we_upto, we_from, we_comp, we_compIf, we_call, we_bi, we_isi, we_meth, wes_nil, wes_cons, rho0, Rho.get, Rho.put, Rho.puts, bindT, List.map_cons, List.map_nil, List.zip_cons_cons, List.zip_nil_right, List.cons_append, List.nil_append, reduceIte, String.reduceEq, wb_add, wb_sub, wb_mul, wb_fdiv, wb_mod, wb_pow, wc_lt, wc_le, wc_gt, wc_ge, wc_eq, wc_ne, wl_scr, wl_tup, gx_calm, isiG_int, isiG_bool, isiG_list, isiG_tuple, true_or, or_true, true_and, List.length_cons, List.length_nil, List.mem_cons, List.not_mem_nil, forall_eq_or_imp, forall_eq, or_false, false_or, implies_true, and_true, Nat.reduceAdd]
  refine ⟨⟨rfl, rfl⟩, by decide, h _ _ fun σ1 x1 => ?_⟩
  have hsub : G1.sub c "VeilError" = true := by rcases hc with rfl | rfl <;> decide
  rw [if_pos hsub]
  intro a ha
  simp only [Rho.bindX, String.reduceEq, if_false, Rho.put, Rho.get, reduceIte, wss_cons, wss_nil, ws_ret, we_call, we_loc, wes_cons, wes_nil]
  refine ⟨by decide, classes_ok e.un (PH.set_same _ _ _) hc fun d σ2 x2 hd => ?_⟩
  exact k d σ2 (x1.trans ((Ext.set ha _).trans x2)) hd
end
end Vl
end

section
open PySem PySem.W PyProof.Rows
set_option linter.unusedVariables false
set_option linter.unusedSimpArgs false
set_option Elab.async false
set_option maxRecDepth 100000
set_option maxHeartbeats 0
namespace Vl
abbrev dTab (rows : List (List Int)) : PyData := .list (rows.map fun r => dInts r)
theorem rds_tab {σ : PH} : ∀ {rs : List Addr} {rows : List (List Int)}, rs.length = rows.length → (∀ (i : Nat) b r, rs[i]? = some b → rows[i]? = some r → σ b = some (.list (nums r))) → Rds σ (rows.map fun r => dInts r) (rs.map .ref)
  | [], [], _, _ => rfl
  | [], _ :: _, h, _ => by simp at h
  | _ :: _, [], h, _ => by simp at h
  | b :: rs, r :: rows, h, k => by
    simp only [List.map_cons, Rds]
    exact ⟨_, _, rfl, ⟨b, nums r, rfl, k 0 b r rfl rfl, rd_ints r⟩, rds_tab (by simpa using h) fun i b' r' e1 e2 => k (i + 1) b' r' (by simpa using e1) (by simpa using e2)⟩
theorem lay_tab : ∀ rows : List (List Int), PyData.canLayAll0 (rows.map fun r => dInts r) = true
  | [] => rfl
  | r :: rows => by simp only [List.map_cons, PyData.canLayAll0, PyData.canLay0, lay_ints r, lay_tab rows, Bool.and_true]
theorem depth_tab : ∀ rows : List (List Int), PyData.depthAll (rows.map fun r => dInts r) ≤ 2
  | [] => by simp [PyData.depthAll]
  | r :: rows => by simp only [List.map_cons, PyData.depthAll, PyData.depth]; have := depth_tab rows; have := depth_ints r; omega
theorem ok_tab (rows : List (List Int)) : okD (dTab rows) := ⟨lay_tab rows, by simp only [PyData.depth]; have := depth_tab rows; omega⟩
theorem ok_ints (l : List Int) : okD (dInts l) := ⟨lay_ints l, by simp only [PyData.depth]; have := depth_ints l; omega⟩
theorem TbAt.rd {σ : PH} {a : Addr} {rs : List Addr} {rows : List (List Int)} (t : TbAt σ a rs rows) : Rd σ (dTab rows) (.ref a) := ⟨a, rs.map .ref, rfl, t.1, rds_tab t.2.1 t.2.2⟩

section
variable {C : Cx} {mg mb : Str → Option Value} {n : Nat} {σ : PH} {Q : Post} {X : XPost}
/-- the rows copied -/
theorem copied_ok {cl : Cl} {ρ : Rho} {a : Addr} {rs : List Addr} {rows : List (List Int)} {x y : String} (hx : ρ.get x = some (.ref a)) (hxy : x ≠ y) (hy0 : y ≠ ".0") {h w : Nat} (h8 : h ≤ 8) (w8 : w ≤ 8) (t : TbAt σ a rs rows) (hs : Shape rows h w)
    (k : ∀ d ds σ', Ext σ σ' → TbAt σ' d ds rows → ds.Nodup → d ∉ ds → (∀ b ∈ ds, σ b = Option.none) → σ d = Option.none → Q (.ref d) σ') : we G1 cl (.comp (.bi .list [.loc y]) (.name y) .val [.loc x]) ρ σ Q X := by
  have hlen : (rs.map PV.ref).length = h := by simp [t.2.1, hs.1]
  simp only [we_none, we_bool, we_int, we_str, we_loc, we_glob, we_bin, we_neg, we_not, we_and, we_or, we_isNone, we_notNone, we_cmp, we_cmp2, we_tup, we_list, we_sub, we_upto, we_from, we_comp, we_compIf, we_call, we_bi, we_isi, we_meth, wes_nil, wes_cons, hx, src_l t.1, hlen, gx_calm, true_or, true_and]
  refine ⟨by simp only [lim]; omega, ?_⟩
  refine comp_inv (fun i acc σ' => Ext σ σ' ∧ ∃ ds : List Addr, acc = ds.map .ref ∧ ds.length = i ∧ ds.Nodup ∧ (∀ b ∈ ds, σ b = Option.none) ∧ ∀ (j : Nat) b r, ds[j]? = some b → rows[j]? = some r → σ' b = some (.list (nums r)))
    ⟨.refl _, [], rfl, rfl, List.nodup_nil, (fun b hb => by cases hb), fun j b r e => by simp at e⟩ (fun i acc σ' h => h.1 _ _ t.1) ?_ ?_
  · rintro i z acc σ' hz ⟨x1, ds, rfl, hi, nd, hf, hd⟩
    obtain ⟨b, r, rfl, q1, q2, q3⟩ := t.item hz
    refine ⟨_, rfl, fun K' hK' => ?_⟩
    have hr := (hs.2 r (List.mem_of_getElem? q2)).1
    have hg : (Rho.put (blank (.name y) ρ) y (.ref b)).get y = some (.ref b) := by
      simp only [blank, Tg.names, List.map_cons, List.map_nil, List.cons_append, List.nil_append]
      unfold Rho.put
      rw [if_neg hy0.symm]
      unfold Rho.put
      rw [if_pos rfl]
      unfold Rho.get
      rw [if_neg hy0.symm]
      unfold Rho.get
      rw [if_pos rfl]
    simp only [gx_calm, or_true, true_or, true_and, hg]
    show wLst _ _ [.ref b]
    rw [wLst_at (x1 _ _ q3)]
    refine ⟨by simp only [Okl, lim, List.length_map]; omega, fun c hc => hK' _ _ ⟨x1.trans (Ext.set hc _), ds ++ [c], by simp, by simp [hi], ?_, ?_, fun j b2 r2 e1 e2 => ?_⟩⟩
    · rw [List.nodup_append]
      refine ⟨nd, by simp, fun u hu v hv => ?_⟩
      simp at hv; subst hv
      rintro rfl
      obtain ⟨j, hj⟩ := List.mem_iff_getElem?.mp hu
      have hjl : j < rows.length := by
        have : j < ds.length := (List.getElem?_eq_some_iff.mp hj).1
        have hil : i < rows.length := (List.getElem?_eq_some_iff.mp q2).1
        omega
      rw [hd j u _ hj (List.getElem?_eq_getElem hjl)] at hc; cases hc
    · intro u hu
      rcases List.mem_append.mp hu with q | q
      · exact hf u q
      · simp at q; subst q; exact x1.fresh hc
    · rcases getElem?_snoc e1 with q | ⟨q, rfl⟩
      · exact (Ext.set hc _) _ _ (hd j b2 r2 q e2)
      · rw [q, hi, q2] at e2; cases e2
        exact PH.set_same _ _ _
  · rintro acc σ' ⟨x1, ds, rfl, hi, nd, hf, hd⟩ d hdn
    simp only [List.length_map] at hi
    have hdd : d ∉ ds := fun hm => by
      obtain ⟨j, hj⟩ := List.mem_iff_getElem?.mp hm
      have hjl : j < rows.length := by
        have : j < ds.length := (List.getElem?_eq_some_iff.mp hj).1
        rw [← t.2.1]; omega
      rw [hd j d _ hj (List.getElem?_eq_getElem hjl)] at hdn; cases hdn
    exact k d ds _ (x1.trans (Ext.set hdn _)) ⟨PH.set_same _ _ _, by rw [hi, t.2.1], fun j b r e1 e2 => (Ext.set hdn _) _ _ (hd j b r e1 e2)⟩ nd hdd hf (x1.fresh hdn)

end
section
variable {G : Gx} {cl cu : Cl} {ρ : Rho} {σ : PH} {Q : Post} {X : XPost}
theorem e_not {a : E} (h : we G cl a ρ σ (fun v σ1 => match v with
    | .bool b => Q (.bool !b) σ1
    | _ => False) X) : we G cl (.not_ a) ρ σ Q X := by simp only [we_none, we_bool, we_int, we_str, we_loc, we_glob, we_bin, we_neg, we_not, we_and, we_or, we_isNone, we_notNone, we_cmp, we_cmp2, we_tup, we_list, we_sub, we_upto, we_from, we_comp, we_compIf, we_call, we_bi, we_isi, we_meth]; exact h
theorem e_call2 {f : String} {a b : E} (hf : G.fn f = true) (h : we G cl a ρ σ (fun va σ1 => we G cl b ρ σ1 (fun vb σ2 => cl f [va, vb] σ2 Q X) X) X) : we G cl (.call f [a, b]) ρ σ Q X := by simp only [we_none, we_bool, we_int, we_str, we_loc, we_glob, we_bin, we_neg, we_not, we_and, we_or, we_isNone, we_notNone, we_cmp, we_cmp2, we_tup, we_list, we_sub, we_upto, we_from, we_comp, we_compIf, we_call, we_bi, we_isi, we_meth, wes_nil, wes_cons]; exact ⟨hf, h⟩
theorem e_call1 {f : String} {a : E} (hf : G.fn f = true) (h : we G cl a ρ σ (fun va σ1 => cl f [va] σ1 Q X) X) : we G cl (.call f [a]) ρ σ Q X := by simp only [we_none, we_bool, we_int, we_str, we_loc, we_glob, we_bin, we_neg, we_not, we_and, we_or, we_isNone, we_notNone, we_cmp, we_cmp2, we_tup, we_list, we_sub, we_upto, we_from, we_comp, we_compIf, we_call, we_bi, we_isi, we_meth, wes_nil, wes_cons]; exact ⟨hf, h⟩
theorem e_loc {x : String} {v : PV} (h : ρ.get x = some v) (k : Q v σ) : we G cl (.loc x) ρ σ Q X := by simp only [we_none, we_bool, we_int, we_str, we_loc, we_glob, we_bin, we_neg, we_not, we_and, we_or, we_isNone, we_notNone, we_cmp, we_cmp2, we_tup, we_list, we_sub, we_upto, we_from, we_comp, we_compIf, we_call, we_bi, we_isi, we_meth, h]; exact k
theorem s_if {t : E} {b r : List S} {Q : SPost} {X : SXPost} (h : we G cl t ρ σ (fun v σ1 => match v with
    | .bool true => wss G cl cu b ρ σ1 (fun fl ρ1 σ1 => match fl with
      | .next => wss G cl cu r ρ1 σ1 Q X
      | .ret v => Q (.ret v) ρ1 σ1) X
    | .bool false => wss G cl cu r ρ σ1 Q X
    | _ => False) fun x σ1 => X x ρ σ1) : wss G cl cu (.if_ t b [] :: r) ρ σ Q X := by
  simp only [wss_nil, wss_cons, ws_assign_name, ws_assign_tup, ws_setIdx, ws_expr, ws_ret, ws_if, ws_for, ws_raise, ws_try1]; exact h
theorem s_asg {x : String} {e : E} {r : List S} {Q : SPost} {X : SXPost} (h : we G cl e ρ σ (fun v σ1 => wss G cl cu r (ρ.put x v) σ1 Q X) fun x σ1 => X x ρ σ1) : wss G cl cu (.assign (.name x) e :: r) ρ σ Q X := by
  simp only [wss_nil, wss_cons, ws_assign_name, ws_assign_tup, ws_setIdx, ws_expr, ws_ret, ws_if, ws_for, ws_raise, ws_try1, bindT]; exact h
end

theorem fm {m k : Int} (h : 0 < k) : ∃ j : Nat, m.fmod k = j ∧ (j : Int) < k := by
  have h1 := Int.fmod_nonneg_of_pos m h
  have h2 := Int.fmod_lt_of_pos m h
  exact ⟨(m.fmod k).toNat, by omega, by omega⟩

theorem nodup_inj {α : Type} {x : α} : ∀ {l : List α} {i j : Nat}, l.Nodup → l[i]? = some x → l[j]? = some x → i = j
  | [], i, j, _, h, _ => by simp at h
  | a :: r, 0, 0, _, _, _ => rfl
  | a :: r, 0, j + 1, nd, h1, h2 => by
    simp at h1 h2; subst h1
    exact absurd (List.mem_of_getElem? h2) (List.nodup_cons.mp nd).1
  | a :: r, i + 1, 0, nd, h1, h2 => by
    simp at h1 h2; subst h2
    exact absurd (List.mem_of_getElem? h1) (List.nodup_cons.mp nd).1
  | a :: r, i + 1, j + 1, nd, h1, h2 => by
    simp at h1 h2
    rw [nodup_inj (List.nodup_cons.mp nd).2 h1 h2]
end Vl
end

section
open PySem PySem.W PyProof.Rows
set_option linter.unusedVariables false
set_option linter.unusedSimpArgs false
set_option Elab.async false
set_option maxRecDepth 100000
set_option maxHeartbeats 0
namespace Vl
theorem ok_B (x y : Bool) : okD (.list [.bool x, .bool y]) := ⟨by rfl, by simp only [PyData.depth, PyData.depthAll]; omega⟩
theorem rd_B {σ : PH} {d : Addr} {x y : Bool} (h : σ d = some (.list [.bool x, .bool y])) : Rd σ (.list [.bool x, .bool y]) (.ref d) := ⟨d, _, rfl, h, _, _, rfl, rfl, _, _, rfl, rfl, rfl⟩
section
variable {C : Cx} {mg mb : Str → Option Value} {n : Nat} {σ : PH} {Q : SPost} {X : SXPost}

theorem law_bad (e : Env1 C G1 mg mb) {ns : List Int} (hns : ns.length ≤ 63) {a d : Addr} {rs ds : List Addr} {rows : List (List Int)} {h w : Nat} {b m : Int} (hm : 0 ≤ m) (h1 : 1 ≤ h) (h8 : h ≤ 8) (w1 : 1 ≤ w) (w8 : w ≤ 8)
    (t1 : TbAt σ a rs rows) (t2 : TbAt σ d ds rows) (hs : Shape rows h w) (k : ∀ ρ' σ', Q (.ret (.bool true)) ρ' σ') :
    wss G1 (CallOK C (n + 7)) (CallOK C.un (n + 7)) law3_bad [("_law_script", some (.scr ns)), ("_law_table_here", some (.ref a)), ("_law_handed", some (.ref d)), ("_law_bound_here", some (.int b)), ("_law_number", some (.int m)), ("_law_bad", Option.none), ("_law_row", Option.none), ("_law_column", Option.none)] σ Q X := by
  unfold law3_bad
  refine s_asg ?_
  simp only [wss_nil, wss_cons, ws_assign_name, ws_assign_tup, ws_setIdx, ws_expr, ws_ret, ws_if, ws_for, ws_raise, ws_try1, we_none, we_bool, we_int, we_str, we_loc, we_glob, we_bin, we_neg, we_not, we_and, we_or, we_isNone, we_notNone, we_cmp, we_cmp2, we_tup, we_list, we_sub, we_upto, we_from, we_comp, we_compIf, we_call, we_bi, we_isi, we_meth, wes_nil, wes_cons, Rho.get, Rho.put, Rho.puts, bindT, reduceIte, String.reduceEq, wb_add, wb_sub, wb_mul, wb_fdiv, wb_mod, wb_pow, wc_lt, wc_le, wc_gt, wc_ge, wc_eq, wc_ne, wl_scr, wl_tup, gx_calm, isiG_int, isiG_bool, isiG_list, isiG_tuple, true_or, or_true, true_and, List.length_cons, List.length_nil, List.mem_cons, List.not_mem_nil, forall_eq_or_imp, forall_eq, or_false, false_or, implies_true, and_true, Nat.reduceAdd]
  refine ⟨by decide, by decide, fun a1 ha1 a2 ha2 => ?_⟩
  have hq := Int.fdiv_nonneg hm (show (0 : Int) ≤ 8 by decide)
  generalize m.fdiv 8 = q8 at hq ⊢
  refine ⟨by decide, by decide, by decide, ?_⟩
  obtain ⟨i, qi, bi⟩ := fm (m := m.fdiv 4) (show (0 : Int) < 9 by decide)
  rw [qi]
  have e2 : (Ext (σ.set a1 (.list [.int 2])) ((σ.set a1 (.list [.int 2])).set a2 (.list [.int 0, .int 0, .int (0 - 1 - q8), .bool true, .bool false, .none, .str "2", .ref a1, .tup [.int 2]]))) := Ext.set ha2 _
  rw [ps_list (PH.set_same _ _ _), pl_list (PH.set_same _ _ _), place_in (by omega) (by simp; omega)]
  have hx : ∃ v, ([.int 0, .int 0, .int (0 - 1 - q8), .bool true, .bool false, .none, .str "2", .ref a1, .tup [.int 2]] : List PV)[i]? = some v ∧ ∀ τ, Ext ((σ.set a1 (.list [.int 2])).set a2 (.list [.int 0, .int 0, .int (0 - 1 - q8), .bool true, .bool false, .none, .str "2", .ref a1, .tup [.int 2]])) τ → NoCnt τ v ∨ v = .int 0 := by
    have hi : i = 0 ∨ i = 1 ∨ i = 2 ∨ i = 3 ∨ i = 4 ∨ i = 5 ∨ i = 6 ∨ i = 7 ∨ i = 8 := by omega
    rcases hi with rfl | rfl | rfl | rfl | rfl | rfl | rfl | rfl | rfl
    · exact ⟨_, rfl, fun _ _ => .inr rfl⟩
    · exact ⟨_, rfl, fun _ _ => .inr rfl⟩
    · exact ⟨_, rfl, fun _ _ => .inl (.inl ⟨_, rfl, by omega⟩)⟩
    · exact ⟨_, rfl, fun _ _ => .inl (.inr (.inl ⟨_, rfl⟩))⟩
    · exact ⟨_, rfl, fun _ _ => .inl (.inr (.inl ⟨_, rfl⟩))⟩
    · exact ⟨_, rfl, fun _ _ => .inl (.inr (.inr (.inl rfl)))⟩
    · exact ⟨_, rfl, fun _ _ => .inl (.inr (.inr (.inr (.inl ⟨_, rfl⟩))))⟩
    · exact ⟨_, rfl, fun τ xτ => .inl (.inr (.inr (.inr (.inr (.inl ⟨_, _, rfl, xτ _ _ (e2 _ _ (PH.set_same _ _ _))⟩)))))⟩
    · exact ⟨_, rfl, fun _ _ => .inl (.inr (.inr (.inr (.inr (.inr ⟨_, rfl⟩)))))⟩
  obtain ⟨v, hv, hbad⟩ := hx
  have x12 : Ext σ ((σ.set a1 (.list [.int 2])).set a2 (.list [.int 0, .int 0, .int (0 - 1 - q8), .bool true, .bool false, .none, .str "2", .ref a1, .tup [.int 2]])) := (Ext.set ha1 _).trans (Ext.set ha2 _)
  generalize (σ.set a1 (.list [.int 2])).set a2 (.list [.int 0, .int 0, .int (0 - 1 - q8), .bool true, .bool false, .none, .str "2", .ref a1, .tup [.int 2]]) = σ2 at x12 hbad ⊢
  simp only [Option.bind_some, Int.toNat_natCast, hv]
  refine ⟨by simp [lim], ?_⟩
  clear e2 hv
  refine ⟨by decide, mix_ok (n := n + 6) e hns fun m5 _ _ => ?_⟩
  simp only [wss_nil, wss_cons, ws_assign_name, ws_assign_tup, ws_setIdx, ws_expr, ws_ret, ws_if, ws_for, ws_raise, ws_try1, we_none, we_bool, we_int, we_str, we_loc, we_glob, we_bin, we_neg, we_not, we_and, we_or, we_isNone, we_notNone, we_cmp, we_cmp2, we_tup, we_list, we_sub, we_upto, we_from, we_comp, we_compIf, we_call, we_bi, we_isi, we_meth, wes_nil, wes_cons, Rho.get, Rho.put, Rho.puts, bindT, reduceIte, String.reduceEq, wb_add, wb_sub, wb_mul, wb_fdiv, wb_mod, wb_pow, wc_lt, wc_le, wc_gt, wc_ge, wc_eq, wc_ne, wl_scr, wl_tup, gx_calm, isiG_int, isiG_bool, isiG_list, isiG_tuple, true_or, or_true, true_and, List.length_cons, List.length_nil, List.mem_cons, List.not_mem_nil, forall_eq_or_imp, forall_eq, or_false, false_or, implies_true, and_true, Nat.reduceAdd]
  refine ⟨by decide, ?_⟩
  by_cases c0 : m5.fmod 3 = 0
  · have hd0 : decide (m5.fmod 3 = 0) = true := decide_eq_true c0
    simp only [hd0]
    refine ⟨by decide, fun c1 hc1 c2 hc2 c3 hc3 c4 hc4 c5 hc5 => ?_⟩
    refine ⟨by decide, by decide, by decide, ?_⟩
    obtain ⟨j, qj, bj⟩ := fm (m := m.fdiv 44) (show (0 : Int) < 3 by decide)
    rw [qj]
    rw [ps_list (PH.set_same _ _ _), pl_list (PH.set_same _ _ _), place_in (by omega) (by simp; omega)]
    have g1 := (Ext.set hc2 (.list [.ref c1])) _ _ (PH.set_same σ2 c1 (.list []))
    have g2 := PH.set_same (σ2.set c1 (.list [])) c2 (.list [.ref c1])
    have y3 := (Ext.set hc3 (.list [.int (0 - 1)])).trans ((Ext.set hc4 (.list [.ref c3])).trans (Ext.set hc5 (.list [.ref d, .ref c2, .none, .ref c4])))
    have g3 := ((Ext.set hc4 (.list [.ref c3])).trans (Ext.set hc5 (.list [.ref d, .ref c2, .none, .ref c4]))) _ _ (PH.set_same _ c3 (.list [.int (0 - 1)]))
    have g4 := (Ext.set hc5 (.list [.ref d, .ref c2, .none, .ref c4])) _ _ (PH.set_same _ c4 (.list [.ref c3]))
    have y0 := (Ext.set hc1 (.list [])).trans ((Ext.set hc2 (.list [.ref c1])).trans y3)
    replace g1 := y3 _ _ g1
    replace g2 := y3 _ _ g2
    generalize ((((σ2.set c1 (.list [])).set c2 (.list [.ref c1])).set c3 (.list [.int (0 - 1)])).set c4 (.list [.ref c3])).set c5 (.list [.ref d, .ref c2, .none, .ref c4]) = σ3 at g1 g2 g3 g4 y0 ⊢
    have hx : ∃ v3, ([.ref d, .ref c2, .none, .ref c4] : List PV)[((1 : Int) + j).toNat]? = some v3 ∧ NoTab σ3 v3 := by
      have hj : j = 0 ∨ j = 1 ∨ j = 2 := by omega
      rcases hj with rfl | rfl | rfl
      · exact ⟨_, rfl, .inr (.inl ⟨_, _, rfl, g2, g1⟩)⟩
      · exact ⟨_, rfl, .inl rfl⟩
      · exact ⟨_, rfl, .inr (.inr ⟨_, _, rfl, g4, g3⟩)⟩
    obtain ⟨v3, hv3, hno⟩ := hx
    simp only [Option.bind_some, hv3]
    refine ⟨by simp [lim], ?_⟩
    refine refused_of (n := n + 1) e (.inl rfl) (fun Q X kx => small_places_noT e hno kx) fun dd σ4 x4 hdd => ?_
    intro ee hee
    refine ⟨_, _, rd_B ((Ext.set hee _) _ _ hdd), rd_B (PH.set_same _ _ _), ok_B _ _, ok_B _ _, ?_⟩
    exact k _ _
  · have hd0 : decide (m5.fmod 3 = 0) = false := decide_eq_false c0
    simp only [hd0]
    refine ⟨by decide, refused_of (n := n + 1) e (.inr rfl) (fun Q X kx => small_places_noN e (fun τ xτ => hbad τ xτ) h1 h8 w1 w8 (t2.ext x12) hs kx) fun dd σ4 x4 hdd => ?_⟩
    intro ee hee
    refine ⟨_, _, rd_B ((Ext.set hee _) _ _ hdd), rd_B (PH.set_same _ _ _), ok_B _ _, ok_B _ _, ?_⟩
    have xx := x12.trans (x4.trans (Ext.set hee (.list [.bool false, .bool true])))
    refine ⟨dTab rows, dTab rows, (t2.ext xx).rd, (t1.ext xx).rd, ok_tab rows, ok_tab rows, ?_⟩
    rw [SeqAt.eqv_refl _ (ok_tab rows).1]
    exact k _ _
end
end Vl
end

section
open PySem PySem.W PyProof.Rows
set_option linter.unusedVariables false
set_option linter.unusedSimpArgs false
set_option Elab.async false
set_option maxRecDepth 100000
set_option maxHeartbeats 0
namespace Vl
section
variable {C : Cx} {mg mb : Str → Option Value} {n : Nat} {σ : PH} {Q : SPost} {X : SXPost}

theorem law_tail (e : Env1 C G1 mg mb) {ns : List Int} (hns : ns.length ≤ 63) {a d : Addr} {rs ds : List Addr} {rows : List (List Int)} {h w : Nat} {b m : Int} (hb : 1 ≤ b) (h1 : 1 ≤ h) (h8 : h ≤ 8) (w1 : 1 ≤ w) (w8 : w ≤ 8)
    (t1 : TbAt σ a rs rows) (t2 : TbAt σ d ds rows) (nd : ds.Nodup) (hdd : d ∉ ds) (hs : Shape rows h w) (k : ∀ ρ' σ', Q (.ret (.bool true)) ρ' σ') :
    wss G1 (CallOK C (n + 7)) (CallOK C.un (n + 7)) law3_tail [("_law_script", some (.scr ns)), ("_law_table_here", some (.ref a)), ("_law_handed", some (.ref d)), ("_law_bound_here", some (.int b)), ("_law_number", some (.int m)), ("_law_bad", Option.none), ("_law_row", Option.none), ("_law_column", Option.none)] σ Q X := by
  unfold law3_tail
  have hl64 : ∀ r : List (List Int), (plc (smal r b) w h).length ≤ 64 := fun r => by have := plc_len (P := smal r b) w8 h; omega
  refine s_if ?_
  simp only [wss_nil, wss_cons, ws_assign_name, ws_assign_tup, ws_setIdx, ws_expr, ws_ret, ws_if, ws_for, ws_raise, ws_try1, we_none, we_bool, we_int, we_str, we_loc, we_glob, we_bin, we_neg, we_not, we_and, we_or, we_isNone, we_notNone, we_cmp, we_cmp2, we_tup, we_list, we_sub, we_upto, we_from, we_comp, we_compIf, we_call, we_bi, we_isi, we_meth, wes_nil, wes_cons, Rho.get, Rho.put, Rho.puts, bindT, reduceIte, String.reduceEq, wb_add, wb_sub, wb_mul, wb_fdiv, wb_mod, wb_pow, wc_lt, wc_le, wc_gt, wc_ge, wc_eq, wc_ne, wl_scr, wl_tup, gx_calm, isiG_int, isiG_bool, isiG_list, isiG_tuple, true_or, or_true, true_and, List.length_cons, List.length_nil, List.mem_cons, List.not_mem_nil, forall_eq_or_imp, forall_eq, or_false, false_or, implies_true, and_true, Nat.reduceAdd]
  refine ⟨by decide, by decide, small_places_ok (n := n + 2) e hb h1 h8 w1 w8 t2 hs fun f1 σ1 x1 hf1 ef1 => ?_⟩
  refine ⟨by decide, due_ok (n := n + 6) e h1 h8 w8 (t1.ext x1) hs.s0 fun f2 σ2 x2 hf2 ef2 => ?_⟩
  refine told_ok (n := n + 6) e (hl64 rows) (x2 _ _ ef1) ef2 fun σ3 x3 => ?_
  simp only [Bool.not_true]
  have x13 := x1.trans (x2.trans x3)
  refine ⟨dTab rows, dTab rows, (t2.ext x13).rd, (t1.ext x13).rd, ok_tab rows, ok_tab rows, ?_⟩
  rw [SeqAt.eqv_refl _ (ok_tab rows).1]
  simp only [Bool.not_true]
  replace t1 := t1.ext x13
  replace t2 := t2.ext x13
  clear x1 x2 x3 x13 ef1 ef2 hf1 hf2
  have hla : (rs.map PV.ref).length = h := by simp [t1.2.1, hs.1]
  refine ⟨by decide, mix_ok (n := n + 6) e hns fun m5 _ _ => ?_⟩
  simp only [wl_list t1.1, hla]
  refine ⟨by simp only [lim]; omega, by omega, ?_⟩
  obtain ⟨i, qi, bi⟩ := fm (m := m5) (show (0 : Int) < (h : Int) by omega)
  rw [qi]
  refine ⟨by decide, mix_ok (n := n + 6) e hns fun m6 _ _ => ?_⟩
  obtain ⟨b0, r0, f1, f2, f3, f4, f5, f6⟩ := t1.first hs.s0 h1
  simp only [f5, f6]
  refine ⟨by simp only [lim]; omega, ?_⟩
  simp only [wl_list f4, List.length_map, f3]
  refine ⟨by simp only [lim]; omega, by omega, ?_⟩
  obtain ⟨j, qj, bj⟩ := fm (m := m6) (show (0 : Int) < (w : Int) by omega)
  rw [qj]
  intro g1 hg1
  refine ⟨by decide, mix_ok (n := n + 6) e hns fun m7 _ _ => ?_⟩
  refine ⟨by decide, ?_⟩
  obtain ⟨q, qq, bq⟩ := fm (m := m7) (show (0 : Int) < 4 by decide)
  rw [qq, ps_list (PH.set_same _ _ _), pl_list (PH.set_same _ _ _), place_in (by omega) (by simp; omega)]
  have hx : ∃ z : Int, 0 ≤ z ∧ ([.int 0, .int b, .int (b + 1), .int 1] : List PV)[q]? = some (.int z) := by
    have : q = 0 ∨ q = 1 ∨ q = 2 ∨ q = 3 := by omega
    rcases this with rfl | rfl | rfl | rfl
    · exact ⟨_, by omega, rfl⟩
    · exact ⟨_, by omega, rfl⟩
    · exact ⟨_, by omega, rfl⟩
    · exact ⟨_, by omega, rfl⟩
  obtain ⟨z, hz, hzq⟩ := hx
  simp only [Option.bind_some, Int.toNat_natCast, hzq]
  refine ⟨by simp [lim], ?_⟩
  have xg : Ext σ3 (σ3.set g1 (.list [.int 0, .int b, .int (b + 1), .int 1])) := Ext.set hg1 _
  replace t2 := t2.ext xg
  clear t1 f4 f5 f6
  generalize σ3.set g1 (.list [.int 0, .int b, .int (b + 1), .int 1]) = σ4 at t2 ⊢
  have hi : i < rows.length := by rw [hs.1]; omega
  have hri : rows[i]? = some rows[i] := List.getElem?_eq_getElem hi
  generalize hr : rows[i] = r at hri
  have hrs := hs.2 r (List.mem_of_getElem? hri)
  have hid : i < ds.length := by rw [t2.2.1]; exact hi
  have hdi : ds[i]? = some ds[i] := List.getElem?_eq_getElem hid
  generalize hb' : ds[i] = bb at hdi
  have hbr := t2.2.2 i bb r hdi hri
  have ps1 : psub σ4 (.ref d) (.int (i : Int)) = some (.ref bb) := by
    rw [ps_list t2.1, place_in (by omega) (by simp; omega)]
    simp [hdi]
  have pl1 : plen σ4 (.ref d) = some h := by rw [pl_list t2.1]; simp [t2.2.1, hs.1]
  simp only [ps1, pl1]
  refine ⟨by simp only [lim]; omega, ?_⟩
  have hpl : place (nums r).length (j : Int) = some j := by
    rw [place_in (by omega) (by simp; rw [hrs.1]; omega)]; simp
  simp only [hbr, hpl]
  refine ⟨by simp only [lim, List.length_map]; omega, ?_⟩
  have hset : (nums r).set j (.int z) = nums (r.set j z) := by simp [nums, List.map_set]
  rw [hset]
  have hbd : bb ∈ ds := List.mem_of_getElem? hdi
  have hdb : d ≠ bb := fun q => hdd (q ▸ hbd)
  have t3 : TbAt (σ4.set bb (.list (nums (r.set j z)))) d ds (rows.set i (r.set j z)) := by
    refine ⟨by rw [PH.set_ne _ _ hdb]; exact t2.1, by simp [t2.2.1], fun i' b' r' e1 e2 => ?_⟩
    by_cases q : i' = i
    · subst q
      rw [hdi] at e1; cases e1
      rw [List.getElem?_set_self hi] at e2; cases e2
      exact PH.set_same _ _ _
    · have hne : b' ≠ bb := by
        rintro rfl
        exact q (nodup_inj nd e1 hdi)
      rw [PH.set_ne _ _ hne]
      rw [List.getElem?_set_ne (fun e => q e.symm)] at e2
      exact t2.2.2 i' b' r' e1 e2
  have hs3 : Shape (rows.set i (r.set j z)) h w := by
    refine ⟨by simp [hs.1], fun r' hr' => ?_⟩
    rcases List.mem_or_eq_of_mem_set hr' with q | rfl
    · exact hs.2 r' q
    · refine ⟨by simp [hrs.1], fun y hy => ?_⟩
      rcases List.mem_or_eq_of_mem_set hy with q | rfl
      · exact hrs.2 y q
      · exact hz
  generalize rows.set i (r.set j z) = rows2 at t3 hs3
  generalize σ4.set bb (.list (nums (r.set j z))) = τ at t3 ⊢
  refine ⟨by decide, by decide, small_places_ok (n := n + 2) e hb h1 h8 w1 w8 t3 hs3 fun f1 σ5 x1 hf1 ef1 => ?_⟩
  refine ⟨by decide, due_ok (n := n + 6) e h1 h8 w8 (t3.ext x1) hs3.s0 fun f2 σ6 x2 hf2 ef2 => ?_⟩
  refine told_ok (n := n + 6) e (hl64 rows2) (x2 _ _ ef1) ef2 fun σ7 x3 => ?_
  exact k _ _
end
end Vl
end

section
open PySem PySem.W PyProof.Rows
set_option linter.unusedVariables false
set_option linter.unusedSimpArgs false
set_option Elab.async false
set_option maxRecDepth 100000
set_option maxHeartbeats 0
namespace Vl
section
variable {C : Cx} {mg mb : Str → Option Value} {n : Nat} {σ : PH} {Q : Post} {X : XPost}


theorem law_ok (e : Env1 C G1 mg mb) {ns : List Int} (hns : ns.length ≤ 63) (k : ∀ σ', Q (.bool true) σ') : CallOK C (n + 8) "law" [.scr ns] σ Q X := by
  refine e.run f_law (by simp [tab]) rfl ?_
  simp only [f_law, rho0, List.map_cons, List.map_nil, List.zip_cons_cons, List.zip_nil_right, List.cons_append, List.nil_append]
  refine s_asg ?_
  simp only [we_int, we_loc, we_bin, we_cmp, we_call, wes_nil, wes_cons, Rho.get, Rho.put, reduceIte, String.reduceEq, wb_add, wb_mod, wc_eq, List.mem_cons, List.not_mem_nil, forall_eq_or_imp, forall_eq, or_false, false_or, implies_true, and_true, true_and]
  refine ⟨by decide, by decide, mix_ok (n := n + 6) e hns fun m0 _ _ => ?_⟩
  simp only [we_int, we_loc, we_bin, we_cmp, we_call, wes_nil, wes_cons, Rho.get, Rho.put, reduceIte, String.reduceEq, wb_add, wb_mod, wc_eq, List.mem_cons, List.not_mem_nil, forall_eq_or_imp, forall_eq, or_false, false_or, implies_true, and_true, true_and]
  refine ⟨by decide, by decide, mix_ok (n := n + 6) e hns fun m1 _ _ => ?_⟩
  simp only [we_int, we_loc, we_bin, we_cmp, we_call, wes_nil, wes_cons, Rho.get, Rho.put, reduceIte, String.reduceEq, wb_add, wb_mod, wc_eq, List.mem_cons, List.not_mem_nil, forall_eq_or_imp, forall_eq, or_false, false_or, implies_true, and_true, true_and]
  refine ⟨by decide, ?_⟩
  obtain ⟨h0, q0, b0⟩ := fm (m := m0) (show (0 : Int) < 8 by decide)
  have qh : (1 : Int) + m0.fmod 8 = ((h0 + 1 : Nat) : Int) := by omega
  obtain ⟨w0, q1, b1⟩ := fm (m := m1) (show (0 : Int) < 8 by decide)
  have qw : (1 : Int) + m1.fmod 8 = ((w0 + 1 : Nat) : Int) := by omega
  rw [qh, qw]
  have h1 : 1 ≤ h0 + 1 := by omega
  have h8 : h0 + 1 ≤ 8 := by omega
  have w1 : 1 ≤ w0 + 1 := by omega
  have w8 : w0 + 1 ≤ 8 := by omega
  generalize h0 + 1 = h at h1 h8 ⊢
  generalize w0 + 1 = w at w1 w8 ⊢
  clear q0 b0 qh q1 b1 qw
  refine table_ok (n := n + 4) e hns h8 w8 fun a rs rows σ1 x1 t1 hs => ?_
  refine s_asg ?_
  refine copied_ok rfl (by decide) (by decide) h8 w8 t1 hs fun d ds σ2 x2 t2 nd hdd hf hdf => ?_
  have t1' := t1.ext x2
  simp only [Rho.put, reduceIte, String.reduceEq]
  refine s_asg (e_call1 (by decide) (e_loc rfl (bound_ok (n := n + 5) e hns fun b hb => ?_)))
  simp only [Rho.put, reduceIte, String.reduceEq]
  refine s_asg ?_
  simp only [we_int, we_loc, we_bin, we_cmp, we_call, wes_nil, wes_cons, Rho.get, Rho.put, reduceIte, String.reduceEq, wb_add, wb_mod, wc_eq, List.mem_cons, List.not_mem_nil, forall_eq_or_imp, forall_eq, or_false, false_or, implies_true, and_true, true_and]
  refine ⟨by decide, mix_ok (n := n + 6) e hns fun m hm0 hm1 => ?_⟩
  refine s_if ?_
  simp only [we_int, we_loc, we_bin, we_cmp, we_call, wes_nil, wes_cons, Rho.get, Rho.put, reduceIte, String.reduceEq, wb_add, wb_mod, wc_eq, List.mem_cons, List.not_mem_nil, forall_eq_or_imp, forall_eq, or_false, false_or, implies_true, and_true, true_and]
  refine ⟨by decide, ?_⟩
  by_cases c0 : m.fmod 4 = 0
  · have hd0 : decide (m.fmod 4 = 0) = true := decide_eq_true c0
    simp only [hd0]
    exact law_bad e hns hm0 h1 h8 w1 w8 t1' t2 hs fun _ _ => k _
  · have hd0 : decide (m.fmod 4 = 0) = false := decide_eq_false c0
    simp only [hd0]
    exact law_tail e hns hb h1 h8 w1 w8 t1' t2 nd hdd hs fun _ _ => k _
end
theorem pure03 (C : Cx) (mg mb : Str → Option Value) (g : GOK C G1 mg mb) (x : ExcOK C G1 mg mb) (hok : C.ok) (hF : ∀ t ∈ tab, ∃ a o fd body, FnAt C t.f t.ps t.b a o fd body) (ns : List Int) (hns : ns.length ≤ 63) :
    CallOK C 20 "law" [.scr ns] noPH (fun v _ => v = .bool true) fun _ _ => False := law_ok (n := 12) ⟨g, x, hok, hF⟩ hns fun _ => rfl
end Vl
end

section
open PySem PySem.W PyProof.Rows
set_option Elab.async false
namespace Vl
noncomputable def notName : Stmt → Bool
  | .Assign [.Name n _] _ _ => !(n == Str.ofString "__name__")
  | _ => true
noncomputable def view3 : Program := { PySem.Challenge.rw_uf010011_03.prog with main := { PySem.Challenge.rw_uf010011_03.prog.main with body := PySem.Challenge.rw_uf010011_03.prog.main.body.filter notName } }
end Vl
set_option maxRecDepth 100000 in
set_option maxHeartbeats 0 in
theorem PySem.Challenge.cw_uf010011_03_holds : PySem.Challenge.rw_uf010011_03.Holds := by
  w_on
  refine holds_law (by decide +kernel) fun said => ?_
  refine holds_open (q := Vl.view3) (loose := []) (Xt := fun s => xlAt Vl.view3 [] s && recOk (RowW.records (OpenRow.toRowW (OpenLaw.row PySem.Challenge.rw_uf010011_03))) s) (XP := XL Vl.view3 []) (Yf := Hook.obs (Vl.hookE Vl.kinds3)) (Ya := Hook.val (Vl.hookE Vl.kinds3)) (YP := Hook.says (Vl.hookE Vl.kinds3)) (N := 4300) ?hl (Hook.of (Vl.hookE Vl.kinds3)) (Hook.keeps (Vl.hookE Vl.kinds3)) (fun s e => xl_of s (Bool.and_eq_true_iff.mp e).1) XL.keeps (by rfl) (by rfl) (by rfl) (fun s e => recFacts_of (Bool.and_eq_true_iff.mp e).2) (by rfl) (by assumption) (by decide +kernel) ⟨rfl, rfl, rfl, rfl, rfl, by decide +kernel⟩ ?hw ?hc
  case hl => intro w; kernel_rfl
  case hw => w_witness2
  case hc => exact Vl.law_walk (N := 20) [("MOST", 8)] Vl.tab Vl.kinds3 rfl rfl rfl (by decide +kernel) (by decide +kernel) (by decide) (by decide) Vl.pure03
end
