import PyProof.Rows.All
import PyProof.SliceList
import PyProof.EqLayable
import PyProof.SliceStr
import PyProof.StrBlockL
import Wide.FinOn
import OpenK.AllK
import Wide.All
import PySem.Challenge.RW_uf030030_10
set_option Elab.async false
set_option genSizeOf false
set_option autoImplicit false
set_option linter.all false
set_option genInjectivity false
section
set_option genSizeOfSpec false
namespace Mine

theorem zoi {α : Type} {a b : α} : (some a = some b) = (a = b) := Option.some.injEq a b
theorem zgz {α : Type} {a : α} {l : List α} : (a :: l)[0]? = some a := rfl
theorem zgs {α : Type} {a : α} {l : List α} {i : Nat} : (a :: l)[i + 1]? = l[i]? := rfl
theorem zlc {α : Type} {a : α} {l : List α} : (a :: l).length = l.length + 1 := rfl
theorem zln {α : Type} : ([] : List α).length = 0 := rfl
theorem zcn {α : Type} {a : α} {l : List α} : ((a :: l) = []) = False := eq_false (List.cons_ne_nil a l)
theorem znt {b : Bool} : (¬b = true) = (b = false) := by simp
theorem zza {n : Nat} : 0 + n = n := Nat.zero_add n
theorem zta {p : Prop} : (True ∧ p) = p := true_and p
theorem zat {p : Prop} : (p ∧ True) = p := and_true p
theorem zel {α : Type} {p : α → Prop} {a : α} : (∃ x, a = x ∧ p x) = p a := by simp

open PySem
set_option genInjectivity true in
inductive MV where
  | none | bool (b : Bool) | int (i : Int) | str (s : Str) | tup (l : List MV) | ref (a : Addr) | keys (d : Addr) | vals (d : Addr)
inductive MO where
  | list (l : List MV) | idict (l : List (Int × MV)) | sdict (l : List (Str × MV))
abbrev MH := Addr → Option MO
noncomputable def upd (μ : MH) (a : Addr) (o : MO) : MH := fun b => if b = a then some o else μ b
noncomputable def lst (μ : MH) (a : Addr) : Option (List MV) := match μ a with
  | some (.list l) => some l
  | _ => none
noncomputable def deep (μ : MH) : Nat → MV → Option PyData
  | _, .none => some .none
  | _, .bool b => some (.bool b)
  | _, .int i => some (.int i)
  | _, .str s => if PyData.strOk s then some (.str s) else none
  | n + 1, .tup l => (l.mapM (deep μ n)).map PyData.tuple
  | n + 1, .ref a => match lst μ a with
    | some l => (l.mapM (deep μ n)).map PyData.list
    | none => none
  | _, _ => none
noncomputable def keysOf {K : Type} (l : List (K × MV)) : List K := l.map (·.1)
noncomputable def lookI {K : Type} [DecidableEq K] (l : List (K × MV)) (k : K) : Option MV := (l.find? fun kv => kv.1 = k).map (·.2)
noncomputable def putI {K : Type} [DecidableEq K] (l : List (K × MV)) (k : K) (v : MV) : List (K × MV) :=
  if l.any (fun kv => kv.1 = k) then l.map (fun kv => if kv.1 = k then (kv.1, v) else kv) else l ++ [(k, v)]
noncomputable def delI {K : Type} [DecidableEq K] (l : List (K × MV)) (k : K) : List (K × MV) := l.filter fun kv => !decide (kv.1 = k)
noncomputable def chars (s : Str) : List MV := s.cps.toList.map fun c => .str ⟨#[c]⟩
noncomputable def itemsO (o : Option MO) : Option (List MV) := match o with
  | some (.list l) => some l
  | some (.idict l) => some (l.map fun kv => .int kv.1)
  | some (.sdict l) => some (l.map fun kv => .str kv.1)
  | none => none
noncomputable def keysO (o : Option MO) : Option (List MV) := match o with
  | some (.idict l) => some (l.map fun kv => .int kv.1)
  | some (.sdict l) => some (l.map fun kv => .str kv.1)
  | _ => none
noncomputable def valsO (o : Option MO) : Option (List MV) := match o with
  | some (.idict l) => some (l.map fun kv => kv.2)
  | some (.sdict l) => some (l.map fun kv => kv.2)
  | _ => none
noncomputable def items (μ : MH) : MV → Option (List MV)
  | .tup l => some l
  | .str s => some (chars s)
  | .ref a => itemsO (μ a)
  | .keys a => keysO (μ a)
  | .vals a => valsO (μ a)
  | _ => none
noncomputable def truthyO (o : Option MO) : Option Bool := match o with
  | some (.list l) => if l.length ≤ 2 ^ 20 then some (!l.isEmpty) else none
  | _ => none
noncomputable def truthy (μ : MH) : MV → Option Bool
  | .none => some false
  | .bool b => some b
  | .int i => some (decide (i ≠ 0))
  | .ref a => truthyO (μ a)
  | _ => none
inductive BOp where | add | sub | mul | fdiv | mod | pow
inductive COp where | eq | ne | lt | le | gt | ge | isin | notin | is | isnot
inductive BI where | len | min2 | max2 | maxD | max1 | sorted | sortedR | sortedSet | sortedSetS | list | dict | int | str | all
inductive MM where | append | extend | keys | values | get2 | pop2 | clear | update | count | index | join | split
inductive SK where | plain | range | rev | zip
inductive MT where | one (i : Nat) | tup (l : List Nat)
inductive TY where | int | bool | str | tuple | list | dict
  deriving DecidableEq
set_option genInjectivity false
inductive ME where
  | var (i : Nat)
  | glob (g : String)
  | cint (i : Int) | cstr (s : String) | cbool (b : Bool) | cnone
  | bin (op : BOp) (a b : ME)
  | neg (a : ME) | not (a : ME)
  | and (l : List ME) | or (l : List ME)
  | cmp (a : ME) (ops : List COp) (es : List ME)
  | ite (c a b : ME)
  | idx (a i : ME)
  | slice (a lo hi st : ME)
  | list (l : List ME) | tuple (l : List ME)
  | dict0 (s : Bool)
  | dict (ks vs : List ME)
  | call (f : String) (args : List ME)
  | bi (f : BI) (args : List ME)
  | isinst (e : ME) (t : TY)
  | meth (m : MM) (o : ME) (args : List ME)
  | comp (elt : ME) (t : MT) (k : SK) (its : List ME) (ifs : List ME)
inductive MS where
  | assign (i : Nat) (e : ME)
  | unpack (l : List Nat) (e : ME)
  | setidx (o i e : ME)
  | expr (e : ME)
  | ret (e : ME) | ret0
  | ite (c : ME) (a b : List MS)
  | for (t : MT) (k : SK) (its : List ME) (body : List MS)
  | while (c : ME) (body : List MS)
  | pass
structure MFun where
  n : Nat
  body : List MS
inductive MFlow where | next | brk | cont | ret (v : MV)
abbrev MVars := Nat → Option MV
noncomputable def setv (vars : MVars) (i : Nat) (v : MV) : MVars := fun j => if j = i then some v else vars j
abbrev MQ := MV → MH → Prop
abbrev MX := String → MH → Prop
abbrev CallSpec := String → List MV → List Addr → MQ → MX → MH → Prop
noncomputable def fits (n : Nat) : Prop := n ≤ 2 ^ 20
noncomputable instance (n : Nat) : Decidable (fits n) := inferInstanceAs (Decidable (_ ≤ _))
noncomputable def small (i : Int) : Prop := -(2 ^ 63) ≤ i ∧ i < 2 ^ 63
noncomputable def allocM (fz : List Addr) (μ : MH) (o : MO) (Q : Addr → MH → Prop) : Prop := ∀ a, μ a = none → a ∉ fz → Q a (upd μ a o)
noncomputable def intsM (a b : MV) (P : Int → Int → Prop) : Prop := match a with
  | .int x => (match b with | .int y => P x y | _ => False)
  | _ => False
noncomputable def addM (fz : List Addr) (a b : MV) (Q : MQ) (μ : MH) : Prop := match a with
  | .int x => (match b with | .int y => Q (.int (x + y)) μ | _ => False)
  | .str x => (match b with | .str y => fits (x.length + y.length) ∧ Q (.str (x ++ y)) μ | _ => False)
  | .ref a => (match b with | .ref b => ∃ x y, lst μ a = some x ∧ lst μ b = some y ∧ fits (x.length + y.length) ∧ allocM fz μ (.list (x ++ y)) fun c μ' => Q (.ref c) μ' | _ => False)
  | _ => False
noncomputable def binM (fz : List Addr) (op : BOp) (a b : MV) (Q : MQ) (μ : MH) : Prop := match op with
  | .add => addM fz a b Q μ
  | .sub => intsM a b fun x y => Q (.int (x - y)) μ
  | .mul => intsM a b fun x y => (small x ∨ small y) ∧ Q (.int (x * y)) μ
  | .fdiv => intsM a b fun x y => (y ≠ 0 ∧ small y) ∧ Q (.int (x.fdiv y)) μ
  | .mod => intsM a b fun x y => y ≠ 0 ∧ Q (.int (x.fmod y)) μ
  | .pow => intsM a b fun x y => x = 10 ∧ (0 ≤ y ∧ y ≤ 40) ∧ Q (.int (x ^ y.toNat)) μ
noncomputable def eqD (μ : MH) (a b : MV) : Option Bool := match deep μ 9 a, deep μ 9 b with
  | some x, some y => some (PyData.eqv x y)
  | _, _ => none
noncomputable def eqDicts {K : Type} [DecidableEq K] (μ : MH) (x y : List (K × MV)) : Option Bool :=
  if x.length = y.length then (x.mapM fun (kv : K × MV) => match lookI y kv.1 with | some v => eqD μ kv.2 v | none => some false).map fun (l : List Bool) => l.all id
  else some false
noncomputable def eqM (μ : MH) (a b : MV) : Option Bool := match a, b with
  | .ref p, .ref q => match μ p, μ q with
    | some (.idict x), some (.idict y) => eqDicts μ x y
    | some (.sdict x), some (.sdict y) => eqDicts μ x y
    | _, _ => eqD μ a b
  | a, b => eqD μ a b
noncomputable def anyT (x y : Option PyData) : Option Bool := match x with
  | some (.tuple xs) => y.map fun d => xs.any fun y => PyData.eqv y d
  | _ => none
noncomputable def anyL (x y : Option PyData) : Option Bool := match x with
  | some (.list xs) => y.map fun d => xs.any fun y => PyData.eqv y d
  | _ => none
noncomputable def strIn (a : MV) (y : Str) : Option Bool := match a with
  | .str x => if x.length = 1 then some (y.cps.toList.contains (x.cps.toList.headD 0)) else none
  | _ => none
noncomputable def inO (μ : MH) (p : Addr) (a : MV) (o : Option MO) : Option Bool := match o with
  | some (.idict l) => (match a with | .int k => some ((lookI l k).isSome) | _ => none)
  | some (.sdict l) => (match a with | .str k => some ((lookI l k).isSome) | _ => none)
  | some (.list _) => anyL (deep μ 9 (.ref p)) (deep μ 9 a)
  | none => none
noncomputable def inM (μ : MH) (a b : MV) : Option Bool := match b with
  | .tup l => anyT (deep μ 9 (.tup l)) (deep μ 9 a)
  | .ref p => inO μ p a (μ p)
  | _ => none
noncomputable def intsO (a b : MV) (f : Int → Int → Bool) : Option Bool := match a with
  | .int x => (match b with | .int y => some (f x y) | _ => none)
  | _ => none
noncomputable def isNoneO (a b : MV) : Option Bool := match b with
  | .none => (match a with
    | .none => some true
    | .keys _ | .vals _ => none
    | _ => some false)
  | _ => none
noncomputable def cmpM (op : COp) (μ : MH) (a b : MV) : Option Bool := match op with
  | .eq => eqM μ a b
  | .ne => (eqM μ a b).map (!·)
  | .isin => inM μ a b
  | .notin => (inM μ a b).map (!·)
  | .lt => intsO a b fun x y => decide (x < y)
  | .le => intsO a b fun x y => decide (x ≤ y)
  | .gt => intsO a b fun x y => decide (x > y)
  | .ge => intsO a b fun x y => decide (x ≥ y)
  | .is => isNoneO a b
  | .isnot => (isNoneO a b).map (!·)
noncomputable def atI {α : Type} (l : List α) (k : Int) : Option α :=
  if 0 ≤ k then l[k.toNat]? else if 0 ≤ k + l.length then l[(k + l.length).toNat]? else none
noncomputable def intO (v : MV) (f : Int → Option MV) : Option MV := match v with
  | .int k => f k
  | _ => none
noncomputable def strO (v : MV) (f : Str → Option MV) : Option MV := match v with
  | .str k => f k
  | _ => none
noncomputable def idxO (o : Option MO) (i : MV) : Option MV := match o with
  | some (.list l) => intO i fun k => if l.length ≤ 2 ^ 20 then atI l k else none
  | some (.idict l) => intO i fun k => lookI l k
  | some (.sdict l) => strO i fun k => lookI l k
  | none => none
noncomputable def idxM (μ : MH) (a i : MV) : Option MV := match a with
  | .tup l => intO i fun k => if l.length ≤ 2 ^ 20 then atI l k else none
  | .str s => intO i fun k => if s.length ≤ 2 ^ 20 then (atI s.cps.toList k).map fun c => .str ⟨#[c]⟩ else none
  | .ref p => idxO (μ p) i
  | _ => none
noncomputable def pickN (n : Nat) (lo hi st : Option Int) : List Nat := sliceRange (sliceBounds lo hi st n).1 (sliceBounds lo hi st n).2.1 (sliceBounds lo hi st n).2.2
noncomputable def pick {α : Type} (l : List α) (lo hi st : Option Int) : List α := (pickN l.length lo hi st).filterMap (l[·]?)
noncomputable def partI : MV → Option (Option Int)
  | .none => some none
  | .int i => some (some i)
  | _ => none
noncomputable def sliceM (fz : List Addr) (a lo hi st : MV) (Q : MQ) (μ : MH) : Prop := ∃ l h s, partI lo = some l ∧ partI hi = some h ∧ partI st = some s ∧ s ≠ some 0 ∧ match a with
  | .str x => fits x.length ∧ Q (.str ⟨(pick x.cps.toList l h s).toArray⟩) μ
  | .ref p => ∃ x, lst μ p = some x ∧ fits x.length ∧ allocM fz μ (.list (pick x l h s)) fun c μ' => Q (.ref c) μ'
  | _ => False
noncomputable def isTyO (t : TY) (o : Option MO) : Option Bool := match o with
  | some (.list _) => some (t = .list)
  | some (.idict _) => some (t = .dict)
  | some (.sdict _) => some (t = .dict)
  | none => none
noncomputable def isTy (μ : MH) (t : TY) : MV → Option Bool
  | .none => some false
  | .bool _ => some (t = .bool || t = .int)
  | .int _ => some (t = .int)
  | .str _ => some (t = .str)
  | .tup _ => some (t = .tuple)
  | .ref a => isTyO t (μ a)
  | _ => none
noncomputable def isStrV : MV → Bool
  | .str _ => true
  | _ => false
noncomputable def intsOf (l : List MV) : Option (List Int) := l.mapM fun | .int i => some i | _ => none
noncomputable def strsOf (l : List MV) : Option (List Str) := l.mapM fun | .str i => some i | _ => none
noncomputable def boolsOf (l : List MV) : Option (List Bool) := l.mapM fun | .bool i => some i | _ => none
noncomputable def sortI (l : List Int) : List Int := l.mergeSort (fun a b => decide (a ≤ b))
noncomputable def addD {K : Type} [DecidableEq K] (acc : List K) (v : K) : List K := if v ∈ acc then acc else acc ++ [v]
noncomputable def ddup {K : Type} [DecidableEq K] (l : List K) : List K := l.foldl addD []
noncomputable def maxI : List Int → Option Int
  | [] => none
  | x :: r => some (r.foldl max x)
noncomputable def pairsI (l : List MV) : Option (List (Int × MV)) := l.mapM fun | .tup [.int k, v] => some (k, v) | _ => none
noncomputable def lenO (o : Option MO) (P : Nat → Prop) : Prop := match o with
  | some (.list l) => fits l.length ∧ P l.length
  | some (.idict l) => fits l.length ∧ P l.length
  | some (.sdict l) => fits l.length ∧ P l.length
  | none => False
noncomputable def lenM (v : MV) (Q : MQ) (μ : MH) : Prop := match v with
  | .tup l => fits l.length ∧ Q (.int l.length) μ
  | .str s => fits s.length ∧ Q (.int s.length) μ
  | .ref a => lenO (μ a) fun n => Q (.int n) μ
  | _ => False
noncomputable def a1 (args : List MV) (P : MV → Prop) : Prop := match args with
  | [v] => P v
  | _ => False
noncomputable def a2 (args : List MV) (P : MV → MV → Prop) : Prop := match args with
  | [v, u] => P v u
  | _ => False
noncomputable def intV (v : MV) (P : Int → Prop) : Prop := match v with
  | .int i => P i
  | _ => False
noncomputable def boolV (v : MV) (P : Bool → Prop) : Prop := match v with
  | .bool i => P i
  | _ => False
noncomputable def refV (v : MV) (P : Addr → Prop) : Prop := match v with
  | .ref i => P i
  | _ => False
noncomputable def dictO (fz : List Addr) (o : Option MO) (Q : MQ) (μ : MH) : Prop := match o with
  | some (.idict l) => fits l.length ∧ allocM fz μ (.idict l) fun c μ' => Q (.ref c) μ'
  | some (.list l) => ∃ ps, pairsI l = some ps ∧ fits l.length ∧ allocM fz μ (.idict (ps.foldl (fun d kv => putI d kv.1 kv.2) [])) fun c μ' => Q (.ref c) μ'
  | _ => False
noncomputable def biM (fz : List Addr) (f : BI) (args : List MV) (Q : MQ) (μ : MH) : Prop := match f with
  | .len => a1 args fun v => lenM v Q μ
  | .min2 => a2 args fun a b => intsM a b fun x y => Q (.int (min x y)) μ
  | .max2 => a2 args fun a b => intsM a b fun x y => Q (.int (max x y)) μ
  | .maxD => a2 args fun v d => intV d fun d => ∃ l ns, isStrV v = false ∧ items μ v = some l ∧ intsOf l = some ns ∧ fits l.length ∧ Q (.int ((maxI ns).getD d)) μ
  | .max1 => a1 args fun v => ∃ l ns m, isStrV v = false ∧ items μ v = some l ∧ intsOf l = some ns ∧ fits l.length ∧ maxI ns = some m ∧ Q (.int m) μ
  | .sorted => a1 args fun v => ∃ l ns, isStrV v = false ∧ items μ v = some l ∧ intsOf l = some ns ∧ l.length < 64 ∧ allocM fz μ (.list ((sortI ns).map .int)) fun c μ' => Q (.ref c) μ'
  | .sortedR => a1 args fun v => ∃ l ns, isStrV v = false ∧ items μ v = some l ∧ intsOf l = some ns ∧ l.length < 64 ∧ allocM fz μ (.list ((sortI ns).reverse.map .int)) fun c μ' => Q (.ref c) μ'
  | .list => a1 args fun v => ∃ l, isStrV v = false ∧ items μ v = some l ∧ fits l.length ∧ allocM fz μ (.list l) fun c μ' => Q (.ref c) μ'
  | .dict => a1 args fun v => refV v fun a => dictO fz (μ a) Q μ
  | .int => a1 args fun v => boolV v fun b => Q (.int (if b then 1 else 0)) μ
  | .all => False
  | .str => False
  | .sortedSet => a1 args fun v => refV v fun a => ∃ l ns, lst μ a = some l ∧ intsOf l = some ns ∧ l.length < 64 ∧ allocM fz μ (.list ((sortI (ddup ns)).map .int)) fun c μ' => Q (.ref c) μ'
  | .sortedSetS => a1 args fun v => refV v fun a => ∃ l ss, lst μ a = some l ∧ strsOf l = some ss ∧ l.length < 64 ∧ ∀ ts : List Str, ts.Perm (ddup ss) → allocM fz μ (.list (ts.map .str)) fun c μ' => Q (.ref c) μ'
noncomputable def isDictO (o : Option MO) : Bool := match o with
  | some (.idict _) | some (.sdict _) => true
  | _ => false
noncomputable def isListO (o : Option MO) : Bool := match o with
  | some (.list _) => true
  | _ => false
noncomputable def refB (v : MV) (P : Addr → Bool) : Bool := match v with
  | .ref i => P i
  | _ => false
noncomputable def mmKind (m : MM) (μ : MH) (v : MV) : Bool := match m with
  | .append | .extend => refB v fun a => isListO (μ a)
  | .keys | .values | .get2 | .update => refB v fun a => isDictO (μ a)
  | .join => isStrV v
  | _ => false
noncomputable def strV (v : MV) (P : Str → Prop) : Prop := match v with
  | .str i => P i
  | _ => False
noncomputable def get2M (o : Option MO) (k d : MV) (P : MV → Prop) : Prop := match o with
  | some (.sdict l) => strV k fun x => P ((lookI l x).getD d)
  | some (.idict l) => intV k fun x => P ((lookI l x).getD d)
  | _ => False
noncomputable def a0 (args : List MV) (P : Prop) : Prop := match args with
  | [] => P
  | _ => False
noncomputable def methM (fz : List Addr) (m : MM) (o : MV) (args : List MV) (Q : MQ) (μ : MH) : Prop := match m with
  | .append => refV o fun a => a1 args fun v => ∃ l, μ a = some (.list l) ∧ a ∉ fz ∧ fits l.length ∧ Q .none (upd μ a (.list (l ++ [v])))
  | .extend => refV o fun a => a1 args fun v => refV v fun b => ∃ l x, μ a = some (.list l) ∧ a ∉ fz ∧ lst μ b = some x ∧ a ≠ b ∧ fits (l.length + x.length) ∧ Q .none (upd μ a (.list (l ++ x)))
  | .keys => refV o fun a => a0 args (isDictO (μ a) = true ∧ Q (.keys a) μ)
  | .values => refV o fun a => a0 args (isDictO (μ a) = true ∧ Q (.vals a) μ)
  | .get2 => refV o fun a => a2 args fun k d => get2M (μ a) k d fun v => Q v μ
  | .update => refV o fun a => a1 args fun v => refV v fun b => ∃ l y, μ a = some (.idict l) ∧ a ∉ fz ∧ μ b = some (.idict y) ∧ a ≠ b ∧ fits (l.length + y.length) ∧ Q .none (upd μ a (.idict (y.foldl (fun d kv => putI d kv.1 kv.2) l)))
  | .join => strV o fun x => a1 args fun v => refV v fun a => ∃ l ss, lst μ a = some l ∧ strsOf l = some ss ∧ x.length ≤ 16 ∧ (ss.map (·.length)).sum + ss.length ≤ 2 ^ 20 ∧ Q (.str (Txt.join x ss)) μ
  | _ => False
inductive Src where
  | val (v : MV)
  | ints (l : List Int)
  | rev (v : MV)
  | zip (a b : MV)
noncomputable def Src.items (μ : MH) : Src → Option (List MV)
  | .val v => Mine.items μ v
  | .ints l => some (l.map .int)
  | .rev (.ref a) => (lst μ a).map List.reverse
  | .rev _ => none
  | .zip _ _ => none
noncomputable def rangeL (lo hi st : Int) : List Int := (List.range ((hi - lo + st - 1) / st).toNat).map fun (k : Nat) => lo + st * k
noncomputable def in62 (i : Int) : Bool := decide (-(2 ^ 62) ≤ i) && decide (i < 2 ^ 62)
noncomputable def rangeM (args : List MV) : Option (List Int) := match args with
  | [.int h] => if in62 h then some (rangeL 0 h 1) else none
  | [.int l, .int h] => if in62 l && in62 h then some (rangeL l h 1) else none
  | [.int l, .int h, .int s] => if in62 l && in62 h && decide (0 < s) && decide (s ≤ 1000) then some (rangeL l h s) else none
  | _ => none
noncomputable def isVals : MV → Bool
  | .vals _ => true
  | _ => false
noncomputable def mkSrc (k : SK) (vs : List MV) : Option Src := match k, vs with
  | .plain, [v] => some (.val v)
  | .range, vs => (rangeM vs).map .ints
  | .rev, [v] => some (.rev v)
  | _, _ => none
noncomputable def setAt {α : Type} (l : List α) (k : Int) (v : α) : Option (List α) :=
  if 0 ≤ k then (if k.toNat < l.length then some (l.set k.toNat v) else none)
  else if 0 ≤ k + l.length then some (l.set (k + l.length).toNat v) else none
noncomputable def setO (o : Option MO) (i v : MV) (P : MO → Prop) : Prop := match o with
  | some (.list l) => intV i fun k => fits l.length ∧ ∃ l', setAt l k v = some l' ∧ P (.list l')
  | some (.idict l) => intV i fun k => fits l.length ∧ P (.idict (putI l k v))
  | some (.sdict l) => strV i fun k => fits l.length ∧ P (.sdict (putI l k v))
  | none => False
noncomputable def setM (fz : List Addr) (o i v : MV) (Q : MH → Prop) (μ : MH) : Prop := refV o fun a => a ∉ fz ∧ setO (μ a) i v fun o' => Q (upd μ a o')
noncomputable def bindT (t : MT) (v : MV) (vars : MVars) : Option MVars := match t, v with
  | .one i, v => some (setv vars i v)
  | .tup is, .tup l => if is.length = l.length then some ((is.zip l).foldl (fun vs p => setv vs p.1 p.2) vars) else none
  | .tup _, _ => none
noncomputable def Src.held : Src → List Addr
  | .val (.ref a) | .val (.keys a) | .val (.vals a) | .rev (.ref a) => [a]
  | _ => []
noncomputable def loopM (t : MT) (B : MVars → (MFlow → MVars → MH → Prop) → MH → Prop) (R : MFlow → MVars → MH → Prop) : List MV → MVars → MH → Prop
  | [], vars, μ => R .next vars μ
  | v :: rest, vars, μ => ∃ vars', bindT t v vars = some vars' ∧
      B vars' (fun fl vars'' μ' => match fl with
        | .next | .cont => loopM t B R rest vars'' μ'
        | .brk => R .next vars'' μ'
        | .ret v => R (.ret v) vars'' μ') μ
noncomputable def compM (fz : List Addr) (t : MT) (vars : MVars) (T : MVars → (Bool → MH → Prop) → MH → Prop) (B : MVars → MQ → MH → Prop) (Q : MQ) : List MV → List MV → MH → Prop
  | [], acc, μ => allocM fz μ (.list acc) fun c μ' => Q (.ref c) μ'
  | v :: rest, acc, μ => ∃ vars', bindT t v vars = some vars' ∧
      T vars' (fun ok μ' => if ok then B vars' (fun r μ'' => compM fz t vars T B Q rest (acc ++ [r]) μ'') μ' else compM fz t vars T B Q rest acc μ') μ
noncomputable def whileM (C : MVars → (Bool → MH → Prop) → MH → Prop) (B : MVars → (MFlow → MVars → MH → Prop) → MH → Prop) (R : MFlow → MVars → MH → Prop) : Nat → MVars → MH → Prop
  | 0, _, _ => False
  | n + 1, vars, μ => C vars (fun b μ' => if b then B vars (fun fl vars'' μ'' => match fl with
        | .next | .cont => whileM C B R n vars'' μ''
        | .brk => R .next vars'' μ''
        | .ret v => R (.ret v) vars'' μ'') μ'
      else R .next vars μ') μ
section
variable (G : String → Option MV) (Φ : CallSpec) (X : MX)
mutual
noncomputable def ev : ME → List Addr → MVars → MQ → MH → Prop
  | .var i, _, vars, Q, μ => ∃ v, vars i = some v ∧ Q v μ
  | .glob g, _, _, Q, μ => ∃ v, G g = some v ∧ Q v μ
  | .cint i, _, _, Q, μ => Q (.int i) μ
  | .cstr s, _, _, Q, μ => Q (.str (Str.ofString s)) μ
  | .cbool b, _, _, Q, μ => Q (.bool b) μ
  | .cnone, _, _, Q, μ => Q .none μ
  | .bin op a b, fz, vars, Q, μ => ev a fz vars (fun x μ' => ev b fz vars (fun y μ'' => binM fz op x y Q μ'') μ') μ
  | .neg a, fz, vars, Q, μ => ev a fz vars (fun x μ' => ∃ i, x = .int i ∧ Q (.int (-i)) μ') μ
  | .not a, fz, vars, Q, μ => ev a fz vars (fun x μ' => ∃ b, truthy μ' x = some b ∧ Q (.bool (!b)) μ') μ
  | .and l, fz, vars, Q, μ => evAnd l fz vars Q μ
  | .or l, fz, vars, Q, μ => evOr l fz vars Q μ
  | .cmp a ops es, fz, vars, Q, μ => ev a fz vars (fun x μ' => evCmp es ops x fz vars Q μ') μ
  | .ite c a b, fz, vars, Q, μ => ev c fz vars (fun x μ' => ∃ t, truthy μ' x = some t ∧ if t then ev a fz vars Q μ' else ev b fz vars Q μ') μ
  | .idx a i, fz, vars, Q, μ => ev a fz vars (fun x μ' => ev i fz vars (fun y μ'' => ∃ v, idxM μ'' x y = some v ∧ Q v μ'') μ') μ
  | .slice a lo hi st, fz, vars, Q, μ => ev a fz vars (fun x μ' => ev lo fz vars (fun l μ₁ => ev hi fz vars (fun h μ₂ => ev st fz vars (fun s μ₃ => sliceM fz x l h s Q μ₃) μ₂) μ₁) μ') μ
  | .list l, fz, vars, Q, μ => evs l fz vars (fun vs μ' => fits vs.length ∧ allocM fz μ' (.list vs) fun c μ'' => Q (.ref c) μ'') μ
  | .tuple l, fz, vars, Q, μ => evs l fz vars (fun vs μ' => fits vs.length ∧ Q (.tup vs) μ') μ
  | .dict0 s, fz, _, Q, μ => allocM fz μ (if s then .sdict [] else .idict []) fun c μ' => Q (.ref c) μ'
  | .dict _ _, _, _, _, _ => False
  | .call f args, fz, vars, Q, μ => evs args fz vars (fun vs μ' => Φ f vs fz Q X μ') μ
  | .bi f args, fz, vars, Q, μ => evs args fz vars (fun vs μ' => biM fz f vs Q μ') μ
  | .isinst e t, fz, vars, Q, μ => ev e fz vars (fun v μ' => ∃ b, isTy μ' t v = some b ∧ Q (.bool b) μ') μ
  | .meth m o args, fz, vars, Q, μ => ev o fz vars (fun x μ' => mmKind m μ' x = true ∧ evs args fz vars (fun vs μ'' => methM fz m x vs Q μ'') μ') μ
  | .comp elt t k its ifs, fz, vars, Q, μ => evs its fz vars (fun vs μ' => ∃ src all, mkSrc k vs = some src ∧ src.items μ' = some all ∧ fits all.length ∧
      compM fz t vars (fun vs F μ => evIfs ifs (src.held ++ fz) vs F μ) (fun vs F μ => ev elt (src.held ++ fz) vs F μ) Q all [] μ') μ
noncomputable def evs : List ME → List Addr → MVars → (List MV → MH → Prop) → MH → Prop
  | [], _, _, Q, μ => Q [] μ
  | e :: r, fz, vars, Q, μ => ev e fz vars (fun v μ' => evs r fz vars (fun vs μ'' => Q (v :: vs) μ'') μ') μ
noncomputable def evAnd : List ME → List Addr → MVars → MQ → MH → Prop
  | [], _, _, _, _ => False
  | e :: r, fz, vars, Q, μ => ev e fz vars (fun v μ' => match r with
      | [] => Q v μ'
      | _ :: _ => ∃ b, truthy μ' v = some b ∧ if b then evAnd r fz vars Q μ' else Q v μ') μ
noncomputable def evOr : List ME → List Addr → MVars → MQ → MH → Prop
  | [], _, _, _, _ => False
  | e :: r, fz, vars, Q, μ => ev e fz vars (fun v μ' => match r with
      | [] => Q v μ'
      | _ :: _ => ∃ b, truthy μ' v = some b ∧ if b then Q v μ' else evOr r fz vars Q μ') μ
noncomputable def evCmp : List ME → List COp → MV → List Addr → MVars → MQ → MH → Prop
  | e :: r, op :: ops, x, fz, vars, Q, μ => ev e fz vars (fun y μ' => ∃ b, cmpM op μ' x y = some b ∧ match r, ops with
      | [], [] => Q (.bool b) μ'
      | _ :: _, _ :: _ => if b then evCmp r ops y fz vars Q μ' else Q (.bool false) μ'
      | _, _ => False) μ
  | _, _, _, _, _, _, _ => False
noncomputable def evIfs : List ME → List Addr → MVars → (Bool → MH → Prop) → MH → Prop
  | [], _, _, F, μ => F true μ
  | e :: r, fz, vars, F, μ => ev e fz vars (fun v μ' => ∃ b, truthy μ' v = some b ∧ match r with
      | [] => F b μ'
      | _ :: _ => if b then evIfs r fz vars F μ' else F false μ') μ
end
mutual
noncomputable def ex : MS → List Addr → MVars → (MFlow → MVars → MH → Prop) → MH → Prop
  | .assign i e, fz, vars, R, μ => ev G Φ X e fz vars (fun v μ' => R .next (setv vars i v) μ') μ
  | .unpack l e, fz, vars, R, μ => ev G Φ X e fz vars (fun v μ' => ∃ vars', bindT (.tup l) v vars = some vars' ∧ R .next vars' μ') μ
  | .setidx o i e, fz, vars, R, μ => ev G Φ X e fz vars (fun v μ₁ => ev G Φ X o fz vars (fun x μ₂ => ev G Φ X i fz vars (fun y μ₃ => setM fz x y v (fun μ₄ => R .next vars μ₄) μ₃) μ₂) μ₁) μ
  | .expr e, fz, vars, R, μ => ev G Φ X e fz vars (fun _ μ' => R .next vars μ') μ
  | .ret e, fz, vars, R, μ => ev G Φ X e fz vars (fun v μ' => R (.ret v) vars μ') μ
  | .ret0, _, vars, R, μ => R (.ret .none) vars μ
  | .ite c a b, fz, vars, R, μ => ev G Φ X c fz vars (fun v μ' => ∃ t, truthy μ' v = some t ∧ if t then exs a fz vars R μ' else exs b fz vars R μ') μ
  | .for t k its body, fz, vars, R, μ => evs G Φ X its fz vars (fun vs μ' => ∃ src all, mkSrc k vs = some src ∧ src.items μ' = some all ∧ fits all.length ∧
      loopM t (fun vs F μ => exs body (src.held ++ fz) vs F μ) R all vars μ') μ
  | .while c body, fz, vars, R, μ => ∃ n, whileM (fun vs F μ => ev G Φ X c fz vs (fun v μ' => ∃ t, truthy μ' v = some t ∧ F t μ') μ) (fun vs F μ => exs body fz vs F μ) R n vars μ
  | .pass, _, vars, R, μ => R .next vars μ
noncomputable def exs : List MS → List Addr → MVars → (MFlow → MVars → MH → Prop) → MH → Prop
  | [], _, vars, R, μ => R .next vars μ
  | st :: r, fz, vars, R, μ => ex st fz vars (fun fl vars' μ' => match fl with
      | .next => exs r fz vars' R μ'
      | fl => R fl vars' μ') μ
end
end
noncomputable def args0 (vs : List MV) : MVars := fun i => vs[i]?
noncomputable def calls (G : String → Option MV) (Γ : String → Option MFun) : Nat → CallSpec
  | 0, _, _, _, _, _, _ => False
  | d + 1, f, vs, fz, Q, X, μ => ∃ fd, Γ f = some fd ∧ vs.length = fd.n ∧
      exs G (calls G Γ d) X fd.body fz (args0 vs) (fun fl _ μ' => match fl with
        | .ret v => Q v μ'
        | .next => Q .none μ'
        | _ => False) μ
theorem Kq {a b : MV} {P : Int → Int → Prop} (h : intsM a b P) : ∃ x y, a = .int x ∧ b = .int y ∧ P x y := by
  cases a <;> first
    | exact False.elim h
    | (cases b <;> first | exact False.elim h | exact ⟨_, _, rfl, rfl, h⟩)
theorem Ou {a b : MV} {f : Int → Int → Bool} {r : Bool} (h : intsO a b f = some r) : ∃ x y, a = .int x ∧ b = .int y ∧ f x y = r := by
  cases a <;> first
    | (cases h; done)
    | (cases b <;> first | (cases h; done) | exact ⟨_, _, rfl, rfl, Option.some.inj h⟩)
theorem Zn {v : MV} {P : Addr → Prop} (h : refV v P) : ∃ i, v = .ref i ∧ P i := by
  cases v <;> first | exact False.elim h | exact ⟨_, rfl, h⟩
theorem Vv {v : MV} {P : Addr → Bool} (h : refB v P = true) : ∃ i, v = .ref i ∧ P i = true := by
  cases v <;> first | exact (Bool.false_ne_true h).elim | exact ⟨_, rfl, h⟩
theorem Bz {v : MV} {P : Int → Prop} (h : intV v P) : ∃ i, v = .int i ∧ P i := by
  cases v <;> first | exact False.elim h | exact ⟨_, rfl, h⟩
theorem boolV_inv {v : MV} {P : Bool → Prop} (h : boolV v P) : ∃ i, v = .bool i ∧ P i := by
  cases v <;> first | exact False.elim h | exact ⟨_, rfl, h⟩
theorem Bi {v : MV} {P : Str → Prop} (h : strV v P) : ∃ i, v = .str i ∧ P i := by
  cases v <;> first | exact False.elim h | exact ⟨_, rfl, h⟩
theorem isStrV_inv {v : MV} (h : isStrV v = true) : ∃ i, v = .str i := by
  cases v <;> first | exact (Bool.false_ne_true h).elim | exact ⟨_, rfl⟩
theorem a0_inv {args : List MV} {P : Prop} (h : a0 args P) : args = [] ∧ P := by
  cases args <;> first | exact False.elim h | exact ⟨rfl, h⟩
theorem U0 {args : List MV} {P : MV → Prop} (h : a1 args P) : ∃ v, args = [v] ∧ P v := by
  cases args with
  | nil => exact False.elim h
  | cons v r => cases r with
    | nil => exact ⟨v, rfl, h⟩
    | cons _ _ => exact False.elim h
theorem a2_inv {args : List MV} {P : MV → MV → Prop} (h : a2 args P) : ∃ v u, args = [v, u] ∧ P v u := by
  cases args with
  | nil => exact False.elim h
  | cons v r => cases r with
    | nil => exact False.elim h
    | cons u r => cases r with
      | nil => exact ⟨v, u, rfl, h⟩
      | cons _ _ => exact False.elim h
theorem O7 {o : Option MO} (h : isDictO o = true) : (∃ l, o = some (.idict l)) ∨ ∃ l, o = some (.sdict l) := by
  cases o with
  | none => exact (Bool.false_ne_true h).elim
  | some o => cases o with
    | list l => exact (Bool.false_ne_true h).elim
    | idict l => exact .inl ⟨l, rfl⟩
    | sdict l => exact .inr ⟨l, rfl⟩
theorem isListO_inv {o : Option MO} (h : isListO o = true) : ∃ l, o = some (.list l) := by
  cases o with
  | none => exact (Bool.false_ne_true h).elim
  | some o => cases o with
    | list l => exact ⟨l, rfl⟩
    | idict l => exact (Bool.false_ne_true h).elim
    | sdict l => exact (Bool.false_ne_true h).elim
theorem anyT_inv {x y : Option PyData} {r : Bool} (h : anyT x y = some r) : ∃ xs d, x = some (.tuple xs) ∧ y = some d ∧ (xs.any fun y => PyData.eqv y d) = r := by
  cases x with
  | none => cases h
  | some x =>
    cases x with
    | tuple xs => obtain ⟨d, e, q⟩ := Option.map_eq_some_iff.mp h; exact ⟨xs, d, rfl, e, q⟩
    | _ => cases h
theorem anyL_inv {x y : Option PyData} {r : Bool} (h : anyL x y = some r) : ∃ xs d, x = some (.list xs) ∧ y = some d ∧ (xs.any fun y => PyData.eqv y d) = r := by
  cases x with
  | none => cases h
  | some x =>
    cases x with
    | list xs => obtain ⟨d, e, q⟩ := Option.map_eq_some_iff.mp h; exact ⟨xs, d, rfl, e, q⟩
    | _ => cases h
theorem Px {v r : MV} {f : Int → Option MV} (h : intO v f = some r) : ∃ k, v = .int k ∧ f k = some r := by
  cases v <;> first | (cases h; done) | exact ⟨_, rfl, h⟩
theorem strO_inv {v r : MV} {f : Str → Option MV} (h : strO v f = some r) : ∃ k, v = .str k ∧ f k = some r := by
  cases v <;> first | (cases h; done) | exact ⟨_, rfl, h⟩
theorem By {p : Prop} [Decidable p] {α : Type} {x : Option α} {y : α} (h : (if p then x else none) = some y) : p ∧ x = some y := by
  by_cases q : p
  · rw [if_pos q] at h; exact ⟨q, h⟩
  · rw [if_neg q] at h; cases h
end Mine
end
section
namespace Mine
open PySem PySem.Calls
noncomputable def KeysView (h : Heap) (v d : Addr) : Prop := ∃ o, h.get? v = some o ∧ o.cls = .type "dict_keys" ∧ o.data = .fields #[.ref d]
mutual
noncomputable def RepV (h : Heap) : MV → Value → Prop
  | .none, v => v = .none
  | .bool b, v => v = .bool b
  | .int i, v => ∃ t, v = .int i t
  | .str x, v => ∃ t, v = .str x t
  | .tup l, v => ∃ a vs n, v = .ref a ∧ h.get? a = some { cls := .type "tuple", data := .seq (List.toArray vs) n } ∧ RepVs h l vs
  | .ref a, v => v = .ref a
  | .keys d, v => ∃ a, v = .ref a ∧ KeysView h a d
  | .vals d, v => ∃ a, v = .ref a ∧ h.IsValuesView a d
noncomputable def RepVs (h : Heap) : List MV → List Value → Prop
  | [], [] => True
  | m :: ms, v :: vs => RepV h m v ∧ RepVs h ms vs
  | [], _ :: _ => False
  | _ :: _, [] => False
end
noncomputable def RepKV {K : Type} (h : Heap) : List (K × MV) → List (K × Value) → Prop
  | [], [] => True
  | m :: ms, v :: vs => m.1 = v.1 ∧ RepV h m.2 v.2 ∧ RepKV h ms vs
  | [], _ :: _ => False
  | _ :: _, [] => False
noncomputable def RepO (prog : Program) (w : World) (h : Heap) (a : Addr) : MO → Prop
  | .list l => ∃ vs : List Value, h.PlainList a vs.toArray ∧ RepVs h l vs
  | .idict l => ∃ kvs, h.DictOf (intKind prog w) a kvs ∧ RepKV h l kvs ∧ (a == sysModules) = false
  | .sdict l => ∃ kvs, h.DictOf (strKind prog w) a kvs ∧ RepKV h l kvs ∧ (a == sysModules) = false
noncomputable def RepH (prog : Program) (w : World) (μ : MH) (h : Heap) : Prop := ∀ a o, μ a = some o → RepO prog w h a o
noncomputable def ImmCls (o : Obj) : Prop := (o.cls = .type "tuple" ∧ ∃ xs n, o.data = .seq xs n) ∨ (o.cls = .type "dict_keys" ∧ ∃ vs, o.data = .fields vs) ∨ (o.cls = .type "dict_values" ∧ ∃ vs, o.data = .fields vs)
noncomputable def KeepsT (h h' : Heap) : Prop := ∀ b o, h.get? b = some o → ImmCls o → h'.get? b = some o
theorem KeepsT.of_all {h h' : Heap} (k : ∀ b o, h.get? b = some o → h'.get? b = some o) : KeepsT h h' := fun b o e _ => k b o e
mutual
theorem RepV.keepT {h h' : Heap} (k : KeepsT h h') : ∀ {m : MV} {v : Value}, RepV h m v → RepV h' m v
  | .none, _ => fun x => by simpa [RepV] using x
  | .bool _, _ => fun x => by simpa [RepV] using x
  | .int _, _ => fun x => by simpa [RepV] using x
  | .str _, _ => fun x => by simpa [RepV] using x
  | .tup l, _ => fun x => by
    simp only [RepV] at x ⊢
    obtain ⟨a, vs, n, e, ho, hv⟩ := x
    exact ⟨a, vs, n, e, k a _ ho (.inl ⟨rfl, _, _, rfl⟩), RepVs.keepT k hv⟩
  | .ref _, _ => fun x => by simpa [RepV] using x
  | .keys d, _ => fun x => by
    simp only [RepV] at x ⊢
    obtain ⟨a, e, o, ho, hc, r⟩ := x
    exact ⟨a, e, o, k a o ho (.inr (.inl ⟨hc, _, r⟩)), hc, r⟩
  | .vals d, _ => fun x => by
    simp only [RepV] at x ⊢
    obtain ⟨a, e, o, ho, hc, r⟩ := x
    exact ⟨a, e, o, k a o ho (.inr (.inr ⟨hc, _, r⟩)), hc, r⟩
theorem RepVs.keepT {h h' : Heap} (k : KeepsT h h') : ∀ {m : List MV} {v : List Value}, RepVs h m v → RepVs h' m v
  | [], [] => fun _ => trivial
  | _ :: _, _ :: _ => fun x => by simp only [RepVs] at x ⊢; exact ⟨RepV.keepT k x.1, RepVs.keepT k x.2⟩
  | [], _ :: _ => fun x => by simp [RepVs] at x
  | _ :: _, [] => fun x => by simp [RepVs] at x
end
theorem RepKV.keepT {K : Type} {h h' : Heap} (k : KeepsT h h') : ∀ {m : List (K × MV)} {v : List (K × Value)}, RepKV h m v → RepKV h' m v
  | [], [] => fun _ => trivial
  | _ :: _, _ :: _ => fun x => by simp only [RepKV] at x ⊢; exact ⟨x.1, RepV.keepT k x.2.1, RepKV.keepT k x.2.2⟩
  | [], _ :: _ => fun x => by simp [RepKV] at x
  | _ :: _, [] => fun x => by simp [RepKV] at x
theorem RepVs.length {h : Heap} : ∀ {m : List MV} {v : List Value}, RepVs h m v → v.length = m.length
  | [], [] => fun _ => rfl
  | _ :: _, _ :: _ => fun x => by simp only [RepVs] at x; simp [RepVs.length x.2]
  | [], _ :: _ => fun x => by simp [RepVs] at x
  | _ :: _, [] => fun x => by simp [RepVs] at x
theorem RepKV.length {K : Type} {h : Heap} : ∀ {m : List (K × MV)} {v : List (K × Value)}, RepKV h m v → v.length = m.length
  | [], [] => fun _ => rfl
  | _ :: _, _ :: _ => fun x => by simp only [RepKV] at x; simp [RepKV.length x.2.2]
  | [], _ :: _ => fun x => by simp [RepKV] at x
  | _ :: _, [] => fun x => by simp [RepKV] at x
theorem RepVs.append {h : Heap} : ∀ {m m' : List MV} {v v' : List Value}, RepVs h m v → RepVs h m' v' → RepVs h (m ++ m') (v ++ v')
  | [], _, [], _ => fun _ y => y
  | _ :: _, _, _ :: _, _ => fun x y => by simp only [RepVs, List.cons_append] at x ⊢; exact ⟨x.1, RepVs.append x.2 y⟩
  | [], _, _ :: _, _ => fun x _ => by simp [RepVs] at x
  | _ :: _, _, [], _ => fun x _ => by simp [RepVs] at x
theorem RepVs.get {h : Heap} : ∀ {m : List MV} {v : List Value} {i : Nat} {x : MV}, RepVs h m v → m[i]? = some x → ∃ y, v[i]? = some y ∧ RepV h x y
  | [], [], i, x => fun _ e => by simp at e
  | m :: ms, y :: ys, 0, x => fun r e => by simp only [RepVs] at r; simp at e; subst e; exact ⟨y, rfl, r.1⟩
  | m :: ms, y :: ys, i + 1, x => fun r e => by simp only [RepVs] at r; exact RepVs.get (i := i) r.2 (by simpa using e)
  | [], _ :: _, _, _ => fun r _ => by simp [RepVs] at r
  | _ :: _, [], _, _ => fun r _ => by simp [RepVs] at r
theorem RepO.keeps {prog : Program} {w : World} {h h' : Heap} (k : KeepsT h h') {a : Addr} {o : MO} (ka : ∀ x, h.get? a = some x → h'.get? a = some x) (r : RepO prog w h a o) : RepO prog w h' a o := by
  cases o with
  | list l => obtain ⟨vs, ⟨n, ho⟩, hv⟩ := r; exact ⟨vs, ⟨n, ka _ ho⟩, hv.keepT k⟩
  | idict l => obtain ⟨kvs, ⟨o, es, ep, ho, hr⟩, hv, hs⟩ := r; exact ⟨kvs, ⟨o, es, ep, ka o ho, hr⟩, hv.keepT k, hs⟩
  | sdict l => obtain ⟨kvs, ⟨o, es, ep, ho, hr⟩, hv, hs⟩ := r; exact ⟨kvs, ⟨o, es, ep, ka o ho, hr⟩, hv.keepT k, hs⟩
theorem RepO.obj {prog : Program} {w : World} {h : Heap} {a : Addr} {o : MO} (r : RepO prog w h a o) : ∃ x, h.get? a = some x ∧ ¬ ImmCls x := by
  cases o with
  | list l => obtain ⟨vs, ⟨n, ho⟩, _⟩ := r; exact ⟨_, ho, by unfold ImmCls; simp⟩
  | idict l => obtain ⟨kvs, ⟨o, es, ep, ho, hc, _⟩, _⟩ := r; exact ⟨o, ho, by unfold ImmCls; rw [hc.1]; simp⟩
  | sdict l => obtain ⟨kvs, ⟨o, es, ep, ho, hc, _⟩, _⟩ := r; exact ⟨o, ho, by unfold ImmCls; rw [hc.1]; simp⟩
theorem RepH.ext {prog : Program} {w : World} {μ : MH} {h h' : Heap} (r : RepH prog w μ h) (k : ∀ b o, h.get? b = some o → h'.get? b = some o) : RepH prog w μ h' :=
  fun a o e => (r a o e).keeps (.of_all k) (k a)
theorem RepH.alloc {prog : Program} {w : World} {μ : MH} {h h' : Heap} {c : Addr} {o : MO} (r : RepH prog w μ h) (k : ∀ b o, h.get? b = some o → h'.get? b = some o) (ho : RepO prog w h' c o) : RepH prog w (upd μ c o) h' := by
  intro a o' e
  unfold upd at e
  split at e
  · rename_i q; cases e; rw [q]; exact ho
  · exact (r a o' e).keeps (.of_all k) (k a)
theorem KeepsT.but {prog : Program} {w : World} {μ : MH} {h h' : Heap} {c : Addr} {o : MO} (r : RepH prog w μ h) (e : μ c = some o) (k : ∀ b o, b ≠ c → h.get? b = some o → h'.get? b = some o) : KeepsT h h' := fun b x hb hi => by
  refine k b x (fun q => ?_) hb
  obtain ⟨y, hy, hn⟩ := (r c o e).obj
  rw [q, hy] at hb; cases hb; exact hn hi
theorem RepH.update {prog : Program} {w : World} {μ : MH} {h h' : Heap} {c : Addr} {o o' : MO} (r : RepH prog w μ h) (e : μ c = some o) (k : ∀ b o, b ≠ c → h.get? b = some o → h'.get? b = some o)
    (ho : KeepsT h h' → RepO prog w h' c o') : RepH prog w (upd μ c o') h' := by
  have kt := KeepsT.but r e k
  intro a x ex
  unfold upd at ex
  split at ex
  · rename_i q; cases ex; rw [q]; exact ho kt
  · rename_i q; exact (r a x ex).keeps kt fun y hy => k a y q hy
structure Grow (fz : List Addr) (μ : MH) (s : Shared) (μ' : MH) (s' : Shared) : Prop where
  keep : ∀ b o, (μ b = none ∨ b ∈ fz) → s.heap.get? b = some o → s'.heap.get? b = some o ∧ μ' b = μ b
  os : s'.os = s.os
  gens : s'.gens = s.gens
theorem Grow.refl {fz : List Addr} {μ : MH} {s : Shared} : Grow fz μ s μ s := ⟨fun _ _ _ e => ⟨e, rfl⟩, rfl, rfl⟩
theorem Grow.trans {fz : List Addr} {μ μ₁ μ₂ : MH} {s s₁ s₂ : Shared} (x : Grow fz μ s μ₁ s₁) (y : Grow fz μ₁ s₁ μ₂ s₂) : Grow fz μ s μ₂ s₂ :=
  ⟨fun b o f e => by
    obtain ⟨e1, q1⟩ := x.keep b o f e
    obtain ⟨e2, q2⟩ := y.keep b o (f.imp (fun z => q1.trans z) id) e1
    exact ⟨e2, q2.trans q1⟩, y.os.trans x.os, y.gens.trans x.gens⟩
theorem Grow.weak {fz cs : List Addr} {μ μ' : MH} {s s' : Shared} (x : Grow (cs ++ fz) μ s μ' s') : Grow fz μ s μ' s' :=
  ⟨fun b o f e => x.keep b o (f.imp id fun m => List.mem_append_right _ m) e, x.os, x.gens⟩
theorem Grow.keepT {prog : Program} {w : World} {fz : List Addr} {μ μ' : MH} {s s' : Shared} (x : Grow fz μ s μ' s') (r : RepH prog w μ s.heap) : KeepsT s.heap s'.heap := fun b o e hi => by
  refine (x.keep b o ?_ e).1
  cases q : μ b with
  | none => exact .inl rfl
  | some m =>
    obtain ⟨y, hy, hn⟩ := (r b m q).obj
    rw [e] at hy; cases hy; exact absurd hi hn
noncomputable def FzIn (fz : List Addr) (μ : MH) : Prop := ∀ b ∈ fz, μ b ≠ none
theorem FzIn.grow {prog : Program} {w : World} {fz : List Addr} {μ μ' : MH} {s s' : Shared} (f : FzIn fz μ) (r : RepH prog w μ s.heap) (x : Grow fz μ s μ' s') : FzIn fz μ' := fun b hb => by
  cases q : μ b with
  | none => exact absurd q (f b hb)
  | some m =>
    obtain ⟨y, hy, _⟩ := (r b m q).obj
    rw [(x.keep b y (.inr hb) hy).2, q]; intro z; cases z
theorem Grow.ext {fz : List Addr} {μ : MH} {s : Shared} {h' : Heap} {tk : Nat} (k : ∀ b o, s.heap.get? b = some o → h'.get? b = some o) : Grow fz μ s μ { s with heap := h', toks := tk } :=
  ⟨fun b o _ e => ⟨k b o e, rfl⟩, rfl, rfl⟩
theorem Grow.alloc {fz : List Addr} {μ : MH} {s : Shared} {h' : Heap} {tk : Nat} {c : Addr} {o : MO} (k : ∀ b o, s.heap.get? b = some o → h'.get? b = some o) (hc : s.heap.get? c = none) :
    Grow fz μ s (upd μ c o) { s with heap := h', toks := tk } :=
  ⟨fun b x _ e => ⟨k b x e, by unfold upd; rw [if_neg (fun q => by rw [q, hc] at e; cases e)]⟩, rfl, rfl⟩
theorem Grow.update {fz : List Addr} {μ : MH} {s : Shared} {h' : Heap} {tk : Nat} {c : Addr} {o o' : MO} (e : μ c = some o) (hf : c ∉ fz) (k : ∀ b o, b ≠ c → s.heap.get? b = some o → h'.get? b = some o) :
    Grow fz μ s (upd μ c o') { s with heap := h', toks := tk } :=
  ⟨fun b x f hb => by
    have ne : b ≠ c := fun q => by
      subst q
      rcases f with f | f
      · rw [e] at f; cases f
      · exact hf f
    exact ⟨k b x ne hb, by unfold upd; rw [if_neg ne]⟩, rfl, rfl⟩
end Mine
end
section
set_option genSizeOfSpec false
set_option genInjectivity false
namespace Mine
open PySem PySem.Calls
structure Sc where
  tab : List (Nat × Str)
  names : List (Str × NameKind)
  funs : List String
noncomputable def kindVar (k : Option NameKind) : Bool := decide (k = some .local) || decide (k = some .cell) || decide (k = some .free)
noncomputable def kindSt (k : Option NameKind) : Bool := decide (k = some .local) || decide (k = some .cell)
noncomputable def isGlobK (k : Option NameKind) : Bool := decide (k = some .globalImplicit)
noncomputable def notDebug (x : Str) : Bool := !(x == Str.ofString "__debug__") && !(x == Str.ofString "__classdict__")
noncomputable def Sc.isVar (S : Sc) (i : Nat) (x : Str) : Bool := S.tab.lookup i == some x && kindVar (S.names.lookup x) && notDebug x
noncomputable def Sc.isSt (S : Sc) (i : Nat) (x : Str) : Bool := S.tab.lookup i == some x && kindSt (S.names.lookup x)
noncomputable def Sc.isGlob (S : Sc) (g : String) (x : Str) : Bool := x == Str.ofString g && isGlobK (S.names.lookup x) && notDebug x
inductive Tg where | other | name | cint | cstr | cbool | cnone | bin | neg | not | and | or | cmp | ife | sub | slc | list | tup | dict0 | callN | callA | lc
  deriving DecidableEq
structure Nd where
  t : Tg
  a : PySem.Expr
  b : PySem.Expr
  c : PySem.Expr
  l : List PySem.Expr
  os : List CmpOp
  op : Operator
  s : Str
  k : Nat
  i : Int
  bl : Bool
  kw : List Keyword
  sc : Scope
  o1 : Option PySem.Expr
  o2 : Option PySem.Expr
  o3 : Option PySem.Expr
  p : Pos
  p2 : Pos
noncomputable def nd0 (x : PySem.Expr) : Nd := ⟨.other, x, x, x, [], [], .Add, ⟨#[]⟩, 0, 0, false, [], default, none, none, none, default, default⟩
noncomputable def node (x : PySem.Expr) : Nd := match x with
  | .Name s p => { nd0 x with t := .name, s := s, p := p }
  | .Constant (.int i) k p => { nd0 x with t := .cint, i := i, k := k, p := p }
  | .Constant (.str s) k p => { nd0 x with t := .cstr, s := s, k := k, p := p }
  | .Constant (.bool b) k p => { nd0 x with t := .cbool, bl := b, k := k, p := p }
  | .Constant .none k p => { nd0 x with t := .cnone, k := k, p := p }
  | .BinOp l o r p => { nd0 x with t := .bin, a := l, op := o, b := r, p := p }
  | .UnaryOp .USub y p => { nd0 x with t := .neg, a := y, p := p }
  | .UnaryOp .Not y p => { nd0 x with t := .not, a := y, p := p }
  | .BoolOp .And l p => { nd0 x with t := .and, l := l, p := p }
  | .BoolOp .Or l p => { nd0 x with t := .or, l := l, p := p }
  | .Compare l os cs p => { nd0 x with t := .cmp, a := l, os := os, l := cs, p := p }
  | .IfExp t y z p => { nd0 x with t := .ife, a := t, b := y, c := z, p := p }
  | .Subscript v (.Slice l u s sp) p => { nd0 x with t := .slc, a := v, o1 := l, o2 := u, o3 := s, p2 := sp, p := p }
  | .Subscript v s p => { nd0 x with t := .sub, a := v, b := s, p := p }
  | .List es p => { nd0 x with t := .list, l := es, p := p }
  | .Tuple es k p => { nd0 x with t := .tup, l := es, k := k, p := p }
  | .Dict [] [] p => { nd0 x with t := .dict0, p := p }
  | .Call (.Name g np) as kw p => { nd0 x with t := .callN, s := g, p2 := np, l := as, kw := kw, p := p }
  | .Call (.Attribute v nm ap) as kw p => { nd0 x with t := .callA, a := v, s := nm, p2 := ap, l := as, kw := kw, p := p }
  | .ListComp el [⟨tg, iter, ifs, 0⟩] sc p => { nd0 x with t := .lc, a := el, b := tg, c := iter, l := ifs, sc := sc, p := p }
  | _ => nd0 x
noncomputable def buildT (n : Nd) : Tg → PySem.Expr
  | .other => n.a
  | .name => .Name n.s n.p
  | .cint => .Constant (.int n.i) n.k n.p
  | .cstr => .Constant (.str n.s) n.k n.p
  | .cbool => .Constant (.bool n.bl) n.k n.p
  | .cnone => .Constant .none n.k n.p
  | .bin => .BinOp n.a n.op n.b n.p
  | .neg => .UnaryOp .USub n.a n.p
  | .not => .UnaryOp .Not n.a n.p
  | .and => .BoolOp .And n.l n.p
  | .or => .BoolOp .Or n.l n.p
  | .cmp => .Compare n.a n.os n.l n.p
  | .ife => .IfExp n.a n.b n.c n.p
  | .sub => .Subscript n.a n.b n.p
  | .slc => .Subscript n.a (.Slice n.o1 n.o2 n.o3 n.p2) n.p
  | .list => .List n.l n.p
  | .tup => .Tuple n.l n.k n.p
  | .dict0 => .Dict [] [] n.p
  | .callN => .Call (.Name n.s n.p2) n.l n.kw n.p
  | .callA => .Call (.Attribute n.a n.s n.p2) n.l n.kw n.p
  | .lc => .ListComp n.a [⟨n.b, n.c, n.l, 0⟩] n.sc n.p
theorem build_node (x : PySem.Expr) : buildT (node x) (node x).t = x := by
  cases x <;> try rfl
  case Constant c k p => cases c <;> rfl
  case UnaryOp o y p => cases o <;> rfl
  case BoolOp o l p => cases o <;> rfl
  case Subscript v s p => cases s <;> rfl
  case Dict ks vs p =>
    cases ks
    · cases vs <;> rfl
    · rfl
  case Call f as kw p => cases f <;> rfl
  case ListComp el gs sc p =>
    cases gs with
    | nil => rfl
    | cons g gs =>
      obtain ⟨tg, it, ifs, n⟩ := g
      cases n with
      | ofNat m => cases m <;> cases gs <;> rfl
      | negSucc m => cases gs <;> rfl
theorem inv {x : PySem.Expr} {t : Tg} (h : decide ((node x).t = t) = true) : x = buildT (node x) t := by
  have := build_node x
  rw [of_decide_eq_true h] at this
  exact this.symm
noncomputable def opOf : BOp → Operator
  | .add => .Add | .sub => .Sub | .mul => .Mult | .fdiv => .FloorDiv | .mod => .Mod | .pow => .Pow
noncomputable def copOf : COp → CmpOp
  | .eq => .Eq | .ne => .NotEq | .lt => .Lt | .le => .LtE | .gt => .Gt | .ge => .GtE | .isin => .In | .notin => .NotIn | .is => .Is | .isnot => .IsNot
noncomputable def opIs (op : BOp) (o : Operator) : Bool := decide (o = opOf op)
noncomputable def copIs (op : COp) (o : CmpOp) : Bool := decide (o = copOf op)
noncomputable def copsIs : List COp → List CmpOp → Bool
  | [], [] => true
  | a :: r, b :: s => copIs a b && copsIs r s
  | _, _ => false
noncomputable def biName : BI → String
  | .len => "len" | .min2 => "min" | .max2 => "max" | .maxD => "max" | .max1 => "max" | .sorted => "sorted" | .sortedR => "sorted" | .sortedSet => "sorted"
  | .sortedSetS => "sorted"
  | .list => "list" | .dict => "dict" | .int => "int" | .str => "str" | .all => "all"
noncomputable def tyName : TY → String
  | .int => "int" | .bool => "bool" | .str => "str" | .tuple => "tuple" | .list => "list" | .dict => "dict"
noncomputable def mmName : MM → String
  | .append => "append" | .extend => "extend" | .keys => "keys" | .values => "values" | .get2 => "get" | .pop2 => "pop" | .clear => "clear" | .update => "update"
  | .count => "count" | .index => "index" | .join => "join" | .split => "split"
noncomputable def isNm (x : PySem.Expr) : Bool := decide ((node x).t = .name)
noncomputable def isTgt (S : Sc) (t : MT) (x : PySem.Expr) : Bool := match t with
  | .one i => isNm x && S.isSt i (node x).s
  | .tup _ => false
noncomputable def tgtNames (x : PySem.Expr) : List Str := if isNm x then [(node x).s] else []
noncomputable def MT.vars : MT → List Nat
  | .one i => [i]
  | .tup l => l
noncomputable def isFree (k : NameKind) : Bool := decide (k = .free)
noncomputable def isCell (k : Option NameKind) : Bool := decide (k = some .cell)
noncomputable def isFreeO (k : Option NameKind) : Bool := decide (k = some .free)
noncomputable def relab (S : Sc) (names : List (Str × NameKind)) : List (Str × NameKind) := names.map fun p => if isFree p.2 && isCell (S.names.lookup p.1) then (p.1, .cell) else p
noncomputable def Sc.inner (S : Sc) (t : MT) (tg : PySem.Expr) (names : List (Str × NameKind)) : Sc :=
  ⟨t.vars.zip (tgtNames tg) ++ S.tab.filter (fun p => isFreeO (names.lookup p.2) && !t.vars.contains p.1), relab S names, S.funs⟩
noncomputable def innerOk (S : Sc) (sc : Scope) : Bool :=
  decide (sc.kind = .function) && decide ((sc.names.map (·.1)).Nodup) && sc.names.all (fun p => decide (p.2 = .local) || decide (p.2 = .globalImplicit) || (decide (p.2 = .free) && (decide (S.names.lookup p.1 = some .cell) || decide (S.names.lookup p.1 = some .free))))
noncomputable def ME.isNone : ME → Bool
  | .cnone => true
  | _ => false
noncomputable def callsG (S : Sc) (g : String) (x : PySem.Expr) : Bool := decide ((node x).t = .callN) && S.isGlob g (node x).s && (node x).kw.isEmpty
noncomputable def srcArgs (S : Sc) (k : SK) (e : PySem.Expr) : Option (List PySem.Expr) := match k with
  | .plain => some [e]
  | .range => if callsG S "range" e then some (node e).l else none
  | .rev => if callsG S "reversed" e then some (node e).l else none
  | .zip => if callsG S "zip" e then some (node e).l else none
noncomputable def notCall0 (x : PySem.Expr) : Bool := !(decide ((node x).t = .callN) && (node x).l.isEmpty && (node x).kw.isEmpty)
noncomputable def isOne : MT → Bool
  | .one _ => true
  | _ => false
noncomputable def optOk (o : Option PySem.Expr) (n : Bool) (f : PySem.Expr → Bool) : Bool := match o with
  | none => n
  | some x => f x
noncomputable def kw1 (l : List Keyword) (name : String) : Option PySem.Expr := match l with
  | [k] => if k.arg = some (Str.ofString name) then some k.value else none
  | _ => none
noncomputable def cintOf : ME → Option Int
  | .cint i => some i
  | _ => none
noncomputable def isLocal (k : Option NameKind) : Bool := decide (k = some .local)
mutual
noncomputable def isE (S : Sc) : ME → PySem.Expr → Bool
  | .var i, x => decide ((node x).t = .name) && S.isVar i (node x).s
  | .glob g, x => decide ((node x).t = .name) && S.isGlob g (node x).s
  | .cint i, x => decide ((node x).t = .cint) && decide (i = (node x).i)
  | .cstr s, x => decide ((node x).t = .cstr) && decide ((node x).s = Str.ofString s)
  | .cbool b, x => decide ((node x).t = .cbool) && decide (b = (node x).bl)
  | .cnone, x => decide ((node x).t = .cnone)
  | .bin op a b, x => decide ((node x).t = .bin) && (opIs op (node x).op && isE S a (node x).a && isE S b (node x).b)
  | .neg a, x => decide ((node x).t = .neg) && isE S a (node x).a
  | .not a, x => decide ((node x).t = .not) && isE S a (node x).a
  | .and l, x => decide ((node x).t = .and) && isEs S l (node x).l
  | .or l, x => decide ((node x).t = .or) && isEs S l (node x).l
  | .cmp a ops es, x => decide ((node x).t = .cmp) && (isE S a (node x).a && copsIs ops (node x).os && isEs S es (node x).l)
  | .ite _ _ _, _ => false
  | .idx a i, x => decide ((node x).t = .sub) && (isE S a (node x).a && isE S i (node x).b)
  | .slice a lo hi st, x => decide ((node x).t = .slc) && (isE S a (node x).a && optOk (node x).o1 lo.isNone (isE S lo) && optOk (node x).o2 hi.isNone (isE S hi) && optOk (node x).o3 st.isNone (isE S st))
  | .list l, x => decide ((node x).t = .list) && isEs S l (node x).l
  | .tuple l, x => decide ((node x).t = .tup) && isEs S l (node x).l
  | .dict0 _, x => decide ((node x).t = .dict0)
  | .dict _ _, _ => false
  | .call f args, x => callsG S f x && (S.funs.contains f && isEs S args (node x).l && decide (args.length ≤ 25))
  | .bi f args, x => (match f with
    | .sortedR => decide ((node x).t = .callN) && (S.isGlob "sorted" (node x).s && (match kw1 (node x).kw "reverse" with | some e => decide ((node e).t = .cbool) && (node e).bl | none => false) && isEs S args (node x).l)
    | .maxD => decide ((node x).t = .callN) && (S.isGlob "max" (node x).s && (match kw1 (node x).kw "default" with | some e => decide ((node x).l.length = 1) && decide (args.length = 2) && (cintOf (args.getD 1 .cnone)).isSome && isEs S args ((node x).l ++ [e]) | none => false))
    | .sortedSet => callsG S "sorted" x && (match (node x).l with | [y] => callsG S "set" y && isEs S args (node y).l | _ => false)
    | .sortedSetS => callsG S "sorted" x && (match (node x).l with | [y] => callsG S "set" y && isEs S args (node y).l | _ => false)
    | f => callsG S (biName f) x && (isEs S args (node x).l && decide (args.length ≤ 25)))
  | .isinst a t, x => callsG S "isinstance" x && (match (node x).l with | [y, z] => decide ((node z).t = .name) && S.isGlob (tyName t) (node z).s && isE S a y | _ => false)
  | .meth m o args, x => decide ((node x).t = .callA) && ((node x).kw.isEmpty && decide ((node x).s = Str.ofString (mmName m)) && decide ((node x).p2.endLine = (node x).p.line) && notCall0 (node x).a && isE S o (node x).a && isEs S args (node x).l && decide (args.length ≤ 25))
  | .comp elt t k its ifs, x => decide ((node x).t = .lc) && ((match srcArgs S k (node x).c with | some as => isEs S its as | none => false) && isOne t && innerOk S (node x).sc && decide (t.vars.Nodup) && decide ((tgtNames (node x).b).Nodup) && isTgt (S.inner t (node x).b (node x).sc.names) t (node x).b && (tgtNames (node x).b).all (fun y => isLocal ((node x).sc.names.lookup y)) &&
        isEs (S.inner t (node x).b (node x).sc.names) ifs (node x).l && isE (S.inner t (node x).b (node x).sc.names) elt (node x).a)
noncomputable def isEs (S : Sc) : List ME → List PySem.Expr → Bool
  | [], es => es.isEmpty
  | a :: r, es => (match es with | [] => false | e :: es => isE S a e && isEs S r es)
end
inductive Tt where | other | asn | asx | expr | ret | ret0 | ite | for | while | pass
  deriving DecidableEq
structure Ns where
  t : Tt
  a : PySem.Expr
  b : PySem.Expr
  c : PySem.Expr
  s : Str
  x : List PySem.Stmt
  y : List PySem.Stmt
  p : Pos
  p2 : Pos
noncomputable def ns0 : Ns := ⟨.other, .Starred (.Name ⟨#[]⟩ default) default, .Starred (.Name ⟨#[]⟩ default) default, .Starred (.Name ⟨#[]⟩ default) default, ⟨#[]⟩, [], [], default, default⟩
noncomputable def nodeS (x : PySem.Stmt) : Ns := match x with
  | .Assign [.Name s np] v p => { ns0 with t := .asn, s := s, p2 := np, a := v, p := p }
  | .Assign [.Subscript o i sp] v p => { ns0 with t := .asx, b := o, c := i, p2 := sp, a := v, p := p }
  | .Expr v p => { ns0 with t := .expr, a := v, p := p }
  | .Return (some v) p => { ns0 with t := .ret, a := v, p := p }
  | .Return none p => { ns0 with t := .ret0, p := p }
  | .If c x y p => { ns0 with t := .ite, a := c, x := x, y := y, p := p }
  | .For tg it b [] p => { ns0 with t := .for, a := tg, b := it, x := b, p := p }
  | .While c b [] p => { ns0 with t := .while, a := c, x := b, p := p }
  | .Pass p => { ns0 with t := .pass, p := p }
  | _ => ns0
noncomputable def buildS (n : Ns) (x : PySem.Stmt) : Tt → PySem.Stmt
  | .other => x
  | .asn => .Assign [.Name n.s n.p2] n.a n.p
  | .asx => .Assign [.Subscript n.b n.c n.p2] n.a n.p
  | .expr => .Expr n.a n.p
  | .ret => .Return (some n.a) n.p
  | .ret0 => .Return none n.p
  | .ite => .If n.a n.x n.y n.p
  | .for => .For n.a n.b n.x [] n.p
  | .while => .While n.a n.x [] n.p
  | .pass => .Pass n.p
theorem build_nodeS (x : PySem.Stmt) : buildS (nodeS x) x (nodeS x).t = x := by
  cases x <;> try rfl
  case Return v p => cases v <;> rfl
  case For tg it b e p => cases e <;> rfl
  case While c b e p => cases e <;> rfl
  case Assign ts v p =>
    cases ts with
    | nil => rfl
    | cons t ts => cases t <;> cases ts <;> rfl
theorem Fm {x : PySem.Stmt} {t : Tt} (h : decide ((nodeS x).t = t) = true) : x = buildS (nodeS x) x t := by
  have := build_nodeS x
  rw [of_decide_eq_true h] at this
  exact this.symm
noncomputable def notComp (x : PySem.Expr) : Bool := !decide ((node x).t = .lc) && !decide ((node x).t = .other)
mutual
noncomputable def isS (S : Sc) : MS → PySem.Stmt → Bool
  | .assign i a, x => decide ((nodeS x).t = .asn) && (S.isSt i (nodeS x).s && isE S a (nodeS x).a)
  | .unpack _ _, _ => false
  | .setidx o i a, x => decide ((nodeS x).t = .asx) && (isE S o (nodeS x).b && isE S i (nodeS x).c && isE S a (nodeS x).a)
  | .expr a, x => decide ((nodeS x).t = .expr) && (notComp (nodeS x).a && isE S a (nodeS x).a)
  | .ret a, x => decide ((nodeS x).t = .ret) && isE S a (nodeS x).a
  | .ret0, x => decide ((nodeS x).t = .ret0)
  | .ite c a b, x => decide ((nodeS x).t = .ite) && (isE S c (nodeS x).a && isSs S a (nodeS x).x && isSs S b (nodeS x).y)
  | .for t k its body, x => decide ((nodeS x).t = .for) && ((match srcArgs S k (nodeS x).b with | some as => isEs S its as | none => false) && isTgt S t (nodeS x).a && isSs S body (nodeS x).x)
  | .while c body, x => decide ((nodeS x).t = .while) && (isE S c (nodeS x).a && isSs S body (nodeS x).x)
  | .pass, x => decide ((nodeS x).t = .pass)
noncomputable def isSs (S : Sc) : List MS → List PySem.Stmt → Bool
  | [], ss => ss.isEmpty
  | a :: r, ss => (match ss with | [] => false | s :: ss => isS S a s && isSs S r ss)
end
noncomputable def isFun (fd : MFun) (tab : List (Nat × Str)) (funs : List String) (params : Arguments) (body : List PySem.Stmt) (sc : Scope) : Bool :=
  params.posonlyargs.isEmpty && params.vararg.isNone && params.kwonlyargs.isEmpty && params.kwarg.isNone && params.defaults.isEmpty && params.kw_defaults.isEmpty &&
  decide (params.args.length = fd.n) && (params.args.map (·.arg)).zipIdx.all (fun p => tab.lookup p.2 == some p.1 && kindSt (sc.names.lookup p.1)) &&
  decide (sc.kind = .function) && !sc.isGenerator && !sc.isCoroutine &&
  decide ((tab.map (·.2)).Nodup) && decide ((tab.map (·.1)).Nodup) && decide ((sc.names.map (·.1)).Nodup) && decide ((params.args.map (·.arg)).Nodup) && sc.names.all (fun p => !isFree p.2) && isSs ⟨tab, sc.names, funs⟩ fd.body body
section
variable {S : Sc} {x : PySem.Expr}
theorem Yj {a b : Bool} (h : (a && b) = true) : a = true ∧ b = true := by simpa using h
theorem inv_var {i : Nat} (h : isE S (.var i) x = true) : ∃ y p, x = .Name y p ∧ S.isVar i y = true := ⟨_, _, inv (Yj h).1, (Yj h).2⟩
theorem inv_glob {g : String} (h : isE S (.glob g) x = true) : ∃ y p, x = .Name y p ∧ S.isGlob g y = true := ⟨_, _, inv (Yj h).1, (Yj h).2⟩
theorem inv_cint {i : Int} (h : isE S (.cint i) x = true) : ∃ k p, x = .Constant (.int i) k p := ⟨(node x).k, (node x).p, by rw [of_decide_eq_true (Yj h).2]; exact inv (Yj h).1⟩
theorem inv_cstr {t : String} (h : isE S (.cstr t) x = true) : ∃ k p, x = .Constant (.str (Str.ofString t)) k p := ⟨(node x).k, (node x).p, by rw [← of_decide_eq_true (Yj h).2]; exact inv (Yj h).1⟩
theorem inv_cbool {b : Bool} (h : isE S (.cbool b) x = true) : ∃ k p, x = .Constant (.bool b) k p := ⟨(node x).k, (node x).p, by rw [of_decide_eq_true (Yj h).2]; exact inv (Yj h).1⟩
theorem inv_cnone (h : isE S .cnone x = true) : ∃ k p, x = .Constant .none k p := ⟨_, _, inv h⟩
theorem inv_bin {op : BOp} {a b : ME} (h : isE S (.bin op a b) x = true) : ∃ l o r p, x = .BinOp l o r p ∧ (opIs op o && isE S a l && isE S b r) = true := ⟨_, _, _, _, inv (Yj h).1, (Yj h).2⟩
theorem inv_neg {a : ME} (h : isE S (.neg a) x = true) : ∃ y p, x = .UnaryOp .USub y p ∧ isE S a y = true := ⟨_, _, inv (Yj h).1, (Yj h).2⟩
theorem inv_not {a : ME} (h : isE S (.not a) x = true) : ∃ y p, x = .UnaryOp .Not y p ∧ isE S a y = true := ⟨_, _, inv (Yj h).1, (Yj h).2⟩
theorem inv_and {l : List ME} (h : isE S (.and l) x = true) : ∃ xs p, x = .BoolOp .And xs p ∧ isEs S l xs = true := ⟨_, _, inv (Yj h).1, (Yj h).2⟩
theorem inv_or {l : List ME} (h : isE S (.or l) x = true) : ∃ xs p, x = .BoolOp .Or xs p ∧ isEs S l xs = true := ⟨_, _, inv (Yj h).1, (Yj h).2⟩
theorem inv_cmp {a : ME} {ops : List COp} {es : List ME} (h : isE S (.cmp a ops es) x = true) : ∃ l os cs p, x = .Compare l os cs p ∧ (isE S a l && copsIs ops os && isEs S es cs) = true := ⟨_, _, _, _, inv (Yj h).1, (Yj h).2⟩
theorem inv_idx {a i : ME} (h : isE S (.idx a i) x = true) : ∃ v y p, x = .Subscript v y p ∧ (isE S a v && isE S i y) = true := ⟨_, _, _, inv (Yj h).1, (Yj h).2⟩
inductive SlParts (S : Sc) (a lo hi st : ME) (x : PySem.Expr) : Prop
  | mk (v : _) (l : _) (u : _) (t : _) (sp : _) (p : _) (e0 : x = .Subscript v (.Slice l u t sp) p) (e1 : (isE S a v && optOk l lo.isNone (isE S lo) && optOk u hi.isNone (isE S hi) && optOk t st.isNone (isE S st)) = true)
theorem inv_slice {a lo hi st : ME} (h : isE S (.slice a lo hi st) x = true) : SlParts S a lo hi st x := ⟨_, _, _, _, _, _, inv (Yj h).1, (Yj h).2⟩
theorem inv_list {l : List ME} (h : isE S (.list l) x = true) : ∃ xs p, x = .List xs p ∧ isEs S l xs = true := ⟨_, _, inv (Yj h).1, (Yj h).2⟩
theorem inv_tuple {l : List ME} (h : isE S (.tuple l) x = true) : ∃ xs k p, x = .Tuple xs k p ∧ isEs S l xs = true := ⟨_, _, _, inv (Yj h).1, (Yj h).2⟩
theorem inv_dict0 {b : Bool} (h : isE S (.dict0 b) x = true) : ∃ p, x = .Dict [] [] p := ⟨_, inv h⟩
theorem Kp {g : String} (h : callsG S g x = true) : ∃ y np p, x = .Call (.Name y np) (node x).l [] p ∧ S.isGlob g y = true := by
  obtain ⟨h1, h3⟩ := Yj h
  obtain ⟨h1, h2⟩ := Yj h1
  refine ⟨_, (node x).p2, (node x).p, (inv h1).trans ?_, h2⟩
  show Expr.Call _ _ (node x).kw _ = _
  rw [List.isEmpty_iff.mp h3]
theorem ifcall {nm : String} {as : List PySem.Expr} (h : (if callsG S nm x then some (node x).l else none) = some as) : ∃ g np p, x = .Call (.Name g np) as [] p ∧ S.isGlob nm g = true := by
  by_cases q : callsG S nm x = true
  · rw [if_pos q] at h; cases h; exact Kp q
  · rw [if_neg q] at h; cases h
theorem inv_call {f : String} {args : List ME} (h : isE S (.call f args) x = true) : ∃ y np xs p, x = .Call (.Name y np) xs [] p ∧ S.isGlob f y = true ∧ (S.funs.contains f && isEs S args xs && decide (args.length ≤ 25)) = true := by
  obtain ⟨y, np, p, e, hg⟩ := Kp (Yj h).1
  exact ⟨y, np, _, p, e, hg, (Yj h).2⟩
inductive IiParts (S : Sc) (a : ME) (t : TY) (x : PySem.Expr) : Prop
  | mk (g : _) (np : _) (y : _) (ty : _) (tp : _) (p : _) (e0 : x = .Call (.Name g np) [y, .Name ty tp] [] p) (e1 : S.isGlob "isinstance" g = true) (e2 : S.isGlob (tyName t) ty = true) (e3 : isE S a y = true)
theorem inv_isinst {a : ME} {t : TY} (h : isE S (.isinst a t) x = true) : IiParts S a t x := by
  obtain ⟨g, np, p, e, hg⟩ := Kp (Yj h).1
  have h2 := (Yj h).2
  generalize (node x).l = l at e h2
  match l, e, h2 with
  | [y, z], e, h2 =>
    obtain ⟨h3, h4⟩ := Yj h2
    obtain ⟨h3, h5⟩ := Yj h3
    have ez := inv h3
    refine ⟨g, np, y, _, (node z).p, p, e.trans ?_, hg, h5, h4⟩
    exact congrArg (fun q => Expr.Call (.Name g np) [y, q] [] p) ez
  | [], _, h2 => cases h2
  | [_], _, h2 => cases h2
  | _ :: _ :: _ :: _, _, h2 => cases h2
inductive MtParts (S : Sc) (m : MM) (o : ME) (args : List ME) (x : PySem.Expr) : Prop
  | mk (ov : _) (ap : _) (xs : _) (p : _) (e0 : x = .Call (.Attribute ov (Str.ofString (mmName m)) ap) xs [] p) (e1 : ap.endLine = p.line) (e2 : notCall0 ov = true) (e3 : isE S o ov = true) (e4 : isEs S args xs = true) (e5 : args.length ≤ 25)
theorem inv_meth {m : MM} {o : ME} {args : List ME} (h : isE S (.meth m o args) x = true) : MtParts S m o args x := by
  obtain ⟨h0, h⟩ := Yj h
  obtain ⟨h, h6⟩ := Yj h
  obtain ⟨h, h5⟩ := Yj h
  obtain ⟨h, h4⟩ := Yj h
  obtain ⟨h, h3⟩ := Yj h
  obtain ⟨h, h2⟩ := Yj h
  obtain ⟨h, h1⟩ := Yj h
  refine ⟨_, (node x).p2, _, (node x).p, (inv h0).trans ?_, of_decide_eq_true h2, h3, h4, h5, of_decide_eq_true h6⟩
  show Expr.Call (.Attribute (node x).a (node x).s (node x).p2) (node x).l (node x).kw (node x).p = _
  rw [List.isEmpty_iff.mp h, of_decide_eq_true h1]
noncomputable def plainBI : BI → Bool
  | .maxD | .sortedR | .sortedSet | .sortedSetS => false
  | _ => true
theorem inv_bi {f : BI} {l : List ME} (hp : plainBI f = true) (h : isE S (.bi f l) x = true) : ∃ g np as p, x = .Call (.Name g np) as [] p ∧ S.isGlob (biName f) g = true ∧ isEs S l as = true := by
  have h' : (callsG S (biName f) x && (isEs S l (node x).l && decide (l.length ≤ 25))) = true := by
    cases f <;> first | exact h | cases hp
  obtain ⟨y, np, p, e, hg⟩ := Kp (Yj h').1
  exact ⟨y, np, _, p, e, hg, (Yj (Yj h').2).1⟩
theorem len2 {α : Type} {l : List α} (h : l.length = 2) : ∃ a b, l = [a, b] := by
  match l, h with
  | [a, b], _ => exact ⟨a, b, rfl⟩
theorem inv_kw1 {l : List Keyword} {name : String} {e : PySem.Expr} (h : kw1 l name = some e) : ∃ kp, l = [⟨some (Str.ofString name), e, kp⟩] := by
  cases l with
  | nil => cases h
  | cons k l =>
    cases l with
    | cons _ _ => cases h
    | nil =>
      obtain ⟨arg, v, p⟩ := k
      have h : (if arg = some (Str.ofString name) then some v else none) = some e := h
      by_cases q : arg = some (Str.ofString name)
      · rw [if_pos q] at h; cases h; subst q; exact ⟨p, rfl⟩
      · rw [if_neg q] at h; cases h
theorem cintOf_some {a : ME} {i : Int} (h : cintOf a = some i) : a = .cint i := by
  cases a <;> first | cases h; rfl | cases h
inductive SrParts (S : Sc) (l : List ME) (x : PySem.Expr) : Prop
  | mk (g : _) (np : _) (as : _) (k : _) (p1 : _) (p2 : _) (p : _) (e0 : x = .Call (.Name g np) as [⟨some (Str.ofString "reverse"), .Constant (.bool true) k p1, p2⟩] p) (e1 : S.isGlob "sorted" g = true) (e2 : isEs S l as = true)
theorem inv_sortedR {l : List ME} (h : isE S (.bi .sortedR l) x = true) : SrParts S l x := by
  obtain ⟨h0, h⟩ := Yj h
  obtain ⟨h, h1⟩ := Yj h
  obtain ⟨hg, h⟩ := Yj h
  cases q : kw1 (node x).kw "reverse" with
  | none => rw [q] at h; cases h
  | some e =>
    rw [q] at h
    obtain ⟨h2, h3⟩ := Yj h
    obtain ⟨kp, hk⟩ := inv_kw1 q
    have he := inv h2
    refine ⟨_, (node x).p2, _, (node e).k, (node e).p, kp, (node x).p, (inv h0).trans ?_, hg, h1⟩
    show Expr.Call _ _ (node x).kw _ = _
    have he' : e = .Constant (.bool true) (node e).k (node e).p := he.trans (by show Expr.Constant (.bool (node e).bl) _ _ = _; rw [h3])
    rw [hk, ← he']
inductive MxParts (S : Sc) (l : List ME) (x : PySem.Expr) : Prop
  | mk (g : _) (np : _) (y : _) (a : _) (i : _) (k : _) (p1 : _) (p2 : _) (p : _) (e0 : x = .Call (.Name g np) [y] [⟨some (Str.ofString "default"), .Constant (.int i) k p1, p2⟩] p) (e1 : l = [a, .cint i]) (e2 : S.isGlob "max" g = true) (e3 : isE S a y = true)
theorem inv_maxD {l : List ME} (h : isE S (.bi .maxD l) x = true) : MxParts S l x := by
  obtain ⟨h0, h⟩ := Yj h
  obtain ⟨hg, h⟩ := Yj h
  cases q : kw1 (node x).kw "default" with
  | none => rw [q] at h; cases h
  | some e =>
    rw [q] at h
    obtain ⟨h, h4⟩ := Yj h
    obtain ⟨h, h3⟩ := Yj h
    obtain ⟨h1, h2⟩ := Yj h
    obtain ⟨kp, hk⟩ := inv_kw1 q
    obtain ⟨y, hy⟩ := List.length_eq_one_iff.mp (of_decide_eq_true h1)
    obtain ⟨a, d, rfl⟩ := len2 (of_decide_eq_true h2)
    rw [hy] at h4
    obtain ⟨i, hi⟩ := Option.isSome_iff_exists.mp h3
    obtain rfl := cintOf_some hi
    obtain ⟨k, p1, he⟩ := inv_cint (Yj (Yj h4).2).1
    refine ⟨_, (node x).p2, y, a, i, k, p1, kp, (node x).p, (inv h0).trans ?_, rfl, hg, (Yj h4).1⟩
    show Expr.Call _ (node x).l (node x).kw _ = _
    rw [hy, hk, he]
inductive SsParts (S : Sc) (l : List ME) (x : PySem.Expr) : Prop
  | mk (g : _) (np : _) (g2 : _) (np2 : _) (as : _) (p2 : _) (p : _) (e0 : x = .Call (.Name g np) [.Call (.Name g2 np2) as [] p2] [] p) (e1 : S.isGlob "sorted" g = true) (e2 : S.isGlob "set" g2 = true) (e3 : isEs S l as = true)
theorem P4 {l : List ME} (h : isE S (.bi .sortedSet l) x = true) : SsParts S l x := by
  obtain ⟨g, np, p, e, hg⟩ := Kp (Yj h).1
  replace h := (Yj h).2
  revert e h
  cases q : (node x).l with
  | nil => exact fun _ h => (Bool.false_ne_true h).elim
  | cons y l' =>
    cases l' with
    | cons _ _ => exact fun _ h => (Bool.false_ne_true h).elim
    | nil =>
      intro e h
      obtain ⟨g2, np2, p2, e2, hg2⟩ := Kp (Yj h).1
      exact ⟨g, np, g2, np2, _, p2, p, by rw [← e2]; exact e, hg, hg2, (Yj h).2⟩
inductive CpParts (S : Sc) (elt : ME) (t : MT) (k : SK) (its ifs : List ME) (x : PySem.Expr) : Prop
  | mk (el : _) (tg : _) (iter : _) (ifs' : _) (sc : _) (p : _) (e0 : x = .ListComp el [⟨tg, iter, ifs', 0⟩] sc p) (e1 : (∃ as, srcArgs S k iter = some as ∧ isEs S its as = true)) (e2 : isOne t = true) (e3 : innerOk S sc = true) (e4 : t.vars.Nodup) (e5 : (tgtNames tg).Nodup) (e6 : isTgt (S.inner t tg sc.names) t tg = true) (e7 : (∀ y ∈ tgtNames tg, sc.names.lookup y = some .local)) (e8 : isEs (S.inner t tg sc.names) ifs ifs' = true) (e9 : isE (S.inner t tg sc.names) elt el = true)
theorem inv_comp {elt : ME} {t : MT} {k : SK} {its ifs : List ME} (h : isE S (.comp elt t k its ifs) x = true) : CpParts S elt t k its ifs x := by
  obtain ⟨h0, h⟩ := Yj h
  obtain ⟨h, h8⟩ := Yj h
  obtain ⟨h, h7⟩ := Yj h
  obtain ⟨h, h6⟩ := Yj h
  obtain ⟨h, h5⟩ := Yj h
  obtain ⟨h, h4⟩ := Yj h
  obtain ⟨h, h3⟩ := Yj h
  obtain ⟨h, h2⟩ := Yj h
  obtain ⟨h, h1⟩ := Yj h
  refine ⟨_, _, _, _, _, (node x).p, inv h0, ?_, h1, h2, of_decide_eq_true h3, of_decide_eq_true h4, h5, fun y hy => ?_, h7, h8⟩
  · cases q : srcArgs S k (node x).c with
    | none => rw [q] at h; cases h
    | some as => rw [q] at h; exact ⟨as, rfl, h⟩
  · exact of_decide_eq_true (List.all_eq_true.mp h6 y hy)
theorem Ze {e : ME} {l : List ME} {x : PySem.Expr} {xs : List PySem.Expr} (h : isEs S (e :: l) (x :: xs) = true) : isE S e x = true ∧ isEs S l xs = true := Yj h
end
section
variable {S : Sc} {x : PySem.Stmt}
theorem invS_assign {i : Nat} {a : ME} (h : isS S (.assign i a) x = true) : ∃ y py v p, x = .Assign [.Name y py] v p ∧ S.isSt i y = true ∧ isE S a v = true := ⟨_, _, _, _, Fm (Yj h).1, Yj (Yj h).2⟩
theorem invS_setidx {o i a : ME} (h : isS S (.setidx o i a) x = true) : ∃ ov iv sp v p, x = .Assign [.Subscript ov iv sp] v p ∧ (isE S o ov && isE S i iv && isE S a v) = true := ⟨_, _, _, _, _, Fm (Yj h).1, (Yj h).2⟩
theorem invS_expr {a : ME} (h : isS S (.expr a) x = true) : ∃ v p, x = .Expr v p ∧ notComp v = true ∧ isE S a v = true := ⟨_, _, Fm (Yj h).1, Yj (Yj h).2⟩
theorem invS_ret {a : ME} (h : isS S (.ret a) x = true) : ∃ v p, x = .Return (some v) p ∧ isE S a v = true := ⟨_, _, Fm (Yj h).1, (Yj h).2⟩
theorem invS_ret0 (h : isS S .ret0 x = true) : ∃ p, x = .Return none p := ⟨_, Fm h⟩
theorem invS_pass (h : isS S .pass x = true) : ∃ p, x = .Pass p := ⟨_, Fm h⟩
theorem invS_ite {c : ME} {a b : List MS} (h : isS S (.ite c a b) x = true) : ∃ t y z p, x = .If t y z p ∧ (isE S c t && isSs S a y && isSs S b z) = true := ⟨_, _, _, _, Fm (Yj h).1, (Yj h).2⟩
theorem invS_while {c : ME} {b : List MS} (h : isS S (.while c b) x = true) : ∃ t y p, x = .While t y [] p ∧ (isE S c t && isSs S b y) = true := ⟨_, _, _, Fm (Yj h).1, (Yj h).2⟩
inductive FrParts (S : Sc) (t : MT) (k : SK) (its : List ME) (body : List MS) (x : PySem.Stmt) : Prop
  | mk (tg : _) (iter : _) (b : _) (p : _) (as : _) (e0 : x = .For tg iter b [] p) (e1 : srcArgs S k iter = some as) (e2 : isEs S its as = true) (e3 : isTgt S t tg = true) (e4 : isSs S body b = true)
theorem invS_for {t : MT} {k : SK} {its : List ME} {body : List MS} (h : isS S (.for t k its body) x = true) : FrParts S t k its body x := by
  obtain ⟨h0, h⟩ := Yj h
  obtain ⟨h, h2⟩ := Yj h
  obtain ⟨h, h1⟩ := Yj h
  cases q : srcArgs S k (nodeS x).b with
  | none => rw [q] at h; cases h
  | some as => rw [q] at h; exact ⟨_, _, _, _, as, Fm h0, q, h, h1, h2⟩
theorem isSs_cons {e : MS} {l : List MS} {x : PySem.Stmt} {xs : List PySem.Stmt} (h : isSs S (e :: l) (x :: xs) = true) : isS S e x = true ∧ isSs S l xs = true := Yj h
end
end Mine
end
section
namespace Mine
open PySem PySem.Calls PyProof.Rows
inductive PostV (prog : Program) (w : World) (fz : List Addr) (μ : MH) (s : Shared) (Q : MQ) (v : Value) (s' : Shared) : Prop
  | mk (mv : MV) (μ' : MH) (q : Q mv μ') (rv : RepV s'.heap mv v) (r : RepH prog w μ' s'.heap) (g : Grow fz μ s μ' s')
structure OkA (d : Nat) (A : Around) : Prop where
  hand : A.handled = none
  depth : A.depth + d < recursionLimit
  units : A.units + 4 * d + 100 < cLine
section
variable {prog : Program} {w : World} {fz : List Addr} {μ : MH} {s : Shared} {Q : MQ} {A : Around} {E : Value → Shared → Prop}
theorem RepH.free {h : Heap} (r : RepH prog w μ h) {c : Addr} (hc : h.get? c = none) : μ c = none := by
  cases q : μ c with
  | none => rfl
  | some o => obtain ⟨x, hx, _⟩ := (r c o q).obj; rw [hc] at hx; cases hx
theorem FzIn.free (f : FzIn fz μ) {c : Addr} (hc : μ c = none) : c ∉ fz := fun m => f c m hc
theorem K7 (h : Heap) : h.get? h.objs.size = none := by
  cases q : h.get? h.objs.size with
  | none => rfl
  | some o => exact absurd (Heap.lt_size q) (Nat.lt_irrefl _)
theorem Yl {mv : MV} {v : Value} {s' : Shared} (hq : Q mv μ) (r : RepH prog w μ s.heap) (hv : RepV s.heap mv v) (hh : s'.heap = s.heap) (ho : s'.os = s.os) (hg : s'.gens = s.gens) : PostV prog w fz μ s Q v s' :=
  ⟨mv, μ, hq, hh ▸ hv, hh ▸ r, ⟨fun b o _ e => ⟨hh ▸ e, rfl⟩, ho, hg⟩⟩
theorem J4 {mv : MV} {v : Value} {h' : Heap} {tk : Nat} (hq : Q mv μ) (r : RepH prog w μ s.heap) (k : ∀ b o, s.heap.get? b = some o → h'.get? b = some o) (hv : RepV h' mv v) : PostV prog w fz μ s Q v { s with heap := h', toks := tk } :=
  ⟨mv, μ, hq, hv, r.ext k, .ext k⟩
theorem Km {o : MO} {c : Addr} {h' : Heap} {tk : Nat} (ha : allocM fz μ o fun c μ' => Q (.ref c) μ') (r : RepH prog w μ s.heap) (f : FzIn fz μ) (hc : s.heap.get? c = none)
    (k : ∀ b o, s.heap.get? b = some o → h'.get? b = some o) (ho : RepO prog w h' c o) : PostV prog w fz μ s Q (.ref c) { s with heap := h', toks := tk } := by
  have hm := r.free hc
  exact ⟨.ref c, upd μ c o, ha c hm (f.free hm), rfl, r.alloc k ho, .alloc k hc⟩
theorem Oq {o : MO} {ob : Obj} {tk : Nat} (ha : allocM fz μ o fun c μ' => Q (.ref c) μ') (r : RepH prog w μ s.heap) (f : FzIn fz μ)
    (ho : RepO prog w (s.heap.push ob) s.heap.objs.size o) : PostV prog w fz μ s Q (.ref s.heap.objs.size) { s with heap := s.heap.push ob, toks := tk } :=
  Km ha r f (K7 _) (fun b x e => Heap.get?_push_of_some _ e) ho
theorem N5 {l : List MV} {vs : List Value} {h : Heap} (hv : RepVs h l vs) : RepO prog w (h.push { cls := .type "list", data := .seq vs.toArray }) h.objs.size (.list l) :=
  ⟨vs, ⟨0, Heap.get?_push_size _ rfl⟩, hv.keepT (.of_all fun b x e => Heap.get?_push_of_some _ e)⟩
theorem Yp {n : Nat} (h : fits n) : n ≤ sizeLine := Nat.le_trans h (by decide)
theorem Dg (x : Int) {y : Int} (h : small y) : Builtin.divisionGoesByPylong x y = false := by
  unfold Builtin.divisionGoesByPylong
  have h1 : y.natAbs < 2 ^ 64 := by have := h.1; have := h.2; lia
  have h2 : y.natAbs.log2 < 64 := by
    by_cases q : y.natAbs = 0
    · rw [q]; decide
    · exact (Nat.log2_lt q).mpr h1
  have h3 : (if (y == 0) = true then 0 else y.natAbs.log2 / 30 + 1) ≤ 300 := by split <;> (first | exact Nat.zero_le _ | lia)
  simp only [gt_iff_lt, Bool.and_eq_false_iff, decide_eq_false_iff_not, Nat.not_lt]
  exact .inl h3
theorem repTup_push {l : List MV} {vs : List Value} {h : Heap} (hv : RepVs h l vs) : RepV (h.push { cls := .type "tuple", data := .seq vs.toArray }) (.tup l) (.ref h.objs.size) := by
  simp only [RepV]
  exact ⟨_, vs, 0, rfl, Heap.get?_push_size _ rfl, hv.keepT (.of_all fun b x e => Heap.get?_push_of_some _ e)⟩
theorem Un {a : Addr} {l : List MV} (r : RepH prog w μ s.heap) (e : lst μ a = some l) : ∃ vs : List Value, s.heap.PlainList a vs.toArray ∧ RepVs s.heap l vs ∧ μ a = some (.list l) := by
  unfold lst at e
  split at e
  · rename_i l' q; cases e
    obtain ⟨vs, h1, h2⟩ := r a _ q
    exact ⟨vs, h1, h2, q⟩
  · cases e
theorem op_bin {op : BOp} {o : Operator} {a b : MV} {va vb : Value} {d : Nat} (ho : opIs op o = true) (ha : RepV s.heap a va) (hb : RepV s.heap b vb) (r : RepH prog w μ s.heap) (f : FzIn fz μ) (hA : OkA d A)
    (h : binM fz op a b Q μ) : wpAny (model prog w) A (binaryOp o va vb) (PostV prog w fz μ s Q) E s := by
  obtain rfl := of_decide_eq_true ho
  cases op with
  | sub =>
    obtain ⟨x, y, rfl, rfl, h⟩ := Kq h
    obtain ⟨t, rfl⟩ := ha; obtain ⟨u, rfl⟩ := hb
    exact PyProof.Rows.sub_int' (Yl h r (by simp [RepV]) rfl rfl rfl)
  | mul =>
    obtain ⟨x, y, rfl, rfl, h⟩ := Kq h
    obtain ⟨t, rfl⟩ := ha; obtain ⟨u, rfl⟩ := hb
    obtain ⟨hs, h⟩ := h
    refine PyProof.Rows.mul_int (Yl h r (by simp [RepV]) rfl rfl rfl) ?_
    rcases hs with hs | hs
    · exact IntMulOk.of_left (intBits_le_64 (by have := hs.1; lia) (by have := hs.2; exact Int.lt_of_lt_of_le (by assumption) (by decide)))
    · exact IntMulOk.of_right (intBits_le_64 (by have := hs.1; lia) (by have := hs.2; exact Int.lt_of_lt_of_le (by assumption) (by decide)))
  | fdiv =>
    obtain ⟨x, y, rfl, rfl, h⟩ := Kq h
    obtain ⟨t, rfl⟩ := ha; obtain ⟨u, rfl⟩ := hb
    obtain ⟨hs, h⟩ := h
    exact PyProof.Rows.floordiv_int hs.1 (Yl h r (by simp [RepV]) rfl rfl rfl) (.inl (Dg _ hs.2))
  | mod =>
    obtain ⟨x, y, rfl, rfl, h⟩ := Kq h
    obtain ⟨t, rfl⟩ := ha; obtain ⟨u, rfl⟩ := hb
    exact PyProof.Rows.mod_int' h.1 (Yl h.2 r (by simp [RepV]) rfl rfl rfl)
  | pow =>
    obtain ⟨x, y, rfl, rfl, h⟩ := Kq h
    obtain ⟨t, rfl⟩ := ha; obtain ⟨u, rfl⟩ := hb
    obtain ⟨rfl, hs, h⟩ := h
    refine PyProof.Rows.pow_int hs.1 ?_ (Yl h r (by simp [RepV]) rfl rfl rfl)
    have e : Builtin.Int.intBits 10 = 4 := by decide +kernel
    rw [e]; have := hs.2; lia
  | add =>
    cases a with
    | int x =>
      cases b with
      | int y =>
        obtain ⟨t, rfl⟩ := ha; obtain ⟨u, rfl⟩ := hb
        exact PyProof.Rows.add_int (Yl h r (by simp [RepV]) rfl rfl rfl)
      | _ => exact False.elim h
    | str x =>
      cases b with
      | str y =>
        obtain ⟨t, rfl⟩ := ha; obtain ⟨u, rfl⟩ := hb
        exact PyProof.Rows.add_str (fun t' tk => Yl h.2 r (by simp [RepV]) rfl rfl rfl) (Yp h.1)
      | _ => exact False.elim h
    | ref p =>
      cases b with
      | ref q =>
        obtain ⟨x, y, hx, hy, hz, h⟩ := h
        obtain rfl : va = .ref p := ha
        obtain rfl : vb = .ref q := hb
        obtain ⟨vs, ⟨n1, h1⟩, hv, _⟩ := Un r hx
        obtain ⟨ws, ⟨n2, h2⟩, hw, _⟩ := Un r hy
        refine P.add_list h1 h2 ?_ (by have := hv.length; have := hw.length; have := Yp hz; simp; simp [*])
        rw [show vs.toArray ++ ws.toArray = (vs ++ ws).toArray by simp]
        exact Oq h r f (N5 (hv.append hw))
      | _ => exact False.elim h
    | _ => exact False.elim h
end
end Mine
end
section
namespace Mine
open PySem PySem.Calls PyProof.Rows
section
variable {prog : Program} {w : World} {fz : List Addr} {μ : MH} {s : Shared} {Q : MQ} {A : Around} {E : Value → Shared → Prop} {d : Nat}
noncomputable def Still (s s' : Shared) : Prop := s'.heap = s.heap ∧ s'.os = s.os ∧ s'.gens = s.gens
theorem Still.refl : Still s s := ⟨rfl, rfl, rfl⟩
theorem Kl {mv : MV} {v : Value} {s' : Shared} (hq : Q mv μ) (r : RepH prog w μ s.heap) (hv : RepV s.heap mv v) (st : Still s s') : PostV prog w fz μ s Q v s' :=
  Yl hq r hv st.1 st.2.1 st.2.2
theorem Af {v : MV} {x : Value} {b : Bool} (hv : RepV s.heap v x) (r : RepH prog w μ s.heap) (e : truthy μ v = some b) :
    wpAny (model prog w) A (PySem.truthy x) (fun b' s' => b' = b ∧ Still s s') E s := by
  cases v with
  | none => obtain rfl := Option.some.inj e; obtain rfl : x = .none := hv; exact truthy_none ⟨rfl, .refl⟩
  | bool c => obtain rfl := Option.some.inj e; obtain rfl : x = .bool c := hv; exact wpAny_truthy_bool ⟨rfl, .refl⟩
  | int i => obtain rfl := Option.some.inj e; obtain ⟨t, rfl⟩ := hv; exact PyProof.Rows.truthy_int ⟨by simp [bne, BEq.beq], .refl⟩
  | ref a =>
    obtain rfl : x = .ref a := hv
    replace e : truthyO (μ a) = some b := e
    cases q : μ a with
    | none => rw [q] at e; cases e
    | some mo =>
      rw [q] at e
      cases mo with
      | list l =>
        have e : (if l.length ≤ 2 ^ 20 then some (!l.isEmpty) else none) = some b := e
        by_cases hs : l.length ≤ 2 ^ 20
        · rw [if_pos hs] at e
          obtain rfl := Option.some.inj e
          obtain ⟨vs, h1, h2⟩ := r a _ q
          have hl := h2.length
          refine wpAny_truthy_list h1.isList (by simp; lia) ⟨?_, rfl, rfl, rfl⟩
          cases l <;> cases vs <;> first | rfl | cases hl
        · rw [if_neg hs] at e; cases e
      | idict l => cases e
      | sdict l => cases e
  | _ => cases e
noncomputable def DR (h : Heap) (n : Nat) (x : Value) (dd : PyData) : Prop := ∃ as, Reads h x dd as ∧ dd.canLay0 = true ∧ dd.depth ≤ n
noncomputable def DRs (h : Heap) (n : Nat) (vs : List Value) (ds : List PyData) : Prop := ∃ as, ReadsAll h vs ds as ∧ PyData.canLayAll0 ds = true ∧ PyData.depthAll ds ≤ n
theorem deep_all {n : Nat} (ih : ∀ (v : MV) (x : Value) (dd : PyData), deep μ n v = some dd → RepV s.heap v x → DR s.heap n x dd) : ∀ (l : List MV) (vs : List Value) (ds : List PyData), l.mapM (deep μ n) = some ds → RepVs s.heap l vs → DRs s.heap n vs ds := by
  intro l
  induction l with
  | nil =>
    intro vs ds e h
    cases vs with
    | cons _ _ => exact False.elim h
    | nil => obtain rfl : ([] : List PyData) = ds := Option.some.inj e; exact ⟨_, .nil, rfl, Nat.zero_le _⟩
  | cons v l il =>
    intro vs ds e h
    cases vs with
    | nil => exact False.elim h
    | cons x vs =>
      rw [List.mapM_cons] at e
      obtain ⟨d1, e1, e⟩ := Option.bind_eq_some_iff.mp e
      obtain ⟨d2, e2, e⟩ := Option.bind_eq_some_iff.mp e
      obtain rfl : d1 :: d2 = ds := Option.some.inj e
      obtain ⟨as, a1, a2, a3⟩ := ih v x d1 e1 h.1
      obtain ⟨bs, b1, b2, b3⟩ := il vs d2 e2 h.2
      exact ⟨_, .cons a1 b1, by simp only [PyData.canLayAll0, a2, b2, Bool.and_self], by simp only [PyData.depthAll]; exact Nat.max_le.mpr ⟨a3, b3⟩⟩
theorem deep_str {n : Nat} {i : Str} {x : Value} {dd : PyData} (e : deep μ n (.str i) = some dd) (h : RepV s.heap (.str i) x) : DR s.heap n x dd := by
  have e : (if PyData.strOk i then some (PyData.str i) else none) = some dd := by cases n <;> exact e
  by_cases ok : PyData.strOk i = true
  · rw [if_pos ok] at e
    obtain rfl := Option.some.inj e
    obtain ⟨t, rfl⟩ := h
    exact ⟨_, .str i t, by simpa [PyData.canLay0] using ok, by simp only [PyData.depth]; exact Nat.zero_le _⟩
  · rw [if_neg ok] at e; cases e
theorem deep_int {n : Nat} {i : Int} {x : Value} {dd : PyData} (e : deep μ n (.int i) = some dd) (h : RepV s.heap (.int i) x) : DR s.heap n x dd := by
  obtain rfl : PyData.int i = dd := Option.some.inj (by cases n <;> exact e)
  obtain ⟨t, rfl⟩ := h
  exact ⟨_, .int i t, rfl, by simp only [PyData.depth]; exact Nat.zero_le _⟩
theorem Dx {n : Nat} {b : Bool} {x : Value} {dd : PyData} (e : deep μ n (.bool b) = some dd) (h : RepV s.heap (.bool b) x) : DR s.heap n x dd := by
  obtain rfl : PyData.bool b = dd := Option.some.inj (by cases n <;> exact e)
  obtain rfl : x = .bool b := h
  exact ⟨_, .bool b, rfl, by simp only [PyData.depth]; exact Nat.zero_le _⟩
theorem Dw {n : Nat} {x : Value} {dd : PyData} (e : deep μ n .none = some dd) (h : RepV s.heap .none x) : DR s.heap n x dd := by
  obtain rfl : PyData.none = dd := Option.some.inj (by cases n <;> exact e)
  obtain rfl : x = .none := h
  exact ⟨_, .none, rfl, by simp only [PyData.depth]; exact Nat.zero_le _⟩
theorem Jb (r : RepH prog w μ s.heap) : ∀ (n : Nat) (v : MV) (x : Value) (dd : PyData), deep μ n v = some dd → RepV s.heap v x → DR s.heap n x dd := by
  intro n
  induction n with
  | zero =>
    intro v x dd e h
    cases v with
    | none => exact Dw e h
    | bool b => exact Dx e h
    | int i => exact deep_int e h
    | str i => exact deep_str e h
    | _ => cases e
  | succ n ih =>
    intro v x dd e h
    cases v with
    | none => exact Dw e h
    | bool b => exact Dx e h
    | int i => exact deep_int e h
    | str i => exact deep_str e h
    | tup l =>
      obtain ⟨a, vs, k, rfl, ho, hv⟩ := h
      obtain ⟨ds, hd, rfl⟩ := Option.map_eq_some_iff.mp e
      obtain ⟨as, h1, h2, h3⟩ := deep_all ih l vs ds hd hv
      exact ⟨_, .tuple ho rfl rfl (by simpa using h1), by simpa [PyData.canLay0] using h2, by simp only [PyData.depth]; exact Nat.succ_le_succ (by assumption)⟩
    | ref a =>
      have e : (match lst μ a with | some l => (l.mapM (deep μ n)).map PyData.list | none => none) = some dd := e
      cases q : lst μ a with
      | none => rw [q] at e; cases e
      | some l =>
        rw [q] at e
        obtain rfl : x = .ref a := h
        obtain ⟨vs, ⟨k, ho⟩, hv, _⟩ := Un r q
        obtain ⟨ds, hd, rfl⟩ := Option.map_eq_some_iff.mp e
        obtain ⟨as, h1, h2, h3⟩ := deep_all ih l vs ds hd hv
        exact ⟨_, .list ho rfl rfl (by simpa using h1), by simpa [PyData.canLay0] using h2, by simp only [PyData.depth]; exact Nat.succ_le_succ (by assumption)⟩
    | _ => cases e
theorem op_eq {neg : Bool} {a b : MV} {x y : Value} {r' : Bool} (ha : RepV s.heap a x) (hb : RepV s.heap b y) (r : RepH prog w μ s.heap) (hA : OkA d A) (e : eqD μ a b = some r')
    {Q : Value → Shared → Prop} (h : Q (.bool (if neg then !r' else r')) s) : wpAny (model prog w) A (compareOp (if neg then .NotEq else .Eq) x y) Q E s := by
  unfold eqD at e
  split at e
  · rename_i d1 d2 e1 e2
    cases e
    obtain ⟨as, a1, a2, a3⟩ := Jb r 9 a x d1 e1 ha
    obtain ⟨bs, b1, b2, b3⟩ := Jb r 9 b y d2 e2 hb
    have hu : A.units + min d1.depth d2.depth < cLine := by have := hA.units; lia
    cases neg
    · exact SeqAt.compareEq_reads a1 b1 a2 b2 hu h
    · exact SeqAt.compareNe_reads a1 b1 a2 b2 hu h
  · cases e
theorem Jq {K : Type} [DecidableEq K] {h : Heap} (k : K) : ∀ {l : List (K × MV)} {kvs : List (K × Value)}, RepKV h l kvs →
    (lookI l k = none ∧ valueAt kvs k = none) ∨ ∃ v x, lookI l k = some v ∧ valueAt kvs k = some x ∧ RepV h v x
  | [], [] => fun _ => .inl ⟨rfl, rfl⟩
  | m :: ms, v :: vs => fun x => by
    simp only [RepKV] at x
    obtain ⟨e, hv, hr⟩ := x
    unfold lookI valueAt
    by_cases q : v.1 = k
    · refine .inr ⟨m.2, v.2, ?_, ?_, hv⟩
      · simp [List.find?_cons, e, q]
      · simp [List.find?_cons, q]
    · have ih := Jq k hr
      unfold lookI valueAt at ih
      simpa [List.find?_cons, e, q] using ih
  | [], _ :: _ => fun x => by simp [RepKV] at x
  | _ :: _, [] => fun x => by simp [RepKV] at x
theorem Db {K : Type} [DecidableEq K] {h : Heap} (k : K) : ∀ {l : List (K × MV)} {kvs : List (K × Value)}, RepKV h l kvs → l.any (fun kv => kv.1 = k) = kvs.any (fun kv => kv.1 = k)
  | [], [] => fun _ => rfl
  | m :: ms, v :: vs => fun x => by simp only [RepKV] at x; simp [x.1, Db k x.2.2]
  | [], _ :: _ => fun x => by simp [RepKV] at x
  | _ :: _, [] => fun x => by simp [RepKV] at x
theorem Da {K : Type} [DecidableEq K] {h : Heap} (k : K) {v : MV} {x : Value} (hv : RepV h v x) : ∀ {l : List (K × MV)} {kvs : List (K × Value)}, RepKV h l kvs →
    RepKV h (l.map (fun kv => if kv.1 = k then (kv.1, v) else kv)) (kvs.map (fun kv => if kv.1 = k then (kv.1, x) else kv))
  | [], [] => fun _ => trivial
  | m :: ms, u :: vs => fun x => by
    simp only [RepKV] at x
    simp only [List.map_cons, RepKV]
    refine ⟨?_, ?_, Da k hv x.2.2⟩
    · rw [x.1]; split <;> simp [x.1]
    · rw [x.1]; split
      · exact hv
      · exact x.2.1
  | [], _ :: _ => fun x => by simp [RepKV] at x
  | _ :: _, [] => fun x => by simp [RepKV] at x
theorem Pt {K : Type} {h : Heap} {m : K × MV} {x : K × Value} (e : m.1 = x.1) (hv : RepV h m.2 x.2) : ∀ {l : List (K × MV)} {kvs : List (K × Value)}, RepKV h l kvs → RepKV h (l ++ [m]) (kvs ++ [x])
  | [], [] => fun _ => by simp only [List.nil_append, RepKV]; exact ⟨e, hv, trivial⟩
  | _ :: ms, _ :: vs => fun y => by simp only [RepKV, List.cons_append] at y ⊢; exact ⟨y.1, y.2.1, Pt e hv y.2.2⟩
  | [], _ :: _ => fun x => by simp [RepKV] at x
  | _ :: _, [] => fun x => by simp [RepKV] at x
theorem Ad {K : Type} [DecidableEq K] {h : Heap} (k : K) {v : MV} {x : Value} (hv : RepV h v x) {l : List (K × MV)} {kvs : List (K × Value)} (r : RepKV h l kvs) : RepKV h (putI l k v) (stored kvs k x) := by
  unfold putI stored
  rw [Db k r]
  split
  · exact Da k hv r
  · exact Pt (m := (k, v)) (x := (k, x)) rfl hv r
theorem Dm {K : Type} [DecidableEq K] {h : Heap} (k : K) {l : List (K × MV)} {kvs : List (K × Value)} (hr : RepKV h l kvs) : (valueAt kvs k).isSome = (lookI l k).isSome := by
  rcases Jq k hr with ⟨e1, e2⟩ | ⟨v, x, e1, e2, _⟩ <;> rw [e1, e2] <;> rfl
theorem op_in {neg : Bool} {a b : MV} {x y : Value} {r' : Bool} (ha : RepV s.heap a x) (hb : RepV s.heap b y) (r : RepH prog w μ s.heap) (hA : OkA d A) (e : inM μ a b = some r')
    {Q : Value → Shared → Prop} (h : ∀ s', Still s s' → Q (.bool (if neg then !r' else r')) s') : wpAny (model prog w) A (compareOp (if neg then .NotIn else .In) x y) Q E s := by
  cases b with
  | tup l =>
    obtain ⟨xs, dd, e1, e2, rfl⟩ := anyT_inv e
    obtain ⟨as, a1, a2, a3⟩ := Jb r 9 _ _ _ e1 hb
    obtain ⟨bs, b1, b2, b3⟩ := Jb r 9 _ _ _ e2 ha
    have hu : A.units + 1 + min (PyData.depthAll xs) dd.depth < cLine := by have := hA.units; lia
    have a2' : PyData.canLayAll0 xs = true := by simpa [PyData.canLay0] using a2
    cases neg
    · exact SeqAt.in_tuple_reads a1 b1 a2' b2 hu (h s .refl)
    · exact SeqAt.notIn_tuple_reads a1 b1 a2' b2 hu (h s .refl)
  | ref p =>
    have hp : y = .ref p := hb
    replace e : inO μ p a (μ p) = some r' := e
    cases q : μ p with
    | none => rw [q] at e; cases e
    | some mo =>
      rw [q] at e
      cases mo with
      | idict l =>
        cases a with
        | int k =>
          obtain rfl := Option.some.inj e
          obtain ⟨t, rfl⟩ := ha; subst hp
          obtain ⟨kvs, hd, hr, hs⟩ := r p _ q
          have hl := Dm k hr
          cases neg
          · exact wpAny_in_of (intKind_is prog w k t) hs hd.mapOf (by rw [hl]; exact h _ ⟨rfl, rfl, rfl⟩)
          · exact wpAny_notIn_of (intKind_is prog w k t) hs hd.mapOf (by rw [hl]; exact h _ ⟨rfl, rfl, rfl⟩)
        | _ => cases e
      | sdict l =>
        cases a with
        | str k =>
          obtain rfl := Option.some.inj e
          obtain ⟨t, rfl⟩ := ha; subst hp
          obtain ⟨kvs, hd, hr, hs⟩ := r p _ q
          have hl := Dm k hr
          cases neg
          · exact wpAny_in_of (strKind_is prog w k t) hs hd.mapOf (by rw [hl]; exact h _ ⟨rfl, rfl, rfl⟩)
          · exact wpAny_notIn_of (strKind_is prog w k t) hs hd.mapOf (by rw [hl]; exact h _ ⟨rfl, rfl, rfl⟩)
        | _ => cases e
      | list l =>
        obtain ⟨xs, dd, e1, e2, rfl⟩ := anyL_inv e
        obtain ⟨as, a1, a2, a3⟩ := Jb r 9 _ _ _ e1 hb
        obtain ⟨bs, b1, b2, b3⟩ := Jb r 9 _ _ _ e2 ha
        have hu : A.units + 1 + min (PyData.depthAll xs) dd.depth < cLine := by have := hA.units; lia
        have a2' : PyData.canLayAll0 xs = true := by simpa [PyData.canLay0] using a2
        cases neg
        · exact SeqAt.in_list_reads a1 b1 a2' b2 hu (h s .refl)
        · exact SeqAt.notIn_list_reads a1 b1 a2' b2 hu (h s .refl)
  | _ => cases e
end
end Mine
end
section
namespace Mine
open PySem PySem.Calls PyProof.Rows
section
variable {prog : Program} {w : World} {fz : List Addr} {μ : MH} {s : Shared} {Q : MQ} {A : Around} {E : Value → Shared → Prop} {d : Nat}
theorem atI_seq {α : Type} {l : List α} {k : Int} {v : α} (e : atI l k = some v) : ∃ j, seqIndex? k l.length = some j ∧ l[j]? = some v ∧ -(l.length : Int) ≤ k ∧ k < l.length := by
  unfold atI at e
  unfold seqIndex?
  split at e
  · rename_i h0
    have hlt : k.toNat < l.length := by
      cases q : l[k.toNat]? with
      | none => rw [q] at e; cases e
      | some _ => exact (List.getElem?_eq_some_iff.mp q).1
    refine ⟨k.toNat, ?_, e, by lia, by lia⟩
    have : ¬ k < 0 := by simp [*]
    simp [this, h0]; lia
  · split at e
    · rename_i h0 h1
      have hlt : (k + l.length).toNat < l.length := by
        cases q : l[(k + l.length).toNat]? with
        | none => rw [q] at e; cases e
        | some _ => exact (List.getElem?_eq_some_iff.mp q).1
      refine ⟨(k + l.length).toNat, ?_, e, by lia, by lia⟩
      have : k < 0 := by lia
      simp [this, h1]; lia
    · cases e
theorem Fg {p : Addr} {l : List MV} {vs : List Value} {k : Int} {t : Tok} {v : MV} {Q : Value → Shared → Prop} (h1 : s.heap.PlainList p vs.toArray) (hv : RepVs s.heap l vs) (hz : l.length ≤ 2 ^ 20) (e : atI l k = some v)
    (h : ∀ z, RepV s.heap v z → Q z s) : wpAny (model prog w) A (getItem (.ref p) (.int k t)) Q E s := by
  have hl := hv.length
  unfold atI at e
  split at e
  · rename_i h0
    obtain ⟨z, hz1, hz2⟩ := hv.get e
    have := (List.getElem?_eq_some_iff.mp hz1).1
    exact wpAny_getItem_list h1.isList h0 (by lia) (by simpa using hz1) (h z hz2)
  · split at e
    · rename_i h0 h2
      obtain ⟨z, hz1, hz2⟩ := hv.get e
      refine wpAny_getItem_list_neg h1.isList (by lia) (by simp; lia) (by lia) (x := z) ?_ (h z hz2)
      simp only [List.size_toArray, hl]; simpa using hz1
    · cases e
theorem op_item {a i v : MV} {x y : Value} {value slice : PySem.Expr} {Q : Value → Shared → Prop} (ha : RepV s.heap a x) (hi : RepV s.heap i y) (r : RepH prog w μ s.heap) (e : idxM μ a i = some v)
    (hs : ∀ o i, subscripted slice false o i = operate [o, i] (getItem o i)) (h : ∀ z s', RepV s.heap v z → Still s s' → Q z s') : wpAny (model prog w) A (subscriptTail value slice x y) Q E s := by
  cases a with
  | tup l =>
    replace e := Px e; obtain ⟨k, rfl, e⟩ := e
    replace e := By e; obtain ⟨hz, e⟩ := e
    obtain ⟨p, vs, n, rfl, h1, hv⟩ := ha; obtain ⟨t, rfl⟩ := hi
    have hl := hv.length
    obtain ⟨j, e1, e2, e3, e4⟩ := atI_seq e
    obtain ⟨z, hz1, hz2⟩ := hv.get e2
    exact tail_any ⟨_, h1, rfl⟩ F.slot_tuple_getitem.lookup (P.getItem_tuple h1 (by lia) (by lia) (by simpa [hl] using e1) (by simpa using hz1) (h z s hz2 .refl)) (hs _ _)
  | str st =>
    replace e := Px e; obtain ⟨k, rfl, e⟩ := e
    replace e := By e; obtain ⟨hz, e⟩ := e
    obtain ⟨c, e', rfl⟩ := Option.map_eq_some_iff.mp e
    obtain ⟨u, rfl⟩ := ha; obtain ⟨t, rfl⟩ := hi
    obtain ⟨j, e1, e2, e3, e4⟩ := atI_seq e'
    have hz' : st.cps.toList.length ≤ 2 ^ 20 := by simpa [Str.length] using hz
    refine tail_any (typeIs_str s st u) F.slot_str_getitem.lookup (P.getItem_str (c := c) ?_ ?_ (h _ _ ⟨_, rfl⟩ ⟨rfl, rfl, rfl⟩)) (hs _ _)
    · simp; lia
    · rw [show st.length = st.cps.toList.length by simp [Str.length], e1]; simpa using e2
  | ref p =>
    obtain rfl : x = .ref p := ha
    replace e : idxO (μ p) i = some v := e
    cases q : μ p with
    | none => rw [q] at e; cases e
    | some mo =>
      rw [q] at e
      cases mo with
      | list l =>
        replace e := Px e; obtain ⟨k, rfl, e⟩ := e
        replace e := By e; obtain ⟨hz, e⟩ := e
        obtain ⟨t, rfl⟩ := hi
        obtain ⟨vs, h1, hv⟩ := r p _ q
        exact tail_any h1.isList.typeIs slot_list_getitem.lookup (Fg h1 hv hz e fun z hz => h z s hz .refl) (hs _ _)
      | idict l =>
        replace e := Px e; obtain ⟨k, rfl, e⟩ := e
        obtain ⟨t, rfl⟩ := hi
        obtain ⟨kvs, hd, hr, _⟩ := r p _ q
        rcases Jq k hr with ⟨e1, e2⟩ | ⟨v', z, e1, e2, hz⟩
        · rw [e1] at e; cases e
        · obtain rfl := Option.some.inj (e1.symm.trans e)
          exact tail_any hd.typeIs slot_dict_getitem.lookup (wpAny_getItem_of (intKind_is prog w k t) hd.mapOf e2 (h z _ hz ⟨rfl, rfl, rfl⟩)) (hs _ _)
      | sdict l =>
        replace e := strO_inv e; obtain ⟨k, rfl, e⟩ := e
        obtain ⟨t, rfl⟩ := hi
        obtain ⟨kvs, hd, hr, _⟩ := r p _ q
        rcases Jq k hr with ⟨e1, e2⟩ | ⟨v', z, e1, e2, hz⟩
        · rw [e1] at e; cases e
        · obtain rfl := Option.some.inj (e1.symm.trans e)
          exact tail_any hd.typeIs slot_dict_getitem.lookup (wpAny_getItem_of (strKind_is prog w k t) hd.mapOf e2 (h z _ hz ⟨rfl, rfl, rfl⟩)) (hs _ _)
  | _ => cases e
theorem Bo {h : Heap} {l : List MV} {vs : List Value} (hv : RepVs h l vs) : ∀ (js : List Nat), RepVs h (js.filterMap (l[·]?)) (js.filterMap (vs[·]?))
  | [] => trivial
  | j :: js => by
    have ih := Bo hv js
    have hl := hv.length
    simp only [List.filterMap_cons]
    cases q : l[j]? with
    | none =>
      have : vs[j]? = none := by rw [List.getElem?_eq_none_iff] at q ⊢; simp [*]
      rw [this]; exact ih
    | some m =>
      obtain ⟨z, h1, h2⟩ := hv.get q
      rw [h1]; simp only [RepVs]; exact ⟨h2, ih⟩
theorem Ah {m : MV} {v : Value} {o : Option Int} (hr : RepV s.heap m v) (e : partI m = some o) : IsPart v o ∧ ∃ p : Option (Int × Tok), v = partValue p ∧ p.map (·.1) = o := by
  cases m with
  | none => obtain rfl := Option.some.inj e; obtain rfl : v = .none := hr; exact ⟨.none, none, rfl, rfl⟩
  | int i => obtain rfl := Option.some.inj e; obtain ⟨t, rfl⟩ := hr; exact ⟨.int _ _, some (_, t), rfl, rfl⟩
  | _ => cases e
theorem pickN_str (n : Nat) (lo hi st : Option Int) : Builtin.Str.strSliceIndices lo hi (st.getD 1) n = pickN n lo hi st := by
  unfold Builtin.Str.strSliceIndices pickN sliceBounds
  cases lo <;> cases hi <;> cases st <;> rfl
theorem sliceRange_one (a b : Int) : sliceRange a b 1 = (List.range (b - a).toNat).map fun (k : Nat) => (a + k).toNat := by
  show (List.range (if a < b then (b - a + 1 - 1) / 1 else 0).toNat).map (fun (k : Nat) => (a + 1 * (k : Int)).toNat) = _
  rw [Int.ediv_one, Int.add_sub_cancel]
  have e : (if a < b then b - a else 0).toNat = (b - a).toNat := by
    by_cases h : a < b
    · rw [if_pos h]
    · rw [if_neg h, Int.toNat_of_nonpos (Int.sub_nonpos_of_le (Int.not_lt.mp h))]; rfl
  rw [e]
  exact List.map_congr_left fun k _ => by rw [Int.one_mul]
theorem sb_pos {n : Nat} {lo hi st : Option Int} (h : st.getD 1 > 0) : 0 ≤ (sliceBounds lo hi st n).1 ∧ (sliceBounds lo hi st n).2.1 ≤ n := by
  constructor
  · cases lo with
    | none => exact Int.le_of_eq (if_pos h).symm
    | some i => exact Int.le_trans (Int.le_max_left 0 _) (Int.le_of_eq (if_pos h).symm)
  · cases hi with
    | none => exact Int.le_of_eq (if_pos h)
    | some i => exact Int.le_trans (Int.le_of_eq (if_pos h)) (Int.max_le.mpr ⟨Int.natCast_nonneg n, Int.min_le_right ..⟩)
theorem sb_neg {n : Nat} {lo hi st : Option Int} (h : ¬ st.getD 1 > 0) : (sliceBounds lo hi st n).1 ≤ (n : Int) - 1 ∧ -1 ≤ (sliceBounds lo hi st n).2.1 := by
  constructor
  · cases lo with
    | none => exact Int.le_of_eq (if_neg h)
    | some i => exact Int.le_trans (Int.le_of_eq (if_neg h)) (Int.max_le.mpr ⟨Int.sub_le_sub_right (Int.natCast_nonneg n) 1, Int.min_le_right ..⟩)
  · cases hi with
    | none => exact Int.le_of_eq (if_neg h).symm
    | some i => exact Int.le_trans (Int.le_max_left (-1) _) (Int.le_of_eq (if_neg h).symm)
theorem full_at {a b : Int} {n k : Nat} (ha : 0 ≤ a) (hb : b ≤ n) (hl : (b - a).toNat = n) (hk : k < n) : (a + k).toNat = k := by
  obtain ⟨m, rfl⟩ := Int.eq_ofNat_of_zero_le ha
  cases q : b - (m : Int) with
  | ofNat c =>
    rw [q] at hl
    obtain rfl : c = n := hl
    rw [← Int.sub_add_cancel b m, q] at hb
    obtain rfl := Nat.le_zero.mp (Nat.le_of_add_le_add_left (Int.ofNat_le.mp hb : c + m ≤ c + 0))
    exact Nat.zero_add k
  | negSucc c => rw [q] at hl; exact absurd hk (hl ▸ Nat.not_lt_zero _)
theorem pickN_full {n : Nat} {lo hi st : Option Int} (h1 : st.getD 1 = 1) (hl : (pickN n lo hi st).length = n) : pickN n lo hi st = List.range n := by
  obtain ⟨b1, b2⟩ := sb_pos (n := n) (lo := lo) (hi := hi) (st := st) (by rw [h1]; decide)
  have b3 : (sliceBounds lo hi st n).2.2 = 1 := h1
  unfold pickN at hl ⊢
  rw [b3, sliceRange_one] at hl ⊢
  rw [List.length_map, List.length_range] at hl
  rw [hl]
  exact (List.map_congr_left fun k hk => full_at b1 b2 hl (List.mem_range.mp hk)).trans (List.map_id _)
theorem pickN_le (n : Nat) (lo hi st : Option Int) : (pickN n lo hi st).length ≤ n := sliceRange_length_le _ _ _ _ sb_pos sb_neg
theorem Nz {α : Type} : ∀ (l : List α), (List.range l.length).filterMap (l[·]?) = l
  | [] => rfl
  | x :: l => by
    have ih := Nz l
    rw [List.length_cons, List.range_succ_eq_map, List.filterMap_cons]
    simp only [List.getElem?_cons_zero, List.filterMap_map]
    congr 1
theorem op_slice {a lo hi st : MV} {x vl vh vs : Value} {value : PySem.Expr} {l u t : Option PySem.Expr} {p : Pos} {sl : Addr} {μ₀ : MH} {s₀ : Shared} (ha : RepV s.heap a x) (hlo : RepV s.heap lo vl) (hhi : RepV s.heap hi vh) (hst : RepV s.heap st vs)
    (r : RepH prog w μ s.heap) (f : FzIn fz μ) (h : sliceM fz a lo hi st Q μ) (hs : s.heap.get? sl = some { cls := .type "slice", data := .fields #[vl, vh, vs] }) :
    wpAny (model prog w) A (subscriptTail value (.Slice l u t p) x (.ref sl)) (PostV prog w fz μ s Q) E s := by
  obtain ⟨ol, oh, os, e1, e2, e3, e0, h⟩ := h
  obtain ⟨pl, ql, rfl, rfl⟩ := Ah hlo e1
  obtain ⟨ph, qh, rfl, rfl⟩ := Ah hhi e2
  obtain ⟨ps, qs, rfl, rfl⟩ := Ah hst e3
  have hsub : ∀ o, ∃ ops, subscripted (.Slice l u t p) false o (.ref sl) = operate ops (getItem o (.ref sl)) := fun o => by
    cases t
    · exact ⟨_, rfl⟩
    · exact ⟨_, rfl⟩
  cases a with
  | str x' =>
    obtain ⟨hz, h⟩ := h
    obtain ⟨tk, rfl⟩ := ha
    obtain ⟨ops, hop⟩ := hsub (.str x' tk)
    have h0 : ((qs.map (·.1)).getD 1 == 0) = false := by
      cases q : qs with
      | none => rfl
      | some c => rw [q] at e0; simp at e0 ⊢; exact e0
    refine tail_any (typeIs_str s x' tk) F.slot_str_getitem.lookup (wpAny_getItem_str_slice (l := ql) (u := qh) (st := qs) ⟨_, hs, rfl, rfl⟩ h0 ?_) hop
    have hp : slicePicked x' ql qh qs = pickN x'.length (ql.map (·.1)) (qh.map (·.1)) (qs.map (·.1)) := pickN_str _ _ _ _
    have hlen : x'.length = x'.cps.toList.length := by simp [Str.length]
    unfold sliceMade
    split
    · rename_i hc
      simp only [Bool.and_eq_true, beq_iff_eq] at hc
      have hfull := pickN_full (n := x'.length) (lo := ql.map (·.1)) (hi := qh.map (·.1)) (st := qs.map (·.1)) hc.1 (by rw [← hp]; exact hc.2)
      have hx : (⟨(pick x'.cps.toList (ql.map (·.1)) (qh.map (·.1)) (qs.map (·.1))).toArray⟩ : Str) = x' := by
        unfold pick
        rw [← hlen, hfull, hlen, Nz]
      rw [hx] at h
      exact Yl h r (by simp only [RepV]; exact ⟨_, rfl⟩) rfl rfl rfl
    · have hx : ((slicePicked x' ql qh qs).filterMap (x'.cps[·]?)).toArray = (pick x'.cps.toList (ql.map (·.1)) (qh.map (·.1)) (qs.map (·.1))).toArray := by
        unfold pick
        rw [hp, hlen]
        congr 2
        funext i
        simp
      rw [hx]
      refine ⟨?_, Yl h r (by simp only [RepV]; exact ⟨_, rfl⟩) rfl rfl rfl⟩
      have h1 : (pick x'.cps.toList (ql.map (·.1)) (qh.map (·.1)) (qs.map (·.1))).length ≤ x'.length := by
        unfold pick
        rw [← hlen]
        exact Nat.le_trans (List.length_filterMap_le _ _) (pickN_le _ _ _ _)
      have h2 := Yp hz
      simp only [Str.length, List.size_toArray] at h1 h2 ⊢
      lia
  | ref q =>
    obtain ⟨y, hy, hz, h⟩ := h
    obtain rfl : x = .ref q := ha
    obtain ⟨ops, hop⟩ := hsub (.ref q)
    obtain ⟨vs', h1, hv, _⟩ := Un r hy
    have hl := hv.length
    refine tail_any h1.isList.typeIs slot_list_getitem.lookup (wpAny_getItem_list_slice h1.isList (sl := sl) ⟨_, hs, rfl, rfl⟩ pl ph ps e0 ?_ (by have := Yp hz; simp; simp [*])) hop
    have hx : slicePick vs'.toArray (ql.map (·.1)) (qh.map (·.1)) (qs.map (·.1)) = ((pickN y.length (ql.map (·.1)) (qh.map (·.1)) (qs.map (·.1))).filterMap (vs'[·]?)).toArray := by
      unfold slicePick pickN
      simp only [List.size_toArray, hl]
      congr 2
      funext i
      simp
    rw [hx]
    exact Oq h r f (N5 (Bo hv _))
  | _ => exact False.elim h
end
end Mine
end
section
namespace Mine
open PySem PySem.Calls PyProof.Rows PySem.W
section
variable {prog : Program} {w : World} {fz : List Addr} {μ : MH} {s : Shared} {Q : MQ} {A : Around} {E : Value → Shared → Prop} {d : Nat}
theorem N4 {h : Heap} : ∀ {l : List MV} {vs : List Value}, vs.length = l.length → (∀ (j : Nat) (v : Value), vs[j]? = some v → ∃ m, l[j]? = some m ∧ RepV h m v) → RepVs h l vs
  | [], [] => fun _ _ => trivial
  | m :: l, v :: vs => fun hl hg => by
    simp only [RepVs]
    obtain ⟨m', h1, h2⟩ := hg 0 v rfl
    simp at h1; subst h1
    exact ⟨h2, N4 (by simpa using hl) fun j u e => by simpa using hg (j + 1) u (by simpa using e)⟩
  | [], _ :: _ => fun hl _ => by simp at hl
  | _ :: _, [] => fun hl _ => by simp at hl
theorem Us {K : Type} {h : Heap} : ∀ {l : List (K × MV)} {kvs : List (K × Value)} {i : Nat} {kv : K × Value}, RepKV h l kvs → kvs[i]? = some kv → ∃ m, l[i]? = some (kv.1, m) ∧ RepV h m kv.2
  | [], [], i, kv => fun _ e => by simp at e
  | m :: ms, y :: ys, 0, kv => fun r e => by
    simp only [RepKV] at r; simp at e; subst e
    exact ⟨m.2, by simp [← r.1], r.2.1⟩
  | m :: ms, y :: ys, i + 1, kv => fun r e => by simp only [RepKV] at r; exact Us (i := i) r.2.2 (by simpa using e)
  | [], _ :: _, _, _ => fun r _ => by simp [RepKV] at r
  | _ :: _, [], _, _ => fun r _ => by simp [RepKV] at r
structure DSrc (prog : Program) (w : World) (s : Shared) (x : Value) (l : List MV) (da : Addr) : Prop where
  ex : ∃ T r n P OK, x = .ref r ∧ KdlSrc prog w T r da n P OK ∧ OK s.heap ∧ n = l.length ∧ ∀ i v, P i v → ∀ h', KeepsT s.heap h' → ∃ m, l[i]? = some m ∧ RepV h' m v
inductive DsrcIs (prog : Program) (w : World) (s : Shared) (x : Value) (l : List MV) : Prop
  | seq (a : Addr) (vs : List Value) (n : Nat) (hx : x = .ref a) (ho : s.heap.get? a = some { cls := .type "list", data := .seq (List.toArray vs) n } ∨ s.heap.get? a = some { cls := .type "tuple", data := .seq (List.toArray vs) n }) (hr : RepVs s.heap l vs)
  | str (st : Str) (t : Tok) (hx : x = .str st t)
  | dict (da : Addr) (hd : DSrc prog w s x l da)
theorem Du {K : Type} [DecidableEq K] (knd : PySem.KeyKind prog w K) (enc : K → MV) (he : ∀ k u h', knd.is k u = true → RepV h' (enc k) u) (a : Addr) (kv : List (K × MV)) (kvs : List (K × Value)) (hD : s.heap.DictOf knd a kvs) (hk : RepKV s.heap kv kvs) (hs : (a == sysModules) = false) : DSrc prog w s (.ref a) (kv.map fun p => enc p.1) a := by
  obtain ⟨ep, hat⟩ := hD.dictAt
  refine ⟨_, a, _, _, _, rfl, kdl_dict (knd := knd) (kvs := kvs) (ep := ep) hs, hat, by rw [List.length_map, hk.length], ?_⟩
  rintro i u ⟨k, y, h1, h2⟩ h' kt
  obtain ⟨m, h3, h4⟩ := Us hk h1
  exact ⟨enc k, by rw [List.getElem?_map, h3]; rfl, he k u h' h2⟩
theorem Dt {K : Type} [DecidableEq K] (knd : PySem.KeyKind prog w K) (enc : K → MV) (he : ∀ k u h', knd.is k u = true → RepV h' (enc k) u) (a : Addr) (kv : List (K × MV)) (kvs : List (K × Value)) (hD : s.heap.DictOf knd a kvs) (hk : RepKV s.heap kv kvs) (r : Addr) (hr : KeysView s.heap r a) : DSrc prog w s (.ref r) (kv.map fun p => enc p.1) a := by
  obtain ⟨ep, hat⟩ := hD.dictAt
  refine ⟨_, r, _, _, _, rfl, kdl_keys (knd := knd) (kvs := kvs) (ep := ep), ⟨hr, hat⟩, by rw [List.length_map, hk.length], ?_⟩
  rintro i u ⟨k, y, h1, h2⟩ h' kt
  obtain ⟨m, h3, h4⟩ := Us hk h1
  exact ⟨enc k, by rw [List.getElem?_map, h3]; rfl, he k u h' h2⟩
theorem Ds {K : Type} [DecidableEq K] (knd : PySem.KeyKind prog w K) (a : Addr) (kv : List (K × MV)) (kvs : List (K × Value)) (hD : s.heap.DictOf knd a kvs) (hk : RepKV s.heap kv kvs) (r : Addr) (hr : s.heap.IsValuesView r a) : DSrc prog w s (.ref r) (kv.map fun p => p.2) a := by
  obtain ⟨ep, hat⟩ := hD.dictAt
  refine ⟨_, r, _, _, _, rfl, kdl_values (knd := knd) (kvs := kvs) (ep := ep), ⟨hr, hat⟩, by rw [List.length_map, hk.length], ?_⟩
  rintro i u ⟨k, h1⟩ h' kt
  obtain ⟨m, h3, h4⟩ := Us hk h1
  exact ⟨m, by rw [List.getElem?_map, h3]; rfl, h4.keepT kt⟩
theorem encI (k : Int) (u : Value) (h' : Heap) (hi : (intKind prog w).is k u = true) : RepV h' (.int k) u := Value.isInt_shape hi
theorem encS (k : Str) (u : Value) (h' : Heap) (hi : (strKind prog w).is k u = true) : RepV h' (.str k) u := Value.isStrOf_shape hi
theorem Fs {v : MV} {x : Value} {l : List MV} (r : RepH prog w μ s.heap) (hv : RepV s.heap v x) (e : items μ v = some l) : DsrcIs prog w s x l := by
  cases v with
  | tup l' =>
    obtain rfl := Option.some.inj e
    obtain ⟨a, vs, n, rfl, h1, h2⟩ := hv
    exact .seq a vs n rfl (.inr h1) h2
  | str st =>
    obtain ⟨t, rfl⟩ := hv
    exact .str st t rfl
  | ref a =>
    obtain rfl : x = .ref a := hv
    replace e : itemsO (μ a) = some l := e
    cases q : μ a with
    | none => rw [q] at e; cases e
    | some mo =>
      rw [q] at e
      cases mo with
      | list l' => obtain rfl := Option.some.inj e; obtain ⟨vs, ⟨n, h1⟩, h2⟩ := r a _ q; exact .seq a vs n rfl (.inl h1) h2
      | idict l' => obtain rfl := Option.some.inj e; obtain ⟨kvs, h1, h2, h3⟩ := r a _ q; exact .dict a (Du _ _ encI a l' kvs h1 h2 h3)
      | sdict l' => obtain rfl := Option.some.inj e; obtain ⟨kvs, h1, h2, h3⟩ := r a _ q; exact .dict a (Du _ _ encS a l' kvs h1 h2 h3)
  | keys a =>
    obtain ⟨p, rfl, hp⟩ := hv
    replace e : keysO (μ a) = some l := e
    cases q : μ a with
    | none => rw [q] at e; cases e
    | some mo =>
      rw [q] at e
      cases mo with
      | list l' => cases e
      | idict l' => obtain rfl := Option.some.inj e; obtain ⟨kvs, h1, h2, h3⟩ := r a _ q; exact .dict a (Dt _ _ encI a l' kvs h1 h2 p hp)
      | sdict l' => obtain rfl := Option.some.inj e; obtain ⟨kvs, h1, h2, h3⟩ := r a _ q; exact .dict a (Dt _ _ encS a l' kvs h1 h2 p hp)
  | vals a =>
    obtain ⟨p, rfl, hp⟩ := hv
    replace e : valsO (μ a) = some l := e
    cases q : μ a with
    | none => rw [q] at e; cases e
    | some mo =>
      rw [q] at e
      cases mo with
      | list l' => cases e
      | idict l' => obtain rfl := Option.some.inj e; obtain ⟨kvs, h1, h2, h3⟩ := r a _ q; exact .dict a (Ds _ a l' kvs h1 h2 p hp)
      | sdict l' => obtain rfl := Option.some.inj e; obtain ⟨kvs, h1, h2, h3⟩ := r a _ q; exact .dict a (Ds _ a l' kvs h1 h2 p hp)
  | _ => cases e
theorem Br {v : MV} {x : Value} {l : List MV} {R : List Value → Shared → Prop} (r : RepH prog w μ s.heap) (hv : RepV s.heap v x) (e : items μ v = some l) (hn : fits l.length) (hA : A.handled = none) (hns : ∀ st, v ≠ .str st)
    (h : ∀ vs h' tk, (∀ b o, s.heap.get? b = some o → h'.get? b = some o) → RepVs h' l vs → R vs { s with heap := h', toks := tk }) : wpAny (model prog w) A (collect x) R E s := by
  rcases Fs r hv e with ⟨a, vs, n, rfl, ho, hr⟩ | ⟨st, t, rfl⟩ | ⟨da, ⟨T, p, n, P, OK, rfl, K, ok, rfl, hP⟩⟩
  · have hl := hr.length
    rcases ho with ho | ho
    · exact wpAny_collect_seq a (.inl rfl) ho rfl rfl (fun h' k => h vs h' s.toks k (hr.keepT (.of_all k))) (by have := Yp hn; simp; simp [*])
    · exact wpAny_collect_seq a (.inr rfl) ho rfl rfl (fun h' k => h vs h' s.toks k (hr.keepT (.of_all k))) (by have := Yp hn; simp; simp [*])
  · cases v <;> simp [RepV] at hv
    exact absurd rfl (hns _)
  · refine kdu_collect K hA ok (Yp hn) fun h' tk acc k ha => h _ h' tk k (N4 (by rw [Array.length_toList]; exact ha.1) fun j u hj => ?_)
    exact hP j u (ha.2 j u (by rw [← Array.getElem?_toList]; exact hj)) h' (.of_all k)
theorem N7 {h : Heap} : ∀ {l : List MV} {vs : List Value} {ns : List Int}, RepVs h l vs → intsOf l = some ns → IntsAre vs ns
  | [], [], ns => fun _ e => by simp [intsOf] at e; subst e; exact .nil
  | m :: l, v :: vs, ns => fun r e => by
    simp only [RepVs] at r
    unfold intsOf at e
    rw [List.mapM_cons] at e
    simp only [Option.bind_eq_bind, Option.bind_eq_some_iff, Option.pure_def, Option.some.injEq] at e
    obtain ⟨i, e1, ns', e2, rfl⟩ := e
    cases m <;> simp at e1
    subst e1
    simp only [RepV] at r
    obtain ⟨⟨t, rfl⟩, hr⟩ := r
    exact .cons _ t (N7 hr e2)
  | [], _ :: _, _ => fun r _ => by simp [RepVs] at r
  | _ :: _, [], _ => fun r _ => by simp [RepVs] at r
theorem P9 {h : Heap} : ∀ {vs : List Value} {ns : List Int}, IntsAre vs ns → RepVs h (ns.map .int) vs
  | _, _, .nil => trivial
  | _, _, .cons n t r => by simp only [List.map_cons, RepVs, RepV]; exact ⟨⟨t, rfl⟩, P9 r⟩
theorem P5 {l : List MV} {ns : List Int} (e : intsOf l = some ns) : ns.length = l.length := by
  unfold intsOf at e
  induction l generalizing ns with
  | nil => simp at e; subst e; rfl
  | cons m l ih =>
    rw [List.mapM_cons] at e
    simp only [Option.bind_eq_bind, Option.bind_eq_some_iff, Option.pure_def, Option.some.injEq] at e
    obtain ⟨i, e1, ns', e2, rfl⟩ := e
    simp [ih e2]
theorem Um {ns ns' : List Int} (hp : ns'.Perm ns) (hs : ns'.Pairwise (· ≤ ·)) : ns' = sortI ns := by
  have h1 : (sortI ns).Perm ns := List.mergeSort_perm _ _
  have h2 : (sortI ns).Pairwise (fun a b => decide (a ≤ b) = true) := List.pairwise_mergeSort (by intro a b c; simp; solve_by_elim (maxDepth := 3) only [*, Int.le_trans, Int.lt_of_lt_of_le, Int.lt_of_le_of_lt, Int.le_of_lt]) (by intro a b; simp; lia) ns
  refine List.Perm.eq_of_pairwise (le := fun a b => a ≤ b) ?_ hs (h2.imp (by intro a b h; simpa using h)) (hp.trans h1.symm)
  intro a b _ _ h3 h4; lia
theorem Oy {ns : List Int} (h : ns.Pairwise (· ≥ ·)) : ns.reverse.Pairwise (· ≤ ·) := by
  rw [List.pairwise_reverse]; exact h
theorem Df {b : Bool} {v : MV} {x : Value} {l : List MV} {ns : List Int} (r : RepH prog w μ s.heap) (f : FzIn fz μ) (hv : RepV s.heap v x) (e : items μ v = some l) (hi : intsOf l = some ns) (hn : l.length < 64) (hA : A.handled = none) (hns : ∀ st, v ≠ .str st)
    (h : allocM fz μ (.list ((if b then (sortI ns).reverse else sortI ns).map .int)) fun c μ' => Q (.ref c) μ') :
    (b = false → wpAny (model prog w) A (call (.builtin "sorted") [x]) (PostV prog w fz μ s Q) E s) ∧ wpAny (model prog w) A (call (.builtin "sorted") [x] [(Str.ofString "reverse", .bool b)]) (PostV prog w fz μ s Q) E s := by
  have hf : fits l.length := Nat.le_trans (Nat.le_of_lt hn) (by decide)
  have fin : ∀ (vs : List Value) (h' : Heap) (tk : Nat) (out : Array Value) (ns' : List Int), (∀ b o, s.heap.get? b = some o → h'.get? b = some o) → IntsAre out.toList ns' → ns' = (if b then (sortI ns).reverse else sortI ns) →
      PostV prog w fz μ s Q (.ref h'.objs.size) { s with heap := sortedHeap (h'.push (seqObj "list" vs.toArray 0)) h'.objs.size vs out, toks := tk } := by
    intro vs h' tk out ns' k hI hns'
    have hnew : s.heap.get? h'.objs.size = none := by
      cases q : s.heap.get? h'.objs.size with
      | none => rfl
      | some o => exact absurd (Heap.lt_size (k _ _ q)) (Nat.lt_irrefl _)
    have k2 : ∀ b o, s.heap.get? b = some o → (sortedHeap (h'.push (seqObj "list" vs.toArray 0)) h'.objs.size vs out).get? b = some o := fun b o e => by
      have e' := k b o e
      have hlt := Heap.lt_size e'
      rw [sortedHeap_old (Nat.ne_of_lt hlt) (by rw [Heap.size_push]; exact Nat.lt_succ_of_lt hlt)]
      exact Heap.get?_push_of_some _ e'
    refine Km h r f hnew k2 ?_
    obtain ⟨ep, he⟩ := sortedHeap_at (h := h'.push (seqObj "list" vs.toArray 0)) (a := h'.objs.size) (vs := vs) (n := 0) (out := out) (Heap.get?_push_size _ rfl)
    refine ⟨out.toList, ⟨ep, by simpa [seqObj] using he⟩, ?_⟩
    rw [← hns']
    exact P9 hI
  refine ⟨fun hb => ?_, ?_⟩
  · subst hb
    refine Calls.call_function_entry kind_sorted plain_sorted entry_sorted (args_sorted1 _) ?_
    unfold Builtin.«sorted»
    refine wpAny_bind (m := checkCount "sorted" 1 1 _) (wpAny_pure ?_)
    refine wpAny_bind (Br (A := A.in1) r hv e hf hA hns fun vs h' tk k hr => ?_)
    have hl := hr.length
    refine wpAny_bind (wpAny_newList ?_ (by have := Yp hf; simp [*]))
    have hoL : (h'.push (seqObj "list" vs.toArray 0)).get? h'.objs.size = some (seqObj "list" vs.toArray 0) := Heap.get?_push_size _ rfl
    refine wpAny_bind (wpAny_holding (wpAny_call_entry slot_list_sort ⟨_, hoL, rfl⟩ entry_list_sort (list_sort_tree hoL (N7 hr hi) (by simp [*]) fun out ns' a1 a2 a3 => ⟨_, rfl, ?_⟩) (args_list_sort _)))
    exact wpAny_pure ⟨_, rfl, fin vs h' tk out ns' k a1 (Um a2 a3)⟩
  · refine call_function_entry_kw kind_sorted plain_sorted entry_sorted (args_sorted_rev _ _) ?_
    unfold Builtin.«sorted»
    refine wpAny_bind (m := checkCount "sorted" 1 1 _) (wpAny_pure ?_)
    refine wpAny_bind (Br (A := A.in1) r hv e hf hA hns fun vs h' tk k hr => ?_)
    have hl := hr.length
    refine wpAny_bind (wpAny_newList ?_ (by have := Yp hf; simp [*]))
    have hoL : (h'.push (seqObj "list" vs.toArray 0)).get? h'.objs.size = some (seqObj "list" vs.toArray 0) := Heap.get?_push_size _ rfl
    refine wpAny_bind (wpAny_holding (wpAny_call_entry_kw slot_list_sort ⟨_, hoL, rfl⟩ entry_list_sort (list_sort_tree_rev hoL (N7 hr hi) (by simp [*]) fun out ns' a1 a2 a3 => ⟨_, rfl, ?_⟩) (args_list_sort_rev _ _)))
    refine wpAny_pure ⟨_, rfl, fin vs h' tk out ns' k a1 ?_⟩
    cases b
    · exact Um a2 a3
    · have := Um ((List.reverse_perm ns').trans a2) (Oy a3)
      simp only [if_true]
      rw [← this, List.reverse_reverse]
end
end Mine
end
section
namespace Mine
open PySem
structure TabOk (led : Bool) (t : SetTable) : Prop where
  ris : t.place.toList.Pairwise (· < ·)
  led : t.led = led
noncomputable def Ris (xs : Array Nat) : Prop := ∀ (i k a b : Nat), i < k → xs[i]? = some a → xs[k]? = some b → a < b
theorem Bn {xs : Array Nat} (h : xs.toList.Pairwise (· < ·)) : Ris xs := fun i k a b hik ha hb => by
  rw [← Array.getElem?_toList] at ha hb
  obtain ⟨h1, rfl⟩ := List.getElem?_eq_some_iff.mp ha
  obtain ⟨h2, rfl⟩ := List.getElem?_eq_some_iff.mp hb
  exact List.pairwise_iff_getElem.mp h i k h1 h2 hik
structure BelowIs (xs : Array Nat) (j r : Nat) : Prop where
  le : r ≤ xs.size
  lt : ∀ i a, i < r → xs[i]? = some a → a < j
  ge : ∀ i a, r ≤ i → xs[i]? = some a → j ≤ a
theorem mid_in {lo hi : Nat} (h : lo < hi) : lo ≤ (lo + hi) / 2 ∧ (lo + hi) / 2 < hi :=
  ⟨(Nat.le_div_iff_mul_le (by decide)).mpr (Nat.mul_two lo ▸ Nat.add_le_add_left (Nat.le_of_lt h) lo), Nat.div_lt_of_lt_mul (Nat.two_mul hi ▸ Nat.add_lt_add_right h hi)⟩
theorem below_go {xs : Array Nat} {j : Nat} (hr : Ris xs) (fuel : Nat) : ∀ {lo hi : Nat}, lo ≤ hi → hi ≤ lo + fuel → hi ≤ xs.size → (∀ i a, i < lo → xs[i]? = some a → a < j) → (∀ i a, hi ≤ i → xs[i]? = some a → j ≤ a) → BelowIs xs j (SetTable.below.go xs j fuel lo hi) := by
  induction fuel with
  | zero => exact fun h1 h3 h2 hL hH => ⟨Nat.le_trans h1 h2, hL, fun i a q => hH i a (Nat.le_trans h3 q)⟩
  | succ fuel ih =>
    intro lo hi h1 h3 h2 hL hH
    unfold SetTable.below.go
    by_cases q : lo < hi
    · rw [if_pos q]
      obtain ⟨m1, m2⟩ := mid_in q
      dsimp only
      generalize (lo + hi) / 2 = m at m1 m2 ⊢
      have ha : xs[m]? = some (xs.getD m j) := by
        unfold Array.getD
        rw [dif_pos (Nat.lt_of_lt_of_le m2 h2)]; exact Array.getElem?_eq_getElem _
      generalize xs.getD m j = a at ha ⊢
      by_cases c : a < j
      · rw [if_pos c]
        refine ih m2 ((Nat.succ_add m fuel).symm ▸ Nat.le_trans h3 (Nat.succ_le_succ (Nat.add_le_add_right m1 fuel))) h2 (fun i b hi' hb => ?_) hH
        rcases Nat.lt_or_eq_of_le (Nat.le_of_lt_succ hi') with z | rfl
        · exact Nat.lt_trans (hr i _ b a z hb ha) c
        · exact Option.some.inj (ha.symm.trans hb) ▸ c
      · rw [if_neg c]
        refine ih m1 (Nat.le_of_lt_succ (Nat.lt_of_lt_of_le m2 h3)) (Nat.le_trans (Nat.le_of_lt m2) h2) hL fun i b hi' hb => ?_
        rcases Nat.lt_or_eq_of_le hi' with z | rfl
        · exact Nat.le_trans (Nat.not_lt.mp c) (Nat.le_of_lt (hr _ i a b z ha hb))
        · exact Option.some.inj (ha.symm.trans hb) ▸ Nat.not_lt.mp c
    · rw [if_neg q]
      exact ⟨Nat.le_trans h1 h2, hL, fun i a z => hH i a (Nat.le_trans (Nat.not_lt.mp q) z)⟩
theorem A8 {xs : Array Nat} (h : xs.toList.Pairwise (· < ·)) (j : Nat) : BelowIs xs j (SetTable.below xs j) :=
  below_go (Bn h) _ (Nat.zero_le _) (Nat.le_add_left ..) (Nat.le_refl _) (fun i a hi => absurd hi (Nat.not_lt_zero _)) fun i a hi ha => by
    rw [Array.getElem?_eq_none hi] at ha; cases ha
theorem BelowIs.ge' {xs : Array Nat} {j r r' : Nat} (h : BelowIs xs j r) (h' : BelowIs xs j r') : r' ≤ r := Nat.le_of_not_lt fun q =>
  have ha := Array.getElem?_eq_getElem (xs := xs) (Nat.lt_of_lt_of_le q h'.le)
  Nat.not_lt.mpr (h.ge r _ (Nat.le_refl _) ha) (h'.lt r _ q ha)
theorem BelowIs.eq {xs : Array Nat} {j r r' : Nat} (h : BelowIs xs j r) (h' : BelowIs xs j r') : r = r' := Nat.le_antisymm (h'.ge' h) (h.ge' h')
theorem below_next {xs : Array Nat} (h : xs.toList.Pairwise (· < ·)) {k a : Nat} (ha : xs[k]? = some a) : SetTable.below xs (a + 1) = k + 1 := by
  have hk : k < xs.size := (Array.getElem?_eq_some_iff.mp ha).1
  refine (A8 h (a + 1)).eq ⟨hk, fun i b hi hb => ?_, fun i b hi hb => ?_⟩
  · rcases Nat.lt_or_eq_of_le (Nat.le_of_lt_succ hi) with z | rfl
    · exact Nat.lt_succ_of_lt (Bn h i k b a z hb ha)
    · exact Option.some.inj (ha.symm.trans hb) ▸ Nat.lt_succ_self _
  · exact Bn h k i a b hi ha hb
theorem below_zero {xs : Array Nat} (h : xs.toList.Pairwise (· < ·)) : SetTable.below xs 0 = 0 :=
  (A8 h 0).eq ⟨Nat.zero_le _, fun i b hi => absurd hi (Nat.not_lt_zero _), fun i b _ _ => Nat.zero_le _⟩
theorem not_live {t : SetTable} (h : t.place.toList.Pairwise (· < ·)) {j : Nat} (hj : t.place[SetTable.below t.place j]? ≠ some j) : j ∉ t.place.toList := fun m => by
  obtain ⟨i, hi, e⟩ := List.mem_iff_getElem.mp m
  have ha : t.place[i]? = some j := by rw [← Array.getElem?_toList, List.getElem?_eq_getElem hi, e]
  have : SetTable.below t.place j = i := (A8 h j).eq ⟨Nat.le_of_lt hi, fun k b hk hb => Bn h k i b j hk hb ha, fun k b hk hb => by
    rcases Nat.lt_or_eq_of_le hk with z | rfl
    · exact Nat.le_of_lt (Bn h i k j b z ha hb)
    · exact Option.some.inj (ha.symm.trans hb) ▸ Nat.le_refl _⟩
  rw [this] at hj; exact hj ha
noncomputable def Free (t : SetTable) (j : Nat) : Prop := t.place[SetTable.below t.place j]? ≠ some j
theorem D0 {t : SetTable} {j : Nat} (h : ∀ i, t.slot j ≠ .live i) : Free t j := fun e => by
  refine h (SetTable.below t.place j) ?_
  unfold SetTable.slot
  dsimp only
  rw [if_pos (by rw [e]; simp)]
theorem Pb {t : SetTable} {hashAt : Nat → Int} {hs : Int} : ∀ (fuel : Nat) (p : SetTable.Probe), (∀ d, p.dummy = some d → Free t d) → ∀ j d, SetTable.probe.go t hashAt hs fuel p = some (.empty j d) → Free t (d.getD j)
  | 0 => fun p _ j d h => by unfold SetTable.probe.go at h; cases h
  | fuel + 1 => fun p hp j d h => by
    unfold SetTable.probe.go at h
    have adv : ∀ q : SetTable.Probe, (t.advance q).dummy = q.dummy := fun q => by unfold SetTable.advance; split <;> rfl
    cases q : t.slot p.j with
    | empty =>
      rw [q] at h
      simp only [Option.some.injEq, SetTable.Met.empty.injEq] at h
      obtain ⟨rfl, rfl⟩ := h
      cases e : p.dummy with
      | none => exact D0 fun i => by rw [Option.getD_none, q]; simp
      | some d => exact hp d e
    | dummy =>
      rw [q] at h
      refine Pb fuel _ (fun d' e => ?_) j d h
      rw [adv] at e
      simp only [Option.some.injEq] at e
      subst e
      exact D0 fun i => by rw [q]; simp
    | live i =>
      rw [q] at h
      dsimp only at h
      split at h
      · cases h
      · exact Pb fuel _ (fun d' e => hp d' (by rwa [adv] at e)) j d h
theorem Ct {t : SetTable} {hs : Int} {j : Nat} {b : Bool} (h : t.freeSlot hs = some (j, b)) : Free t j := by
  unfold SetTable.freeSlot at h
  split at h
  · rename_i j' d e
    simp only [Option.some.injEq, Prod.mk.injEq] at h
    rw [← h.1]
    exact Pb _ _ (fun d e => by unfold SetTable.probeStart at e; cases e) _ _ e
  · cases h
theorem put_ris {t : SetTable} (h : t.place.toList.Pairwise (· < ·)) {j : Nat} (hj : Free t j) : (t.put j).1.place.toList.Pairwise (· < ·) := by
  show (SetTable.insertAt t.place (SetTable.below t.place j) j).toList.Pairwise (· < ·)
  rw [SetTable.toList_insertAt]
  have hb := A8 h j
  have hn := not_live h hj
  rw [List.pairwise_append]
  refine ⟨h.sublist (List.take_sublist ..), List.pairwise_cons.mpr ⟨fun a ha => ?_, h.sublist (List.drop_sublist ..)⟩, fun a ha b hb' => ?_⟩
  · obtain ⟨i, hi, rfl⟩ := List.mem_iff_getElem.mp ha
    rw [List.getElem_drop]
    have hi' : SetTable.below t.place j + i < t.place.toList.length := Nat.add_lt_of_lt_sub' (List.length_drop ▸ hi)
    exact Nat.lt_of_le_of_ne (hb.ge _ _ (Nat.le_add_right ..) (Array.getElem?_eq_getElem hi')) fun e => hn (e ▸ List.getElem_mem hi')
  · have la : a < j := by
      obtain ⟨i, hi, rfl⟩ := List.mem_iff_getElem.mp ha
      rw [List.getElem_take]
      rw [List.length_take] at hi
      exact hb.lt i _ (Nat.lt_of_lt_of_le hi (Nat.min_le_left ..)) (Array.getElem?_eq_getElem (Nat.lt_of_lt_of_le hi (Nat.min_le_right ..)))
    rcases List.mem_cons.mp hb' with rfl | hb'
    · exact la
    · obtain ⟨i, hi, rfl⟩ := List.mem_iff_getElem.mp hb'
      rw [List.getElem_drop]
      have hi' : SetTable.below t.place j + i < t.place.toList.length := Nat.add_lt_of_lt_sub' (List.length_drop ▸ hi)
      exact Nat.lt_of_lt_of_le la (hb.ge _ _ (Nat.le_add_right ..) (Array.getElem?_eq_getElem hi'))
theorem N3 {led : Bool} {t : SetTable} (h : t.led = led) (n : Nat) : TabOk led (t.standIn n) := ⟨by
  show (Array.range n).toList.Pairwise (· < ·)
  rw [Array.toList_range]; exact List.pairwise_lt_range, h⟩
theorem Fe {led : Bool} {t : SetTable} (h : TabOk led t) (n : Nat) : TabOk led (t.orStandIn n) := by
  unfold SetTable.orStandIn
  split
  · exact h
  · exact N3 h.led n
theorem layNew_ok {led : Bool} {t : SetTable} (h : TabOk led t) (es : Array (Int × Value)) (hs : Int) (x : Value) : TabOk led (layNew t es hs x).2.1 := by
  unfold layNew
  split
  · rename_i slot d e
    exact Fe ⟨put_ris h.ris (Ct e), h.led⟩ _
  · exact N3 h.led _
theorem relayAll_ok {led : Bool} {t : SetTable} (h : TabOk led t) (es : Array (Int × Value)) (n : Nat) : TabOk led (relayAll t es n).2.1 := by
  unfold relayAll
  split
  · rename_i t' order e
    dsimp only
    split
    · unfold SetTable.relaid SetTable.laid at e
      obtain ⟨owner, _, e⟩ := Option.bind_eq_some_iff.mp e
      simp only [Option.pure_def, Option.some.injEq, Prod.mk.injEq] at e
      obtain ⟨rfl, _⟩ := e
      refine ⟨?_, h.led⟩
      show (((List.range _).filterMap _).map _).toArray.toList.Pairwise (· < ·)
      rw [List.toList_toArray, List.pairwise_map, List.pairwise_filterMap]
      refine List.Pairwise.imp ?_ List.pairwise_lt_range
      intro a b hab x hx y hy
      cases ha : owner.getD a none with
      | none => rw [ha] at hx; cases hx
      | some u =>
        cases hb : owner.getD b none with
        | none => rw [hb] at hy; cases hy
        | some v => rw [ha] at hx; rw [hb] at hy; cases hx; cases hy; exact hab
    · exact N3 h.led _
  · exact N3 h.led _
theorem plainOff_ok {led : Bool} {t : SetTable} (h : TabOk led t) : TabOk led { t with plain := false } := ⟨h.ris, h.led⟩
end Mine
end
section
namespace Mine
open PySem PySem.Calls PyProof.Rows
section
variable {prog : Program} {w : World} {K : Type} [DecidableEq K] {knd : KeyKind prog w K} {A : Around} {E : Value → Shared → Prop} {s : Shared}
structure SetIs (knd : KeyKind prog w K) (led : Bool) (S : K → Bool) (n : Nat) (o : Obj) (es : Array (Int × Value)) (ep : Nat) (t : SetTable) : Prop where
  ex : o.ExactSet
  data : o.data = .set es ep t
  el : ElemsOf knd es.toList
  mem : ∀ k, S k = true ↔ ∃ e ∈ es.toList, knd.is k e.2 = true
  bd : es.size < scanBound
  fits : t.fits es.size = true
  size : es.size = n
  tab : TabOk led t
noncomputable def SetG (knd : KeyKind prog w K) (h : Heap) (a : Addr) (led : Bool) (S : K → Bool) (n : Nat) : Prop := ∃ o es ep t, h.get? a = some o ∧ SetIs knd led S n o es ep t
theorem SetG.keep {h h' : Heap} {a : Addr} {led : Bool} {S : K → Bool} {n : Nat} (x : SetG knd h a led S n) (k : ∀ o, h.get? a = some o → h'.get? a = some o) : SetG knd h' a led S n := by
  obtain ⟨o, es, ep, t, ho, q⟩ := x
  exact ⟨o, es, ep, t, k o ho, q⟩
theorem SetIs.put {led : Bool} {S S' : K → Bool} {n : Nat} {h : Heap} {a : Addr} {o : Obj} {es es' : Array (Int × Value)} {ep : Nat} {t t' : SetTable} (x : SetIs knd led S n o es ep t) (ho : h.get? a = some o) (hel : ElemsOf knd es'.toList) (hmem : ∀ k, S' k = true ↔ ∃ e ∈ es'.toList, knd.is k e.2 = true)
    (hb : es'.size < scanBound) (hf : t'.fits es'.size = true) (ht : TabOk led t') : ∃ o', (h.update a (Obj.putSet es' t')).get? a = some o' ∧ SetIs knd led S' es'.size o' es' (ep + 1) t' := by
  have hg := Heap.get?_update_self (Obj.putSet es' t') ho (by rw [putSet_of es' t' x.data]; rfl)
  rw [putSet_of es' t' x.data] at hg
  exact ⟨_, hg, x.ex, rfl, hel, hmem, hb, hf, rfl, ht⟩
theorem set_tail {g : Bool → Sem Unit} (hg : ∀ (b : Bool) (s₁ : Shared) (Q' : Unit → Shared → Prop), Q' () s₁ → wpAny (model prog w) A (g b) Q' E s₁) {led : Bool} {S S' : K → Bool} {n : Nat} {a : Addr} {o : Obj} {es es' : Array (Int × Value)} {ep : Nat} {t t' : SetTable} (x : SetIs knd led S n o es ep t) (ho : s.heap.get? a = some o)
    (hel : ElemsOf knd es'.toList) (hmem : ∀ k, S' k = true ↔ ∃ e ∈ es'.toList, knd.is k e.2 = true) (hb : es'.size < scanBound) (hf : t'.fits es'.size = true) (ht : TabOk led t') {d : Bool} {R : Option Bool → Shared → Prop}
    (h : ∀ h', Heap.SameBut a s.heap h' → SetG knd h' a led S' es'.size → R (some true) { s with heap := h' }) :
    wpAny (model prog w) A (do
        storeSet a es' t'
        if (!d && t'.tooFull) = true then do
            g (relayAll t' es' (SetTable.grown es'.size)).2.2
            storeSet a (relayAll t' es' (SetTable.grown es'.size)).1 (relayAll t' es' (SetTable.grown es'.size)).2.1
            pure (some true)
          else pure (some true)) R E s := by
  refine wpAny_bind (wpAny_storeSet_of ho x.data ?_ (fits_of_scanBound hb))
  obtain ⟨o₁, ho₁, x₁⟩ := x.put ho hel hmem hb hf ht
  have hs := Heap.SameBut.update s.heap a (Obj.putSet es' t')
  split
  · have hp := relayAll_perm t' es' (SetTable.grown es'.size)
    have hf₂ := relayAll_fits t' es' (SetTable.grown es'.size)
    have ht₂ := relayAll_ok ht es' (SetTable.grown es'.size)
    generalize relayAll t' es' (SetTable.grown es'.size) = Z at hp hf₂ ht₂ ⊢
    obtain ⟨es₂, t₂, gave⟩ := Z
    have hz : es₂.size = es'.size := by rw [← Array.length_toList, hp.length_eq, Array.length_toList]
    obtain ⟨o₂, ho₂, x₂⟩ := x₁.put (S' := S') ho₁ (hel.perm hp) (fun k => (hmem k).trans ⟨fun ⟨e, he, q⟩ => ⟨e, hp.mem_iff.mpr he, q⟩, fun ⟨e, he, q⟩ => ⟨e, hp.mem_iff.mp he, q⟩⟩) (hz ▸ hb) hf₂ ht₂
    refine wpAny_bind (hg _ _ _ (wpAny_bind (wpAny_storeSet_of ho₁ x₁.data ?_ (fits_of_scanBound (hz ▸ hb)))))
    rw [hz] at x₂
    exact wpAny_pure (h _ (hs.trans (Heap.SameBut.update _ a _)) ⟨o₂, _, _, _, ho₂, x₂⟩)
  · exact wpAny_pure (h _ hs ⟨o₁, _, _, _, ho₁, x₁⟩)
theorem set_add {led : Bool} {S : K → Bool} {n : Nat} {a : Addr} {k : K} {x : Value} {Q : Bool → Shared → Prop} (hkey : knd.is k x = true) (hsc : x.scannable = true) (hS : SetG knd s.heap a led S n) (hroom : n + 1 < scanBound)
    (h : ∀ h', Heap.SameBut a s.heap h' → SetG knd h' a led (fun k' => S k' || decide (k' = k)) (if S k then n else n + 1) → ∀ b, Q b { s with heap := h' }) :
    wpAny (model prog w) A (setAddHashed a x (knd.hash k)) Q E s := by
  obtain ⟨o, es, ep, t, ho, hx⟩ := hS
  unfold setAddHashed setAddHashedIn
  refine wpAny_holding (wpAny_bind (wpAny_setState_of ho hx.data hx.fits ?_))
  dsimp only
  rw [byScan_of hsc hx.bd hx.el]
  simp only [↓reduceIte]
  unfold setAddByScan
  refine wpAny_bind (wpAny_bind (wpAny_rule (wpAny_bind (wpAny_setScan_of hkey ho hx.data hx.fits hx.el ?_))))
  cases hr : List.findIdx? (fun e => knd.is k e.2) es.toList with
  | some j =>
    dsimp only
    obtain ⟨hj, hpj, _⟩ := List.findIdx?_eq_some_iff_getElem.mp hr
    have hSk : S k = true := (hx.mem k).mpr ⟨_, List.getElem_mem hj, hpj⟩
    refine wpAny_pure (wpAny_pure ?_)
    have e : (fun k' => S k' || decide (k' = k)) = S := funext fun k' => by
      by_cases q : k' = k
      · subst q; simp [hSk]
      · simp [q]
    have := h s.heap (.refl a _) (by rw [e, hSk]; exact ⟨o, es, ep, t, ho, hx⟩) false
    cases s; exact this
  | none =>
    dsimp only
    have hSk : S k = false := by
      cases q : S k with
      | false => rfl
      | true => obtain ⟨e, he, hp⟩ := (hx.mem k).mp q; have := List.findIdx?_eq_none_iff.mp hr e he; rw [hp] at this; cases this
    have hp := layNew_perm t es (knd.hash k) x
    have hf := layNew_fits t es (knd.hash k) x
    have ht := layNew_ok hx.tab es (knd.hash k) x
    generalize layNew t es (knd.hash k) x = Z at hp hf ht ⊢
    obtain ⟨es₁, t₁, d, gave⟩ := Z
    dsimp only at hp hf ht ⊢
    rw [Array.toList_push] at hp
    have hel := (hx.el.push hkey hsc).perm hp
    have hmem := mem_push_iff hkey hx.mem hp
    have hz : es₁.size = n + 1 := by rw [← Array.length_toList, hp.length_eq, List.length_append, Array.length_toList, hx.size]; rfl
    have hgw : ∀ (b : Bool) (s₁ : Shared) (Q' : Unit → Shared → Prop), Q' () s₁ → wpAny (model prog w) A (match b with | true => rule "set.scan.the-table-gave-way" | false => pure ()) Q' E s₁ :=
      fun b s₁ Q' hq => by cases b <;> first | exact wpAny_pure hq | exact wpAny_rule hq
    refine wpAny_bind (hgw _ _ _ ?_)
    have fin : ∀ h', Heap.SameBut a s.heap h' → SetG knd h' a led (fun k' => S k' || decide (k' = k)) es₁.size → ∀ b, Q b { s with heap := h' } := fun h' hs q => h h' hs (by rw [hSk]; rw [hz] at q; exact q)
    split
    · refine wpAny_bind ?_
      rw [hashByValue_scannable 8 hsc]
      refine wpAny_pure (set_tail ?_ hx ho hel hmem (by rw [hz]; exact hroom) ?_ ?_ fun h' hs q => ?_)
      · exact fun b s₁ Q' hq => by cases b <;> first | exact wpAny_pure hq | exact wpAny_rule hq
      · split
        · exact hf
        · exact SetTable.fits_plain_off hf
      · split
        · exact ht
        · exact plainOff_ok ht
      · exact wpAny_pure (fin h' hs q _)
    · refine wpAny_bind (wpAny_pure ?_)
      simp only [↓reduceIte]
      refine set_tail ?_ hx ho hel hmem (by rw [hz]; exact hroom) hf ht fun h' hs q => ?_
      · exact fun b s₁ Q' hq => by cases b <;> first | exact wpAny_pure hq | exact wpAny_rule hq
      · exact wpAny_pure (fin h' hs q _)
end
end Mine
end
section
set_option maxRecDepth 100000
namespace Mine
open PySem PySem.Calls PyProof.Rows
theorem addD_mem {K : Type} [DecidableEq K] {acc : List K} {v k : K} : k ∈ addD acc v ↔ k ∈ acc ∨ k = v := by
  unfold addD
  split
  · rename_i h
    exact ⟨.inl, fun x => x.elim id fun e => e ▸ h⟩
  · simp
theorem addD_nodup {K : Type} [DecidableEq K] {acc : List K} {v : K} (h : acc.Nodup) : (addD acc v).Nodup := by
  unfold addD
  split
  · exact h
  · rename_i q
    rw [List.nodup_append]
    exact ⟨h, by simp, fun a ha b hb e => by rw [List.mem_singleton] at hb; subst hb; subst e; exact q ha⟩
theorem Ci {K : Type} [DecidableEq K] {acc : List K} {v : K} : (addD acc v).length = if v ∈ acc then acc.length else acc.length + 1 := by
  unfold addD; split <;> simp
theorem fold_mem {K : Type} [DecidableEq K] : ∀ (l acc : List K) (k : K), k ∈ l.foldl addD acc ↔ k ∈ acc ∨ k ∈ l
  | [] => fun acc k => by simp
  | v :: l => fun acc k => by rw [List.foldl_cons, fold_mem l, addD_mem, List.mem_cons, or_assoc]
theorem C0 {K : Type} [DecidableEq K] : ∀ (l acc : List K), acc.Nodup → (l.foldl addD acc).Nodup
  | [] => fun _ h => h
  | v :: l => fun acc h => C0 l _ (addD_nodup h)
theorem fold_len {K : Type} [DecidableEq K] : ∀ (l acc : List K), (l.foldl addD acc).length ≤ acc.length + l.length
  | [] => fun acc => Nat.le_refl _
  | v :: l => fun acc => by
    refine Nat.le_trans (fold_len l _) ?_
    rw [Ci, List.length_cons]
    split <;> (first | solve_by_elim (maxDepth := 3) only [*, Int.le_trans, Int.lt_of_lt_of_le, Int.lt_of_le_of_lt, Int.le_of_lt] | lia)
theorem ddup_mem {K : Type} [DecidableEq K] {l : List K} {k : K} : k ∈ ddup l ↔ k ∈ l := by unfold ddup; rw [fold_mem]; simp
theorem C5 {K : Type} [DecidableEq K] (l : List K) : (ddup l).Nodup := C0 l [] List.nodup_nil
theorem A4 {K : Type} [DecidableEq K] (l : List K) : (ddup l).length ≤ l.length := by have := fold_len l []; simpa [ddup] using this
section
variable {prog : Program} {w : World} {K : Type} [DecidableEq K] {knd : PySem.KeyKind prog w K} {A : Around} {E : Value → Shared → Prop} {s : Shared}
inductive AreK (knd : PySem.KeyKind prog w K) : List Value → List K → Prop
  | nil : AreK knd [] []
  | cons {v : Value} {k : K} {vs : List Value} {ks : List K} : knd.is k v = true → v.scannable = true → AreK knd vs ks → AreK knd (v :: vs) (k :: ks)
theorem AreK.length {vs : List Value} {ks : List K} (h : AreK knd vs ks) : vs.length = ks.length := by
  induction h with
  | nil => rfl
  | cons _ _ _ ih => exact congrArg (· + 1) ih
abbrev SetL (knd : PySem.KeyKind prog w K) (h : Heap) (a : Addr) (led : Bool) (acc : List K) : Prop := SetG knd h a led (fun k => decide (k ∈ acc)) acc.length
theorem SetL.step {h : Heap} {a : Addr} {led : Bool} {acc : List K} {v : K} (x : SetG knd h a led (fun k' => decide (k' ∈ acc) || decide (k' = v)) (if decide (v ∈ acc) then acc.length else acc.length + 1)) : SetL knd h a led (addD acc v) := by
  have e1 : (fun k' => decide (k' ∈ acc) || decide (k' = v)) = (fun k => decide (k ∈ addD acc v)) := funext fun k => by
    rw [Bool.eq_iff_iff]; simp [addD_mem]
  have e2 : (if decide (v ∈ acc) then acc.length else acc.length + 1) = (addD acc v).length := by rw [Ci]; simp
  rw [e1, e2] at x; exact x
theorem set_loop {R : Result → Shared → Prop} {I l : Addr} {items : Array Value} {led : Bool} {n : Nat} {St : Nat → Heap → Prop} (W : Walks prog w A.in1 I [I, l] [I] n (fun i v => items[i]? = some v) St) (S : Addr) (hSf : S ∉ [I, l]) :
    ∀ (ns : List K) (i : Nat) (acc : List K) (s : Shared), i + ns.length = n → AreK knd (items.toList.drop i) ns → St i s.heap → SetL knd s.heap S led acc → acc.length + ns.length + 1 < scanBound →
      (∀ s', (∀ b o, b ≠ S → b ≠ I → s.heap.get? b = some o → s'.heap.get? b = some o) → s'.os = s.os → s'.gens = s.gens → s'.drawn = s.drawn → SetL knd s'.heap S led (ns.foldl addD acc) → R (.ok (.ret .none)) s') →
      codeAny (model prog w) A (.builtin "set.update.loop" ⟨[.ref S, .ref I], []⟩) R s
  | [] => fun i acc s hi hns hst hS hb hR => by
    obtain rfl : i = n := by simpa using hi
    refine codeAny_builtin F.entry_set_update_loop ?_
    rw [Around.under_plainId F.plain_set_update_loop _]
    show wpAny _ A.in1 (pyNext (.ref I) >>= _) _ _ s
    refine wpAny_bind (W.done s _ _ hst fun h' tk hk => ?_)
    show wpAny _ A.in1 (ret Value.none) _ _ _
    have hSI : S ∉ [I] := fun m => hSf (W.sub _ m)
    exact wpAny_pure (hR _ (fun b o h1 h2 e => hk b o (by simpa using h2) e) rfl rfl rfl (hS.keep fun o e => hk S o hSI e))
  | v :: ns => fun i acc s hi hns hst hS hb hR => by
    have hlt : i < n := by rw [List.length_cons] at hi; lia
    refine codeAny_builtin F.entry_set_update_loop ?_
    rw [Around.under_plainId F.plain_set_update_loop _]
    show wpAny _ A.in1 (pyNext (.ref I) >>= _) _ _ s
    refine wpAny_bind (W.item i s _ _ hlt hst fun x h' tk hP hst' hk => ?_)
    have hSI : S ∉ [I] := fun m => hSf (W.sub _ m)
    have hd : items.toList.drop i = x :: items.toList.drop (i + 1) := by
      rw [← Array.getElem?_toList] at hP
      obtain ⟨h1, rfl⟩ := List.getElem?_eq_some_iff.mp hP
      exact List.drop_eq_getElem_cons h1
    rw [hd] at hns
    cases hns with
    | cons hkv hsc hns =>
    have hS' := hS.keep fun o e => hk S o hSI e
    show wpAny _ A.in1 (holding [x] (setAdd S x) >>= _) _ _ _
    refine wpAny_bind (wpAny_holding ?_)
    unfold setAdd
    refine wpAny_holding ?_
    refine wpAny_bind (knd.pyHash (k := v) hkv ?_)
    simp only [List.length_cons] at hb hi
    refine set_add (knd := knd) hkv hsc hS' (by lia) fun h₂ hs₂ hS₂ _ => ?_
    have hne : ∀ b, b ∈ [I, l] → b ≠ S := fun b hb e => hSf (e ▸ hb)
    refine wpAny_pure ⟨plainId_quiet F.plain_set_update_loop _, set_loop W S hSf ns (i + 1) (addD acc v) _ (by lia) hns (W.frame _ _ _ hst' fun b hb o e => hs₂.extBut b o (hne b hb) e) (SetL.step hS₂) (by rw [Ci]; split <;> (first | exact Nat.le_of_lt (by assumption) | lia)) fun s' k' ho hg hdr hS'' => ?_⟩
    exact hR s' (fun b o h1 h2 e => k' b o h1 h2 (hs₂.extBut b o h1 (hk b o (by simpa using h2) e))) ho hg hdr hS''
theorem set_new (a : Value) {Q₁ : Value → Shared → Prop}
    (h : Q₁ (.ref s.heap.objs.size) { s with heap := s.heap.push { cls := .type "set", dict := none, data := .set #[] 0 (.fresh 0 0 (!w.params.followText "set-order")) } }) :
    codeAny (model prog w) A (.call (.builtin "set.__new__") ⟨[.type "set", a], []⟩) (wants Q₁ E) s := by
  refine codeAny_of_tree ?_
  show wpAny _ A.in1 (do checkBuiltinCall "set.__new__" ⟨[.type "set", a], []⟩; again (.builtin "set.__new__" ⟨[.type "set", a], []⟩)) _ _ s
  refine wpAny_bind (wpAny_of_eq (PySem.F.newCall_set_1 a) (wpAny_pure ⟨plainId_quiet PySem.F.plain_set_new _, codeAny_builtin PySem.F.entry_set_new ?_⟩))
  rw [Around.under_plainId PySem.F.plain_set_new _]
  unfold Builtin.«set.__new__» Builtin.Frozenset.newClass
  have hsub := PySem.sub_set_self
  obtain ⟨hp, g, d, tk, os⟩ := s
  dsimp only
  wp_walk
  refine wpAny_askSetting (wpAny_pure ?_)
  dsimp only
  simp only [newObj]
  refine wpAny_bind (wpAny_alloc (wpAny_pure ?_))
  exact wpAny_pure h
end
end Mine
end
section
set_option maxRecDepth 100000
set_option maxHeartbeats 3200000
namespace Mine
open PySem PySem.Calls PyProof.Rows
section
variable {prog : Program} {w : World} {K : Type} [DecidableEq K] {knd : PySem.KeyKind prog w K} {A : Around} {E : Value → Shared → Prop} {s : Shared}
noncomputable def emptySet (w : World) : Obj := { cls := .type "set", dict := none, data := .set #[] 0 (.fresh 0 0 (!w.params.followText "set-order")) }
theorem empty_is : SetIs knd (!w.params.followText "set-order") (fun k => decide (k ∈ ([] : List K))) 0 (emptySet w) #[] 0 (.fresh 0 0 (!w.params.followText "set-order")) where
  ex := ⟨rfl, rfl, rfl⟩
  data := rfl
  el := fun e he => by simp at he
  mem := fun k => by simp
  bd := by decide
  fits := rfl
  size := rfl
  tab := ⟨List.Pairwise.nil, rfl⟩
theorem call_set {l : Addr} {items : Array Value} {ns : List K} {Q : Value → Shared → Prop} (hh : A.handled = none) (hl : s.heap.IsList l items) (hi : AreK knd items.toList ns) (hb : ns.length + 1 < scanBound)
    (h : ∀ h' tk, SetL knd h' s.heap.objs.size (!w.params.followText "set-order") (ddup ns) → (∀ b o, s.heap.get? b = some o → h'.get? b = some o) → Q (.ref s.heap.objs.size) { s with heap := h', toks := tk }) :
    wpAny (model prog w) A (call (.type "set") [.ref l]) Q E s := by
  obtain ⟨c, tl, hmro⟩ := PySem.F.called_set.mro
  have hmade := PySem.F.called_set.made
  have hsub := PySem.F.called_set.sub
  refine wpAny_call (codeAny_of_tree ?_)
  show wpAny _ _ (callAny (.type "set") _) _ _ _
  refine wpAny_pure ⟨Code.quiet_builtin _ (by decide +kernel), codeAny_builtin PySem.F.entry_type_call ?_⟩
  rw [Around.under_plain (weight_type_call_type "set" [.ref l] []) rfl]
  have h1 := PySem.F.called_set.notType
  have h2 := PySem.F.called_set.canCreate
  have hct := PySem.F.typeCall_set_1 (.ref l)
  repeat (any_goals (first | assumption | wp_step))
  refine codeAny_mono (set_new (.ref l) (E := E) (Q₁ := fun obj s₁ => obj = .ref s.heap.objs.size ∧ s₁ = { s with heap := s.heap.push (emptySet w) }) ⟨rfl, rfl⟩) fun r s₁ hr => ?_
  cases r with
  | error e => exact hr
  | ok fl =>
    cases fl with
    | ret obj =>
      obtain ⟨rfl, rfl⟩ := hr
      have hS : (s.heap.push (emptySet w)).get? s.heap.objs.size = some (emptySet w) := Heap.get?_push_size _ rfl
      have hT : Shared.TypeIs { s with heap := s.heap.push (emptySet w) } (.ref s.heap.objs.size) "set" := ⟨_, hS, rfl⟩
      have hli := PySem.F.called_set.init.lookup
      have hbi := PySem.F.called_set.init.bind (.ref s.heap.objs.size)
      repeat (any_goals (first | assumption | wp_step))
      refine codeAny_mono (codeAny_call_builtin (R := wants (fun r s₂ => r = .none ∧ ∃ h' tk, s₂ = { s with heap := h', toks := tk } ∧ SetL knd h' s.heap.objs.size (!w.params.followText "set-order") (ddup ns) ∧
          (∀ b o, s.heap.get? b = some o → h'.get? b = some o)) E) PySem.F.called_set.init.plain PySem.F.entry_set_init (check_set_init_1 hT ?_)) fun r₂ s₂ hr₂ => ?_
      · obtain ⟨ol, hol, hcl, nl, hdl⟩ := hl
        obtain ⟨ocls, odict, odata, oslots⟩ := ol
        simp only at hcl hdl
        subst hcl; subst hdl
        have hol' : (s.heap.push (emptySet w)).get? l = some { cls := .type "list", dict := odict, data := .seq items nl, slots := oslots } := Heap.get?_push_of_some _ hol
        have hsls := PySem.F.sub_list_set
        have hslf := PySem.F.sub_list_frozenset
        have hne : (Value.type "list" == Value.type "dict") = false := by decide
        have hl1 : (s.heap.push (emptySet w)).IsList l items := ⟨_, hol', rfl, nl, rfl⟩
        unfold Builtin.«set.__init__» noKeywords Builtin.Frozenset.updateFrom
        generalize hPI : pyIter = PI
        wp_walk
        subst hPI
        refine wpAny_pyIter_list hl1 (wpAny_bind (wpAny_runValue ?_))
        have hlS : l < s.heap.objs.size := Heap.lt_size hol
        have hz : (s.heap.push (emptySet w)).objs.size = s.heap.objs.size + 1 := Heap.size_push ..
        have hneI : l ≠ (s.heap.push (emptySet w)).objs.size := by rw [hz]; exact Nat.ne_of_lt (Nat.lt_succ_of_lt hlS)
        have hSI : s.heap.objs.size ≠ (s.heap.push (emptySet w)).objs.size := by rw [hz]; exact Nat.ne_of_lt (Nat.lt_succ_self _)
        have hlen : ns.length = items.size := by
          have := hi.length
          simpa using this.symm
        have W : Walks prog w A.in1.in1.in1 (s.heap.push (emptySet w)).objs.size [_, l] [_] items.size (fun i v => items[i]? = some v) _ := Walks.list (by simp [hh]) _ l hneI items
        refine set_loop W s.heap.objs.size (fun m => ?_) ns 0 [] _ (by (first|lia|omega)) (by rw [List.drop_zero]; exact hi) ⟨⟨_, Heap.get?_push_size _ rfl, rfl, rfl⟩, hl1.push _⟩ ⟨_, _, _, _, Heap.get?_push_of_some _ hS, empty_is⟩ (by simpa using hb) fun s' hk ho hg hd hS' => ?_
        · rcases List.mem_cons.mp m with q | q
          · exact hSI q
          · exact Nat.ne_of_gt hlS (List.mem_singleton.mp q)
        · obtain ⟨h', g', d', tk', os'⟩ := s'
          obtain rfl : g' = s.gens := hg
          obtain rfl : d' = s.drawn := hd
          obtain rfl : os' = s.os := ho
          show wpAny _ _ _ _ _ _
          refine wpAny_pure ?_
          show wpAny _ _ (ret Value.none) _ _ _
          refine wpAny_pure ⟨rfl, h', tk', rfl, hS', fun b o e => ?_⟩
          have hlt := Heap.lt_size e
          exact hk b o (Nat.ne_of_lt hlt) (by rw [hz]; exact Nat.ne_of_lt (Nat.lt_succ_of_lt hlt)) (Heap.get?_push_of_some _ (Heap.get?_push_of_some _ e))
      · cases r₂ with
        | error e => exact hr₂
        | ok fl₂ =>
          cases fl₂ with
          | ret r =>
            obtain ⟨rfl, h', tk, rfl, hS', hk'⟩ := hr₂
            repeat (any_goals (first | assumption | wp_step))
            exact h _ _ hS' hk'
          | _ => exact hr₂.elim
    | _ => exact hr.elim
end
end Mine
end
section
set_option maxRecDepth 100000
namespace Mine
open PySem PySem.Calls PyProof.Rows
theorem Z4 : Slot "set_iterator" "__next__" "set_iterator.__next__" :=
  .of (owner := "set_iterator") (n := "__next__") (by rw [typeLookup_type, builtinLookup_eq_fast]; kernel_rfl) (by decide +kernel) (by decide +kernel) (by decide +kernel)
    (by first | exact .inl (by decide +kernel) | exact .inr (by decide +kernel)) (by rw [isSubtype_type]; kernel_rfl)
theorem Kj : entryFor table "set_iterator.__next__" = some Builtin.«set_iterator.__next__» := entryFor_of_tree (by kernel_rfl)
theorem U7 (a : Value) : argsOk "set_iterator.__next__" ⟨[a], []⟩ := by unfold argsOk; kernel_rfl
theorem C4 : entryFor table "set.__iter__" = some Builtin.«frozenset.__iter__» :=
  entryFor_alias (id' := "frozenset.__iter__") (by kernel_rfl) rfl (by decide +kernel) (by kernel_rfl)
theorem Vu : Slot "set_iterator" "__iter__" "set_iterator.__iter__" :=
  .of (owner := "set_iterator") (n := "__iter__") (by rw [typeLookup_type, builtinLookup_eq_fast]; kernel_rfl) (by decide +kernel) (by decide +kernel) (by decide +kernel)
    (by first | exact .inl (by decide +kernel) | exact .inr (by decide +kernel)) (by rw [isSubtype_type]; kernel_rfl)
theorem A3 : entryFor table "set_iterator.__iter__" = some Builtin.«dict_keyiterator.__iter__» :=
  entryFor_alias (id' := "dict_keyiterator.__iter__") (by kernel_rfl) rfl (by decide +kernel) (by kernel_rfl)
theorem Ao (a : Value) : argsOk "set_iterator.__iter__" ⟨[a], []⟩ := by unfold argsOk; kernel_rfl
section
variable {prog : Program} {w : World} {A : Around} {E : Value → Shared → Prop} {s : Shared}
theorem it_self {I : Addr} {Q : Value → Shared → Prop} (hT : s.TypeIs (.ref I) "set_iterator") (h : Q (.ref I) s) : wpAny (model prog w) A (pyIter (.ref I)) Q E s := by
  refine wpAny_pyIter_slot hT Vu (wpAny_call_entry Vu hT A3 ?_ (Ao _))
  show wpAny _ _ (ret (.ref I)) _ _ s
  exact wpAny_pure ⟨_, rfl, "set_iterator", _, hT, Z4.lookup, h⟩
theorem Bp {α : Type} {Q : α → Shared → Prop} (hh : A.handled = none) (hE : ∀ h' e, (∀ b o, s.heap.get? b = some o → h'.get? b = some o) → (∃ o, h'.get? e = some o ∧ o.cls = .type "StopIteration") → E (.ref e) { s with heap := h' }) :
    wpAny (model prog w) A (newExc (.type "StopIteration") [] >>= fun e => (raiseNew e : Sem α)) Q E s := by
  refine wpAny_bind ?_
  simp only [newExc, newTuple]
  refine wpAny_bind (wpAny_newObj_type ?_ (by size_fits))
  refine wpAny_bind (m := firstArgMember _ _) (wpAny_of_eq (a := Value.none) (by first | rfl | (simp only [firstArgMember]; rfl)) ?_)
  refine wpAny_newObj_type ?_ (by size_fits)
  simp only [raiseNew]
  refine wpAny_bind (wpAny_handled ?_)
  rw [hh]
  refine wpAny_bind (wpAny_pure (wpAny_throw ?_))
  exact hE _ _ (fun b o e => Heap.get?_push_of_some _ (Heap.get?_push_of_some _ e)) ⟨_, Heap.get?_push_size _ rfl, rfl⟩
noncomputable def itObj (first : Value) (i : Nat) (a : Addr) (n ep : Nat) : Obj := { cls := .type "set_iterator", dict := none, data := .fields #[first, rawInt i, .ref a, rawInt n, rawInt ep], slots := #[] }
theorem Bh {a I : Addr} {o : Obj} {es : Array (Int × Value)} {ep : Nat} {t : SetTable} {order : List Value} {slots : Nat → Nat} (hh : A.handled = none) (hne : a ≠ I) (hd : o.data = .set es ep t) (hf : t.fits es.size = true) (hz : order.length = es.size)
    (hnext : ∀ (i : Nat) (A : Around) (s : Shared) (Q : Option (Value × Nat) → Shared → Prop) (E : Value → Shared → Prop), i ≤ es.size → s.heap.get? a = some o → Q ((order[i]?).map fun x => (x, slots (i + 1))) s → wpAny (model prog w) A (setNext a (slots i) i ep) Q E s) :
    Walks prog w A I [I, a] [I] es.size (fun i v => order[i]? = some v) (fun i h => h.get? I = some (itObj (rawInt (slots i)) i a es.size ep) ∧ h.get? a = some o) where
  sub := fun b hb => by simp at hb; simp [hb]
  frame := fun i h h' st hk => ⟨hk I (by simp) _ st.1, hk a (by simp) _ st.2⟩
  item := fun i s Q E hi st hQ => by
    have hT : s.TypeIs (.ref I) "set_iterator" := ⟨_, st.1, rfl⟩
    have hx : order[i]? = some order[i] := List.getElem?_eq_getElem (by rw [hz]; exact hi)
    generalize order[i] = x at hx
    unfold pyNext
    refine wpAny_bind (wpAny_attempt (wpAny_callSpecial?_slot (name := Str.ofString "__next__") hT Z4 (wpAny_call_entry Z4 hT Kj ?_ (U7 _))))
    show wpAny _ _ (fieldsOf (.ref I) >>= _) _ _ s
    refine wpAny_bind (wpAny_fieldsOf st.1 rfl ?_)
    dsimp only [rawInt]
    refine wpAny_bind (wpAny_setEntries_of st.2 hd hf ?_)
    rw [if_neg (by simp)]
    simp only [Int.toNat_natCast]
    refine wpAny_bind (hnext i _ _ _ _ (Nat.le_of_lt hi) st.2 ?_)
    rw [hx]
    dsimp only [Option.map_some]
    refine wpAny_bind (wpAny_setField_rec st.1 (by simp) fun h₁ e₁ s₁ => ?_)
    refine wpAny_bind (wpAny_setField_rec e₁ (by simp) fun h₂ e₂ s₂ => ?_)
    refine wpAny_pure ⟨x, rfl, wpAny_pure ?_⟩
    exact hQ x h₂ s.toks hx ⟨e₂, s₂.extBut _ _ hne (s₁.extBut _ _ hne st.2)⟩ fun b o' hb e => s₂.extBut b o' (by simpa using hb) (s₁.extBut b o' (by simpa using hb) e)
  done := fun s Q E st hQ => by
    have hT : s.TypeIs (.ref I) "set_iterator" := ⟨_, st.1, rfl⟩
    have hx : order[es.size]? = none := List.getElem?_eq_none (by rw [hz]; exact Nat.le_refl _)
    unfold pyNext
    refine wpAny_bind (wpAny_attempt (wpAny_callSpecial?_slot (name := Str.ofString "__next__") hT Z4 (wpAny_call_entry Z4 hT Kj ?_ (U7 _))))
    show wpAny _ _ (fieldsOf (.ref I) >>= _) _ _ s
    refine wpAny_bind (wpAny_fieldsOf st.1 rfl ?_)
    dsimp only [rawInt]
    refine wpAny_bind (wpAny_setEntries_of st.2 hd hf ?_)
    rw [if_neg (by simp)]
    simp only [Int.toNat_natCast]
    refine wpAny_bind (hnext _ _ _ _ _ (Nat.le_refl _) st.2 ?_)
    rw [hx]
    dsimp only [Option.map_none]
    refine wpAny_bind (wpAny_setField_rec st.1 (by simp) fun h₁ e₁ s₁ => ?_)
    refine Bp (by simpa using hh) fun h₂ e k he => ?_
    obtain ⟨oe, hoe, hce⟩ := he
    refine wpAny_bind (wpAny_isInstance (T := "StopIteration") (b := true) ⟨oe, hoe, hce⟩ isSubtype_stop ?_)
    exact wpAny_pure (hQ h₂ s.toks fun b o' hb e => k b o' (s₁.extBut b o' (by simpa using hb) e))
  self := fun i s Q E st hQ => it_self ⟨_, st.1, rfl⟩ hQ
end
end Mine
end
section
set_option maxRecDepth 100000
namespace Mine
open PySem PySem.Calls PyProof.Rows
theorem Pn {α : Type} : ∀ {l : List α} {i : Nat} (h : i < l.length), (l[i] :: l.eraseIdx i).Perm l
  | x :: l, 0, h => .rfl
  | x :: l, i + 1, h => (List.Perm.swap x _ _).trans (List.Perm.cons x (Pn (l := l) (Nat.lt_of_succ_lt_succ h)))
theorem pick_go {α : Type} (next : Nat → Nat) : ∀ (fuel k : Nat) (left : List α) (out : Array α), fuel = left.length → (pickOrder.go next fuel k left out).toList.Perm (out.toList ++ left)
  | 0 => fun k left out h => by
    unfold pickOrder.go
    obtain rfl : left = [] := List.length_eq_zero_iff.mp h.symm
    rw [List.append_nil]
  | fuel + 1 => fun k left out h => by
    unfold pickOrder.go
    have hl : next k % left.length < left.length := Nat.mod_lt _ (by lia)
    rw [List.getElem?_eq_getElem hl]
    refine (pick_go next fuel (k + 1) _ _ (by rw [List.length_eraseIdx_of_lt hl]; lia)).trans ?_
    rw [Array.toList_push, List.append_assoc]
    exact List.Perm.append_left _ (Pn hl)
theorem pick_perm {α : Type} (next : Nat → Nat) (xs : Array α) : (pickOrder next xs).toList.Perm xs.toList := by
  have := pick_go next xs.size 0 xs.toList #[] (by simp)
  simpa [pickOrder] using this
section
variable {prog : Program} {w : World} {A : Around} {E : Value → Shared → Prop} {s : Shared}
theorem wp_choose {src : Source} {n : Nat} {Q : Nat → Shared → Prop} (hn : n ≠ 0) (h : ∀ i, i < n → ∀ d, Q i { s with drawn := d }) : wpAny (model prog w) A (choose src n) Q E s :=
  fun _ _ _ => ⟨hn, h _ (Nat.mod_lt _ (Nat.pos_of_ne_zero hn)) _⟩
theorem Pp {α : Type} : ∀ (n : Nat) (xs : List α) (s : Shared) (Q : List α → Shared → Prop), n = xs.length → (∀ ys d, ys.Perm xs → Q ys { s with drawn := d }) → wpAny (model prog w) A (drawOrder n xs) Q E s
  | 0, xs => fun s Q h hQ => by
    obtain rfl : xs = [] := List.length_eq_zero_iff.mp h.symm
    have := hQ [] s.drawn .rfl
    unfold drawOrder
    exact wpAny_pure (by cases s; exact this)
  | n + 1, [] => fun s Q h hQ => by simp at h
  | n + 1, x :: xs => fun s Q h hQ => by
    unfold drawOrder
    refine wpAny_bind (wp_choose (by simp) fun i hi d => ?_)
    rw [List.getElem?_eq_getElem hi]
    refine wpAny_bind (Pp n _ _ _ (by rw [List.length_eraseIdx_of_lt hi]; lia) fun ys d' hp => wpAny_pure ?_)
    exact hQ _ d' ((List.Perm.cons _ hp).trans (Pn hi))
theorem next_text {a : Addr} {o : Obj} {es : Array (Int × Value)} {ep : Nat} {t : SetTable} (hb : w.params.followText "set-order" = true) (hd : o.data = .set es ep t) (hf : t.fits es.size = true) {i : Nat} {Q : Option (Value × Nat) → Shared → Prop} (ho : s.heap.get? a = some o)
    (h : Q ((((pickOrder (w.params.setOrder a ep) es).toList.map (·.2))[i]?).map fun x => (x, 0)) s) : wpAny (model prog w) A (setNext a 0 i ep) Q E s := by
  unfold setNext setsByText
  refine wpAny_bind (wpAny_setState_of ho hd hf ?_)
  dsimp only
  refine wpAny_bind (wpAny_bind (wpAny_askSetting (wpAny_pure ?_)))
  show wpAny _ _ (if w.params.followText "set-order" = true then _ else _) _ _ s
  rw [if_pos hb, if_neg (by simp)]
  unfold setWalk setsByText
  refine wpAny_bind (wpAny_bind (wpAny_setState_of ho hd hf ?_))
  dsimp only
  refine wpAny_bind (wpAny_bind (wpAny_askSetting (wpAny_pure ?_)))
  show wpAny _ _ (if w.params.followText "set-order" = true then _ else _) _ _ s
  rw [if_pos hb]
  refine wpAny_bind (wpAny_askSetting (wpAny_pure (wpAny_pure ?_)))
  rw [List.getElem?_map, Array.getElem?_toList, Option.map_map] at h
  exact h
noncomputable def slotAt (t : SetTable) : Nat → Nat
  | 0 => 0
  | k + 1 => t.place.getD k 0 + 1
theorem next_slot {a : Addr} {o : Obj} {es : Array (Int × Value)} {ep : Nat} {t : SetTable} (hb : w.params.followText "set-order" = false) (hd : o.data = .set es ep t) (hf : t.fits es.size = true) (ht : TabOk true t) (hdr : (!t.plain && decide (es.size > 1)) = false) {i : Nat} (hi : i ≤ es.size) {Q : Option (Value × Nat) → Shared → Prop} (ho : s.heap.get? a = some o)
    (h : Q (((es.toList.map (·.2))[i]?).map fun x => (x, slotAt t (i + 1))) s) : wpAny (model prog w) A (setNext a (slotAt t i) i ep) Q E s := by
  have hz : t.place.size = es.size := by
    unfold SetTable.fits at hf
    exact eq_of_beq (Bool.and_eq_true_iff.mp hf).1
  have hbl : SetTable.below t.place (slotAt t i) = i := by
    cases i with
    | zero => exact below_zero ht.ris
    | succ k =>
      have hk : k < t.place.size := by lia
      have ha : t.place[k]? = some t.place[k] := Array.getElem?_eq_getElem hk
      have : t.place.getD k 0 = t.place[k] := by simp [Array.getD, hk]
      show SetTable.below t.place (t.place.getD k 0 + 1) = k + 1
      rw [this]; exact below_next ht.ris ha
  unfold setNext setsByText
  refine wpAny_bind (wpAny_setState_of ho hd hf ?_)
  dsimp only
  refine wpAny_bind (wpAny_bind (wpAny_askSetting (wpAny_pure ?_)))
  show wpAny _ _ (if w.params.followText "set-order" = true then _ else _) _ _ s
  rw [if_neg (by rw [hb]; decide)]
  show wpAny _ _ (if (!t.plain && decide (es.size > 1)) = true then _ else _) _ _ s
  rw [if_neg (by rw [hdr]; decide)]
  refine wpAny_bind ?_
  show wpAny _ _ (if (!t.led && !es.isEmpty) = true then _ else _) _ _ s
  rw [if_neg (by rw [ht.led]; simp)]
  refine wpAny_pure (wpAny_pure ?_)
  rw [hbl]
  rw [List.getElem?_map, Array.getElem?_toList] at h
  by_cases hlt : i < es.size
  · have h1 : es[i]? = some es[i] := Array.getElem?_eq_getElem hlt
    have h2 : t.place[i]? = some t.place[i] := Array.getElem?_eq_getElem (by omega)
    have h3 : t.place.getD i 0 = t.place[i] := by simp [Array.getD, hz, hlt]
    rw [h1] at h ⊢
    rw [h2]
    replace h : Q (some (es[i].2, t.place.getD i 0 + 1)) s := h
    rw [h3] at h
    exact h
  · rw [Array.getElem?_eq_none (by lia)] at h ⊢
    exact h
theorem walk_drawn {a I tp : Addr} {o : Obj} {es : Array (Int × Value)} {ep : Nat} {t : SetTable} {places : List Nat} {order : List Value} (hh : A.handled = none) (hne : a ≠ I) (hnt : tp ≠ I) (hd : o.data = .set es ep t) (hf : t.fits es.size = true) (hz : order.length = es.size) (hp : places.length = es.size)
    (hord : ∀ (i p : Nat), places[i]? = some p → ∃ e, es[p]? = some e ∧ order[i]? = some e.2) :
    Walks prog w A I [I, a, tp] [I] es.size (fun i v => order[i]? = some v) (fun i h => h.get? I = some (itObj (.ref tp) i a es.size ep) ∧ h.get? a = some o ∧ h.get? tp = some { cls := .type "tuple", data := .seq (places.map fun (p : Nat) => rawInt p).toArray }) where
  sub := fun b hb => by simp at hb; simp [hb]
  frame := fun i h h' st hk => ⟨hk I (by simp) _ st.1, hk a (by simp) _ st.2.1, hk tp (by simp) _ st.2.2⟩
  item := fun i s Q E hi st hQ => by
    have hT : s.TypeIs (.ref I) "set_iterator" := ⟨_, st.1, rfl⟩
    have hpi : places[i]? = some places[i] := List.getElem?_eq_getElem (by rw [hp]; exact hi)
    generalize places[i] = p at hpi
    obtain ⟨⟨hsh, x⟩, he, hx⟩ := hord i p hpi
    unfold pyNext
    refine wpAny_bind (wpAny_attempt (wpAny_callSpecial?_slot (name := Str.ofString "__next__") hT Z4 (wpAny_call_entry Z4 hT Kj ?_ (U7 _))))
    show wpAny _ _ (fieldsOf (.ref I) >>= _) _ _ s
    refine wpAny_bind (wpAny_fieldsOf st.1 rfl ?_)
    dsimp only [rawInt]
    refine wpAny_bind (wpAny_setEntries_of st.2.1 hd hf ?_)
    rw [if_neg (by simp)]
    refine wpAny_bind (wpAny_seqItems st.2.2 rfl ?_)
    simp only [Int.toNat_natCast, List.getElem?_toArray, List.getElem?_map, hpi, Option.map_some, rawInt]
    refine wpAny_bind ?_
    unfold setNextDrawn
    refine wpAny_bind (wpAny_setState_of st.2.1 hd hf ?_)
    dsimp only
    rw [if_neg (by simp)]
    simp only [he]
    refine wpAny_pure ?_
    refine wpAny_bind (wpAny_setField_rec st.1 (by simp) fun h₂ e₂ s₂ => ?_)
    refine wpAny_pure ⟨x, rfl, wpAny_pure ?_⟩
    exact hQ x h₂ s.toks hx ⟨e₂, s₂.extBut _ _ hne st.2.1, s₂.extBut _ _ hnt st.2.2⟩ fun b o' hb e => s₂.extBut b o' (by simpa using hb) e
  done := fun s Q E st hQ => by
    have hT : s.TypeIs (.ref I) "set_iterator" := ⟨_, st.1, rfl⟩
    have hpi : places[es.size]? = none := List.getElem?_eq_none (by rw [hp]; exact Nat.le_refl _)
    unfold pyNext
    refine wpAny_bind (wpAny_attempt (wpAny_callSpecial?_slot (name := Str.ofString "__next__") hT Z4 (wpAny_call_entry Z4 hT Kj ?_ (U7 _))))
    show wpAny _ _ (fieldsOf (.ref I) >>= _) _ _ s
    refine wpAny_bind (wpAny_fieldsOf st.1 rfl ?_)
    dsimp only [rawInt]
    refine wpAny_bind (wpAny_setEntries_of st.2.1 hd hf ?_)
    rw [if_neg (by simp)]
    refine wpAny_bind (wpAny_seqItems st.2.2 rfl ?_)
    simp only [Int.toNat_natCast, List.getElem?_toArray, List.getElem?_map, hpi, Option.map_none]
    refine wpAny_bind (wpAny_setField_rec st.1 (by simp) fun h₁ e₁ s₁ => ?_)
    refine wpAny_bind (wpAny_setField_rec e₁ (by simp) fun h₂ e₂ s₂ => ?_)
    refine Bp (by simpa using hh) fun h₃ e k he => ?_
    obtain ⟨oe, hoe, hce⟩ := he
    refine wpAny_bind (wpAny_isInstance (T := "StopIteration") (b := true) ⟨oe, hoe, hce⟩ isSubtype_stop ?_)
    exact wpAny_pure (hQ h₃ s.toks fun b o' hb e => k b o' (s₂.extBut b o' (by simpa using hb) (s₁.extBut b o' (by simpa using hb) e)))
  self := fun i s Q E st hQ => it_self ⟨_, st.1, rfl⟩ hQ
end
end Mine
end
section
set_option maxRecDepth 100000
namespace Mine
open PySem PySem.Calls PyProof.Rows PySem.W
section
variable {prog : Program} {w : World} {A : Around} {E : Value → Shared → Prop} {s : Shared}
inductive SetIt (prog : Program) (w : World) (A : Around) (a : Addr) (vals : List Value) (s : Shared) (it : Value) (s₁ : Shared) : Prop
  | mk (I : Addr) (fp : List Addr) (order : List Value) (St : Nat → Heap → Prop) (n : Nat) (hn : n = vals.length) (e : it = .ref I) (hp : order.Perm vals) (W : Walks prog w A I fp [I] n (fun i v => order[i]? = some v) St) (st : St 0 s₁.heap)
    (hfp : ∀ b ∈ fp, b = a ∨ s.heap.objs.size ≤ b) (hI : s.heap.objs.size ≤ I) (k : ∀ b o, s.heap.get? b = some o → s₁.heap.get? b = some o) (os : s₁.os = s.os) (gens : s₁.gens = s.gens)
theorem set_iter {led : Bool} {a : Addr} {o : Obj} {es : Array (Int × Value)} {ep : Nat} {t : SetTable} {Q : Value → Shared → Prop} (hh : A.handled = none) (hled : led = !w.params.followText "set-order") (ho : s.heap.get? a = some o) (hcl : o.cls = .type "set") (hd : o.data = .set es ep t) (hf : t.fits es.size = true) (hb : es.size < scanBound) (ht : TabOk led t)
    (h : ∀ it s₁, SetIt prog w A a (es.toList.map (·.2)) s it s₁ → Q it s₁) : wpAny (model prog w) A (pyIter (.ref a)) Q E s := by
  have hT : s.TypeIs (.ref a) "set" := ⟨o, ho, hcl⟩
  have hlt := Heap.lt_size ho
  have hlen : (es.toList.map (·.2)).length = es.size := by simp
  refine wpAny_pyIter_slot hT PySem.F.slot_set_iter (wpAny_call_entry PySem.F.slot_set_iter hT C4 ?_ (PySem.F.args_set_iter_1 _))
  unfold Builtin.«frozenset.__iter__»
  show wpAny _ _ (Builtin.Frozenset.sizeOf a >>= _) _ _ s
  unfold Builtin.Frozenset.sizeOf
  refine wpAny_bind (wpAny_bind (wpAny_setEntries_of ho hd hf (wpAny_pure ?_)))
  unfold setDrawn setsByText
  refine wpAny_bind (wpAny_bind (wpAny_setState_of ho hd hf ?_))
  dsimp only
  refine wpAny_bind (wpAny_bind (wpAny_askSetting (wpAny_pure (wpAny_pure ?_))))
  show wpAny _ _ (if (!w.params.followText "set-order" && (!t.plain && decide (es.size > 1))) = true then _ else _) _ _ s
  cases hbt : w.params.followText "set-order" with
  | true =>
    rw [if_neg (by simp)]
    show wpAny _ _ (setEpoch a >>= _) _ _ s
    refine wpAny_bind (wpAny_setEpoch_of ho hd hf (wpAny_bind (wpAny_newObj_type (wpAny_pure ⟨_, rfl, "set_iterator", _, ⟨_, Heap.get?_push_size _ rfl, rfl⟩, Z4.lookup, ?_⟩))))
    have hp := (pick_perm (w.params.setOrder a ep) es).map (·.2)
    refine h _ _ ⟨s.heap.objs.size, _, _, _, _, hlen.symm, rfl, hp, Bh (slots := fun _ => 0) hh (Nat.ne_of_lt hlt) hd hf (by rw [hp.length_eq, hlen]) (fun i A s Q E _ ho' hq => next_text hbt hd hf ho' hq), ⟨Heap.get?_push_size _ rfl, Heap.get?_push_of_some _ ho⟩, fun b hb => ?_, Nat.le_refl _, fun b o e => Heap.get?_push_of_some _ e, rfl, rfl⟩
    rcases List.mem_cons.mp hb with rfl | hb
    · exact .inr (Nat.le_refl _)
    · exact .inl (List.mem_singleton.mp hb)
  | false =>
    rw [hbt] at hled
    subst hled
    cases hdr : (!t.plain && decide (es.size > 1)) with
    | false =>
      rw [if_neg (by simp)]
      show wpAny _ _ (setEpoch a >>= _) _ _ s
      refine wpAny_bind (wpAny_setEpoch_of ho hd hf (wpAny_bind (wpAny_newObj_type (wpAny_pure ⟨_, rfl, "set_iterator", _, ⟨_, Heap.get?_push_size _ rfl, rfl⟩, Z4.lookup, ?_⟩))))
      refine h _ _ ⟨s.heap.objs.size, _, _, _, _, hlen.symm, rfl, .rfl, Bh (slots := slotAt t) hh (Nat.ne_of_lt hlt) hd hf hlen (fun i A s Q E hi ho' hq => next_slot hbt hd hf ht hdr hi ho' hq), ⟨Heap.get?_push_size _ rfl, Heap.get?_push_of_some _ ho⟩, fun b hb => ?_, Nat.le_refl _, fun b o e => Heap.get?_push_of_some _ e, rfl, rfl⟩
      rcases List.mem_cons.mp hb with rfl | hb
      · exact .inr (Nat.le_refl _)
      · exact .inl (List.mem_singleton.mp hb)
    | true =>
      rw [if_pos (by simp)]
      refine wpAny_bind (Pp es.size (List.range es.size) s _ (by simp) fun places d hp => ?_)
      have hpl : places.length = es.size := by rw [hp.length_eq, List.length_range]
      refine wpAny_bind (wpAny_newTuple (items := places.map fun (p : Nat) => rawInt p) ?_ (by rw [List.length_map, hpl]; exact fits_of_scanBound hb))
      have kp : ∀ oI b o, s.heap.get? b = some o → ((s.heap.push { cls := .type "tuple", data := .seq (places.map fun (p : Nat) => rawInt p).toArray }).push oI).get? b = some o := fun oI b o e => Heap.get?_push_of_some _ (Heap.get?_push_of_some _ e)
      have hz : (s.heap.push { cls := .type "tuple", data := .seq (places.map fun (p : Nat) => rawInt p).toArray }).objs.size = s.heap.objs.size + 1 := Heap.size_push ..
      refine wpAny_bind (wpAny_setEpoch_of (Heap.get?_push_of_some _ ho) hd hf (wpAny_bind (wpAny_newObj_type (wpAny_pure ⟨_, rfl, "set_iterator", _, ⟨_, Heap.get?_push_size _ rfl, rfl⟩, Z4.lookup, ?_⟩))))
      have hpo : (places.filterMap fun p => (es[p]?).map (·.2)).Perm (es.toList.map (·.2)) := by
        refine (hp.filterMap _).trans ?_
        have : (List.range es.size).filterMap (fun p => (es[p]?).map (·.2)) = ((List.range es.size).filterMap fun p => es[p]?).map (·.2) := by rw [List.map_filterMap]
        rw [this, filterMap_getElem?_range]
      have hord : ∀ (l : List Nat), (∀ p ∈ l, p < es.size) → ∀ (i p : Nat), l[i]? = some p → ∃ e, es[p]? = some e ∧ (l.filterMap fun p => (es[p]?).map (·.2))[i]? = some e.2 := fun l => by
        induction l with
        | nil => intro _ i p h; cases h
        | cons q l ih =>
          intro hl i p hi
          have hq : es[q]? = some (es[q]'(hl q (.head _))) := Array.getElem?_eq_getElem (hl q (.head _))
          rw [List.filterMap_cons, hq]
          dsimp only [Option.map_some]
          cases i with
          | zero => cases hi; exact ⟨_, hq, rfl⟩
          | succ i => exact ih (fun p hp => hl p (.tail _ hp)) i p hi
      have hpm : ∀ p ∈ places, p < es.size := fun p hm => List.mem_range.mp (hp.mem_iff.mp hm)
      refine h _ _ ⟨(s.heap.push { cls := .type "tuple", data := .seq (places.map fun (p : Nat) => rawInt p).toArray }).objs.size, _, _, _, _, hlen.symm, rfl, hpo, walk_drawn (tp := s.heap.objs.size) hh (by rw [hz]; exact Nat.ne_of_lt (Nat.lt_succ_of_lt hlt)) (by rw [hz]; exact Nat.ne_of_lt (Nat.lt_succ_self _)) hd hf (by rw [hpo.length_eq, hlen]) hpl (hord places hpm),
        ⟨Heap.get?_push_size _ rfl, kp _ _ _ ho, Heap.get?_push_of_some _ (Heap.get?_push_size _ rfl)⟩, fun b hb => ?_, by rw [hz]; exact Nat.le_succ _, fun b o e => kp _ b o e, rfl, rfl⟩
      rcases List.mem_cons.mp hb with rfl | hb
      · exact .inr (by rw [hz]; exact Nat.le_succ _)
      · rcases List.mem_cons.mp hb with rfl | hb
        · exact .inl rfl
        · exact .inr (by rw [List.mem_singleton.mp hb]; exact Nat.le_refl _)
theorem set_hint {r : Addr} {Q : Bool → Shared → Prop} (hT : s.TypeIs (.ref r) "set") (h : Q false s) : wpAny (model prog w) A (Builtin.List.listLengthHint (.ref r)) Q E s := by
  unfold Builtin.List.listLengthHint
  refine wpAny_bind (wpAny_specialOf hT PySem.F.slot_set_len.lookup ?_)
  generalize hid : ("set.__len__" : String) = id0
  wp_delta
  rw [show splitId id0 = some ("set", "__len__") from by subst hid; decide +kernel]
  subst hid
  refine wpAny_bind (wpAny_isInstance (T := "set") (b := true) hT (by rw [isSubtype_type]; kernel_rfl) ?_)
  refine wpAny_ite_split (fun hab => absurd hab (by decide)) (fun _ => ?_)
  refine wpAny_ite_split (fun _ => ?_) (fun hab => absurd (by decide +kernel) hab)
  refine wpAny_bind (wpAny_typeOf hT ?_)
  exact wpAny_pure h
end
end Mine
end
section
set_option maxRecDepth 100000
namespace Mine
open PySem PySem.Calls PyProof.Rows PySem.W
theorem Aq {K : Type} [DecidableEq K] : ∀ {l m : List K}, l.Nodup → (∀ k ∈ l, k ∈ m) → ∃ r, m.Perm (l ++ r)
  | [], m => fun _ _ => ⟨m, .rfl⟩
  | x :: l, m => fun hn hs => by
    obtain ⟨h1, h2⟩ := List.nodup_cons.mp hn
    have hx := hs x (.head _)
    obtain ⟨r, hr⟩ := Aq (m := m.erase x) h2 fun k hk => (List.mem_erase_of_ne (fun (e : k = x) => h1 (e ▸ hk))).mpr (hs k (.tail _ hk))
    exact ⟨r, (List.perm_cons_erase hx).trans (hr.cons x)⟩
section
variable {prog : Program} {w : World} {K : Type} [DecidableEq K] {knd : PySem.KeyKind prog w K}
inductive KeyedBy (knd : PySem.KeyKind prog w K) : List Value → List K → Prop
  | nil : KeyedBy knd [] []
  | cons {v : Value} {k : K} {vs : List Value} {ks : List K} : knd.is k v = true → KeyedBy knd vs ks → KeyedBy knd (v :: vs) (k :: ks)
theorem KeyedBy.length {vs : List Value} {ks : List K} (h : KeyedBy knd vs ks) : vs.length = ks.length := by
  induction h with
  | nil => rfl
  | cons _ _ ih => exact congrArg (· + 1) ih
theorem KeyedBy.mem {vs : List Value} {ks : List K} (h : KeyedBy knd vs ks) {v : Value} {k : K} (hv : v ∈ vs) (hk : knd.is k v = true) : k ∈ ks := by
  induction h with
  | nil => cases hv
  | cons hk' _ ih =>
    rcases List.mem_cons.mp hv with rfl | hv
    · exact knd.inj _ _ _ hk hk' ▸ .head _
    · exact .tail _ (ih hv)
theorem keyed_of {vs : List Value} : (∀ v ∈ vs, ∃ k, knd.is k v = true) → ∃ ks, KeyedBy knd vs ks := by
  induction vs with
  | nil => exact fun _ => ⟨[], .nil⟩
  | cons v vs ih =>
    intro h
    obtain ⟨k, hk⟩ := h v (.head _)
    obtain ⟨ks, hks⟩ := ih fun v hv => h v (.tail _ hv)
    exact ⟨k :: ks, .cons hk hks⟩
theorem KeyedBy.ints {vs : List Value} {ns : List Int} (h : KeyedBy (intKind prog w) vs ns) : IntsAre vs ns := by
  induction h with
  | nil => exact .nil
  | cons hk _ ih => obtain ⟨t, rfl⟩ := Value.isInt_shape hk; exact .cons _ t ih
theorem areK_ints {vs : List Value} {ns : List Int} (h : IntsAre vs ns) : AreK (intKind prog w) vs ns := by
  induction h with
  | nil => exact .nil
  | cons k t _ ih => exact .cons (intKind_is _ _ _ _) rfl ih
theorem KeyedBy.strs {vs : List Value} {ss : List Str} (h : KeyedBy (PySem.strKind prog w) vs ss) : StrsAre vs ss := by
  induction h with
  | nil => exact .nil
  | cons hk _ ih => obtain ⟨t, rfl⟩ := Value.isStrOf_shape hk; exact .cons _ t ih
theorem areK_strs {vs : List Value} {ss : List Str} (h : StrsAre vs ss) : AreK (PySem.strKind prog w) vs ss := by
  induction h with
  | nil => exact .nil
  | cons k t _ ih => exact .cons (strKind_is _ _ _ _) rfl ih
end
section
variable {prog : Program} {w : World} {A : Around} {E : Value → Shared → Prop} {s : Shared}
theorem set_extend {R : Result → Shared → Prop} {led : Bool} {a S : Addr} {o : Obj} {es : Array (Int × Value)} {ep : Nat} {t : SetTable} {res : Value} {c₀ : Nat} (hh : A.handled = none) (hled : led = !w.params.followText "set-order") (ho : s.heap.get? a = some o) (hcl : o.cls = .type "set") (hd : o.data = .set es ep t) (hf : t.fits es.size = true) (hb : es.size < scanBound) (ht : TabOk led t)
    (hSa : S ≠ a) (hS : s.heap.get? S = some { cls := .type "list", data := .seq #[] c₀ })
    (hR : ∀ s' acc c order, (∀ b o, b ≠ S → s.heap.get? b = some o → s'.heap.get? b = some o) → s'.os = s.os → s'.gens = s.gens → s'.heap.get? S = some { cls := .type "list", dict := none, data := .seq acc c, slots := #[] } → order.Perm (es.toList.map (·.2)) → acc.toList = order → R (.ok (.ret res)) s') :
    wpAny (model prog w) A.in1 (Builtin.List.listExtendWith (.ref S) (.ref a) res)
      (fun fin s' => match fin with | .done f => R (.ok f) s' | .again c' => c'.quiet = true ∧ codeAny (model prog w) A c' R s') (fun e s' => R (.error e) s') s := by
  have hT : s.TypeIs (.ref a) "set" := ⟨o, ho, hcl⟩
  unfold Builtin.List.listExtendWith
  refine wpAny_bind (wpAny_typeOf (T := "set") hT ?_)
  have h1 : Builtin.List.listSameRef (.ref S) (.ref a) = false := by simp [Builtin.List.listSameRef, hSa]
  have h2 : (Value.type "set" == Value.type "list") = false := by decide
  have h3 : (Value.type "set" == Value.type "tuple") = false := by decide
  simp only [h1, h2, h3, Bool.or_false, Bool.false_eq_true, if_false]
  refine wpAny_bind (set_iter (show A.in1.handled = none from hh) hled ho hcl hd hf hb ht fun it s₁ hit => ?_)
  obtain ⟨I, fp, order, St, n, hn, rfl, hp, W, st, hfp, hI, k, hos, hgens⟩ := hit
  have hSl := Heap.lt_size hS
  have hSI : S ≠ I := Nat.ne_of_lt (Nat.lt_of_lt_of_le hSl hI)
  have hSf : S ∉ fp := fun m => by
    rcases hfp S m with q | q
    · exact hSa q
    · exact absurd hSl (Nat.not_lt.mpr q)
  have hnl : n ≤ sizeLine := by rw [hn, List.length_map, Array.length_toList]; exact fits_of_scanBound hb
  have key : ∀ (h : Heap) (c₁ tk : Nat), St 0 h → (∀ b o, b ≠ S → s.heap.get? b = some o → h.get? b = some o) → h.get? S = some { cls := .type "list", data := .seq #[] c₁ } →
      codeAny (model prog w) A (.builtin "list.extend.loop" ⟨[.ref S, .ref I, res], []⟩) R { s₁ with heap := h, toks := tk } := by
    intro h c₁ tk hst hk hS₁
    refine codeAny_extend_loopS W.toS hnl S hSf res n 0 _ #[] c₁ rfl (Nat.zero_le _) hst hS₁ (ItemsOf.nil _) fun s' acc' c' hm hS' hacc => ?_
    refine hR s' acc' c' order (fun b o hb e => hm.heap b o (fun hmem => ?_) (hk b o hb e)) (hm.os.trans hos) (hm.gens.trans hgens) hS' hp ?_
    · rcases List.mem_cons.mp hmem with e' | hmem
      · exact hb e'
      · exact absurd (Heap.lt_size e) (by rw [List.mem_singleton.mp hmem]; exact Nat.not_lt.mpr hI)
    · have hol : order.length = n := by rw [hp.length_eq, hn]
      refine List.ext_getElem? fun j => ?_
      by_cases hj : j < acc'.size
      · have e : acc'.toList[j]? = some acc'[j] := by rw [Array.getElem?_toList]; exact Array.getElem?_eq_getElem hj
        rw [e]
        exact (hacc.2 j _ (Array.getElem?_eq_getElem hj)).symm
      · rw [List.getElem?_eq_none (by simpa using hj), List.getElem?_eq_none (by rw [hol, ← hacc.1]; lia)]
  have hS₁ := k _ _ hS
  have hT₁ : s₁.TypeIs (.ref a) "set" := ⟨o, k _ _ ho, hcl⟩
  refine wpAny_bind (wpAny_holding (set_hint hT₁ ?_))
  refine wpAny_ite_split (fun _ => ?_) (fun _ => wpAny_pure ⟨plainId_quiet PySem.F.plain_extend_loop _, ?_⟩)
  · refine wpAny_bind (wpAny_rule ?_)
    refine wpAny_bind ?_
    show wpAny _ _ (updateSeq S (·.push .none) >>= fun _ => updateSeq S (·.pop)) _ _ _
    refine wpAny_bind (wpAny_updateSeq hS₁ rfl ?_)
    have hS₂ := Heap.get?_update_self (Obj.mapSeq (·.push Value.none)) hS₁ rfl
    refine wpAny_updateSeq (hz := by seq_fits) hS₂ rfl ?_
    have hS₃ := Heap.get?_update_self (Obj.mapSeq (·.pop)) hS₂ rfl
    refine wpAny_pure ⟨plainId_quiet PySem.F.plain_extend_loop _, key _ _ _ ?_ (fun b o hb e => ?_) hS₃⟩
    · refine W.frame 0 _ _ st fun b hb o e => ?_
      have hbS : b ≠ S := fun h => hSf (h ▸ hb)
      exact (Heap.get?_update_other _ _ (Ne.symm hbS)).trans ((Heap.get?_update_other _ _ (Ne.symm hbS)).trans e)
    · exact (Heap.get?_update_other _ _ (Ne.symm hb)).trans ((Heap.get?_update_other _ _ (Ne.symm hb)).trans (k b o e))
  · have := key s₁.heap c₀ s₁.toks st (fun b o _ e => k b o e) hS₁
    cases s₁; exact this
theorem As {K : Type} [DecidableEq K] {knd : PySem.KeyKind prog w K} {a : Addr} {ns : List K} {R : List Value → Shared → Prop} (hh : A.handled = none) (hS : SetL knd s.heap a (!w.params.followText "set-order") (ddup ns))
    (h : ∀ vs ks s', KeyedBy knd vs ks → ks.Perm (ddup ns) → (∀ b o, s.heap.get? b = some o → s'.heap.get? b = some o) → s'.os = s.os → s'.gens = s.gens → R vs s') : wpAny (model prog w) A (collect (.ref a)) R E s := by
  obtain ⟨o, es, ep, t, ho, hx⟩ := hS
  have fin : ∀ order : List Value, order.Perm (es.toList.map (·.2)) → ∃ ks, KeyedBy knd order ks ∧ ks.Perm (ddup ns) := fun order hp => by
    obtain ⟨ks, hk⟩ := keyed_of (knd := knd) (vs := order) fun v hv => by
      obtain ⟨e, he, rfl⟩ := List.mem_map.mp (hp.mem_iff.mp hv)
      obtain ⟨⟨k, hk, _⟩, _⟩ := hx.el e he
      exact ⟨k, hk⟩
    refine ⟨ks, hk, ?_⟩
    have hsub : ∀ k ∈ ddup ns, k ∈ ks := fun k hk' => by
      obtain ⟨e, he, hi⟩ := (hx.mem k).mp (decide_eq_true hk')
      exact hk.mem (hp.mem_iff.mpr (List.mem_map.mpr ⟨e, he, rfl⟩)) hi
    obtain ⟨r, hr⟩ := Aq (C5 ns) hsub
    have hl := hr.length_eq
    rw [← hk.length, hp.length_eq, List.length_map, Array.length_toList, hx.size, List.length_append] at hl
    obtain rfl : r = [] := List.length_eq_zero_iff.mp (by lia)
    rw [List.append_nil] at hr
    exact hr
  have hlt := Heap.lt_size ho
  unfold collect
  refine wpAny_bind (wpAny_runValue (codeAny_builtin entry_proto_collect' ?_))
  rw [Around.under_plainId PySem.F.plain_proto_collect _]
  show wpAny _ A.in1 (newList [] >>= fun l => again (.builtin "list.__iadd__" ⟨[l, .ref a], []⟩)) _ _ s
  refine wpAny_bind (wpAny_newObj_type ?_)
  refine wpAny_pure ⟨plainId_quiet PySem.F.plain_list_iadd _, codeAny_builtin entry_list_iadd' ?_⟩
  rw [Around.under_plainId PySem.F.plain_list_iadd _]
  have hS₁ : (s.heap.push { cls := .type "list", data := .seq ([] : List Value).toArray }).get? s.heap.objs.size = some { cls := .type "list", data := .seq #[] } := Heap.get?_push_size _ rfl
  show wpAny _ A.in1 (Builtin.List.listExtendWith (.ref s.heap.objs.size) (.ref a) (.ref s.heap.objs.size)) _ _ _
  have key := set_extend (prog := prog) (A := A) (s := { s with heap := s.heap.push { cls := .type "list", data := .seq ([] : List Value).toArray } }) (res := .ref s.heap.objs.size)
    (R := fun (q : Result) (s' : Shared) => q = .ok (.ret (.ref s.heap.objs.size)) ∧ ∃ acc c, s'.heap.get? s.heap.objs.size = some { cls := .type "list", dict := none, data := .seq acc c, slots := #[] } ∧ R acc.toList s')
    hh rfl (Heap.get?_push_of_some _ ho) hx.ex.1 hx.data hx.fits hx.bd hx.tab (Nat.ne_of_gt hlt) hS₁ (fun s' acc c order k hos hg hS' hp e => ⟨rfl, acc, c, hS', by
      obtain ⟨ks, q1, q2⟩ := fin order hp
      rw [e]
      exact h order ks s' q1 q2 (fun b o' e' => k b o' (Nat.ne_of_lt (Heap.lt_size e')) (Heap.get?_push_of_some _ e')) hos hg⟩)
  refine wpAny_mono key (fun f s' x => ?_) fun e s' x => ?_
  · cases f with
    | done f =>
      obtain ⟨e, acc, c, hS', hr⟩ := x
      cases e
      show wpAny _ A (load s.heap.objs.size >>= _) _ _ _
      exact wpAny_bind (wpAny_load hS' (wpAny_pure hr))
    | again c₁ =>
      refine ⟨x.1, codeAny_mono x.2 fun q s₂ y => ?_⟩
      obtain ⟨rfl, acc, c, hS', hr⟩ := y
      show wpAny _ A (load s.heap.objs.size >>= _) _ _ _
      exact wpAny_bind (wpAny_load hS' (wpAny_pure hr))
  · obtain ⟨e', _⟩ := x
    cases e'
end
section
variable {prog : Program} {w : World} {fz : List Addr} {μ : MH} {s : Shared} {Q : MQ} {A : Around} {E : Value → Shared → Prop}
theorem Ff {a : Addr} {l : List MV} {ns : List Int} (r : RepH prog w μ s.heap) (f : FzIn fz μ) (e : lst μ a = some l) (hi : intsOf l = some ns) (hn : l.length < 64) (hA : A.handled = none) (h : allocM fz μ (.list ((sortI (ddup ns)).map .int)) fun c μ' => Q (.ref c) μ') :
    wpAny (model prog w) A (call (.type "set") [.ref a]) (fun y s₁ => wpAny (model prog w) A (call (.builtin "sorted") [y]) (PostV prog w fz μ s Q) E s₁) E s := by
  obtain ⟨vs, ⟨n, ha⟩, hv, _⟩ := Un r e
  have hI := N7 hv hi
  have hnl := P5 hi
  refine call_set (knd := intKind prog w) hA ⟨_, ha, rfl, n, rfl⟩ (areK_ints hI) (by unfold scanBound; lia) fun h' tk hS k => ?_
  refine Calls.call_function_entry kind_sorted plain_sorted entry_sorted (args_sorted1 _) ?_
  unfold Builtin.«sorted»
  refine wpAny_bind (m := checkCount "sorted" 1 1 _) (wpAny_pure ?_)
  refine wpAny_bind (As (A := A.in1) hA hS fun us ks s' hu hp k' hos hg => ?_)
  have hu := hu.ints
  have hul : us.length < 64 := by
    have h1 := hp.length_eq
    have h2 := hu.length
    have := A4 ns
    lia
  refine wpAny_bind (wpAny_newList ?_ (by have := Yp (Nat.le_trans (Nat.le_of_lt hul) (by decide) : fits us.length); assumption))
  have hoL : (s'.heap.push (seqObj "list" us.toArray 0)).get? s'.heap.objs.size = some (seqObj "list" us.toArray 0) := Heap.get?_push_size _ rfl
  refine wpAny_bind (wpAny_holding (wpAny_call_entry slot_list_sort ⟨_, hoL, rfl⟩ entry_list_sort (list_sort_tree hoL hu hul fun out ns' a1 a2 a3 => ⟨_, rfl, ?_⟩) (args_list_sort _)))
  refine wpAny_pure ⟨_, rfl, ?_⟩
  have hns' : ns' = sortI (ddup ns) := Um (a2.trans hp) a3
  have kk : ∀ b o, s.heap.get? b = some o → s'.heap.get? b = some o := fun b o e => k' b o (k b o e)
  have hnew : s.heap.get? s'.heap.objs.size = none := by
    cases q : s.heap.get? s'.heap.objs.size with
    | none => rfl
    | some o => exact absurd (Heap.lt_size (kk _ _ q)) (Nat.lt_irrefl _)
  have k2 : ∀ b o, s.heap.get? b = some o → (sortedHeap (s'.heap.push (seqObj "list" us.toArray 0)) s'.heap.objs.size us out).get? b = some o := fun b o e => by
    have e' := kk b o e
    have hlt := Heap.lt_size e'
    rw [sortedHeap_old (Nat.ne_of_lt hlt) (by rw [Heap.size_push]; exact Nat.lt_succ_of_lt hlt)]
    exact Heap.get?_push_of_some _ e'
  obtain ⟨ep, he⟩ := sortedHeap_at (h := s'.heap.push (seqObj "list" us.toArray 0)) (a := s'.heap.objs.size) (vs := us) (n := 0) (out := out) (Heap.get?_push_size _ rfl)
  have hm := r.free hnew
  refine ⟨.ref s'.heap.objs.size, upd μ s'.heap.objs.size (.list ((sortI (ddup ns)).map .int)), h _ hm (f.free hm), rfl, r.alloc k2 ⟨out.toList, ⟨ep, by simpa [seqObj] using he⟩, ?_⟩, ⟨fun b o _ e => ⟨k2 b o e, ?_⟩, hos, hg⟩⟩
  · rw [← hns']; exact P9 a1
  · unfold upd; rw [if_neg (fun q => by subst q; rw [hnew] at e; cases e)]
end
end Mine
end
section
set_option maxRecDepth 100000
namespace Mine
open PySem PySem.Calls PyProof.Rows PySem.W
theorem Bt : typeLookup (.type "list") "keys" = pure none := by rw [typeLookup_type, builtinLookup_eq_fast]; kernel_rfl
theorem Va : entryFor table "dict.update.loop" = some Builtin.«dict.update.loop» := entryFor_of_tree (by kernel_rfl)
theorem J2 : plainId "dict.update.loop" = true := by decide +kernel
section
variable {prog : Program} {w : World} {A : Around} {E : Value → Shared → Prop}
theorem O8 {s : Shared} {a : Addr} {xs : Array Value} {k : Nat} {Q : Option Value → Shared → Prop} (hx : s.heap.get? a = some { cls := .type "list", data := .seq xs k }) (hA : A.handled = none)
    (h : ∀ h' tk, (∀ b o, s.heap.get? b = some o → h'.get? b = some o) → Q none { s with heap := h', toks := tk }) :
    wpAny (model prog w) A (getAttr? (.ref a) "keys") Q E s := by
  obtain ⟨hp, g, d, tk, os⟩ := s
  have hT : ∀ tk', (⟨hp, g, d, tk', os⟩ : Shared).TypeIs (.ref a) "list" := fun _ => ⟨_, hx, rfl⟩
  have f1 := sub_AttributeError
  have f3 := F.slot_list_getattribute.lookup
  have f4 := F.slot_list_getattribute.bind (.ref a)
  have f5 := am_list_getattr_none
  unfold getAttr? getAttrBy? getAttrBy
  repeat (any_goals (first | assumption | exact hT _ | ((with_reducible show wpAny _ _ (call (Value.builtin "list.__getattribute__") _ _) _ _ _); refine call_meets F.slot_list_getattribute (hT _) am_entry_list_getattribute (F.args_list_getattribute_2 _ _) (meets_getattribute_miss_list a xs k #[] "keys" _ Bt (by decide +kernel) (by decide +kernel)) ⟨hx, hA, fun h₁ tk₁ e₁ hx₁ => ?_⟩) | wp_step))
  obtain ⟨t', u', he⟩ := hx₁.there
  have hTe : ∀ tk', (⟨h₁, g, d, tk', os⟩ : Shared).TypeIs (.ref e₁) "AttributeError" := fun _ => ⟨_, he, rfl⟩
  show wpAny _ _ (getattributeRaised _ _ _ _ _ _ _) _ _ _
  unfold getattributeRaised
  refine wpAny_bind (wpAny_isInstance (hTe _) f1 ?_)
  simp only [if_true]
  show wpAny _ _ (hookBehind _ _ >>= _) _ _ _
  refine wpAny_bind (wpAny_of_eq (show hookBehind (.type "list") none = pure none from f5) ?_)
  show wpAny _ _ (throw _) _ _ _
  refine wpAny_throw ?_
  show wpAny _ _ (isInstance _ _ >>= _) _ _ _
  refine wpAny_bind (wpAny_isInstance (hTe _) f1 ?_)
  simp only [if_true]
  exact wpAny_pure (h h₁ _ hx₁.keeps)
end
end Mine
end
section
set_option maxRecDepth 100000
namespace Mine
open PySem PySem.Calls PyProof.Rows PySem.W
section
variable {prog : Program} {w : World} {A : Around} {E : Value → Shared → Prop} {fz : List Addr} {μ : MH} {s : Shared} {Q : MQ} {d : Nat}
noncomputable def PairAt (h : Heap) (x : Value) (kv : Int × Value) : Prop := ∃ a t n, x = .ref a ∧ h.get? a = some { cls := .type "tuple", data := .seq #[.int kv.1 t, kv.2] n }
noncomputable def storedAll (acc ps : List (Int × Value)) : List (Int × Value) := ps.foldl (fun d kv => stored d kv.1 kv.2) acc
theorem A9 {kvs : List (Int × Value)} {k : Int} {v : Value} : (stored kvs k v).length ≤ kvs.length + 1 := by
  unfold stored; split <;> simp
theorem Ap {R : Result → Shared → Prop} {I l D : Addr} {items : Array Value} (hh : A.handled = none) (hDI : D ≠ I) (hDl : D ≠ l) (hIl : l ≠ I) :
    ∀ (ps : List (Int × Value)) (i : Nat) (acc : List (Int × Value)) (s : Shared), items.size = i + ps.length → s.heap.IsListIter I l i → s.heap.IsList l items → (∀ (j : Nat) (kv : Int × Value), ps[j]? = some kv → ∃ x, items[i + j]? = some x ∧ PairAt s.heap x kv) →
      s.heap.DictOf (intKind prog w) D acc → acc.length + ps.length ≤ sizeLine →
      (∀ h' tk, h'.DictOf (intKind prog w) D (storedAll acc ps) → (∀ b o, b ≠ D → b ≠ I → s.heap.get? b = some o → h'.get? b = some o) → R (.ok (.ret .none)) { s with heap := h', toks := tk }) →
      codeAny (model prog w) A (.builtin "dict.update.loop" ⟨[.ref D, .ref I, .int i 0, .none], []⟩) R s
  | [], i, acc, s, hn, hit, hl, hp, hd, hsz, hR => by
    refine codeAny_builtin Va ?_
    rw [Around.under_plainId J2 _]
    show wpAny _ A.in1 (pyNext (.ref I) >>= _) _ _ s
    have hnone : items[i]? = none := by simp at hn; simp [hn]
    refine wpAny_bind (wpAny_pyNext_list_end (A := A.in1) hh hit hl hnone fun h' he => ?_)
    show wpAny _ _ (Builtin.Dict.addKeywords D [] >>= _) _ _ _
    refine wpAny_bind (wpAny_pure (wpAny_pure ?_))
    have k : ∀ b o, b ≠ I → s.heap.get? b = some o → h'.get? b = some o := fun b o hb e => he b o hb e
    refine hR h' s.toks ?_ (fun b o h1 h2 e => k b o h2 e)
    obtain ⟨o, es, ep, ho, r⟩ := hd
    exact ⟨o, es, ep, k _ _ hDI ho, r⟩
  | kv :: ps, i, acc, s, hn, hit, hl, hp, hd, hsz, hR => by
    obtain ⟨x, hx, a, t, n, rfl, ha⟩ := hp 0 kv rfl
    rw [Nat.add_zero] at hx
    refine codeAny_builtin Va ?_
    rw [Around.under_plainId J2 _]
    show wpAny _ A.in1 (pyNext (.ref I) >>= _) _ _ s
    refine wpAny_bind (wpAny_pyNext_list_item (A := A.in1) hit hl hx fun h₁ hit₁ hs₁ => ?_)
    have aI : a ≠ I := fun e => by obtain ⟨o, ho, hc, _⟩ := hit; rw [← e, ha] at ho; cases ho; simp at hc
    have ha₁ := (hs₁.2 a aI).trans ha
    show wpAny _ _ (holding [.ref a] _ >>= _) _ _ _
    refine wpAny_bind (wpAny_holding ?_)
    refine wpAny_bind (m := Sem.tryCatch (Builtin.Dict.pairItems (.ref a)) _) ?_
    refine wpAny_tryCatch ?_
    unfold Builtin.Dict.pairItems
    refine wpAny_bind (wpAny_typeOf (T := "tuple") ⟨_, ha₁, rfl⟩ ?_)
    rw [if_pos (by decide)]
    refine wpAny_bind (wpAny_seqItems ha₁ rfl (wpAny_pure ?_))
    show wpAny _ _ (holding [.int kv.1 t, kv.2] (dictSet D (.int kv.1 t) kv.2)) _ _ _
    have hd₁ : h₁.DictOf (intKind prog w) D acc := by
      obtain ⟨o, es, ep, ho, r⟩ := hd
      exact ⟨o, es, ep, (hs₁.2 D hDI).trans ho, r⟩
    simp only [List.length_cons] at hsz hn
    refine wpAny_holding (wpAny_dictSet_pairs (intKind_is prog w kv.1 t) hd₁ (fun h₂ hd₂ hs₂ => ?_) (by lia))
    refine wpAny_pure ⟨plainId_quiet J2 _, ?_⟩
    have k2 : ∀ b o, b ≠ D → b ≠ I → s.heap.get? b = some o → h₂.get? b = some o := fun b o h1 h2 e => (hs₂.2 b h1).trans ((hs₁.2 b h2).trans e)
    have hI2 : h₂.IsListIter I l (i + 1) := by
      obtain ⟨o, ho, r⟩ := hit₁
      exact ⟨o, (hs₂.2 I (Ne.symm hDI)).trans ho, r⟩
    have hl2 : h₂.IsList l items := by
      obtain ⟨o, ho, r⟩ := hl
      exact ⟨o, k2 l o (Ne.symm hDl) hIl ho, r⟩
    have key := Ap (R := R) (items := items) hh hDI hDl hIl ps (i + 1) (stored acc kv.1 kv.2) { s with heap := h₂, toks := s.toks + 1 } (by lia) hI2 hl2 (fun j kv' hj => ?_) hd₂
      (by have := A9 (kvs := acc) (k := kv.1) (v := kv.2); lia) (fun h' tk hd' hk' => hR h' tk hd' fun b o h1 h2 e => hk' b o h1 h2 (k2 b o h1 h2 e))
    · simpa [rawInt] using key
    · obtain ⟨x', hx', a', t', n', rfl, ha'⟩ := hp (j + 1) kv' (by simpa using hj)
      have aI' : a' ≠ I := fun e => by obtain ⟨o, ho, hc, _⟩ := hit; rw [← e, ha'] at ho; cases ho; simp at hc
      have aD' : a' ≠ D := fun e => by obtain ⟨o, es, ep, ho, hc, _⟩ := hd; rw [← e, ha'] at ho; cases ho; exact absurd hc.1 (by simp)
      exact ⟨_, by rw [← hx']; congr 1; lia, a', t', n', rfl, k2 _ _ aD' aI' ha'⟩
theorem pairs_at {h : Heap} : ∀ {l : List MV} {vs : List Value} {ps : List (Int × MV)}, RepVs h l vs → pairsI l = some ps → ∃ kvs : List (Int × Value), RepKV h ps kvs ∧ kvs.length = l.length ∧ ∀ (j : Nat) (kv : Int × Value), kvs[j]? = some kv → ∃ x, vs[j]? = some x ∧ PairAt h x kv
  | [], [], ps => fun _ e => by simp [pairsI] at e; subst e; exact ⟨[], trivial, rfl, fun j kv e => by simp at e⟩
  | m :: l, v :: vs, ps => fun r e => by
    simp only [RepVs] at r
    unfold pairsI at e
    rw [List.mapM_cons] at e
    simp only [Option.bind_eq_bind, Option.bind_eq_some_iff, Option.pure_def, Option.some.injEq] at e
    obtain ⟨p, e1, ps', e2, rfl⟩ := e
    obtain ⟨kvs, h1, h2, h3⟩ := pairs_at r.2 e2
    have : ∃ k x, m = .tup [.int k, x] ∧ p = (k, x) := by
      split at e1
      · rename_i k x; cases e1; exact ⟨k, x, rfl, rfl⟩
      · cases e1
    obtain ⟨k, x, rfl, rfl⟩ := this
    have r1 := r.1
    simp only [RepV] at r1
    obtain ⟨a, us, n, rfl, ha, hu⟩ := r1
    match us, hu with
    | [u1, u2], hu =>
      simp only [RepVs, RepV, and_true] at hu
      obtain ⟨⟨t, rfl⟩, hx⟩ := hu
      refine ⟨(k, u2) :: kvs, by simp only [RepKV]; exact ⟨trivial, hx, h1⟩, by simp [h2], fun j kv hj => ?_⟩
      cases j with
      | zero => simp at hj; subst hj; exact ⟨_, rfl, a, t, n, rfl, ha⟩
      | succ j => exact h3 j kv (by simpa using hj)
    | [], hu => simp [RepVs] at hu
    | [_], hu => simp [RepVs] at hu
    | _ :: _ :: _ :: _, hu => simp [RepVs] at hu
  | [], _ :: _, _ => fun r _ => by simp [RepVs] at r
  | _ :: _, [], _ => fun r _ => by simp [RepVs] at r
theorem Ug {h : Heap} : ∀ {ps : List (Int × MV)} {kvs : List (Int × Value)} {acc : List (Int × MV)} {acc' : List (Int × Value)}, RepKV h ps kvs → RepKV h acc acc' → RepKV h (ps.foldl (fun d kv => putI d kv.1 kv.2) acc) (storedAll acc' kvs)
  | [], [], _, _ => fun _ r => r
  | p :: ps, k :: kvs, acc, acc' => fun x r => by
    simp only [RepKV] at x
    simp only [List.foldl_cons, storedAll]
    rw [x.1]
    exact Ug x.2.2 (Ad k.1 x.2.1 r)
  | [], _ :: _, _, _ => fun x _ => by simp [RepKV] at x
  | _ :: _, [], _, _ => fun x _ => by simp [RepKV] at x
theorem Cn {a : Addr} {l : List MV} {ps : List (Int × MV)} (r : RepH prog w μ s.heap) (f : FzIn fz μ) (q : μ a = some (.list l)) (e : pairsI l = some ps) (hn : fits l.length) (hA : A.handled = none) (hm : sysModules < s.heap.objs.size)
    (h : allocM fz μ (.idict (ps.foldl (fun d kv => putI d kv.1 kv.2) [])) fun c μ' => Q (.ref c) μ') :
    wpAny (model prog w) A (call (.type "dict") [.ref a]) (PostV prog w fz μ s Q) E s := by
  obtain ⟨vs, ⟨n, ha⟩, hv⟩ := r a _ q
  obtain ⟨kvs, hk, hkl, hp⟩ := pairs_at hv e
  have hvl := hv.length
  have hfit := Yp hn
  refine callType_codes (Q₁ := fun obj s₁ => obj = .ref s.heap.objs.size ∧ s₁ = { s with heap := s.heap.push { cls := .type "dict", data := .dict #[] } }) F.kt_called_dict (F.kt_typeCall_dict_1 _) F.entry_dict_init (kt_code_dict_new _ ⟨rfl, rfl⟩) ?_
  rintro obj s₁ ⟨rfl, rfl⟩
  have hnew : (s.heap.push { cls := .type "dict", data := .dict #[] }).DictOf (intKind prog w) s.heap.objs.size [] := Heap.DictOf.new s.heap
  have push1 : ∀ b o, s.heap.get? b = some o → (s.heap.push { cls := .type "dict", data := .dict #[] }).get? b = some o := fun b o e => Heap.get?_push_of_some _ e
  refine ⟨hnew.typeIs, F.args_dict_init_2 _ _, ?_⟩
  unfold Builtin.«dict.__init__»
  refine wpAny_bind ?_
  unfold Builtin.Dict.selfAndRest
  refine wpAny_bind (wpAny_notOrdered_dict hnew.typeIs ?_)
  show wpAny _ _ (pure (s.heap.objs.size, [Value.ref a])) _ _ _
  refine wpAny_pure ?_
  show wpAny _ _ (Builtin.Dict.updateFrom "dict.__init__" s.heap.objs.size (.ref a) [] .none) _ _ _
  unfold Builtin.Dict.updateFrom
  refine wpAny_bind (wpAny_typeOf (T := "list") ⟨_, push1 _ _ ha, rfl⟩ ?_)
  rw [if_pos (by decide)]
  refine wpAny_bind (O8 (push1 _ _ ha) hA fun h₁ tk₁ k₁ => ?_)
  simp only [Option.isNone_none, if_true]
  refine wpAny_bind (wpAny_rule ?_)
  have hl₁ : h₁.IsList a vs.toArray := ⟨_, k₁ _ _ (push1 _ _ ha), rfl, n, rfl⟩
  refine wpAny_bind (wpAny_pyIter_list hl₁ ?_)
  have push2 : ∀ b o, h₁.get? b = some o → (h₁.push { cls := .type "list_iterator", data := .fields #[.ref a, .int 0 0] }).get? b = some o := fun b o e => Heap.get?_push_of_some _ e
  have lt1 : s.heap.objs.size < h₁.objs.size := by
    obtain ⟨o, es, ep, ho, _⟩ := hnew
    exact Heap.lt_size (k₁ _ _ ho)
  have lta : a < s.heap.objs.size := Heap.lt_size ha
  refine wpAny_pure ⟨plainId_quiet J2 _, Ap (A := A.in1) (items := vs.toArray) (l := a) hA (Nat.ne_of_lt lt1) (Nat.ne_of_gt lta) (Nat.ne_of_lt (Nat.lt_trans lta lt1)) kvs 0 [] _ (by simp; simp [*]) ?_ ?_ ?_ ?_ (by simp; simp [*]) ?_⟩
  · exact ⟨_, Heap.get?_push_size _ rfl, rfl, rfl⟩
  · exact ⟨_, push2 _ _ (k₁ _ _ (push1 _ _ ha)), rfl, n, rfl⟩
  · intro j kv hj
    obtain ⟨x, hx, b, t, m, rfl, hb⟩ := hp j kv hj
    exact ⟨_, by simpa using hx, b, t, m, rfl, push2 _ _ (k₁ _ _ (push1 _ _ hb))⟩
  · obtain ⟨o, es, ep, ho, r⟩ := hnew
    exact ⟨o, es, ep, push2 _ _ (k₁ _ _ ho), r⟩
  · intro h' tk hd' k'
    have kall : ∀ b o, s.heap.get? b = some o → h'.get? b = some o := fun b o e => by
      have hlt := Heap.lt_size e
      exact k' b o (Nat.ne_of_lt hlt) (Nat.ne_of_lt (Nat.lt_trans hlt lt1)) (push2 _ _ (k₁ _ _ (push1 _ _ e)))
    refine ⟨rfl, Km h r f (K7 _) kall ⟨_, hd', Ug (hk.keepT (.of_all kall)) trivial, ?_⟩⟩
    have : s.heap.objs.size ≠ sysModules := Nat.ne_of_gt hm
    simpa using this
theorem Fh {a : Addr} {l : List (Int × MV)} (r : RepH prog w μ s.heap) (f : FzIn fz μ) (q : μ a = some (.idict l)) (hn : fits l.length) (hm : sysModules < s.heap.objs.size)
    (h : allocM fz μ (.idict l) fun c μ' => Q (.ref c) μ') : wpAny (model prog w) A (call (.type "dict") [.ref a]) (PostV prog w fz μ s Q) E s := by
  obtain ⟨kvs, hd, hk, hs⟩ := r a _ q
  have hl := hk.length
  refine kt_call_dict hs hd (by have := Yp hn; simp [*]) fun h' hd' hs' => ?_
  have kall : ∀ b o, s.heap.get? b = some o → h'.get? b = some o := fun b o e => (hs'.2 b (Nat.ne_of_lt (Heap.lt_size e))).trans (Heap.get?_push_of_some _ e)
  refine Km (tk := s.toks) h r f (K7 _) kall ⟨_, hd', hk.keepT (.of_all kall), ?_⟩
  have : s.heap.objs.size ≠ sysModules := Nat.ne_of_gt hm
  simpa using this
end
end Mine
end
section
set_option maxRecDepth 100000
namespace Mine
open PySem PySem.Calls PyProof.Rows PySem.W
section
variable {prog : Program} {w : World} {A : Around} {E : Value → Shared → Prop} {fz : List Addr} {μ : MH} {s : Shared} {Q : MQ} {d : Nat}
theorem op_isinst {t : TY} {v : MV} {x : Value} {b : Bool} (hv : RepV s.heap v x) (r : RepH prog w μ s.heap) (e : isTy μ t v = some b) {Q : Value → Shared → Prop} (h : ∀ s', Still s s' → Q (.bool b) s') :
    wpAny (model prog w) A (call (.builtin "isinstance") [x, .type (tyName t)]) Q E s := by
  cases v with
  | none =>
    obtain rfl := Option.some.inj e; obtain rfl : x = .none := hv
    cases t
    · exact IsiPair.NoneType_int (h _ ⟨rfl, rfl, rfl⟩)
    · exact IsiPair.NoneType_bool (h _ ⟨rfl, rfl, rfl⟩)
    · exact IsiPair.NoneType_str (h _ ⟨rfl, rfl, rfl⟩)
    · exact IsiPair.NoneType_tuple (h _ ⟨rfl, rfl, rfl⟩)
    · exact IsiPair.NoneType_list (h _ ⟨rfl, rfl, rfl⟩)
    · exact IsiPair.NoneType_dict (h _ ⟨rfl, rfl, rfl⟩)
  | bool bb =>
    obtain rfl := Option.some.inj e; obtain rfl : x = .bool bb := hv
    cases t
    · exact IsiPair.bool_int (h _ ⟨rfl, rfl, rfl⟩)
    · exact IsiPair.bool_bool (h _ ⟨rfl, rfl, rfl⟩)
    · exact IsiPair.bool_str (h _ ⟨rfl, rfl, rfl⟩)
    · exact IsiPair.bool_tuple (h _ ⟨rfl, rfl, rfl⟩)
    · exact IsiPair.bool_list (h _ ⟨rfl, rfl, rfl⟩)
    · exact IsiPair.bool_dict (h _ ⟨rfl, rfl, rfl⟩)
  | int ii =>
    obtain rfl := Option.some.inj e; obtain ⟨u, rfl⟩ := hv
    cases t
    · exact IsiPair.int_int (h _ ⟨rfl, rfl, rfl⟩)
    · exact IsiPair.int_bool (h _ ⟨rfl, rfl, rfl⟩)
    · exact IsiPair.int_str (h _ ⟨rfl, rfl, rfl⟩)
    · exact IsiPair.int_tuple (h _ ⟨rfl, rfl, rfl⟩)
    · exact IsiPair.int_list (h _ ⟨rfl, rfl, rfl⟩)
    · exact IsiPair.int_dict (h _ ⟨rfl, rfl, rfl⟩)
  | str ss =>
    obtain rfl := Option.some.inj e; obtain ⟨u, rfl⟩ := hv
    cases t
    · exact IsiPair.str_int (h _ ⟨rfl, rfl, rfl⟩)
    · exact IsiPair.str_bool (h _ ⟨rfl, rfl, rfl⟩)
    · exact IsiPair.str_str (h _ ⟨rfl, rfl, rfl⟩)
    · exact IsiPair.str_tuple (h _ ⟨rfl, rfl, rfl⟩)
    · exact IsiPair.str_list (h _ ⟨rfl, rfl, rfl⟩)
    · exact IsiPair.str_dict (h _ ⟨rfl, rfl, rfl⟩)
  | tup ll =>
    obtain rfl := Option.some.inj e; obtain ⟨a, vs, n, rfl, ho, _⟩ := hv
    cases t
    · exact IsiPair.tuple_int ho rfl (h _ ⟨rfl, rfl, rfl⟩)
    · exact IsiPair.tuple_bool ho rfl (h _ ⟨rfl, rfl, rfl⟩)
    · exact IsiPair.tuple_str ho rfl (h _ ⟨rfl, rfl, rfl⟩)
    · exact IsiPair.tuple_tuple ho rfl (h _ ⟨rfl, rfl, rfl⟩)
    · exact IsiPair.tuple_list ho rfl (h _ ⟨rfl, rfl, rfl⟩)
    · exact IsiPair.tuple_dict ho rfl (h _ ⟨rfl, rfl, rfl⟩)
  | ref a =>
    obtain rfl : x = .ref a := hv
    have dicts : ∀ o, s.heap.get? a = some o → o.cls = .type "dict" → b = decide (t = .dict) → wpAny (model prog w) A (call (.builtin "isinstance") [.ref a, .type (tyName t)]) Q E s := by
      intro o ho hc hb
      subst hb
      cases t
      · exact IsiPair.dict_int ho hc (h _ ⟨rfl, rfl, rfl⟩)
      · exact IsiPair.dict_bool ho hc (h _ ⟨rfl, rfl, rfl⟩)
      · exact IsiPair.dict_str ho hc (h _ ⟨rfl, rfl, rfl⟩)
      · exact IsiPair.dict_tuple ho hc (h _ ⟨rfl, rfl, rfl⟩)
      · exact IsiPair.dict_list ho hc (h _ ⟨rfl, rfl, rfl⟩)
      · exact IsiPair.dict_dict ho hc (h _ ⟨rfl, rfl, rfl⟩)
    replace e : isTyO t (μ a) = some b := e
    cases q : μ a with
    | none => rw [q] at e; cases e
    | some mo =>
      rw [q] at e
      cases mo with
      | list l =>
        obtain rfl := Option.some.inj e
        obtain ⟨vs, ⟨n, ho⟩, _⟩ := r a _ q
        cases t
        · exact IsiPair.list_int ho rfl (h _ ⟨rfl, rfl, rfl⟩)
        · exact IsiPair.list_bool ho rfl (h _ ⟨rfl, rfl, rfl⟩)
        · exact IsiPair.list_str ho rfl (h _ ⟨rfl, rfl, rfl⟩)
        · exact IsiPair.list_tuple ho rfl (h _ ⟨rfl, rfl, rfl⟩)
        · exact IsiPair.list_list ho rfl (h _ ⟨rfl, rfl, rfl⟩)
        · exact IsiPair.list_dict ho rfl (h _ ⟨rfl, rfl, rfl⟩)
      | idict l => obtain ⟨kvs, ⟨o, es, ep, ho, hc, _⟩, _⟩ := r a _ q; exact dicts o ho hc.1 (Option.some.inj e).symm
      | sdict l => obtain ⟨kvs, ⟨o, es, ep, ho, hc, _⟩, _⟩ := r a _ q; exact dicts o ho hc.1 (Option.some.inj e).symm
  | _ => cases e
theorem op_len {v : MV} {x : Value} (hv : RepV s.heap v x) (r : RepH prog w μ s.heap) (h : lenM v Q μ) : wpAny (model prog w) A (call (.builtin "len") [x]) (PostV prog w fz μ s Q) E s := by
  have f63 : ∀ {n : Nat}, fits n → (n : Int) < 2 ^ 63 := fun h => by unfold fits at h; lia
  cases v with
  | tup l =>
    obtain ⟨a, vs, n, rfl, ho, hr⟩ := hv
    have hl := hr.length
    refine P.len_tuple ho (by have := f63 h.1; simp; lia) ?_
    rw [show vs.toArray.size = l.length by simp [hl]]
    exact Yl h.2 r (by simp [RepV]) rfl rfl rfl
  | str st =>
    obtain ⟨t, rfl⟩ := hv
    exact P.len_str (by have := f63 h.1; lia) (Yl h.2 r (by simp [RepV]) rfl rfl rfl)
  | ref a =>
    obtain rfl : x = .ref a := hv
    replace h : lenO (μ a) fun n => Q (.int n) μ := h
    cases q : μ a with
    | none => rw [q] at h; exact False.elim h
    | some mo =>
      rw [q] at h
      cases mo with
      | list l =>
        obtain ⟨vs, h1, hr⟩ := r a _ q
        have hl := hr.length
        refine Calls.call_len_list h1.isList (by have := f63 h.1; simp; lia) ?_
        rw [show vs.toArray.size = l.length by simp [hl]]
        exact Yl h.2 r (by simp [RepV]) rfl rfl rfl
      | idict l =>
        obtain ⟨kvs, hd, hk, hs⟩ := r a _ q
        have hl := hk.length
        refine call_len_dict hs hd (by have := f63 h.1; lia) ?_
        rw [hl]
        exact Yl h.2 r (by simp [RepV]) rfl rfl rfl
      | sdict l =>
        obtain ⟨kvs, hd, hk, hs⟩ := r a _ q
        have hl := hk.length
        refine call_len_dict hs hd (by have := f63 h.1; lia) ?_
        rw [hl]
        exact Yl h.2 r (by simp [RepV]) rfl rfl rfl
  | _ => exact False.elim h
theorem op_min2 {x y : Int} {t u : Tok} (hA : A.handled = none) (r : RepH prog w μ s.heap) (h : Q (.int (min x y)) μ) : wpAny (model prog w) A (call (.builtin "min") [.int x t, .int y u]) (PostV prog w fz μ s Q) E s := by
  refine min_two_ints hA fun h' tk k => ?_
  by_cases c : y < x
  · rw [if_pos c]; exact J4 h r k (by simp only [RepV]; exact ⟨u, by congr 1; lia⟩)
  · rw [if_neg c]; exact J4 h r k (by simp only [RepV]; exact ⟨t, by congr 1; lia⟩)
theorem op_max2 {x y : Int} {t u : Tok} (hA : A.handled = none) (r : RepH prog w μ s.heap) (h : Q (.int (max x y)) μ) : wpAny (model prog w) A (call (.builtin "max") [.int x t, .int y u]) (PostV prog w fz μ s Q) E s := by
  refine max_two_ints hA fun h' tk k => ?_
  by_cases c : y > x
  · rw [if_pos c]; exact J4 h r k (by simp only [RepV]; exact ⟨u, by congr 1; lia⟩)
  · rw [if_neg c]; exact J4 h r k (by simp only [RepV]; exact ⟨t, by congr 1; lia⟩)
theorem op_list {v : MV} {x : Value} {l : List MV} (hA : A.handled = none) (hv : RepV s.heap v x) (r : RepH prog w μ s.heap) (f : FzIn fz μ) (e : items μ v = some l) (hn : fits l.length) (hns : ∀ st, v ≠ .str st)
    (h : allocM fz μ (.list l) fun c μ' => Q (.ref c) μ') : wpAny (model prog w) A (call (.type "list") [x]) (PostV prog w fz μ s Q) E s := by
  rcases Fs r hv e with ⟨a, vs, n, rfl, ho, hr⟩ | ⟨st, t, rfl⟩ | ⟨da, ⟨T, p, n, P, OK, rfl, K, ok, rfl, hP⟩⟩
  · have hl := hr.length
    have fin : ∀ h' c', (∀ b o', s.heap.get? b = some o' → h'.get? b = some o') → h'.get? s.heap.objs.size = some { cls := .type "list", dict := none, data := .seq vs.toArray c', slots := #[] } → PostV prog w fz μ s Q (.ref s.heap.objs.size) { s with heap := h' } :=
      fun h' c' k hg => Km (tk := s.toks) h r f (K7 _) k ⟨vs, ⟨c', hg⟩, hr.keepT (.of_all k)⟩
    rcases ho with ho | ho
    · exact call_list_seq a (.inl rfl) ho rfl rfl fin (by have := Yp hn; simp; simp [*])
    · exact call_list_seq a (.inr rfl) ho rfl rfl fin (by have := Yp hn; simp; simp [*])
  · cases v <;> simp [RepV] at hv
    exact absurd rfl (hns _)
  · refine kdl_call K hA ok (Yp hn) fun h' tk acc c k hg ha => Km h r f (K7 _) k ⟨acc.toList, ⟨c, by simpa using hg⟩, N4 (by rw [Array.length_toList]; exact ha.1) fun j u hj => ?_⟩
    exact hP j u (ha.2 j u (by rw [← Array.getElem?_toList]; exact hj)) h' (.of_all k)
noncomputable def maxFrom (f : Nat → Int) (j k : Nat) (b : Int) : Int := (List.range' j k).foldl (fun m i => max m (f i)) b
theorem max_loop {R : Result → Shared → Prop} {I S : Addr} {fp wr : List Addr} {n : Nat} {P : Nat → Value → Prop} {St : Nat → Heap → Prop} {kw : List (Str × Value)} (W : Walks prog w A.in1 I fp wr n P St) (f : Nat → Int) (hP : ∀ i v, P i v → ∃ t, v = .int (f i) t) (hSf : S ∉ fp) :
    ∀ (k j : Nat) (s : Shared) (b : Int) (t : Tok) (c : Nat), n = j + k → St j s.heap → s.heap.get? S = some { cls := .type "list", dict := none, data := .seq #[.int b t, .int b t] c, slots := #[] } →
      (∀ t' h' tk, (∀ b o, b ∉ wr → b ≠ S → s.heap.get? b = some o → h'.get? b = some o) → R (.ok (.ret (.int (maxFrom f j k b) t'))) { s with heap := h', toks := tk }) →
      codeAny (model prog w) A (.builtin "max.loop" ⟨[.ref I, .none, .ref S], kw⟩) R s := by
  have hSw : S ∉ wr := fun h => hSf (W.sub _ h)
  have hname : (toString "max" ++ toString ".loop" : String) = "max.loop" := by decide
  intro k
  induction k with
  | zero =>
    intro j s b t c hn hst hS hR
    refine codeAny_builtin F.entry_max_loop ?_
    rw [Around.under_plainId F.plain_max_loop _]
    show wpAny _ A.in1 (seqItems? (.ref S) >>= _) _ _ s
    refine wpAny_bind (wpAny_seqItems hS rfl ?_)
    show wpAny _ A.in1 (tryCatch (pyNext (.ref I)) _ >>= _) _ _ s
    refine wpAny_bind (wpAny_tryCatch (W.done s _ _ (by rw [hn]; exact hst) fun h' tk hk' => ?_))
    have hS' := hk' S _ hSw hS
    show wpAny _ A.in1 (updateSeq S (fun _ => #[]) >>= _) _ _ _
    refine wpAny_bind ?_
    refine wpAny_updateSeq hS' rfl (wpAny_bind (wpAny_letGo (wpAny_pure ?_)))
    exact hR t _ tk fun b o hbw hbS e => (Heap.get?_update_other _ _ (Ne.symm hbS)).trans (hk' b o hbw e)
  | succ k ih =>
    intro j s b t c hn hst hS hR
    refine codeAny_builtin F.entry_max_loop ?_
    rw [Around.under_plainId F.plain_max_loop _]
    show wpAny _ A.in1 (seqItems? (.ref S) >>= _) _ _ s
    refine wpAny_bind (wpAny_seqItems hS rfl ?_)
    show wpAny _ A.in1 (tryCatch (pyNext (.ref I)) _ >>= _) _ _ s
    refine wpAny_bind (wpAny_tryCatch (W.item j s _ _ (by simp [*]) hst fun v h' tk hPv hst' hk' => ?_))
    obtain ⟨u, rfl⟩ := hP j v hPv
    have hS' := hk' S _ hSw hS
    show wpAny _ A.in1 (tryCatch (holding [.int (f j) u, .int (f j) u] (compareOp .Gt (.int (f j) u) (.int b t) >>= _)) _ >>= _) _ _ _
    refine wpAny_bind (wpAny_tryCatch (wpAny_holding (wpAny_bind (PyProof.Rows.gt_int ?_))))
    refine wpAny_bind (wpAny_holding (wpAny_truthy_bool ?_))
    refine wpAny_bind (wpAny_letGo (wpAny_pure ?_))
    have step : ∀ b', b' = max b (f j) → maxFrom f (j + 1) k b' = maxFrom f j (k + 1) b := fun b' e => by
      unfold maxFrom; rw [List.range'_succ, List.foldl_cons, e]
    by_cases hb : b < f j
    · rw [decide_eq_true hb]
      simp only [if_true]
      refine wpAny_bind ?_
      refine wpAny_updateSeq hS' rfl (wpAny_bind (wpAny_letGo ?_))
      rw [hname]
      refine wpAny_pure ⟨plainId_quiet F.plain_max_loop _, ih (j + 1) _ (f j) u _ (by lia) (W.frame _ _ _ hst' fun b hbf o e => ?_) (Heap.get?_update_self _ hS' rfl) fun t' h'' tk'' hk'' => ?_⟩
      · exact (Heap.get?_update_other _ _ (fun h : S = b => hSf (by rw [h]; exact hbf))).trans e
      · rw [step _ (by lia)]
        exact hR t' h'' tk'' fun b o hbw hbS e => hk'' b o hbw hbS ((Heap.get?_update_other _ _ (Ne.symm hbS)).trans (hk' b o hbw e))
    · rw [decide_eq_false hb]
      simp only [Bool.false_eq_true, if_false]
      refine wpAny_bind (wpAny_letGo ?_)
      rw [hname]
      refine wpAny_pure ⟨plainId_quiet F.plain_max_loop _, ih (j + 1) _ b t c (by lia) hst' hS' fun t' h'' tk'' hk'' => ?_⟩
      rw [step _ (by lia)]
      exact hR t' h'' tk'' fun b o hbw hbS e => hk'' b o hbw hbS (hk' b o hbw e)
theorem int_src {v : MV} {x : Value} {l : List MV} {ns : List Int} (hA : A.handled = none) (hv : RepV s.heap v x) (r : RepH prog w μ s.heap) (e : items μ v = some l) (hi : intsOf l = some ns) (hns : ∀ st, v ≠ .str st) :
    ∃ oI fp P St, (∀ (E : Value → Shared → Prop) (Q : Value → Shared → Prop), Q (.ref s.heap.objs.size) { s with heap := s.heap.push oI } → wpAny (model prog w) A (pyIter x) Q E s) ∧ Walks prog w A s.heap.objs.size fp [s.heap.objs.size] ns.length P St ∧ St 0 (s.heap.push oI) ∧
      (∀ b ∈ fp, b < (s.heap.push oI).objs.size) ∧ ∀ (i : Nat) u, P i u → ∃ t, u = .int (ns.getD i 0) t := by
  have hnl := P5 hi
  have get : ∀ (i : Nat) (m : MV), l[i]? = some m → m = .int (ns.getD i 0) := by
    intro i m hm
    have : ∀ (l : List MV) (ns : List Int), intsOf l = some ns → ∀ (i : Nat) (m : MV), l[i]? = some m → m = .int (ns.getD i 0) := by
      intro l
      induction l with
      | nil => intro ns e i m hm; simp at hm
      | cons y l ih =>
        intro ns e i m hm
        unfold intsOf at e
        rw [List.mapM_cons] at e
        simp only [Option.bind_eq_bind, Option.bind_eq_some_iff, Option.pure_def, Option.some.injEq] at e
        obtain ⟨z, e1, ns', e2, rfl⟩ := e
        cases i with
        | zero => simp at hm; subst hm; cases y <;> simp at e1; subst e1; rfl
        | succ i => simpa using ih ns' e2 i m (by simpa using hm)
    exact this l ns hi i m hm
  rcases Fs r hv e with ⟨a, vs, n, rfl, ho, hr⟩ | ⟨st, t, rfl⟩ | ⟨da, ⟨T, p, n, P, OK, rfl, K, ok, rfl, hP⟩⟩
  · have hl := hr.length
    have lta : a < s.heap.objs.size := by rcases ho with ho | ho <;> exact Heap.lt_size ho
    have hgt : ∀ (i : Nat) u, vs.toArray[i]? = some u → ∃ t, u = .int (ns.getD i 0) t := by
      intro i u hu
      rw [List.getElem?_toArray] at hu
      have hlt := (List.getElem?_eq_some_iff.mp hu).1
      have hlt2 : i < l.length := by lia
      have hli : l[i]? = some l[i] := List.getElem?_eq_getElem hlt2
      obtain ⟨y, h1, h2⟩ := hr.get hli
      rw [hu] at h1; cases h1
      rw [get i _ hli] at h2
      simpa [RepV] using h2
    have sz : vs.toArray.size = ns.length := by simp; simp [*]
    rcases ho with ho | ho
    · have hL : s.heap.IsList a vs.toArray := ⟨_, ho, rfl, n, rfl⟩
      refine ⟨_, _, _, _, fun E Q hq => wpAny_pyIter_list hL hq, sz ▸ Walks.list hA s.heap.objs.size a (Nat.ne_of_lt lta) vs.toArray, ⟨⟨_, Heap.get?_push_size _ rfl, rfl, rfl⟩, hL.push _⟩, ?_, hgt⟩
      intro b hb; rw [Heap.size_push]; simp at hb; rcases hb with rfl | rfl
      · exact Nat.lt_succ_self _
      · exact Nat.lt_succ_of_lt lta
    · have hL : s.heap.IsTuple a vs.toArray := ⟨_, ho, rfl, n, rfl⟩
      refine ⟨_, _, _, _, fun E Q hq => wpAny_pyIter_tuple hL hq, sz ▸ Walks.tuple hA s.heap.objs.size a (Nat.ne_of_lt lta) vs.toArray, ⟨⟨_, Heap.get?_push_size _ rfl, rfl, rfl⟩, hL.push _⟩, ?_, hgt⟩
      intro b hb; rw [Heap.size_push]; simp at hb; rcases hb with rfl | rfl
      · exact Nat.lt_succ_self _
      · exact Nat.lt_succ_of_lt lta
  · cases v <;> simp [RepV] at hv
    exact absurd rfl (hns _)
  · obtain ⟨oI, St, h1, h2, h3⟩ := K.iter A s hA ok
    refine ⟨oI, _, P, St, h1, hnl ▸ h2, h3, ?_, fun i u hu => ?_⟩
    · have := (K.there _ ok).2
      intro b hb; rw [Heap.size_push]; simp at hb; rcases hb with rfl | rfl
      · exact Nat.lt_succ_self _
      · exact Nat.lt_succ_of_lt this
    · obtain ⟨m, hm, hr⟩ := hP i u hu s.heap (.of_all fun _ _ e => e)
      rw [get i m hm] at hr
      simpa [RepV] using hr
theorem Fk (ns : List Int) : ∀ (k j : Nat) (b : Int), ns.length = j + k → maxFrom (fun i => ns.getD i 0) j k b = (ns.drop j).foldl max b := by
  intro k
  induction k with
  | zero => intro j b h; simp [maxFrom, List.drop_eq_nil_of_le (by simp [*] : ns.length ≤ j)]
  | succ k ih =>
    intro j b h
    have hlt : j < ns.length := by simp [*]
    rw [List.drop_eq_getElem_cons hlt, List.foldl_cons]
    unfold maxFrom
    rw [List.range'_succ, List.foldl_cons]
    have := ih (j + 1) (max b ns[j]) (by lia)
    unfold maxFrom at this
    dsimp only at this ⊢
    rw [show ns.getD j 0 = ns[j] by simp [List.getD, hlt]]
    exact this
theorem check_max1 (x : Value) : checkBuiltinCall "max" ⟨[x], []⟩ = pure () := by kernel_rfl
theorem check_maxD (x d : Value) : checkBuiltinCall "max" ⟨[x], [(Str.ofString "default", d)]⟩ = pure () := by kernel_rfl
theorem op_max {v : MV} {x : Value} {l : List MV} {ns : List Int} {dflt : Option (Int × Tok)} {m : Int} (hA : A.handled = none) (hv : RepV s.heap v x) (r : RepH prog w μ s.heap) (e : items μ v = some l) (hi : intsOf l = some ns) (hns : ∀ st, v ≠ .str st)
    (hm : (maxI ns).or (dflt.map (·.1)) = some m) (h : Q (.int m) μ) :
    wpAny (model prog w) A (call (.builtin "max") [x] (dflt.toList.map fun d => (Str.ofString "default", .int d.1 d.2))) (PostV prog w fz μ s Q) E s := by
  have hname : (toString "max" ++ toString ".loop" : String) = "max.loop" := by decide
  obtain ⟨oI, fp, P, St, hit, W, hst, hfp, hP⟩ := int_src (A := A.in1) (w := w) (prog := prog) hA hv r e hi hns
  have hchk : checkBuiltinCall "max" ⟨[x], dflt.toList.map fun d => (Str.ofString "default", .int d.1 d.2)⟩ = pure () := by
    cases dflt
    · exact check_max1 x
    · exact check_maxD x _
  refine wpAny_call (codeAny_call_builtin F.plain_max F.entry_max (wpAny_of_eq hchk ?_))
  have hbp : Builtin.Builtins.bindParams "max" ["key", "default"] 0 ⟨[], dflt.toList.map fun d => (Str.ofString "default", .int d.1 d.2)⟩ = pure [none, dflt.map fun d => .int d.1 d.2] := by
    cases dflt <;> rfl
  show wpAny _ A.in1 (Builtin.Builtins.bindParams "max" ["key", "default"] 0 ⟨[], dflt.toList.map fun d => (Str.ofString "default", .int d.1 d.2)⟩ >>= _) _ _ s
  refine wpAny_bind (wpAny_of_eq hbp ?_)
  refine wpAny_bind (wpAny_pure ?_)
  refine wpAny_bind (hit _ _ ?_)
  refine wpAny_bind (wpAny_newObj_type ?_)
  rw [hname]
  refine wpAny_pure ⟨plainId_quiet F.plain_max_loop _, ?_⟩
  have hSf : (s.heap.push oI).objs.size ∉ fp := fun hm => Nat.lt_irrefl _ (hfp _ hm)
  have hSw : (s.heap.push oI).objs.size ∉ [s.heap.objs.size] := fun h => hSf (W.sub _ h)
  have hS : ((s.heap.push oI).push { cls := .type "list", data := .seq ([] : List Value).toArray }).get? (s.heap.push oI).objs.size = some { cls := .type "list", dict := none, data := .seq ([] : List Value).toArray 0, slots := #[] } := Heap.get?_push_size _ rfl
  have hst2 : St 0 ((s.heap.push oI).push { cls := .type "list", data := .seq ([] : List Value).toArray }) := W.frame _ _ _ hst fun b _ o e => Heap.get?_push_of_some _ e
  have kall : ∀ h' : Heap, (∀ b o, b ∉ [s.heap.objs.size] → b ≠ (s.heap.push oI).objs.size → ((s.heap.push oI).push { cls := .type "list", data := .seq ([] : List Value).toArray }).get? b = some o → h'.get? b = some o) → ∀ b o, s.heap.get? b = some o → h'.get? b = some o :=
    fun h' k b o e => k b o (by simp; exact Nat.ne_of_lt (Heap.lt_size e)) (by rw [Heap.size_push]; exact Nat.ne_of_lt (Nat.lt_succ_of_lt (Heap.lt_size e))) (Heap.get?_push_of_some _ (Heap.get?_push_of_some _ e))
  refine codeAny_builtin F.entry_max_loop ?_
  rw [Around.under_plainId F.plain_max_loop _]
  show wpAny _ A.in1 (seqItems? (.ref _) >>= _) _ _ _
  refine wpAny_bind (wpAny_seqItems hS rfl ?_)
  show wpAny _ A.in1 (tryCatch (pyNext (.ref _)) _ >>= _) _ _ _
  cases ns with
  | nil =>
    refine wpAny_bind (wpAny_tryCatch (W.done _ _ _ hst2 fun h' tk hk' => ?_))
    cases dflt with
    | none => simp [maxI] at hm
    | some dd =>
      obtain ⟨di, dt⟩ := dd
      simp [maxI] at hm
      subst hm
      show wpAny _ _ (rule _ >>= _) _ _ _
      refine wpAny_bind (wpAny_rule (wpAny_pure ?_))
      exact J4 h r (kall h' fun b o h1 h2 e => hk' b o h1 e) (by simp [RepV])
  | cons n0 nr =>
    refine wpAny_bind (wpAny_tryCatch (W.item 0 _ _ _ (by simp) hst2 fun v' h' tk hPv hst' hk' => ?_))
    obtain ⟨t0, rfl⟩ := hP 0 v' hPv
    have hS' := hk' _ _ hSw hS
    show wpAny _ A.in1 (updateSeq _ (fun _ => #[.int n0 t0, .int n0 t0]) >>= _) _ _ _
    refine wpAny_bind ?_
    refine wpAny_updateSeq hS' rfl ?_
    rw [hname]
    refine wpAny_pure ⟨plainId_quiet F.plain_max_loop _, max_loop W (fun i => (n0 :: nr).getD i 0) hP hSf nr.length 1 _ n0 t0 _ (by simp; lia) (W.frame _ _ _ hst' fun b hbf o e => ?_) (Heap.get?_update_self _ hS' rfl) fun t' h'' tk'' hk'' => ?_⟩
    · exact (Heap.get?_update_other _ _ (fun q => hSf (by rw [q]; exact hbf))).trans e
    · rw [Fk (n0 :: nr) nr.length 1 n0 (by simp; lia)]
      have hm' : m = (List.drop 1 (n0 :: nr)).foldl max n0 := by simp [maxI] at hm; simp [hm]
      rw [← hm']
      refine J4 h r (kall h'' fun b o h1 h2 e => hk'' b o h1 h2 ((Heap.get?_update_other _ _ (Ne.symm h2)).trans (hk' b o h1 e))) (by simp [RepV])
end
end Mine
end
section
set_option maxRecDepth 100000
namespace Mine
open PySem PySem.Calls PyProof.Rows PySem.W
section
variable {prog : Program} {w : World} {A : Around} {E : Value → Shared → Prop} {fz : List Addr} {μ : MH} {s : Shared} {Q : MQ} {d : Nat}
theorem Vw {v : MV} (h : isStrV v = false) : ∀ st, v ≠ .str st := fun st e => by subst e; simp [isStrV] at h
theorem P8 {h : Heap} : ∀ {l : List MV} {vs : List Value} {ns : List Str}, RepVs h l vs → strsOf l = some ns → StrsAre vs ns
  | [], [], ns => fun _ e => by simp [strsOf] at e; subst e; exact .nil
  | m :: l, v :: vs, ns => fun r e => by
    simp only [RepVs] at r
    unfold strsOf at e
    rw [List.mapM_cons] at e
    simp only [Option.bind_eq_bind, Option.bind_eq_some_iff, Option.pure_def, Option.some.injEq] at e
    obtain ⟨i, e1, ns', e2, rfl⟩ := e
    cases m <;> simp at e1
    subst e1
    simp only [RepV] at r
    obtain ⟨⟨t, rfl⟩, hr⟩ := r
    exact .cons _ t (P8 hr e2)
  | [], _ :: _, _ => fun r _ => by simp [RepVs] at r
  | _ :: _, [], _ => fun r _ => by simp [RepVs] at r
noncomputable def MethOk (prog : Program) (w : World) (s : Shared) (name : Str) (ov : Value) (id : String) : Prop :=
  ∃ T, PlainAttrs T ∧ Slot T name id ∧ typeOf (.builtin id) = pure (.type "method_descriptor") ∧ s.TypeIs ov T ∧ (∀ a, ov = .ref a → ∃ ob, s.heap.get? a = some ob ∧ ob.dict = none)
theorem ty_append : typeOf (.builtin "list.append") = pure (.type "method_descriptor") := by show builtinType _ = _; rw [builtinType_eq_fast]; kernel_rfl
theorem ty_extend : typeOf (.builtin "list.extend") = pure (.type "method_descriptor") := by show builtinType _ = _; rw [builtinType_eq_fast]; kernel_rfl
theorem ty_keys : typeOf (.builtin "dict.keys") = pure (.type "method_descriptor") := by show builtinType _ = _; rw [builtinType_eq_fast]; kernel_rfl
theorem ty_values : typeOf (.builtin "dict.values") = pure (.type "method_descriptor") := by show builtinType _ = _; rw [builtinType_eq_fast]; kernel_rfl
theorem ty_get : typeOf (.builtin "dict.get") = pure (.type "method_descriptor") := by show builtinType _ = _; rw [builtinType_eq_fast]; kernel_rfl
theorem ty_update : typeOf (.builtin "dict.update") = pure (.type "method_descriptor") := F.type_dict_update
theorem ty_join : typeOf (.builtin "str.join") = pure (.type "method_descriptor") := by show builtinType _ = _; rw [builtinType_eq_fast]; kernel_rfl
noncomputable def methId : MM → String
  | .append => "list.append" | .extend => "list.extend" | .keys => "dict.keys" | .values => "dict.values" | .get2 => "dict.get" | .join => "str.join"
  | .pop2 => "dict.pop" | .clear => "dict.clear" | .update => "dict.update" | .count => "list.count" | .index => "list.index" | .split => "str.split"
theorem meth_ok {m : MM} {o : MV} {x : Value} (hv : RepV s.heap o x) (r : RepH prog w μ s.heap) (e : mmKind m μ o = true) : MethOk prog w s (Str.ofString (mmName m)) x (methId m) := by
  have lists : ∀ a, isListO (μ a) = true → s.TypeIs (.ref a) "list" ∧ (∀ b, Value.ref a = .ref b → ∃ ob, s.heap.get? b = some ob ∧ ob.dict = none) := by
    intro a q
    obtain ⟨l, q⟩ := isListO_inv q
    obtain ⟨vs, ⟨n, ho⟩, _⟩ := r a _ q
    exact ⟨⟨_, ho, rfl⟩, fun b e => by cases e; exact ⟨_, ho, rfl⟩⟩
  have dicts : ∀ a, isDictO (μ a) = true → s.TypeIs (.ref a) "dict" ∧ (∀ b, Value.ref a = .ref b → ∃ ob, s.heap.get? b = some ob ∧ ob.dict = none) := by
    intro a q
    rcases O7 q with ⟨l, hq⟩ | ⟨l, hq⟩
    · obtain ⟨kvs, ⟨o, es, ep, ho, hc, _⟩, _⟩ := r a _ hq
      exact ⟨⟨_, ho, hc.1⟩, fun b e => by cases e; exact ⟨_, ho, hc.2.1⟩⟩
    · obtain ⟨kvs, ⟨o, es, ep, ho, hc, _⟩, _⟩ := r a _ hq
      exact ⟨⟨_, ho, hc.1⟩, fun b e => by cases e; exact ⟨_, ho, hc.2.1⟩⟩
  cases m with
  | append => replace e := Vv e; obtain ⟨a, rfl, e⟩ := e; obtain rfl : x = .ref a := hv; exact ⟨_, F.plainAttrs_list, F.slot_list_append, ty_append, lists a e⟩
  | extend => replace e := Vv e; obtain ⟨a, rfl, e⟩ := e; obtain rfl : x = .ref a := hv; exact ⟨_, F.plainAttrs_list, F.slot_list_extend, ty_extend, lists a e⟩
  | keys => replace e := Vv e; obtain ⟨a, rfl, e⟩ := e; obtain rfl : x = .ref a := hv; exact ⟨_, F.plainAttrs_dict, F.slot_dict_keys, ty_keys, dicts a e⟩
  | values => replace e := Vv e; obtain ⟨a, rfl, e⟩ := e; obtain rfl : x = .ref a := hv; exact ⟨_, F.plainAttrs_dict, F.slot_dict_values, ty_values, dicts a e⟩
  | get2 => replace e := Vv e; obtain ⟨a, rfl, e⟩ := e; obtain rfl : x = .ref a := hv; exact ⟨_, F.plainAttrs_dict, F.slot_dict_get, ty_get, dicts a e⟩
  | update => replace e := Vv e; obtain ⟨a, rfl, e⟩ := e; obtain rfl : x = .ref a := hv; exact ⟨_, F.plainAttrs_dict, F.slot_dict_update, ty_update, dicts a e⟩
  | join => replace e := isStrV_inv e; obtain ⟨y, rfl⟩ := e; obtain ⟨t, rfl⟩ := hv; exact ⟨_, F.plainAttrs_str, F.slot_str_join, ty_join, typeIs_str _ _ _, fun b e => by cases e⟩
  | _ => exact (Bool.false_ne_true e).elim
theorem RepVs.none {h : Heap} {vs : List Value} (r : RepVs h [] vs) : vs = [] := by
  cases vs with
  | nil => rfl
  | cons _ _ => exact False.elim r
theorem RepVs.one {h : Heap} {m : MV} {vs : List Value} (r : RepVs h [m] vs) : ∃ v, vs = [v] ∧ RepV h m v := by
  cases vs with
  | nil => exact False.elim r
  | cons v vs => obtain rfl := RepVs.none r.2; exact ⟨v, rfl, r.1⟩
theorem RepVs.two {h : Heap} {m n : MV} {vs : List Value} (r : RepVs h [m, n] vs) : ∃ v u, vs = [v, u] ∧ RepV h m v ∧ RepV h n u := by
  cases vs with
  | nil => exact False.elim r
  | cons v vs => obtain ⟨u, rfl, ru⟩ := RepVs.one r.2; exact ⟨v, u, rfl, r.1, ru⟩
theorem op_meth {m : MM} {o : MV} {x : Value} {args : List MV} {vals : List Value} (hA : OkA d A) (hv : RepV s.heap o x) (ha : RepVs s.heap args vals) (r : RepH prog w μ s.heap) (f : FzIn fz μ) (h : methM fz m o args Q μ) :
    wpAny (model prog w) A (call (.builtin (methId m)) (x :: vals)) (PostV prog w fz μ s Q) E s := by
  cases m with
  | append =>
    replace h := Zn h; obtain ⟨a, rfl, h⟩ := h
    replace h := U0 h; obtain ⟨v, rfl, l, q, hf, hn, h⟩ := h
    obtain rfl : x = .ref a := hv
    replace ha := ha.one; obtain ⟨y, rfl, ha⟩ := ha
    obtain ⟨vs, h1, hr⟩ := r a _ q
    have hl := hr.length
    refine wpAny_list_append_plain h1 (fun h' hp hs => ?_) (by have := Yp hn; rw [List.size_toArray, hl]; assumption)
    have k : ∀ b o, b ≠ a → s.heap.get? b = some o → h'.get? b = some o := fun b o hb e => (hs.2 b hb).trans e
    refine ⟨.none, _, h, rfl, r.update q k fun kt => ⟨vs ++ [y], by simpa using hp, (hr.append (m' := [v]) (v' := [y]) ⟨ha, trivial⟩).keepT kt⟩, ?_⟩
    exact Grow.update (tk := s.toks) q hf k
  | extend =>
    replace h := Zn h; obtain ⟨a, rfl, h⟩ := h
    replace h := U0 h; obtain ⟨v, rfl, h⟩ := h
    replace h := Zn h; obtain ⟨b, rfl, l, y, q, hf, hy, hab, hn, h⟩ := h
    obtain rfl : x = .ref a := hv
    replace ha := ha.one; obtain ⟨z, rfl, ha⟩ := ha
    obtain rfl : z = .ref b := ha
    obtain ⟨vs, ⟨n1, h1⟩, hr⟩ := r a _ q
    obtain ⟨ws, ⟨n2, h2⟩, hw, _⟩ := Un r hy
    have hl := hr.length
    have hl2 := hw.length
    have hfit := Yp hn
    have hsz : vs.toArray.size + ws.toArray.size ≤ sizeLine := by simp only [List.size_toArray]; simp [*]
    refine call_meets F.slot_list_extend ⟨_, h1, rfl⟩ F.entry_list_extend (F.args_list_extend_2 _ _) (AutoSeq1.list_extend_list_list_0 a vs.toArray n1 b ws.toArray n2 ?_ (by lia) (by exact Nat.le_succ_of_le (by assumption))) ⟨h1, h2, ?_⟩
    · simp only [Builtin.List.listTooLong]
      have : ¬ (vs.toArray.size + ws.toArray.size > sizeLine) := by simp [*]
      simp only [decide_eq_false this, Bool.and_false, Bool.false_eq_true, not_false_eq_true]
    · have k : ∀ b o, b ≠ a → s.heap.get? b = some o → (s.heap.update a (Obj.mapSeq fun x => x ++ ws.toArray)).get? b = some o := fun b o hb e => (Heap.get?_update_other _ _ (Ne.symm hb)).trans e
      refine ⟨.none, _, h, rfl, r.update q k fun kt => ⟨vs ++ ws, ?_, (hr.append hw).keepT kt⟩, ?_⟩
      · have := Heap.get?_update_self (Obj.mapSeq fun x => x ++ ws.toArray) h1 rfl
        refine ⟨if (vs.toArray ++ ws.toArray).size == vs.toArray.size then n1 else n1 + 1, ?_⟩
        rw [this]
        simp [Obj.mapSeq]
      · exact Grow.update (tk := s.toks) q hf k
  | update =>
    replace h := Zn h; obtain ⟨a, rfl, h⟩ := h
    replace h := U0 h; obtain ⟨v, rfl, h⟩ := h
    replace h := Zn h; obtain ⟨b, rfl, l, y, q, hf, q2, hab, hn, h⟩ := h
    obtain rfl : x = .ref a := hv
    replace ha := ha.one; obtain ⟨z, rfl, ha⟩ := ha
    obtain rfl : z = .ref b := ha
    obtain ⟨kvs, hd, hk, hs⟩ := r a _ q
    obtain ⟨more, hd2, hk2, hs2⟩ := r b _ q2
    have hl := hk.length
    have hl2 := hk2.length
    have hfit := Yp hn
    refine call_meetsIn F.slot_dict_update hd.typeIs F.entry_dict_update (F.args_dict_update_2 _ _) (meets_dict_update (intKind prog w) a b hab hs2) ⟨kvs, more, hd, hd2, by simp [*], fun h' hd' _ hsb => ?_⟩
    have k : ∀ b o, b ≠ a → s.heap.get? b = some o → h'.get? b = some o := fun b o hb e => (hsb.2 b hb).trans e
    exact ⟨.none, _, h, rfl, r.update q k fun kt => ⟨merged kvs more, hd', (Ug hk2 hk).keepT kt, hs⟩, Grow.update (tk := s.toks) q hf k⟩
  | keys =>
    replace h := Zn h; obtain ⟨a, rfl, h⟩ := h
    replace h := a0_inv h; obtain ⟨rfl, hk, h⟩ := h
    obtain rfl : x = .ref a := hv
    obtain rfl := ha.none
    rcases O7 hk with ⟨l, q⟩ | ⟨l, q⟩
    · obtain ⟨kvs, hd, hk, hs⟩ := r a _ q
      exact call_meetsIn F.slot_dict_keys hd.typeIs F.entry_dict_keys (F.args_dict_keys_1 _) (kdl_meets_keys (intKind prog w) a hs) ⟨⟨_, hd⟩, J4 h r (fun b o e => Heap.get?_push_of_some _ e) ⟨_, rfl, _, Heap.get?_push_size _ rfl, rfl, rfl⟩⟩
    · obtain ⟨kvs, hd, hk, hs⟩ := r a _ q
      exact call_meetsIn F.slot_dict_keys hd.typeIs F.entry_dict_keys (F.args_dict_keys_1 _) (kdl_meets_keys (strKind prog w) a hs) ⟨⟨_, hd⟩, J4 h r (fun b o e => Heap.get?_push_of_some _ e) ⟨_, rfl, _, Heap.get?_push_size _ rfl, rfl, rfl⟩⟩
  | values =>
    replace h := Zn h; obtain ⟨a, rfl, h⟩ := h
    replace h := a0_inv h; obtain ⟨rfl, hk, h⟩ := h
    obtain rfl : x = .ref a := hv
    obtain rfl := ha.none
    rcases O7 hk with ⟨l, q⟩ | ⟨l, q⟩
    · obtain ⟨kvs, hd, hk, hs⟩ := r a _ q
      exact call_meetsIn F.slot_dict_values hd.typeIs F.entry_dict_values (F.args_dict_values_1 _) (meets_dict_values (intKind prog w) a hs) ⟨⟨_, hd⟩, J4 h r (fun b o e => Heap.get?_push_of_some _ e) ⟨_, rfl, _, Heap.get?_push_size _ rfl, rfl, rfl⟩⟩
    · obtain ⟨kvs, hd, hk, hs⟩ := r a _ q
      exact call_meetsIn F.slot_dict_values hd.typeIs F.entry_dict_values (F.args_dict_values_1 _) (meets_dict_values (strKind prog w) a hs) ⟨⟨_, hd⟩, J4 h r (fun b o e => Heap.get?_push_of_some _ e) ⟨_, rfl, _, Heap.get?_push_size _ rfl, rfl, rfl⟩⟩
  | get2 =>
    replace h := Zn h; obtain ⟨a, rfl, h⟩ := h
    replace h := a2_inv h; obtain ⟨k, dv, rfl, h⟩ := h
    obtain rfl : x = .ref a := hv
    replace ha := ha.two; obtain ⟨y, z, rfl, hk, hdv⟩ := ha
    cases q : μ a with
    | none => rw [q] at h; exact False.elim h
    | some mo =>
      rw [q] at h
      cases mo with
      | list l => exact False.elim h
      | sdict l =>
        replace h := Bi h; obtain ⟨x, rfl, h⟩ := h
        obtain ⟨kvs, hd, hkv, hs⟩ := r a _ q
        obtain ⟨t, rfl⟩ := hk
        refine call_meetsIn F.slot_dict_get hd.typeIs F.entry_dict_get (F.args_dict_get_3 _ _ _) (meets_dict_get_default (strKind prog w) a (strKind_is prog w x t) hs z) ⟨_, hd.mapOf, ?_⟩
        refine Yl h r ?_ rfl rfl rfl
        rcases Jq x hkv with ⟨e1, e2⟩ | ⟨v', u, e1, e2, hr⟩
        · rw [e1, e2]; exact hdv
        · rw [e1, e2]; exact hr
      | idict l =>
        replace h := Bz h; obtain ⟨x, rfl, h⟩ := h
        obtain ⟨kvs, hd, hkv, hs⟩ := r a _ q
        obtain ⟨t, rfl⟩ := hk
        refine call_meetsIn F.slot_dict_get hd.typeIs F.entry_dict_get (F.args_dict_get_3 _ _ _) (meets_dict_get_default (intKind prog w) a (intKind_is prog w x t) hs z) ⟨_, hd.mapOf, ?_⟩
        refine Yl h r ?_ rfl rfl rfl
        rcases Jq x hkv with ⟨e1, e2⟩ | ⟨v', u, e1, e2, hr⟩
        · rw [e1, e2]; exact hdv
        · rw [e1, e2]; exact hr
  | join =>
    replace h := Bi h; obtain ⟨x', rfl, h⟩ := h
    replace h := U0 h; obtain ⟨v, rfl, h⟩ := h
    replace h := Zn h; obtain ⟨a, rfl, l, ss, hl, hss, hx, hw, h⟩ := h
    obtain ⟨t, rfl⟩ := hv
    replace ha := ha.one; obtain ⟨y, rfl, ha⟩ := ha
    obtain rfl : y = .ref a := ha
    obtain ⟨vs, h1, hr, _⟩ := Un r hl
    exact join_listW h1.isList (by simpa using P8 hr hss) hx hw fun t' k => Yl h r ⟨t', rfl⟩ rfl rfl rfl
  | _ => exact False.elim h
end
section
open PyProof.Rows
theorem repVs_strs {h : Heap} {vs : List Value} {ss : List Str} (x : StrsAre vs ss) : RepVs h (ss.map .str) vs := by
  induction x with
  | nil => trivial
  | cons y t _ ih => exact ⟨⟨t, rfl⟩, ih⟩
variable {prog : Program} {w : World} {fz : List Addr} {μ : MH} {s : Shared} {Q : MQ} {A : Around} {E : Value → Shared → Prop}
theorem Cm {a : Addr} {l : List MV} {ns : List Str} (r : RepH prog w μ s.heap) (f : FzIn fz μ) (e : lst μ a = some l) (hi : strsOf l = some ns) (hn : l.length < 64) (hA : A.handled = none) (h : ∀ ts : List Str, ts.Perm (ddup ns) → allocM fz μ (.list (ts.map .str)) fun c μ' => Q (.ref c) μ') :
    wpAny (model prog w) A (call (.type "set") [.ref a]) (fun y s₁ => wpAny (model prog w) A (call (.builtin "sorted") [y]) (PostV prog w fz μ s Q) E s₁) E s := by
  obtain ⟨vs, ⟨n, ha⟩, hv, _⟩ := Un r e
  have hI := P8 hv hi
  have hnl : ns.length = l.length := by rw [← hI.strs, List.length_map, hv.length]
  refine call_set (knd := PySem.strKind prog w) hA ⟨_, ha, rfl, n, rfl⟩ (areK_strs hI) (by unfold scanBound; lia) fun h' tk hS k => ?_
  refine Calls.call_function_entry kind_sorted plain_sorted entry_sorted (args_sorted1 _) ?_
  unfold Builtin.«sorted»
  refine wpAny_bind (m := checkCount "sorted" 1 1 _) (wpAny_pure ?_)
  refine wpAny_bind (As (A := A.in1) hA hS fun us ks s' hu hp k' hos hg => ?_)
  have hu := hu.strs
  have hul : us.length < 64 := by
    have h1 := hp.length_eq
    have h2 : us.length = ks.length := by rw [← hu.strs, List.length_map]
    have := A4 ns
    lia
  refine wpAny_bind (wpAny_newList ?_ (by have := Yp (Nat.le_trans (Nat.le_of_lt hul) (by decide) : fits us.length); assumption))
  have hoL : (s'.heap.push (seqObj "list" us.toArray 0)).get? s'.heap.objs.size = some (seqObj "list" us.toArray 0) := Heap.get?_push_size _ rfl
  refine wpAny_bind (wpAny_holding (wpAny_call_entry slot_list_sort ⟨_, hoL, rfl⟩ entry_list_sort (list_sort_treeK strKind_oneLt hoL hu.keysOf (fun v₁ v₂ rest e => keyKind_strs (by rw [← e]; exact hu)) hul fun st' z1 z2 => ⟨_, rfl, ?_⟩) (args_list_sort _)))
  refine wpAny_pure ⟨_, rfl, ?_⟩
  obtain ⟨ns', a1, a2, _⟩ := sorted_out_str hu z1 z2
  generalize (arrOf st').map (·.2) = out at a1
  have kk : ∀ b o, s.heap.get? b = some o → s'.heap.get? b = some o := fun b o e => k' b o (k b o e)
  have hnew : s.heap.get? s'.heap.objs.size = none := by
    cases q : s.heap.get? s'.heap.objs.size with
    | none => rfl
    | some o => exact absurd (Heap.lt_size (kk _ _ q)) (Nat.lt_irrefl _)
  have k2 : ∀ b o, s.heap.get? b = some o → (sortedHeap (s'.heap.push (seqObj "list" us.toArray 0)) s'.heap.objs.size us out).get? b = some o := fun b o e => by
    have e' := kk b o e
    have hlt := Heap.lt_size e'
    rw [sortedHeap_old (Nat.ne_of_lt hlt) (by rw [Heap.size_push]; exact Nat.lt_succ_of_lt hlt)]
    exact Heap.get?_push_of_some _ e'
  obtain ⟨ep, he⟩ := sortedHeap_at (h := s'.heap.push (seqObj "list" us.toArray 0)) (a := s'.heap.objs.size) (vs := us) (n := 0) (out := out) (Heap.get?_push_size _ rfl)
  have hm := r.free hnew
  refine ⟨.ref s'.heap.objs.size, upd μ s'.heap.objs.size (.list (ns'.map .str)), h ns' (a2.trans hp) _ hm (f.free hm), rfl, r.alloc k2 ⟨out.toList, ⟨ep, by simpa [seqObj] using he⟩, ?_⟩, ⟨fun b o _ e => ⟨k2 b o e, ?_⟩, hos, hg⟩⟩
  · exact repVs_strs a1
  · unfold upd; rw [if_neg (fun q => by subst q; rw [hnew] at e; cases e)]
end
end Mine
end
section
set_option maxRecDepth 100000
namespace Mine
open PySem PySem.Calls PyProof.Rows PySem.W
section
variable {prog : Program} {w : World} {A : Around} {E : Value → Shared → Prop} {fz : List Addr} {μ : MH} {s : Shared} {d : Nat}
inductive PostS (prog : Program) (w : World) (fz : List Addr) (μ : MH) (s : Shared) (Q : MH → Prop) (s' : Shared) : Prop
  | mk (μ' : MH) (q : Q μ') (r : RepH prog w μ' s'.heap) (g : Grow fz μ s μ' s')
theorem store_list {l : Addr} {items : Array Value} {n : Nat} {k : Int} {t : Tok} {v : Value} {j : Nat} {Q : Unit → Shared → Prop} (hl : s.heap.get? l = some { cls := .type "list", data := .seq items n })
    (hk : -(2 ^ 63) ≤ k ∧ k < 2 ^ 63) (hj : j < items.size) (hkj : k = j ∨ (k < 0 ∧ k + items.size = j))
    (hQ : Q () { s with heap := s.heap.update l (Obj.mapSeq (·.setIfInBounds j v)) }) : wpAny (model prog w) A (setItem (.ref l) (.int k t) v) Q E s := by
  have hL : s.heap.IsList l items := ⟨_, hl, rfl, n, rfl⟩
  unfold setItem
  try with_reducible refine wpAny_holding ?_
  first | refine wpAny_bind (wpAny_pure ?_) | skip
  refine wpAny_bind (wpAny_sequenceKey hL.typeIs (by decide) ?_)
  refine wpAny_bind (wpAny_callSpecial?_slot (name := Str.ofString "__setitem__") hL.typeIs slot_list_setitem
    (wpAny_call_entry slot_list_setitem hL.typeIs entry_list_setitem ?_ (args_list_setitem _ _ _)))
  show wpAny _ _ (Builtin.List.listSubscript? (.int k t) >>= _) _ _ s
  refine wpAny_bind (wpAny_listSubscript_int (by unfold Builtin.List.listFitsIndex; simp; assumption) ?_)
  have hx' : items[j]? = some items[j] := Array.getElem?_eq_getElem hj
  have fin : wpAny (model prog w) A.in1 (setSeqItemAt l j v) (fun _ s' => Q () s') E s := wpAny_setSeqItemAt hl rfl hQ
  cases k with
  | ofNat i =>
    have : i = j := by rcases hkj with h | h <;> simp at h <;> lia
    subst this
    show wpAny _ _ ((seqItemAt l i >>= fun r => pure (r.map (i, ·))) >>= _) _ _ s
    refine wpAny_bind (wpAny_bind (wpAny_seqItemAt hl rfl (wpAny_pure ?_)))
    rw [hx']
    show wpAny _ _ (setSeqItemAt l i v >>= _) _ _ s
    refine wpAny_bind (wpAny_mono fin (fun _ s' hq => ?_) fun _ _ e => e)
    first
      | exact wpAny_bind (wpAny_pure (wpAny_pure ⟨.none, rfl, wpAny_pure hq⟩))
      | exact wpAny_pure ⟨.none, rfl, wpAny_pure hq⟩
  | negSucc i =>
    have hidx : seqIndex? (Int.negSucc i) items.size = some j := by
      unfold seqIndex?
      have h1 : Int.negSucc i < 0 := Int.negSucc_lt_zero i
      have h2 : Int.negSucc i + items.size = j := by rcases hkj with h | h; · lia
                                                     · exact h.2
      simp only [h1, if_true, h2]
      simp; assumption
    show wpAny _ _ ((Builtin.List.listItems (.ref l) >>= fun xs => pure ((seqIndex? (Int.negSucc i) xs.size).bind fun i => xs[i]?.map (i, ·))) >>= _) _ _ s
    refine wpAny_bind (wpAny_bind ?_)
    show wpAny _ _ (seqItems? (.ref l) >>= _) _ _ s
    refine wpAny_bind (wpAny_seqItems hl rfl (wpAny_pure (wpAny_pure ?_)))
    rw [hidx]
    simp only [Option.bind_some, hx', Option.map_some]
    show wpAny _ _ (setSeqItemAt l j v >>= _) _ _ s
    refine wpAny_bind (wpAny_mono fin (fun _ s' hq => ?_) fun _ _ e => e)
    first
      | exact wpAny_bind (wpAny_pure (wpAny_pure ⟨.none, rfl, wpAny_pure hq⟩))
      | exact wpAny_pure ⟨.none, rfl, wpAny_pure hq⟩
theorem D9 {h : Heap} {m : MV} {v : Value} (hv : RepV h m v) : ∀ {l : List MV} {vs : List Value} (i : Nat), RepVs h l vs → RepVs h (l.set i m) (vs.set i v)
  | [], [], i => fun _ => trivial
  | _ :: _, _ :: _, 0 => fun x => by simp only [RepVs, List.set_cons_zero] at x ⊢; exact ⟨hv, x.2⟩
  | _ :: _, _ :: _, i + 1 => fun x => by simp only [RepVs, List.set_cons_succ] at x ⊢; exact ⟨x.1, D9 hv i x.2⟩
  | [], _ :: _, _ => fun x => by simp [RepVs] at x
  | _ :: _, [], _ => fun x => by simp [RepVs] at x
theorem op_set {o i v : MV} {x y z : Value} {Q : MH → Prop} (ho : RepV s.heap o x) (hi : RepV s.heap i y) (hv : RepV s.heap v z) (r : RepH prog w μ s.heap) (h : setM fz o i v Q μ) :
    wpAny (model prog w) A (setItem x y z) (fun _ s' => PostS prog w fz μ s Q s') E s := by
  replace h := Zn h; obtain ⟨a, rfl, hf, h⟩ := h
  obtain rfl : x = .ref a := ho
  cases q : μ a with
  | none => rw [q] at h; exact False.elim h
  | some mo =>
    rw [q] at h
    cases mo with
    | list l =>
      replace h := Bz h; obtain ⟨k, rfl, h⟩ := h
      obtain ⟨hn, l', hs, h⟩ := h
      obtain ⟨t, rfl⟩ := hi
      obtain ⟨vs, ⟨n, h1⟩, hr⟩ := r a _ q
      have hl := hr.length
      have hfit := Yp hn
      have key : ∃ j, j < vs.length ∧ l' = l.set j v ∧ (k = j ∨ (k < 0 ∧ k + vs.length = j)) := by
        unfold setAt at hs
        split at hs
        · split at hs
          · cases hs; exact ⟨k.toNat, by simp [*], rfl, .inl (by lia)⟩
          · cases hs
        · split at hs
          · cases hs; exact ⟨(k + l.length).toNat, by lia, rfl, .inr ⟨by lia, by lia⟩⟩
          · cases hs
      obtain ⟨j, hj, rfl, hkj⟩ := key
      unfold fits at hn
      refine store_list h1 (by lia) (j := j) (by simpa using hj) (by simpa using hkj) ?_
      have kk : ∀ b o, b ≠ a → s.heap.get? b = some o → (s.heap.update a (Obj.mapSeq (·.setIfInBounds j z))).get? b = some o := fun b o hb e => (Heap.get?_update_other _ _ (Ne.symm hb)).trans e
      refine ⟨_, h, r.update q kk fun kt => ⟨vs.set j z, ?_, (D9 hv j hr).keepT kt⟩, Grow.update (tk := s.toks) q hf kk⟩
      have := Heap.get?_update_self (Obj.mapSeq (·.setIfInBounds j z)) h1 rfl
      refine ⟨n, ?_⟩
      rw [this]
      simp [Obj.mapSeq]
    | idict l =>
      replace h := Bz h; obtain ⟨k, rfl, h⟩ := h
      obtain ⟨hn, h⟩ := h
      obtain ⟨t, rfl⟩ := hi
      obtain ⟨kvs, hd, hk, hs⟩ := r a _ q
      have hl := hk.length
      refine wpAny_setItem_pairs (intKind_is prog w k t) hd (fun h' hd' hs' => ?_) (by have := Yp hn; simp [*])
      have kk : ∀ b o, b ≠ a → s.heap.get? b = some o → h'.get? b = some o := fun b o hb e => (hs'.2 b hb).trans e
      exact ⟨_, h, r.update q kk fun kt => ⟨_, hd', (Ad k hv hk).keepT kt, hs⟩, Grow.update q hf kk⟩
    | sdict l =>
      replace h := Bi h; obtain ⟨k, rfl, h⟩ := h
      obtain ⟨hn, h⟩ := h
      obtain ⟨t, rfl⟩ := hi
      obtain ⟨kvs, hd, hk, hs⟩ := r a _ q
      have hl := hk.length
      refine wpAny_setItem_pairs (strKind_is prog w k t) hd (fun h' hd' hs' => ?_) (by have := Yp hn; simp [*])
      have kk : ∀ b o, b ≠ a → s.heap.get? b = some o → h'.get? b = some o := fun b o hb e => (hs'.2 b hb).trans e
      exact ⟨_, h, r.update q kk fun kt => ⟨_, hd', (Ad k hv hk).keepT kt, hs⟩, Grow.update q hf kk⟩
theorem eqAt_of {a b : MV} {x y : Value} {r' : Bool} (hA : OkA d A) (ha : RepV s.heap a x) (hb : RepV s.heap b y) (r : RepH prog w μ s.heap) (e : eqD μ a b = some r') : SeqAt.EqAt A.in1 s x y r' := by
  unfold eqD at e
  split at e
  · rename_i d1 d2 e1 e2
    cases e
    obtain ⟨as, a1, a2, a3⟩ := Jb r 9 a x d1 e1 ha
    obtain ⟨bs, b1, b2, b3⟩ := Jb r 9 b y d2 e2 hb
    exact SeqAt.eqAt_reads d1 d2 A.in1 s x y as bs a1 b1 a2 b2 (by have := hA.units; simp; lia)
  · cases e
theorem hits_of {K : Type} [DecidableEq K] (hA : OkA d A) (r : RepH prog w μ s.heap) {y : List (K × MV)} {kb : List (K × Value)} (hy : RepKV s.heap y kb) :
    ∀ {x : List (K × MV)} {ka : List (K × Value)} {bs : List Bool}, RepKV s.heap x ka → (x.mapM fun (kv : K × MV) => match lookI y kv.1 with | some v => eqD μ kv.2 v | none => some false) = some bs → KeqHits A.in1 s kb ka (bs.all id)
  | [], [], bs => fun _ e => by simp at e; subst e; exact .nil
  | m :: ms, v :: vs, bs => fun h e => by
    simp only [RepKV] at h
    rw [List.mapM_cons] at e
    simp only [Option.bind_eq_bind, Option.bind_eq_some_iff, Option.pure_def, Option.some.injEq] at e
    obtain ⟨b, e1, bs', e2, rfl⟩ := e
    have ih := hits_of hA r hy h.2.2 e2
    rcases Jq v.1 hy with ⟨q1, q2⟩ | ⟨m', u, q1, q2, hu⟩
    · rw [h.1, q1] at e1
      cases e1
      simp only [List.all_cons, id, Bool.false_and]
      exact .miss (k := v.1) (v := v.2) q2
    · rw [h.1, q1] at e1
      simp only [List.all_cons, id]
      exact .hit (k := v.1) (v := v.2) q2 (eqAt_of hA h.2.1 hu r e1) ih
  | [], _ :: _, _ => fun h _ => by simp [RepKV] at h
  | _ :: _, [], _ => fun h _ => by simp [RepKV] at h
theorem op_eqM {neg : Bool} {a b : MV} {x y : Value} {r' : Bool} (ha : RepV s.heap a x) (hb : RepV s.heap b y) (r : RepH prog w μ s.heap) (hA : OkA d A) (e : eqM μ a b = some r')
    {Q : Value → Shared → Prop} (h : Q (.bool (if neg then !r' else r')) s) : wpAny (model prog w) A (compareOp (if neg then .NotEq else .Eq) x y) Q E s := by
  have dicts : ∀ {K : Type} [DecidableEq K] (knd : PySem.KeyKind prog w K) (p q : Addr) (lx ly : List (K × MV)) (ka kb : List (K × Value)), x = .ref p → y = .ref q → s.heap.DictOf knd p ka → s.heap.DictOf knd q kb → RepKV s.heap lx ka → RepKV s.heap ly kb →
      (p == sysModules) = false → (q == sysModules) = false → eqDicts μ lx ly = some r' → wpAny (model prog w) A (compareOp (if neg then .NotEq else .Eq) x y) Q E s := by
    intro K _ knd p q lx ly ka kb hx hy da db ra rb sa sb e
    subst hx; subst hy
    have hu : A.units < cLine := by have := hA.units; lia
    have la := ra.length; have lb := rb.length
    unfold eqDicts at e
    split at e
    · rename_i hl
      obtain ⟨bs, hbs, rfl⟩ := Option.map_eq_some_iff.mp e
      have hits := hits_of hA r rb ra hbs
      have hr : (ka.length == kb.length && bs.all id) = bs.all id := by
        have : (ka.length == kb.length) = true := by simp; simp [*]
        rw [this, Bool.true_and]
      cases neg
      · exact keq_eq sa sb da db hu (fun _ => hits) (by rw [hr]; exact h)
      · exact keq_ne sa sb da db hu (fun _ => hits) (by rw [hr]; exact h)
    · rename_i hl
      cases e
      have hne : ka.length ≠ kb.length := by simp [*]
      have hr : (ka.length == kb.length && false) = false := by simp
      cases neg
      · exact keq_eq (r := false) sa sb da db hu (fun q => absurd q hne) (by rw [hr]; exact h)
      · exact keq_ne (r := false) sa sb da db hu (fun q => absurd q hne) (by rw [hr]; exact h)
  unfold eqM at e
  split at e
  · rename_i p q
    simp only [RepV] at ha hb
    split at e
    · rename_i lx ly h1 h2
      obtain ⟨ka, da, ra, sa⟩ := r p _ h1
      obtain ⟨kb, db, rb, sb⟩ := r q _ h2
      exact dicts _ p q lx ly ka kb ha hb da db ra rb sa sb e
    · rename_i lx ly h1 h2
      obtain ⟨ka, da, ra, sa⟩ := r p _ h1
      obtain ⟨kb, db, rb, sb⟩ := r q _ h2
      exact dicts _ p q lx ly ka kb ha hb da db ra rb sa sb e
    · exact op_eq (by simpa only [RepV] using ha) (by simpa only [RepV] using hb) r hA e h
  · exact op_eq ha hb r hA e h
theorem Av {a b : MV} {r : Bool} (e : isNoneO a b = some r) : b = .none ∧ isNoneO a .none = some r := by
  cases b <;> first | (cases e; done) | exact ⟨rfl, e⟩
theorem noneV {h : Heap} {a : MV} {x : Value} {r : Bool} (ha : RepV h a x) (e : isNoneO a .none = some r) : (x == Value.none) = r := by
  cases a with
  | none => obtain rfl : x = .none := ha; exact Option.some.inj e
  | bool b => obtain rfl : x = .bool b := ha; exact Option.some.inj e
  | int i => obtain ⟨t, rfl⟩ := ha; exact Option.some.inj e
  | str i => obtain ⟨t, rfl⟩ := ha; exact Option.some.inj e
  | tup l => obtain ⟨p, _, _, rfl, _⟩ := ha; exact Option.some.inj e
  | ref p => obtain rfl : x = .ref p := ha; exact Option.some.inj e
  | keys p => cases e
  | vals p => cases e
theorem Fi {op : COp} {o : CmpOp} {a b : MV} {x y : Value} {r' : Bool} (ho : copIs op o = true) (ha : RepV s.heap a x) (hb : RepV s.heap b y) (r : RepH prog w μ s.heap) (hA : OkA d A) (e : cmpM op μ a b = some r')
    {Q : Value → Shared → Prop} (h : ∀ s', Still s s' → Q (.bool r') s') : wpAny (model prog w) A (compareOp o x y) Q E s := by
  obtain rfl := of_decide_eq_true ho
  cases op with
  | eq => exact op_eqM (neg := false) ha hb r hA e (h s .refl)
  | ne =>
    obtain ⟨r'', e', rfl⟩ := Option.map_eq_some_iff.mp e
    exact op_eqM (neg := true) ha hb r hA e' (h s .refl)
  | isin => exact op_in (neg := false) ha hb r hA e h
  | notin =>
    obtain ⟨r'', e', rfl⟩ := Option.map_eq_some_iff.mp e
    exact op_in (neg := true) ha hb r hA e' h
  | lt =>
    obtain ⟨_, _, rfl, rfl, rfl⟩ := Ou e
    obtain ⟨t, rfl⟩ := ha; obtain ⟨u, rfl⟩ := hb
    exact PyProof.Rows.lt_int (h s .refl)
  | le =>
    obtain ⟨_, _, rfl, rfl, rfl⟩ := Ou e
    obtain ⟨t, rfl⟩ := ha; obtain ⟨u, rfl⟩ := hb
    exact PyProof.Rows.le_int (h s .refl)
  | gt =>
    obtain ⟨_, _, rfl, rfl, rfl⟩ := Ou e
    obtain ⟨t, rfl⟩ := ha; obtain ⟨u, rfl⟩ := hb
    exact PyProof.Rows.gt_int (h s .refl)
  | ge =>
    obtain ⟨_, _, rfl, rfl, rfl⟩ := Ou e
    obtain ⟨t, rfl⟩ := ha; obtain ⟨u, rfl⟩ := hb
    exact PyProof.Rows.ge_int (h s .refl)
  | is =>
    obtain ⟨rfl, e2⟩ := Av e
    obtain rfl : y = .none := hb
    exact is_none_gen (by rw [noneV ha e2]; exact h s .refl)
  | isnot =>
    obtain ⟨r'', e', rfl⟩ := Option.map_eq_some_iff.mp e
    obtain ⟨rfl, e2⟩ := Av e'
    obtain rfl : y = .none := hb
    exact isnot_none_gen (by rw [noneV ha e2]; exact h s .refl)
end
end Mine
end
section
namespace Mine
open PySem PySem.Calls PyProof.Rows PySem.W
noncomputable def biTab : List (String × Value) := [("len", .builtin "len"), ("min", .builtin "min"), ("max", .builtin "max"), ("sorted", .builtin "sorted"), ("all", .builtin "all"), ("isinstance", .builtin "isinstance"),
  ("list", .type "list"), ("dict", .type "dict"), ("int", .type "int"), ("bool", .type "bool"), ("str", .type "str"), ("tuple", .type "tuple"), ("range", .type "range"), ("reversed", .type "reversed"), ("zip", .type "zip"), ("set", .type "set")]
structure PG (prog : Program) (w : World) (G : String → Option MV) (Γ : String → Option MFun) (h₀ : Heap) (mg mb : Str → Option Value) : Prop where
  g : h₀.Ns mainGlobals mg
  b : h₀.Ns builtinsNs mb
  nolimit : h₀.NoLimit
  bi : ∀ p ∈ biTab, mg (Str.ofString p.1) = none ∧ mb (Str.ofString p.1) = some p.2
  fn : ∀ f fd, Γ f = some fd → ∃ a o pm code doc params body scope tab funs, mg (Str.ofString f) = some (.ref a) ∧ h₀.get? a = some o ∧ o.data = .func (docDef (Str.ofString f) params body scope pm code doc) ∧
    h₀.CodeRec code (Str.ofString f) ∧ isFun fd tab funs params body scope = true ∧ ∀ g ∈ funs, ∃ fd', Γ g = some fd'
  const : ∀ g v, G g = some v → ∃ val, mg (Str.ofString g) = some val ∧ ((∃ i t, v = .int i ∧ val = .int i t) ∨ ∃ x t, v = .str x ∧ val = .str x t)
noncomputable def VarAt (env : Env) (m : Str → Option Value) (h : Heap) (x : Str) (v : Value) : Prop := match env.kindOf x with
  | some .local => m x = some v
  | some .cell => ∃ c, env.cells.lookup x = some c ∧ h.IsCell c (some v)
  | some .free => ∃ c, env.cells.lookup x = some c ∧ h.IsCell c (some v)
  | _ => False
structure RepF (S : Sc) (env : Env) (vars : MVars) (μ : MH) (h : Heap) : Prop where
  names : env.scope.names = S.names
  inj : ∀ i j x, S.tab.lookup i = some x → S.tab.lookup j = some x → i = j
  nk : (S.tab.map (·.1)).Nodup
  nv : (S.tab.map (·.2)).Nodup
  kind : env.scope.kind = .function
  glob : env.globals = mainGlobals
  bui : env.builtins = builtinsNs
  ns : ∃ m, h.Ns env.locals m ∧ ∀ i x mv, S.tab.lookup i = some x → kindVar (S.names.lookup x) = true → vars i = some mv → ∃ v, RepV h mv v ∧ VarAt env m h x v
  cells : ∀ x, (env.kindOf x = some .cell ∨ env.kindOf x = some .free) → ∃ c, env.cells.lookup x = some c
  apart : env.cells.Pairwise fun x y => x.2 ≠ y.2
  fixl : μ env.locals = none
  fixc : ∀ x c, (x, c) ∈ env.cells → μ c = none ∧ c ≠ env.locals ∧ ∃ v, h.IsCell c v
theorem RepF.keep {S : Sc} {env : Env} {vars : MVars} {μ μ' : MH} {h h' : Heap} (F : RepF S env vars μ h) (kt : KeepsT h h') (kl : ∀ o, h.get? env.locals = some o → h'.get? env.locals = some o ∧ μ' env.locals = none) (kc : ∀ x c, (x, c) ∈ env.cells → ∀ o, h.get? c = some o → h'.get? c = some o ∧ μ' c = none) : RepF S env vars μ' h' where
  names := F.names
  inj := F.inj
  nk := F.nk
  nv := F.nv
  kind := F.kind
  glob := F.glob
  bui := F.bui
  ns := by
    obtain ⟨m, hn, hv⟩ := F.ns
    refine ⟨m, hn.at' fun o e => (kl o e).1, fun i x mv h1 h2 h3 => ?_⟩
    obtain ⟨v, r, va⟩ := hv i x mv h1 h2 h3
    refine ⟨v, r.keepT kt, ?_⟩
    unfold VarAt at va ⊢
    split at va
    · exact va
    · obtain ⟨c, e, o, ho, hd⟩ := va; exact ⟨c, e, o, (kc _ _ (mem_of_lookup e) o ho).1, hd⟩
    · obtain ⟨c, e, o, ho, hd⟩ := va; exact ⟨c, e, o, (kc _ _ (mem_of_lookup e) o ho).1, hd⟩
    · exact va.elim
  cells := F.cells
  apart := F.apart
  fixl := by obtain ⟨m, ⟨o, es, ep, ho, _⟩, _⟩ := F.ns; exact (kl o ho).2
  fixc := fun x c hm => by
    obtain ⟨h1, h2, v, o, ho, hd⟩ := F.fixc x c hm
    exact ⟨(kc x c hm o ho).2, h2, v, o, (kc x c hm o ho).1, hd⟩
noncomputable def Base (h₀ : Heap) (fz : List Addr) (μ : MH) (s : Shared) : Prop := ∀ b o, h₀.get? b = some o → s.heap.get? b = some o ∧ (μ b = none ∨ b ∈ fz)
theorem Base.grow {h₀ : Heap} {fz : List Addr} {μ μ' : MH} {s s' : Shared} (B : Base h₀ fz μ s) (g : Grow fz μ s μ' s') : Base h₀ fz μ' s' := fun b o e => by
  obtain ⟨e1, f⟩ := B b o e
  obtain ⟨e2, q⟩ := g.keep b o f e1
  exact ⟨e2, f.imp (fun z => q.trans z) id⟩
noncomputable def FnAt (h₀ : Heap) (f : String) (fa : Addr) : Prop := ∃ m, h₀.Ns mainGlobals m ∧ m (Str.ofString f) = some (.ref fa) ∧ ∃ o fd, h₀.get? fa = some o ∧ o.data = .func fd
structure Cur (prog : Program) (w : World) (h₀ : Heap) (S : Sc) (env : Env) (vars : MVars) (fz : List Addr) (μ : MH) (s : Shared) : Prop where
  base : Base h₀ fz μ s
  heap : RepH prog w μ s.heap
  fzin : FzIn fz μ
  fr : RepF S env vars μ s.heap
  newl : h₀.get? env.locals = none
  newc : ∀ x c, (x, c) ∈ env.cells → h₀.get? c = none
  known : ∀ f ∈ S.funs, ∃ fa, FnAt h₀ f fa
theorem Cur.grow {prog : Program} {w : World} {h₀ : Heap} {S : Sc} {env : Env} {vars : MVars} {fz : List Addr} {μ μ' : MH} {s s' : Shared} (C : Cur prog w h₀ S env vars fz μ s) (g : Grow fz μ s μ' s') (r : RepH prog w μ' s'.heap) :
    Cur prog w h₀ S env vars fz μ' s' where
  base := C.base.grow g
  heap := r
  fzin := C.fzin.grow C.heap g
  fr := C.fr.keep (g.keepT C.heap) (fun o e => (g.keep _ o (.inl C.fr.fixl) e).imp id fun q => q.trans C.fr.fixl) fun x c hm o e => (g.keep c o (.inl (C.fr.fixc x c hm).1) e).imp id fun q => q.trans (C.fr.fixc x c hm).1
  newl := C.newl
  newc := C.newc
  known := C.known
structure GrowS (env : Env) (fz : List Addr) (μ : MH) (s : Shared) (μ' : MH) (s' : Shared) : Prop where
  keep : ∀ b o, (μ b = none ∨ b ∈ fz) → b ≠ env.locals → (∀ x c, (x, c) ∈ env.cells → b ≠ c) → s.heap.get? b = some o → s'.heap.get? b = some o ∧ μ' b = μ b
  os : s'.os = s.os
  gens : s'.gens = s.gens
theorem GrowS.refl {env : Env} {fz : List Addr} {μ : MH} {s : Shared} : GrowS env fz μ s μ s := ⟨fun _ _ _ _ _ e => ⟨e, rfl⟩, rfl, rfl⟩
theorem GrowS.trans {env : Env} {fz : List Addr} {μ μ₁ μ₂ : MH} {s s₁ s₂ : Shared} (x : GrowS env fz μ s μ₁ s₁) (y : GrowS env fz μ₁ s₁ μ₂ s₂) : GrowS env fz μ s μ₂ s₂ :=
  ⟨fun b o f l c e => by
    obtain ⟨e1, q1⟩ := x.keep b o f l c e
    obtain ⟨e2, q2⟩ := y.keep b o (f.imp (fun z => q1.trans z) id) l c e1
    exact ⟨e2, q2.trans q1⟩, y.os.trans x.os, y.gens.trans x.gens⟩
theorem Grow.toS {env : Env} {fz : List Addr} {μ μ' : MH} {s s' : Shared} (x : Grow fz μ s μ' s') : GrowS env fz μ s μ' s' := ⟨fun b o f _ _ e => x.keep b o f e, x.os, x.gens⟩
theorem GrowS.weak {env : Env} {fz cs : List Addr} {μ μ' : MH} {s s' : Shared} (x : GrowS env (cs ++ fz) μ s μ' s') : GrowS env fz μ s μ' s' :=
  ⟨fun b o f l c e => x.keep b o (f.imp id fun m => List.mem_append_right _ m) l c e, x.os, x.gens⟩
section
variable {prog : Program} {w : World} {h₀ : Heap} {S : Sc} {env : Env} {vars : MVars} {fz : List Addr} {μ : MH} {s : Shared} {A : Around} {E : Value → Shared → Prop}
theorem Pe {l : List (Str × Addr)} (h : l.Pairwise fun x y => x.2 ≠ y.2) {x y : Str} {c : Addr} (h1 : l.lookup x = some c) (h2 : l.lookup y = some c) : x = y := name_of_addr h (mem_of_lookup h1) (mem_of_lookup h2)
theorem load_var {M : Model} {i : Nat} {x : Str} {mv : MV} {Q : Value → Shared → Prop} (C : Cur prog w h₀ S env vars fz μ s) (ht : S.isVar i x = true) (hv : vars i = some mv)
    (h : ∀ v, RepV s.heap mv v → Q v s) : wpAny M A (loadName env x) Q E s := by
  unfold Sc.isVar notDebug at ht
  simp only [Bool.and_eq_true, beq_iff_eq, Bool.not_eq_true'] at ht
  obtain ⟨⟨ht, hk⟩, hd, hcd⟩ := ht
  obtain ⟨m, hn, hm⟩ := C.fr.ns
  obtain ⟨v, r, va⟩ := hm i x mv ht hk hv
  unfold VarAt at va
  split at va
  · rename_i q; exact wpAny_loadName_local C.fr.kind q hn va (h v r)
  · rename_i q; obtain ⟨c, e, hc⟩ := va; exact wpAny_loadName_cell C.fr.kind q e hc (h v r)
  · rename_i q
    obtain ⟨c, e, hc⟩ := va
    exact wpAny_loadName_free C.fr.kind q e hc (h v r) hcd
  · exact va.elim
theorem Aa {M : Model} {i : Nat} {x : Str} {mv : MV} {v : Value} {Q : Unit → Shared → Prop} (C : Cur prog w h₀ S env vars fz μ s) (ht : S.isSt i x = true) (hv : RepV s.heap mv v)
    (h : ∀ s', Cur prog w h₀ S env (setv vars i mv) fz μ s' → GrowS env fz μ s μ s' → KeepsT s.heap s'.heap → (S.names.lookup x = some .local → ∀ b o, b ≠ env.locals → s.heap.get? b = some o → s'.heap.get? b = some o) → Q () s') : wpAny M A (storeName env x v) Q E s := by
  unfold Sc.isSt at ht
  simp only [Bool.and_eq_true, beq_iff_eq] at ht
  obtain ⟨ht, hk⟩ := ht
  have hko : env.kindOf x = S.names.lookup x := by unfold Env.kindOf; rw [C.fr.names]
  obtain ⟨m, hn, hm⟩ := C.fr.ns
  have fin : ∀ (c : Addr) (h' : Heap) (tk : Nat), (c = env.locals ∨ ∃ y, (y, c) ∈ env.cells) → (∃ o, s.heap.get? c = some o ∧ ¬ ImmCls o) → (∀ b, b ≠ c → h'.get? b = s.heap.get? b) → (S.names.lookup x = some .local → c = env.locals) →
      (KeepsT s.heap h' → RepF S env (setv vars i mv) μ h') → Q () { s with heap := h', toks := tk } := by
    intro c h' tk hc hobj hs hloc hF
    obtain ⟨oc, hoc, hni⟩ := hobj
    have mc : μ c = none := by rcases hc with rfl | ⟨y, hy⟩; exact C.fr.fixl; exact (C.fr.fixc y c hy).1
    have kt : KeepsT s.heap h' := fun b o e hi => by
      by_cases q : b = c
      · subst q; rw [hoc] at e; cases e; exact absurd hi hni
      · rw [hs b q]; exact e
    have h0 : h₀.get? c = none := by rcases hc with rfl | ⟨y, hy⟩; exact C.newl; exact C.newc y c hy
    refine h _ ⟨fun b o e => ?_, fun a o e => ?_, C.fzin, hF kt, C.newl, C.newc, C.known⟩ ⟨fun b o f l hcs e => ?_, rfl, rfl⟩ kt fun hl b o hb e => by show h'.get? b = some o; rw [hs b (fun q => hb (q.trans (hloc hl)))]; exact e
    · have := C.base b o e
      refine ⟨?_, this.2⟩
      show h'.get? b = some o
      rw [hs b (fun q => by rw [q, h0] at e; cases e)]; exact this.1
    · have hac : a ≠ c := fun q => by rw [q, mc] at e; cases e
      exact (C.heap a o e).keeps kt fun y hy => by show h'.get? a = some y; rw [hs a hac]; exact hy
    · refine ⟨?_, rfl⟩
      show h'.get? b = some o
      rw [hs b (fun q => by subst q; rcases hc with q | ⟨y, hy⟩; exact l q; exact hcs y b hy rfl)]; exact e
  have base := C.fr
  have hk : S.names.lookup x = some .local ∨ S.names.lookup x = some .cell := by simpa only [kindSt, Bool.or_eq_true, decide_eq_true_eq] using hk
  rcases hk with q | q
  · skip
    have hl : env.kindOf x = some .local := hko.trans q
    obtain ⟨ol, es, ep, hol, hdl, _⟩ := id hn
    refine wpAny_storeName_local hl hn (fun h' hn' hs' => fin env.locals h' _ (.inl rfl) ⟨ol, hol, by rintro (⟨_, _, _, q⟩ | ⟨_, _, q⟩ | ⟨_, _, q⟩) <;> rw [hdl] at q <;> cases q⟩ hs'.2 (fun _ => rfl) fun kt => ?_) (by rw [C.fr.kind]; rfl)
    refine { names := base.names, inj := base.inj, nk := base.nk, nv := base.nv, kind := base.kind, glob := base.glob, bui := base.bui, cells := base.cells, apart := base.apart, fixl := base.fixl, fixc := ?fx, ns := ⟨_, hn', fun j y mv' h1 h2 h3 => ?nn⟩ }
    case fx =>
      intro y c hm'
      obtain ⟨a1, a2, u, o, ho, hd⟩ := base.fixc y c hm'
      exact ⟨a1, a2, u, o, by rw [hs'.2 c a2]; exact ho, hd⟩
    case nn =>
      by_cases hji : j = i
      · subst hji
        rw [ht] at h1; cases h1
        simp only [setv, if_true, Option.some.injEq] at h3
        subst h3
        refine ⟨v, hv.keepT kt, ?_⟩
        unfold VarAt; rw [hl]; simp
      · simp only [setv, if_neg hji] at h3
        obtain ⟨u, r, va⟩ := hm j y mv' h1 h2 h3
        refine ⟨u, r.keepT kt, ?_⟩
        have hyx : y ≠ x := fun e => hji (base.inj j i x (e ▸ h1) ht)
        unfold VarAt at va ⊢
        split at va
        · simp only [if_neg hyx]; exact va
        · obtain ⟨c, e, o, ho, hd⟩ := va
          exact ⟨c, e, o, by rw [hs'.2 c (base.fixc _ _ (mem_of_lookup e)).2.1]; exact ho, hd⟩
        · obtain ⟨c, e, o, ho, hd⟩ := va
          exact ⟨c, e, o, by rw [hs'.2 c (base.fixc _ _ (mem_of_lookup e)).2.1]; exact ho, hd⟩
        · exact va.elim
  · skip
    have hl : env.kindOf x = some .cell := hko.trans q
    obtain ⟨c, hc⟩ := base.cells x (.inl hl)
    obtain ⟨a1, a2, u0, hu0⟩ := base.fixc x c (mem_of_lookup hc)
    obtain ⟨oc, hoc, hdc⟩ := id hu0
    refine wpAny_storeName_cell C.fr.kind hl hc hu0 fun h' hc' hs' => fin c h' s.toks (.inr ⟨x, mem_of_lookup hc⟩) ⟨oc, hoc, by rintro (⟨_, _, _, q⟩ | ⟨_, _, q⟩ | ⟨_, _, q⟩) <;> rw [hdc] at q <;> cases q⟩ hs'.2 (fun q' => by rw [q] at q'; cases q') fun kt => ?_
    refine { names := base.names, inj := base.inj, nk := base.nk, nv := base.nv, kind := base.kind, glob := base.glob, bui := base.bui, cells := base.cells, apart := base.apart, fixl := base.fixl, fixc := ?fx, ns := ⟨m, hn.at' fun o e => by rw [hs'.2 _ (Ne.symm a2)]; exact e, fun j y mv' h1 h2 h3 => ?nn⟩ }
    case fx =>
      intro y c' hm'
      obtain ⟨b1, b2, u, o, ho, hd⟩ := base.fixc y c' hm'
      by_cases hcc : c' = c
      · subst hcc; obtain ⟨o', ho', hd'⟩ := hc'; exact ⟨b1, b2, _, o', ho', hd'⟩
      · exact ⟨b1, b2, u, o, by rw [hs'.2 c' hcc]; exact ho, hd⟩
    case nn =>
      by_cases hji : j = i
      · subst hji
        rw [ht] at h1; cases h1
        simp only [setv, if_true, Option.some.injEq] at h3
        subst h3
        refine ⟨v, hv.keepT kt, ?_⟩
        unfold VarAt; rw [hl]; exact ⟨c, hc, hc'⟩
      · simp only [setv, if_neg hji] at h3
        obtain ⟨u, r, va⟩ := hm j y mv' h1 h2 h3
        refine ⟨u, r.keepT kt, ?_⟩
        have hyx : y ≠ x := fun e => hji (base.inj j i x (e ▸ h1) ht)
        unfold VarAt at va ⊢
        split at va
        · exact va
        · obtain ⟨c', e, o, ho, hd⟩ := va
          exact ⟨c', e, o, by rw [hs'.2 c' (fun q => hyx (Pe base.apart e (q ▸ hc)))]; exact ho, hd⟩
        · obtain ⟨c', e, o, ho, hd⟩ := va
          exact ⟨c', e, o, by rw [hs'.2 c' (fun q => hyx (Pe base.apart e (q ▸ hc)))]; exact ho, hd⟩
        · exact va.elim
end
end Mine
end
section
namespace Mine
open PySem PySem.Calls PyProof.Rows PySem.W
noncomputable def X0 : MX := fun _ _ => False
section
variable (prog : Program) (w : World) (G : String → Option MV) (h₀ : Heap) (Φ : CallSpec) (d : Nat)
inductive PostB (fz : List Addr) (μ : MH) (s : Shared) (F : Bool → MH → Prop) (b : Bool) (s' : Shared) : Prop
  | mk (μ' : MH) (q : F b μ') (r : RepH prog w μ' s'.heap) (g : Grow fz μ s μ' s')
inductive PostL (fz : List Addr) (μ : MH) (s : Shared) (Q : List MV → MH → Prop) (vs : List Value) (s' : Shared) : Prop
  | mk (ms : List MV) (μ' : MH) (q : Q ms μ') (rv : RepVs s'.heap ms vs) (r : RepH prog w μ' s'.heap) (g : Grow fz μ s μ' s')
noncomputable def SC : Prop := ∀ (f : String) (vs : List MV) (vals : List Value) (fz : List Addr) (μ : MH) (s : Shared) (Q : MQ) (A : Around) (E : Value → Shared → Prop) (fa : Addr), OkA d A → Base h₀ fz μ s → RepH prog w μ s.heap → FzIn fz μ →
  RepVs s.heap vs vals → FnAt h₀ f fa → Φ f vs fz Q X0 μ → wpAny (model prog w) A (call (.ref fa) vals) (PostV prog w fz μ s Q) E s
noncomputable def SE (e : ME) : Prop := ∀ (S : Sc) (x : PySem.Expr) (env : Env) (vars : MVars) (fz : List Addr) (μ : MH) (s : Shared) (Q : MQ) (A : Around) (E : Value → Shared → Prop), isE S e x = true → OkA d A → Cur prog w h₀ S env vars fz μ s →
  ev G Φ X0 e fz vars Q μ → wpAny (model prog w) A (eval x env) (PostV prog w fz μ s Q) E s
noncomputable def ST (e : ME) : Prop := ∀ (S : Sc) (x : PySem.Expr) (env : Env) (vars : MVars) (fz : List Addr) (μ : MH) (s : Shared) (F : Bool → MH → Prop) (A : Around) (E : Value → Shared → Prop), isE S e x = true → OkA d A → Cur prog w h₀ S env vars fz μ s →
  ev G Φ X0 e fz vars (fun v μ' => ∃ b, truthy μ' v = some b ∧ F b μ') μ → wpAny (model prog w) A (isTrue x env (eval x env)) (PostB prog w fz μ s F) E s
noncomputable def SS (e : ME) : Prop := SE prog w G h₀ Φ d e ∧ ST prog w G h₀ Φ d e
end
section
variable {prog : Program} {w : World} {G : String → Option MV} {Γ : String → Option MFun} {h₀ : Heap} {mg mb : Str → Option Value} {Φ : CallSpec} {d : Nat}
  {S : Sc} {env : Env} {vars : MVars} {fz : List Addr} {μ : MH} {s : Shared} {A : Around} {E : Value → Shared → Prop}
theorem PostV.trans {Q : MQ} {μ₁ : MH} {s₁ : Shared} (g : Grow fz μ s μ₁ s₁) {v : Value} {s' : Shared} (h : PostV prog w fz μ₁ s₁ Q v s') : PostV prog w fz μ s Q v s' :=
  let ⟨mv, μ', q, r, hr, g'⟩ := h; ⟨mv, μ', q, r, hr, g.trans g'⟩
theorem PostB.trans {F : Bool → MH → Prop} {μ₁ : MH} {s₁ : Shared} (g : Grow fz μ s μ₁ s₁) {b : Bool} {s' : Shared} (h : PostB prog w fz μ₁ s₁ F b s') : PostB prog w fz μ s F b s' :=
  let ⟨μ', q, hr, g'⟩ := h; ⟨μ', q, hr, g.trans g'⟩
theorem PostL.trans {Q : List MV → MH → Prop} {μ₁ : MH} {s₁ : Shared} (g : Grow fz μ s μ₁ s₁) {v : List Value} {s' : Shared} (h : PostL prog w fz μ₁ s₁ Q v s') : PostL prog w fz μ s Q v s' :=
  let ⟨mv, μ', q, r, hr, g'⟩ := h; ⟨mv, μ', q, r, hr, g.trans g'⟩
theorem Still.grow {s' : Shared} (st : Still s s') : Grow fz μ s μ s' := ⟨fun b o _ e => ⟨by rw [st.1]; exact e, rfl⟩, st.2.1, st.2.2⟩
theorem isE_starred (e : ME) (v : PySem.Expr) (p : Pos) : isE S e (.Starred v p) = false := by
  cases e <;> (try rfl)
  rename_i f args; cases f <;> rfl
theorem isE_slice (e : ME) (l u t : Option PySem.Expr) (p : Pos) : isE S e (.Slice l u t p) = false := by
  cases e <;> (try rfl)
  rename_i f args; cases f <;> rfl
theorem isE_set (e : ME) (l : List PySem.Expr) (k : Nat) (p : Pos) : isE S e (.Set l k p) = false := by
  cases e <;> (try rfl)
  rename_i f args; cases f <;> rfl
theorem sub_plain {e : ME} {x : PySem.Expr} (h : isE S e x = true) (o i : Value) : subscripted x false o i = operate [o, i] (getItem o i) := by
  cases x <;> first
    | rfl
    | (rw [isE_slice] at h; cases h)
theorem Vt {e : ME} {x : PySem.Expr} (h : isE S e x = true) (rest : List PySem.Expr) (env : Env) : starEach (x :: rest) env = (false, eval x env) :: starEach rest env := by
  cases x <;> first
    | rfl
    | (rw [isE_starred] at h; cases h)
theorem marks_none {e : ME} {x : PySem.Expr} (h : isE S e x = true) (op : CmpOp) : behindInMarks op x = false := by
  cases x <;> first
    | rfl
    | (rw [isE_set] at h; cases h)
theorem folded_none {e : ME} {x : PySem.Expr} (h : isE S e x = true) (env : Env) (v : Value) : foldedSetIterable x env v = pure v := by
  cases x <;> first
    | rfl
    | (rw [isE_set] at h; cases h)
theorem Zh : ∀ {l : List ME} {xs : List PySem.Expr} (pos : Pos), isEs S l xs = true → backTo pos (starEach xs env) = xs.map fun x => (false, eval x env)
  | [], [] => fun _ _ => rfl
  | e :: l, x :: xs => fun pos h => by
    replace h := Ze h
    rw [Vt h.1]
    show (false, _) :: backTo pos (starEach xs env) = _
    rw [Zh pos h.2]; rfl
  | [], _ :: _ => fun _ h => (Bool.false_ne_true h).elim
  | _ :: _, [] => fun _ h => (Bool.false_ne_true h).elim
theorem Aw : ∀ {l : List ME} {xs : List PySem.Expr}, isEs S l xs = true → xs.length = l.length
  | [], [] => fun _ => rfl
  | e :: l, x :: xs => fun h => by replace h := Ze h; simp [Aw h.2]
  | [], _ :: _ => fun h => (Bool.false_ne_true h).elim
  | _ :: _, [] => fun h => (Bool.false_ne_true h).elim
theorem Zg : ∀ {l : List ME} (hl : ∀ e ∈ l, SS prog w G h₀ Φ d e) {xs : List PySem.Expr} {μ : MH} {s : Shared} {Q : List MV → MH → Prop}, isEs S l xs = true → OkA d A → Cur prog w h₀ S env vars fz μ s → evs G Φ X0 l fz vars Q μ →
    wpAny (model prog w) A (spliced (xs.map fun x => (false, eval x env))) (PostL prog w fz μ s Q) E s
  | [], _, [], μ, s, Q => fun h hA C hq => by
    have hq := hq
    exact Calls.spliced_nil ⟨[], μ, hq, trivial, C.heap, .refl⟩
  | e :: l, hl, x :: xs, μ, s, Q => fun h hA C hq => by
    replace h := Ze h
    have hq := hq
    refine Calls.spliced_cons (wpAny_mono ((hl e (.head _)).1 S x env vars fz μ s _ A E h.1 hA C hq) (fun v s₁ h₁ => ?_) fun _ _ e => e)
    obtain ⟨mv, μ₁, hq₁, rv, r₁, g₁⟩ := h₁
    refine wpAny_mono (Zg (fun e' he' => hl e' (.tail _ he')) h.2 hA (C.grow g₁ r₁) hq₁) (fun vs s₂ h₂ => ?_) fun _ _ e => e
    obtain ⟨ms, μ₂, hq₂, rs, r₂, g₂⟩ := h₂
    exact ⟨mv :: ms, μ₂, hq₂, by simp only [RepVs]; exact ⟨rv.keepT (g₂.keepT r₁), rs⟩, r₂, g₁.trans g₂⟩
  | [], _, _ :: _, _, _, _ => fun h _ _ _ => (Bool.false_ne_true h).elim
  | _ :: _, _, [], _, _, _ => fun h _ _ _ => (Bool.false_ne_true h).elim
theorem Z9 {M : Model} {f : Value} {trees : List (Bool × Sem Value)} {Q : Args → Shared → Prop} (hp : trees.any (·.1) = false) (h : wpAny M A (spliced trees) (fun vs s' => Q ⟨vs, []⟩ s') E s) : wpAny M A (evalArgs f true trees []) Q E s := by
  cases trees with
  | nil =>
    unfold evalArgs
    show wpAny M A (spliced [] >>= _) Q E s
    refine wpAny_bind (wpAny_mono h (fun vs s' h' => ?_) fun _ _ e => e)
    refine wpAny_bind (wpAny_pure (wpAny_holding ?_))
    exact wpAny_bind (wpAny_pure (wpAny_bind (wpAny_pure (wpAny_pure h'))))
  | cons t rest =>
    obtain ⟨b, x⟩ := t
    simp only [List.any_cons, Bool.or_eq_false_iff] at hp
    obtain rfl : b = false := hp.1
    exact evalArgs_plain h
theorem Z0 (xs : List PySem.Expr) : (xs.map fun x => (false, eval x env)).any (·.1) = false := by induction xs with | nil => rfl | cons x xs ih => simpa using ih
theorem truthyT {x : PySem.Expr} {e : ME} (hE : SE prog w G h₀ Φ d e) (hT : ∀ whole, isTrue x env whole = (do let v ← whole; standAt x.pos; holding [v] (PySem.truthy v))) {F : Bool → MH → Prop} (h : isE S e x = true) (hA : OkA d A) (C : Cur prog w h₀ S env vars fz μ s)
    (hq : ev G Φ X0 e fz vars (fun v μ' => ∃ b, truthy μ' v = some b ∧ F b μ') μ) : wpAny (model prog w) A (isTrue x env (eval x env)) (PostB prog w fz μ s F) E s := by
  rw [hT]
  refine wpAny_bind (wpAny_mono (hE S x env vars fz μ s _ A E h hA C hq) (fun v s₁ h₁ => ?_) fun _ _ e => e)
  obtain ⟨mv, μ₁, ⟨b, hb, hF⟩, rv, r₁, g₁⟩ := h₁
  refine wpAny_bind (wpAny_standAt (wpAny_holding (wpAny_mono (Af rv r₁ hb) (fun b' s₂ h₂ => ?_) fun _ _ e => e)))
  obtain ⟨rfl, st⟩ := h₂
  exact ⟨μ₁, hF, by rw [st.1]; exact r₁, g₁.trans st.grow⟩
end
end Mine
end
section
namespace Mine
open PySem PySem.Calls PyProof.Rows PySem.W
section
variable {prog : Program} {w : World} {G : String → Option MV} {Γ : String → Option MFun} {h₀ : Heap} {mg mb : Str → Option Value} {Φ : CallSpec} {d : Nat}
theorem isVar_debug {S : Sc} {i : Nat} {x : Str} (h : S.isVar i x = true) : (x == ("__debug__" : Str)) = false := by
  unfold Sc.isVar notDebug at h
  simp only [Bool.and_eq_true, beq_iff_eq, Bool.not_eq_true'] at h
  exact h.2.1
theorem Ai {S : Sc} {g : String} {x : Str} (h : S.isGlob g x = true) : x = Str.ofString g ∧ S.names.lookup x = some .globalImplicit ∧ (x == ("__debug__" : Str)) = false := by
  unfold Sc.isGlob notDebug isGlobK at h
  simp only [Bool.and_eq_true, beq_iff_eq, Bool.not_eq_true'] at h
  refine ⟨h.1.1, ?_, h.2.1⟩
  exact of_decide_eq_true h.1.2
theorem load_glob {M : Model} {S : Sc} {env : Env} {vars : MVars} {fz : List Addr} {μ : MH} {s : Shared} {A : Around} {E : Value → Shared → Prop} {g : String} {x : Str} {p : Pos} {v : Value} {Q : Value → Shared → Prop} (pg : PG prog w G Γ h₀ mg mb) (C : Cur prog w h₀ S env vars fz μ s) (h : S.isGlob g x = true)
    (hv : mg (Str.ofString g) = some v) (hq : Q v s) : wpAny M A (eval (.Name x p) env) Q E s := by
  obtain ⟨rfl, hk, hd⟩ := Ai h
  refine Name_function_global C.fr.kind (by unfold Env.kindOf; rw [C.fr.names]; exact hk) (loadGlobal_global (mg := mg) ?_ hv hq) hd
  rw [C.fr.glob]
  exact pg.g.keeps fun b o e => (C.base b o e).1
theorem Jj {M : Model} {S : Sc} {env : Env} {vars : MVars} {fz : List Addr} {μ : MH} {s : Shared} {A : Around} {E : Value → Shared → Prop} {g : String} {x : Str} {p : Pos} {v : Value} {Q : Value → Shared → Prop} (pg : PG prog w G Γ h₀ mg mb) (C : Cur prog w h₀ S env vars fz μ s) (h : S.isGlob g x = true)
    (hv : (g, v) ∈ biTab) (hq : Q v s) : wpAny M A (eval (.Name x p) env) Q E s := by
  obtain ⟨rfl, hk, hd⟩ := Ai h
  refine Name_function_global C.fr.kind (by unfold Env.kindOf; rw [C.fr.names]; exact hk) (loadGlobal_builtin (mg := mg) (mb := mb) ?_ (pg.bi _ hv).1 ?_ (pg.bi _ hv).2 hq) hd
  · rw [C.fr.glob]; exact pg.g.keeps fun b o e => (C.base b o e).1
  · rw [C.fr.bui]; exact pg.b.keeps fun b o e => (C.base b o e).1
theorem se_var (i : Nat) : SE prog w G h₀ Φ d (.var i) := fun S x env vars fz μ s Q A E h hA C hq => by
  replace h := inv_var h
  obtain ⟨y, p, rfl, h⟩ := h
  obtain ⟨v, hv, hq⟩ := hq
  exact wpAny_Name (load_var C h hv fun u r => Yl hq C.heap r rfl rfl rfl) (isVar_debug h)
theorem se_glob (pg : PG prog w G Γ h₀ mg mb) (g : String) : SE prog w G h₀ Φ d (.glob g) := fun S x env vars fz μ s Q A E h hA C hq => by
  replace h := inv_glob h
  obtain ⟨y, p, rfl, h⟩ := h
  obtain ⟨v, hv, hq⟩ := hq
  obtain ⟨val, hval, hr⟩ := pg.const g v hv
  refine load_glob pg C h hval (Yl hq C.heap ?_ rfl rfl rfl)
  rcases hr with ⟨i, t, rfl, rfl⟩ | ⟨y, t, rfl, rfl⟩ <;> simp [RepV]
theorem se_cint (i : Int) : SE prog w G h₀ Φ d (.cint i) := fun S x env vars fz μ s Q A E h hA C hq => by
  replace h := inv_cint h
  obtain ⟨k, p, rfl⟩ := h
  exact wpAny_Constant_int (Yl hq C.heap (by simp [RepV]) rfl rfl rfl)
theorem se_cstr (t : String) : SE prog w G h₀ Φ d (.cstr t) := fun S x env vars fz μ s Q A E h hA C hq => by
  replace h := inv_cstr h
  obtain ⟨k, p, rfl⟩ := h
  exact Calls.Constant_str (Yl hq C.heap (by simp [RepV]) rfl rfl rfl)
theorem se_cbool (b : Bool) : SE prog w G h₀ Φ d (.cbool b) := fun S x env vars fz μ s Q A E h hA C hq => by
  replace h := inv_cbool h
  obtain ⟨k, p, rfl⟩ := h
  exact wpAny_pure (Yl hq C.heap (by simp [RepV]) rfl rfl rfl)
theorem se_cnone : SE prog w G h₀ Φ d .cnone := fun S x env vars fz μ s Q A E h hA C hq => by
  replace h := inv_cnone h
  obtain ⟨k, p, rfl⟩ := h
  exact wpAny_pure (Yl hq C.heap (by simp [RepV]) rfl rfl rfl)
theorem se_bin {op : BOp} {a b : ME} (ha : SE prog w G h₀ Φ d a) (hb : SE prog w G h₀ Φ d b) : SE prog w G h₀ Φ d (.bin op a b) := fun S x env vars fz μ s Q A E h hA C hq => by
  replace h := inv_bin h
  obtain ⟨l, o, r, p, rfl, h⟩ := h
  simp only [Bool.and_eq_true] at h
  refine wpAny_BinOp (wpAny_mono (ha S _ env vars fz μ s _ A E h.1.2 hA C hq) (fun v s₁ h₁ => ?_) fun _ _ e => e)
  obtain ⟨mv, μ₁, hq₁, rv, r₁, g₁⟩ := h₁
  have C₁ := C.grow g₁ r₁
  refine wpAny_mono (hb S _ env vars fz μ₁ s₁ _ A E h.2 hA C₁ hq₁) (fun u s₂ h₂ => ?_) fun _ _ e => e
  obtain ⟨mu, μ₂, hq₂, ru, r₂, g₂⟩ := h₂
  refine wpAny_mono (op_bin h.1.1 (rv.keepT (g₂.keepT r₁)) ru r₂ (C₁.grow g₂ r₂).fzin hA hq₂) (fun v' s₃ h₃ => (h₃.trans g₂).trans g₁) fun _ _ e => e
theorem se_neg {a : ME} (ha : SE prog w G h₀ Φ d a) : SE prog w G h₀ Φ d (.neg a) := fun S x env vars fz μ s Q A E h hA C hq => by
  replace h := inv_neg h
  obtain ⟨y, p, rfl, h⟩ := h
  refine wpAny_UnaryOp (wpAny_mono (ha S _ env vars fz μ s _ A E h hA C hq) (fun v s₁ h₁ => ?_) fun _ _ e => e)
  obtain ⟨mv, μ₁, ⟨i, rfl, hq₁⟩, rv, r₁, g₁⟩ := h₁
  simp only [RepV] at rv; obtain ⟨t, rfl⟩ := rv
  exact PyProof.Rows.neg_int (PostV.trans g₁ (Yl (mv := .int (-i)) hq₁ r₁ (by simp only [RepV]; exact ⟨_, rfl⟩) rfl rfl rfl))
theorem se_not {a : ME} (ha : SE prog w G h₀ Φ d a) : SE prog w G h₀ Φ d (.not a) := fun S x env vars fz μ s Q A E h hA C hq => by
  replace h := inv_not h
  obtain ⟨y, p, rfl, h⟩ := h
  refine wpAny_UnaryOp (wpAny_mono (ha S _ env vars fz μ s _ A E h hA C hq) (fun v s₁ h₁ => ?_) fun _ _ e => e)
  obtain ⟨mv, μ₁, ⟨b, hb, hq₁⟩, rv, r₁, g₁⟩ := h₁
  refine not_of (wpAny_mono (Af rv r₁ hb) (fun b' s₂ h₂ => ?_) fun _ _ e => e)
  obtain ⟨rfl, st⟩ := h₂
  exact (Kl hq₁ r₁ (by simp [RepV]) st : PostV prog w fz μ₁ s₁ Q _ _).trans g₁
theorem bool_list {op : BoolOp} (isOr : Bool) (ho : op = if isOr then .Or else .And) : ∀ {l : List ME} (hl : ∀ e ∈ l, SE prog w G h₀ Φ d e) {S : Sc} {env : Env} {vars : MVars} {fz : List Addr} {xs : List PySem.Expr} {μ : MH} {s : Shared} {Q : MQ} {A : Around} {E : Value → Shared → Prop} {pos : Pos}, isEs S l xs = true → OkA d A → Cur prog w h₀ S env vars fz μ s →
    (if isOr then evOr G Φ X0 l fz vars Q μ else evAnd G Φ X0 l fz vars Q μ) → wpAny (model prog w) A (boolOp pos op (evalEach xs env)) (PostV prog w fz μ s Q) E s
  | [], _, S, env, vars, fz, [], μ, s, Q, A, E, pos => fun h hA C hq => by cases isOr <;> exact False.elim hq
  | [e], hl, S, env, vars, fz, [x], μ, s, Q, A, E, pos => fun h hA C hq => by
    replace h := (Ze h).1
    have hq' : ev G Φ X0 e fz vars Q μ := by cases isOr <;> exact hq
    exact hl e (.head _) S x env vars fz μ s Q A E h hA C hq'
  | e :: e' :: l, hl, S, env, vars, fz, x :: x' :: xs, μ, s, Q, A, E, pos => fun h hA C hq => by
    have h' : isE S e x = true ∧ isEs S (e' :: l) (x' :: xs) = true := Ze h
    show wpAny _ A (eval x env >>= _) _ _ s
    have key : ev G Φ X0 e fz vars (fun v μ' => ∃ b, truthy μ' v = some b ∧ if b = isOr then Q v μ' else (if isOr then evOr G Φ X0 (e' :: l) fz vars Q μ' else evAnd G Φ X0 (e' :: l) fz vars Q μ')) μ := by
      cases isOr
      · simp only [Bool.false_eq_true, if_false] at hq ⊢
        have q : (fun (v : MV) (μ' : MH) => ∃ b, truthy μ' v = some b ∧ if b = false then Q v μ' else evAnd G Φ X0 (e' :: l) fz vars Q μ') = (fun v μ' => ∃ b, truthy μ' v = some b ∧ if b = true then evAnd G Φ X0 (e' :: l) fz vars Q μ' else Q v μ') := by
          funext v μ'
          apply propext
          constructor <;> rintro ⟨b, hb, hh⟩ <;> refine ⟨b, hb, ?_⟩ <;> cases b <;> simpa using hh
        rw [q]; exact hq
      · simp only [if_true] at hq ⊢
        exact hq
    refine wpAny_bind (wpAny_mono (hl e (.head _) S x env vars fz μ s _ A E h'.1 hA C key) (fun v s₁ h₁ => ?_) fun _ _ e => e)
    obtain ⟨mv, μ₁, ⟨b, hb, hq₁⟩, rv, r₁, g₁⟩ := h₁
    refine wpAny_bind (wpAny_standAt (wpAny_bind (wpAny_holding (wpAny_mono (Af rv r₁ hb) (fun b' s₂ h₂ => ?_) fun _ _ e => e))))
    obtain ⟨rfl, st⟩ := h₂
    have r₂ : RepH prog w μ₁ s₂.heap := by rw [st.1]; exact r₁
    have C₂ := C.grow (g₁.trans st.grow) r₂
    subst ho
    by_cases hbo : b' = isOr
    · subst hbo
      simp only [if_true] at hq₁
      cases b' <;> exact wpAny_pure ((Kl hq₁ r₁ rv st : PostV prog w fz μ₁ s₁ Q _ _).trans g₁)
    · rw [if_neg hbo] at hq₁
      have rest := bool_list (op := if isOr then .Or else .And) isOr rfl (fun e'' he => hl e'' (.tail _ he)) (pos := pos) (E := E) h'.2 hA C₂ hq₁
      cases b' <;> cases isOr <;> first
        | exact absurd rfl hbo
        | exact wpAny_mono rest (fun v' s₃ h₃ => h₃.trans (g₁.trans st.grow)) fun _ _ e => e
  | [], _, S, env, vars, fz, _ :: _, μ, s, Q, A, E, pos => fun h hA C hq => (Bool.false_ne_true h).elim
  | _ :: _, _, S, env, vars, fz, [], μ, s, Q, A, E, pos => fun h hA C hq => (Bool.false_ne_true h).elim
  | [_], _, S, env, vars, fz, _ :: _ :: _, μ, s, Q, A, E, pos => fun h hA C hq => (Bool.false_ne_true (Ze h).2).elim
  | _ :: _ :: _, _, S, env, vars, fz, [_], μ, s, Q, A, E, pos => fun h hA C hq => (Bool.false_ne_true (Ze h).2).elim
end
end Mine
end
section
namespace Mine
open PySem PySem.Calls PyProof.Rows PySem.W
section
variable {prog : Program} {w : World} {G : String → Option MV} {Γ : String → Option MFun} {h₀ : Heap} {mg mb : Str → Option Value} {Φ : CallSpec} {d : Nat}
theorem se_and {l : List ME} (hl : ∀ e ∈ l, SE prog w G h₀ Φ d e) : SE prog w G h₀ Φ d (.and l) := fun S x env vars fz μ s Q A E h hA C hq => by
  replace h := inv_and h
  obtain ⟨xs, p, rfl, h⟩ := h
  exact bool_list false rfl hl h hA C hq
theorem se_or {l : List ME} (hl : ∀ e ∈ l, SE prog w G h₀ Φ d e) : SE prog w G h₀ Φ d (.or l) := fun S x env vars fz μ s Q A E h hA C hq => by
  replace h := inv_or h
  obtain ⟨xs, p, rfl, h⟩ := h
  exact bool_list true rfl hl h hA C hq
theorem Uw {S : Sc} : ∀ {es : List ME} {xs : List PySem.Expr} (os : List CmpOp), isEs S es xs = true → lastMarks os xs = false
  | [], [], os => fun _ => by cases os <;> simp [lastMarks]
  | e :: es, x :: xs, [] => fun _ => by simp [lastMarks]
  | e :: es, x :: xs, o :: os => fun h => by
    replace h := Ze h
    have ih := Uw os h.2
    have hm := marks_none h.1 o
    cases os <;> cases xs <;> simp_all [lastMarks]
  | [], _ :: _, _ => fun h => (Bool.false_ne_true h).elim
  | _ :: _, [], _ => fun h => (Bool.false_ne_true h).elim
theorem cmp_list : ∀ {es : List ME} (hl : ∀ e ∈ es, SE prog w G h₀ Φ d e) {S : Sc} {env : Env} {vars : MVars} {fz : List Addr} {ops : List COp} {os : List CmpOp} {xs : List PySem.Expr} {a : MV} {va : Value} {μ : MH} {s : Shared} {Q : MQ} {A : Around} {E : Value → Shared → Prop} {pos : Pos}, copsIs ops os = true → isEs S es xs = true → OkA d A → Cur prog w h₀ S env vars fz μ s →
    RepV s.heap a va → evCmp G Φ X0 es ops a fz vars Q μ → wpAny (model prog w) A (compareChain pos va os (evalEach xs env)) (PostV prog w fz μ s Q) E s
  | e :: es, hl, S, env, vars, fz, op :: ops, o :: os, x :: xs, a, va, μ, s, Q, A, E, pos => fun ho h hA C ra hq => by
    simp only [copsIs, Bool.and_eq_true] at ho
    replace h := Ze h
    have step := hl e (.head _) S x env vars fz μ s _ A E h.1 hA C hq
    cases es with
    | nil =>
      cases xs with
      | cons _ _ => simp [isEs] at h
      | nil =>
      cases ops with
      | cons _ _ =>
        cases os with
        | nil => simp [copsIs] at ho
        | cons o' os =>
          show wpAny _ A (holding [va] (eval x env) >>= _) _ _ s
          refine wpAny_bind (wpAny_holding (wpAny_mono step (fun v s₁ h₁ => ?_) fun _ _ e => e))
          obtain ⟨_, _, ⟨b, _, f⟩, _⟩ := h₁
          exact f.elim
      | nil =>
        cases os with
        | cons _ _ => simp [copsIs] at ho
        | nil =>
          refine chain_last (wpAny_mono step (fun v s₁ h₁ => ?_) fun _ _ e => e)
          obtain ⟨mv, μ₁, ⟨b, hb, hq₁⟩, rv, r₁, g₁⟩ := h₁
          exact Fi ho.1 (ra.keepT (g₁.keepT C.heap)) rv r₁ hA hb fun s' st => PostV.trans g₁ (Kl hq₁ r₁ (by simp [RepV]) st)
    | cons e' es =>
      cases xs with
      | nil => simp [isEs] at h
      | cons x' xs =>
      cases ops with
      | nil =>
        cases os with
        | cons _ _ => simp [copsIs] at ho
        | nil =>
          show wpAny _ A (holding [va] (eval x env) >>= _) _ _ s
          refine wpAny_bind (wpAny_holding (wpAny_mono step (fun v s₁ h₁ => ?_) fun _ _ e => e))
          obtain ⟨_, _, ⟨b, _, f⟩, _⟩ := h₁
          exact f.elim
      | cons op' ops =>
        cases os with
        | nil => simp [copsIs] at ho
        | cons o' os =>
          refine chain_link (wpAny_mono step (fun v s₁ h₁ => ?_) fun _ _ e => e)
          obtain ⟨mv, μ₁, ⟨b, hb, hq₁⟩, rv, r₁, g₁⟩ := h₁
          refine Fi ho.1 (ra.keepT (g₁.keepT C.heap)) rv r₁ hA hb fun s' st => wpAny_truthy_bool ?_
          have r₂ : RepH prog w μ₁ s'.heap := by rw [st.1]; exact r₁
          cases b with
          | false => exact PostV.trans g₁ (Kl hq₁ r₁ (by simp [RepV]) st)
          | true =>
            refine wpAny_mono (cmp_list (fun e'' he => hl e'' (.tail _ he)) ho.2 h.2 hA (C.grow (g₁.trans st.grow) r₂) (by rw [st.1]; exact rv) hq₁) (fun v' s₃ h₃ => h₃.trans (g₁.trans st.grow)) fun _ _ e => e
  | [], _, _, _, _, _, _, _, _, _, _, _, _, _, _, _, _ => fun _ _ _ _ _ hq => False.elim hq
  | _ :: _, _, _, _, _, _, [], _, _, _, _, _, _, _, _, _, _ => fun _ _ _ _ _ hq => False.elim hq
  | _ :: _, _, _, _, _, _, _ :: _, [], _, _, _, _, _, _, _, _, _ => fun ho _ _ _ _ hq => by simp [copsIs] at ho
  | _ :: _, _, _, _, _, _, _ :: _, _ :: _, [], _, _, _, _, _, _, _, _ => fun _ h _ _ _ hq => (Bool.false_ne_true h).elim
theorem se_cmp {a : ME} {ops : List COp} {es : List ME} (ha : SE prog w G h₀ Φ d a) (hl : ∀ e ∈ es, SE prog w G h₀ Φ d e) : SE prog w G h₀ Φ d (.cmp a ops es) := fun S x env vars fz μ s Q A E h hA C hq => by
  replace h := inv_cmp h
  obtain ⟨l, os, cs, p, rfl, h⟩ := h
  simp only [Bool.and_eq_true] at h
  show wpAny _ A (eval l env >>= fun v => compareChain p v os (markedEach os cs (evalEach cs env))) _ _ s
  rw [markedEach_of_false _ _ _ (Uw os h.2)]
  refine wpAny_bind (wpAny_mono (ha S _ env vars fz μ s _ A E h.1.1 hA C hq) (fun v s₁ h₁ => ?_) fun _ _ e => e)
  obtain ⟨mv, μ₁, hq₁, rv, r₁, g₁⟩ := h₁
  exact wpAny_mono (cmp_list hl h.1.2 h.2 hA (C.grow g₁ r₁) rv hq₁) (fun v' s₃ h₃ => h₃.trans g₁) fun _ _ e => e
theorem se_idx {a i : ME} (ha : SE prog w G h₀ Φ d a) (hi : SE prog w G h₀ Φ d i) : SE prog w G h₀ Φ d (.idx a i) := fun S x env vars fz μ s Q A E h hA C hq => by
  replace h := inv_idx h
  obtain ⟨v, y, p, rfl, h⟩ := h
  simp only [Bool.and_eq_true] at h
  refine Subscript_ (wpAny_mono (ha S _ env vars fz μ s _ A E h.1 hA C hq) (fun v s₁ h₁ => ?_) fun _ _ e => e)
  obtain ⟨mv, μ₁, hq₁, rv, r₁, g₁⟩ := h₁
  have C₁ := C.grow g₁ r₁
  refine wpAny_mono (hi S _ env vars fz μ₁ s₁ _ A E h.2 hA C₁ hq₁) (fun u s₂ h₂ => ?_) fun _ _ e => e
  obtain ⟨mu, μ₂, ⟨z, hz, hq₂⟩, ru, r₂, g₂⟩ := h₂
  exact op_item (rv.keepT (g₂.keepT r₁)) ru r₂ hz (sub_plain h.2) fun zv s' rz st => PostV.trans (g₁.trans g₂) (Kl hq₂ r₂ rz st)
theorem isNone_eq {e : ME} (h : e.isNone = true) : e = .cnone := by
  cases e <;> first | rfl | exact (Bool.false_ne_true h).elim
theorem Fd {e : ME} (he : SE prog w G h₀ Φ d e) {S : Sc} {o : Option PySem.Expr} {env : Env} {vars : MVars} {fz : List Addr} {μ : MH} {s : Shared} {Q : MQ} {A : Around} {E : Value → Shared → Prop}
    (h : optOk o e.isNone (isE S e) = true) (hA : OkA d A) (C : Cur prog w h₀ S env vars fz μ s) (hq : ev G Φ X0 e fz vars Q μ) : wpAny (model prog w) A (evalPart o env) (PostV prog w fz μ s Q) E s := by
  cases o with
  | none =>
    obtain rfl := isNone_eq h
    exact wpAny_evalPart_none (Yl hq C.heap (by simp [RepV]) rfl rfl rfl)
  | some x => exact wpAny_evalPart_some (he S x env vars fz μ s Q A E h hA C hq)
theorem se_slice {a lo hi st : ME} (ha : SE prog w G h₀ Φ d a) (hlo : SE prog w G h₀ Φ d lo) (hhi : SE prog w G h₀ Φ d hi) (hst : SE prog w G h₀ Φ d st) : SE prog w G h₀ Φ d (.slice a lo hi st) := fun S x env vars fz μ s Q A E h hA C hq => by
  replace h := inv_slice h
  obtain ⟨v, l, u, tt, sp, p, rfl, h⟩ := h
  simp only [Bool.and_eq_true] at h
  refine Subscript_ (wpAny_mono (ha S _ env vars fz μ s _ A E h.1.1.1 hA C hq) (fun v s₁ h₁ => ?_) fun _ _ e => e)
  obtain ⟨mv, μ₁, hq₁, rv, r₁, g₁⟩ := h₁
  have C₁ := C.grow g₁ r₁
  refine wpAny_Slice (wpAny_mono (Fd hlo h.1.1.2 hA C₁ hq₁) (fun vl s₂ h₂ => ?_) fun _ _ e => e)
  obtain ⟨ml, μ₂, hq₂, rl, r₂, g₂⟩ := h₂
  have C₂ := C₁.grow g₂ r₂
  refine wpAny_mono (Fd hhi h.1.2 hA C₂ hq₂) (fun vh s₃ h₃ => ?_) fun _ _ e => e
  obtain ⟨mh, μ₃, hq₃, rh, r₃, g₃⟩ := h₃
  have C₃ := C₂.grow g₃ r₃
  refine wpAny_mono (Fd hst h.2 hA C₃ hq₃) (fun vs s₄ h₄ => ?_) fun _ _ e => e
  obtain ⟨ms, μ₄, hq₄, rs, r₄, g₄⟩ := h₄
  have C₄ := C₃.grow g₄ r₄
  have kp : ∀ b o, s₄.heap.get? b = some o → (s₄.heap.push { cls := .type "slice", data := .fields #[vl, vh, vs] }).get? b = some o := fun b o e => Heap.get?_push_of_some _ e
  have kt := KeepsT.of_all kp
  refine wpAny_mono (op_slice (sl := s₄.heap.objs.size) (μ₀ := μ) (s₀ := s) (s := { s₄ with heap := s₄.heap.push { cls := .type "slice", data := .fields #[vl, vh, vs] } }) (((rv.keepT (g₂.keepT r₁)).keepT (g₃.keepT r₂)).keepT (g₄.keepT r₃) |>.keepT kt) (((rl.keepT (g₃.keepT r₂)).keepT (g₄.keepT r₃)).keepT kt) ((rh.keepT (g₄.keepT r₃)).keepT kt) (rs.keepT kt) (r₄.ext kp) C₄.fzin hq₄ (Heap.get?_push_size _ rfl)) (fun v' s₅ h₅ => PostV.trans (((g₁.trans g₂).trans g₃).trans g₄) (PostV.trans (.ext (tk := s₄.toks) kp) h₅)) fun _ _ e => e
theorem se_list {l : List ME} (hl : ∀ e ∈ l, SS prog w G h₀ Φ d e) : SE prog w G h₀ Φ d (.list l) := fun S x env vars fz μ s Q A E h hA C hq => by
  replace h := inv_list h
  obtain ⟨es, p, rfl, h⟩ := h
  refine wpAny_List_spliced ?_
  rw [Zh p h]
  refine wpAny_mono (Zg hl h hA C hq) (fun vs s₁ h₁ => ?_) fun _ _ e => e
  obtain ⟨ms, μ₁, ⟨hf, hq₁⟩, rv, r₁, g₁⟩ := h₁
  refine ⟨by rw [rv.length]; exact Yp hf, PostV.trans g₁ ?_⟩
  exact Oq (tk := s₁.toks) hq₁ r₁ (C.grow g₁ r₁).fzin (N5 rv)
theorem se_tuple {l : List ME} (hl : ∀ e ∈ l, SS prog w G h₀ Φ d e) : SE prog w G h₀ Φ d (.tuple l) := fun S x env vars fz μ s Q A E h hA C hq => by
  replace h := inv_tuple h
  obtain ⟨es, kk, p, rfl, h⟩ := h
  refine wpAny_Tuple_spliced ?_
  rw [Zh p h]
  refine wpAny_mono (Zg hl h hA C hq) (fun vs s₁ h₁ => ?_) fun _ _ e => e
  obtain ⟨ms, μ₁, ⟨hf, hq₁⟩, rv, r₁, g₁⟩ := h₁
  refine ⟨by rw [rv.length]; exact Yp hf, PostV.trans g₁ ?_⟩
  exact J4 (tk := s₁.toks) hq₁ r₁ (fun b o e => Heap.get?_push_of_some _ e) (repTup_push rv)
theorem mods_lt (pg : PG prog w G Γ h₀ mg mb) {S : Sc} {env : Env} {vars : MVars} {fz : List Addr} {μ : MH} {s : Shared} (C : Cur prog w h₀ S env vars fz μ s) : sysModules < s.heap.objs.size := by
  obtain ⟨o, es, ep, ho, _⟩ := pg.g
  have := Heap.lt_size (C.base _ _ ho).1
  exact Nat.lt_trans (by decide) this
theorem se_dict0 (pg : PG prog w G Γ h₀ mg mb) (b : Bool) : SE prog w G h₀ Φ d (.dict0 b) := fun S x env vars fz μ s Q A E h hA C hq => by
  replace h := inv_dict0 h
  obtain ⟨p, rfl⟩ := h
  have hm := mods_lt pg C
  refine wpAny_Dict_empty (Oq (tk := s.toks) hq C.heap C.fzin ?_)
  have ne : (s.heap.objs.size == sysModules) = false := by
    rw [beq_eq_false_iff_ne]; exact Nat.ne_of_gt hm
  cases b
  · exact ⟨[], Heap.DictOf.new _, trivial, ne⟩
  · exact ⟨[], Heap.DictOf.new _, trivial, ne⟩
theorem st_not {a : ME} (ha : ST prog w G h₀ Φ d a) : ST prog w G h₀ Φ d (.not a) := fun S x env vars fz μ s F A E h hA C hq => by
  replace h := inv_not h
  obtain ⟨y, p, rfl, h⟩ := h
  show wpAny _ A (isTrue y env (eval y env) >>= fun b => pure (!b)) _ _ s
  have q : (fun (x : MV) (μ' : MH) => ∃ b, truthy μ' x = some b ∧ ∃ b_1, truthy μ' (MV.bool !b) = some b_1 ∧ F b_1 μ') = (fun x μ' => ∃ b, truthy μ' x = some b ∧ F (!b) μ') := by
    funext v μ'
    simp [truthy]
  replace hq : ev G Φ X0 a fz vars (fun x μ' => ∃ b, truthy μ' x = some b ∧ ∃ b_1, truthy μ' (MV.bool !b) = some b_1 ∧ F b_1 μ') μ := hq
  rw [q] at hq
  refine wpAny_bind (wpAny_mono (ha S y env vars fz μ s (fun b μ' => F (!b) μ') A E h hA C hq) (fun v s₁ h₁ => ?_) fun _ _ e => e)
  obtain ⟨μ₁, q₁, r₁, g₁⟩ := h₁
  exact wpAny_pure ⟨μ₁, q₁, r₁, g₁⟩
theorem Ch (isOr : Bool) : ∀ {l : List ME} (hl : ∀ e ∈ l, ST prog w G h₀ Φ d e) {S : Sc} {env : Env} {vars : MVars} {fz : List Addr} {xs : List PySem.Expr} {μ : MH} {s : Shared} {F : Bool → MH → Prop} {A : Around} {E : Value → Shared → Prop}, isEs S l xs = true → OkA d A → Cur prog w h₀ S env vars fz μ s →
    (if isOr then evOr G Φ X0 l fz vars (fun v μ' => ∃ b, truthy μ' v = some b ∧ F b μ') μ else evAnd G Φ X0 l fz vars (fun v μ' => ∃ b, truthy μ' v = some b ∧ F b μ') μ) → wpAny (model prog w) A (allTrue (if isOr then .Or else .And) xs env) (PostB prog w fz μ s F) E s
  | [], _, S, env, vars, fz, [], μ, s, F, A, E => fun h hA C hq => by cases isOr <;> exact False.elim hq
  | e :: l, hl, S, env, vars, fz, x :: xs, μ, s, F, A, E => fun h hA C hq => by
    have h' : isE S e x = true ∧ isEs S l xs = true := Ze h
    have key : ev G Φ X0 e fz vars (fun v μ' => ∃ b, truthy μ' v = some b ∧ if l = [] ∨ b = isOr then F b μ' else (if isOr then evOr G Φ X0 l fz vars (fun v μ' => ∃ b, truthy μ' v = some b ∧ F b μ') μ' else evAnd G Φ X0 l fz vars (fun v μ' => ∃ b, truthy μ' v = some b ∧ F b μ') μ')) μ := by
      cases l with
      | nil =>
        have hq' : ev G Φ X0 e fz vars (fun v μ' => ∃ b, truthy μ' v = some b ∧ F b μ') μ := by cases isOr <;> exact hq
        simpa using hq'
      | cons e' l =>
        cases isOr
        · simp only [Bool.false_eq_true, if_false] at hq ⊢
          have q : (fun (v : MV) (μ' : MH) => ∃ b, truthy μ' v = some b ∧ if e' :: l = [] ∨ b = false then F b μ' else evAnd G Φ X0 (e' :: l) fz vars (fun v μ' => ∃ b, truthy μ' v = some b ∧ F b μ') μ') =
              (fun v μ' => ∃ b, truthy μ' v = some b ∧ if b = true then evAnd G Φ X0 (e' :: l) fz vars (fun v μ' => ∃ b, truthy μ' v = some b ∧ F b μ') μ' else ∃ b, truthy μ' v = some b ∧ F b μ') := by
            funext v μ'
            apply propext
            constructor
            · rintro ⟨b, hb, hh⟩
              refine ⟨b, hb, ?_⟩
              cases b
              · rw [if_pos (.inr rfl)] at hh; rw [if_neg (by simp)]; exact ⟨_, hb, hh⟩
              · simpa using hh
            · rintro ⟨b, hb, hh⟩
              refine ⟨b, hb, ?_⟩
              cases b
              · rw [if_neg (by simp)] at hh; rw [if_pos (.inr rfl)]; obtain ⟨b', hb', hh⟩ := hh; rw [hb] at hb'; cases hb'; exact hh
              · simpa using hh
          rw [q]; exact hq
        · simp only [if_true] at hq ⊢
          have q : (fun (v : MV) (μ' : MH) => ∃ b, truthy μ' v = some b ∧ if e' :: l = [] ∨ b = true then F b μ' else evOr G Φ X0 (e' :: l) fz vars (fun v μ' => ∃ b, truthy μ' v = some b ∧ F b μ') μ') =
              (fun v μ' => ∃ b, truthy μ' v = some b ∧ if b = true then (∃ b, truthy μ' v = some b ∧ F b μ') else evOr G Φ X0 (e' :: l) fz vars (fun v μ' => ∃ b, truthy μ' v = some b ∧ F b μ') μ') := by
            funext v μ'
            apply propext
            constructor
            · rintro ⟨b, hb, hh⟩
              refine ⟨b, hb, ?_⟩
              cases b
              · simpa using hh
              · rw [if_pos (.inr rfl)] at hh; rw [if_pos rfl]; exact ⟨_, hb, hh⟩
            · rintro ⟨b, hb, hh⟩
              refine ⟨b, hb, ?_⟩
              cases b
              · simpa using hh
              · rw [if_pos rfl] at hh; rw [if_pos (.inr rfl)]; obtain ⟨b', hb', hh⟩ := hh; rw [hb] at hb'; cases hb'; exact hh
          rw [q]; exact hq
    show wpAny _ A (isTrue x env (eval x env) >>= _) _ _ s
    refine wpAny_bind (wpAny_mono (hl e (.head _) S x env vars fz μ s (fun b μ' => if l = [] ∨ b = isOr then F b μ' else (if isOr then evOr G Φ X0 l fz vars (fun v μ' => ∃ b, truthy μ' v = some b ∧ F b μ') μ' else evAnd G Φ X0 l fz vars (fun v μ' => ∃ b, truthy μ' v = some b ∧ F b μ') μ')) A E h'.1 hA C key) (fun b s₁ h₁ => ?_) fun _ _ e => e)
    obtain ⟨μ₁, hq₁, r₁, g₁⟩ := h₁
    by_cases hbo : b = isOr
    · subst hbo
      rw [if_pos (.inr rfl)] at hq₁
      cases b <;> exact wpAny_pure ⟨μ₁, hq₁, r₁, g₁⟩
    · by_cases hn : l = []
      · rw [if_pos (.inl hn)] at hq₁
        subst hn
        cases xs with
        | cons _ _ => simp [isEs] at h'
        | nil =>
          cases b <;> cases isOr <;> first
            | exact absurd rfl hbo
            | exact wpAny_pure ⟨μ₁, hq₁, r₁, g₁⟩
      · rw [if_neg (by simp [hn, hbo])] at hq₁
        have rest := Ch isOr (fun e'' he => hl e'' (.tail _ he)) (E := E) h'.2 hA (C.grow g₁ r₁) hq₁
        cases b <;> cases isOr <;> first
          | exact absurd rfl hbo
          | exact wpAny_mono rest (fun v' s₃ h₃ => h₃.trans g₁) fun _ _ e => e
  | [], _, S, env, vars, fz, _ :: _, μ, s, F, A, E => fun h hA C hq => (Bool.false_ne_true h).elim
  | _ :: _, _, S, env, vars, fz, [], μ, s, F, A, E => fun h hA C hq => (Bool.false_ne_true h).elim
theorem st_and {l : List ME} (hl : ∀ e ∈ l, ST prog w G h₀ Φ d e) : ST prog w G h₀ Φ d (.and l) := fun S x env vars fz μ s F A E h hA C hq => by
  replace h := inv_and h
  obtain ⟨xs, p, rfl, h⟩ := h
  exact Ch false hl h hA C hq
theorem st_or {l : List ME} (hl : ∀ e ∈ l, ST prog w G h₀ Φ d e) : ST prog w G h₀ Φ d (.or l) := fun S x env vars fz μ s F A E h hA C hq => by
  replace h := inv_or h
  obtain ⟨xs, p, rfl, h⟩ := h
  exact Ch true hl h hA C hq
theorem Cx : ∀ {es : List ME} (hl : ∀ e ∈ es, SE prog w G h₀ Φ d e) {S : Sc} {env : Env} {vars : MVars} {fz : List Addr} {ops : List COp} {os : List CmpOp} {xs : List PySem.Expr} {a : MV} {va : Value} {μ : MH} {s : Shared} {F : Bool → MH → Prop} {A : Around} {E : Value → Shared → Prop} {pos : Pos}, copsIs ops os = true → isEs S es xs = true → OkA d A → Cur prog w h₀ S env vars fz μ s →
    RepV s.heap a va → evCmp G Φ X0 es ops a fz vars (fun v μ' => ∃ b, truthy μ' v = some b ∧ F b μ') μ → wpAny (model prog w) A (testChain pos va os (evalEach xs env)) (PostB prog w fz μ s F) E s
  | e :: es, hl, S, env, vars, fz, op :: ops, o :: os, x :: xs, a, va, μ, s, F, A, E, pos => fun ho h hA C ra hq => by
    simp only [copsIs, Bool.and_eq_true] at ho
    replace h := Ze h
    have step := hl e (.head _) S x env vars fz μ s _ A E h.1 hA C hq
    cases es with
    | nil =>
      cases xs with
      | cons _ _ => simp [isEs] at h
      | nil =>
      cases ops with
      | cons _ _ =>
        cases os with
        | nil => simp [copsIs] at ho
        | cons o' os =>
          show wpAny _ A (holding [va] (eval x env) >>= _) _ _ s
          refine wpAny_bind (wpAny_holding (wpAny_mono step (fun v s₁ h₁ => ?_) fun _ _ e => e))
          obtain ⟨_, _, ⟨b, _, f⟩, _⟩ := h₁
          exact f.elim
      | nil =>
        cases os with
        | cons _ _ => simp [copsIs] at ho
        | nil =>
          refine test_last (wpAny_mono step (fun v s₁ h₁ => ?_) fun _ _ e => e)
          obtain ⟨mv, μ₁, ⟨b, hb, b', hb', hq₁⟩, rv, r₁, g₁⟩ := h₁
          simp only [truthy, Option.some.injEq] at hb'; subst hb'
          exact Fi ho.1 (ra.keepT (g₁.keepT C.heap)) rv r₁ hA hb fun s' st => wpAny_truthy_bool (PostB.trans (g₁.trans st.grow) ⟨μ₁, hq₁, by rw [st.1]; exact r₁, .refl⟩)
    | cons e' es =>
      cases xs with
      | nil => simp [isEs] at h
      | cons x' xs =>
      cases ops with
      | nil =>
        cases os with
        | cons _ _ => simp [copsIs] at ho
        | nil =>
          show wpAny _ A (holding [va] (eval x env) >>= _) _ _ s
          refine wpAny_bind (wpAny_holding (wpAny_mono step (fun v s₁ h₁ => ?_) fun _ _ e => e))
          obtain ⟨_, _, ⟨b, _, f⟩, _⟩ := h₁
          exact f.elim
      | cons op' ops =>
        cases os with
        | nil => simp [copsIs] at ho
        | cons o' os =>
          refine test_link (wpAny_mono step (fun v s₁ h₁ => ?_) fun _ _ e => e)
          obtain ⟨mv, μ₁, ⟨b, hb, hq₁⟩, rv, r₁, g₁⟩ := h₁
          refine Fi ho.1 (ra.keepT (g₁.keepT C.heap)) rv r₁ hA hb fun s' st => wpAny_truthy_bool ?_
          have r₂ : RepH prog w μ₁ s'.heap := by rw [st.1]; exact r₁
          cases b with
          | false =>
            obtain ⟨b', hb', hq₁⟩ := hq₁
            simp only [truthy, Option.some.injEq] at hb'; subst hb'
            exact PostB.trans (g₁.trans st.grow) ⟨μ₁, hq₁, r₂, .refl⟩
          | true =>
            refine wpAny_mono (Cx (fun e'' he => hl e'' (.tail _ he)) ho.2 h.2 hA (C.grow (g₁.trans st.grow) r₂) (by rw [st.1]; exact rv) hq₁) (fun v' s₃ h₃ => h₃.trans (g₁.trans st.grow)) fun _ _ e => e
  | [], _, _, _, _, _, _, _, _, _, _, _, _, _, _, _, _ => fun _ _ _ _ _ hq => False.elim hq
  | _ :: _, _, _, _, _, _, [], _, _, _, _, _, _, _, _, _, _ => fun _ _ _ _ _ hq => False.elim hq
  | _ :: _, _, _, _, _, _, _ :: _, [], _, _, _, _, _, _, _, _, _ => fun ho _ _ _ _ hq => by simp [copsIs] at ho
  | _ :: _, _, _, _, _, _, _ :: _, _ :: _, [], _, _, _, _, _, _, _, _ => fun _ h _ _ _ hq => (Bool.false_ne_true h).elim
theorem st_cmp {a : ME} {ops : List COp} {es : List ME} (ha : SE prog w G h₀ Φ d a) (hl : ∀ e ∈ es, SE prog w G h₀ Φ d e) : ST prog w G h₀ Φ d (.cmp a ops es) := fun S x env vars fz μ s Q A E h hA C hq => by
  replace h := inv_cmp h
  obtain ⟨l, os, cs, p, rfl, h⟩ := h
  simp only [Bool.and_eq_true] at h
  show wpAny _ A (eval l env >>= fun v => testChain p v os (markedEach os cs (evalEach cs env))) _ _ s
  rw [markedEach_of_false _ _ _ (Uw os h.2)]
  refine wpAny_bind (wpAny_mono (ha S _ env vars fz μ s _ A E h.1.1 hA C hq) (fun v s₁ h₁ => ?_) fun _ _ e => e)
  obtain ⟨mv, μ₁, hq₁, rv, r₁, g₁⟩ := h₁
  exact wpAny_mono (Cx hl h.1.2 h.2 hA (C.grow g₁ r₁) rv hq₁) (fun v' s₃ h₃ => h₃.trans g₁) fun _ _ e => e
end
end Mine
end
section
namespace Mine
open PySem PySem.Calls PyProof.Rows PySem.W
section
variable {prog : Program} {w : World} {G : String → Option MV} {Γ : String → Option MFun} {h₀ : Heap} {mg mb : Str → Option Value} {Φ : CallSpec} {d : Nat}
theorem se_call (hc : SC prog w h₀ Φ d) {f : String} {l : List ME} (hl : ∀ e ∈ l, SS prog w G h₀ Φ d e) : SE prog w G h₀ Φ d (.call f l) := fun S x env vars fz μ s Q A E h hA C hq => by
  replace h := inv_call h
  obtain ⟨g, np, as, p, rfl, hg, h⟩ := h
  simp only [Bool.and_eq_true, decide_eq_true_eq, List.contains_iff_mem] at h
  obtain ⟨⟨hf, ha⟩, hn⟩ := h
  obtain ⟨fa, m, hm, hmf, o, fd, ho, hfd⟩ := C.known f hf
  obtain ⟨rfl, hk, hd⟩ := Ai hg
  refine wpAny_Call_ofName (Name_function_global C.fr.kind (by unfold Env.kindOf; rw [C.fr.names]; exact hk) (loadGlobal_global (mg := m) ?_ hmf ?_) hd)
  · rw [C.fr.glob]
    exact hm.keeps fun b o e => (C.base b o e).1
  rw [Zh p ha]
  show wpAny _ A (callWith p (.ref fa) [] _ []) _ _ s
  refine callWith_function (o := o) (fd := fd) (Z9 (Z0 as) (wpAny_mono (Zg hl ha hA C hq) (fun vs s₁ h₁ => ?_) fun _ _ e => e))
  obtain ⟨ms, μ₁, hq₁, rv, r₁, g₁⟩ := h₁
  have C₁ := C.grow g₁ r₁
  refine ⟨⟨(C₁.base _ _ ho).1, hfd⟩, ?_⟩
  refine wpAny_mono (hc f ms vs fz μ₁ s₁ Q A E fa hA C₁.base r₁ C₁.fzin rv ⟨m, hm, hmf, o, fd, ho, hfd⟩ hq₁) (fun v' s₃ h₃ => h₃.trans g₁) fun _ _ e => e
theorem se_isinst (pg : PG prog w G Γ h₀ mg mb) {a : ME} {t : TY} (ha : SS prog w G h₀ Φ d a) : SE prog w G h₀ Φ d (.isinst a t) := fun S x env vars fz μ s Q A E h hA C hq => by
  replace h := inv_isinst h
  obtain ⟨g, np, y, ty, tp, p, rfl, h1, h2, h3⟩ := h
  refine wpAny_Call_ofName (Jj pg C h1 (v := .builtin "isinstance") (by decide) ?_)
  show wpAny _ A (callWith p (.builtin "isinstance") [] (backTo p (starEach [y, .Name ty tp] env)) []) _ _ s
  have e1 : backTo p (starEach [y, .Name ty tp] env) = [(false, eval y env), (false, eval (.Name ty tp) env)] := by
    rw [Vt h3]; rfl
  rw [e1]
  refine callWith_builtin rfl (Z9 rfl ?_)
  refine Calls.spliced_cons (wpAny_mono (ha.1 S y env vars fz μ s _ A E h3 hA C hq) (fun v s₁ h₁ => ?_) fun _ _ e => e)
  obtain ⟨mv, μ₁, ⟨b, hb, hq₁⟩, rv, r₁, g₁⟩ := h₁
  refine Calls.spliced_cons (Jj pg (C.grow g₁ r₁) h2 (v := .type (tyName t)) (by cases t <;> decide) ?_)
  refine Calls.spliced_nil ?_
  exact op_isinst rv r₁ hb fun s' st => PostV.trans g₁ (Kl hq₁ r₁ (by simp [RepV]) st)
theorem attr_base {ov : PySem.Expr} (h : notCall0 ov = true) (attr : Str) (env : Env) (whole : Sem Value) : attributeBase ov attr env whole = whole := by
  cases ov <;> try rfl
  rename_i f as kw p
  cases f <;> try rfl
  cases as <;> try rfl
  cases kw <;> first | rfl | exact (Bool.false_ne_true h).elim
theorem se_meth {m : MM} {o : ME} {l : List ME} (ho : SE prog w G h₀ Φ d o) (hl : ∀ e ∈ l, SS prog w G h₀ Φ d e) : SE prog w G h₀ Φ d (.meth m o l) := fun S x env vars fz μ s Q A E h hA C hq => by
  replace h := inv_meth h
  obtain ⟨ov, ap, as, p, rfl, hline, hc0, hov, has, hlen⟩ := h
  refine wpAny_Call_method_late ?_ ?_ (by simpa using hline) (Zh p has) (wpAny_mono (ho S ov env vars fz μ s _ A E hov hA C hq) (fun v s₁ h₁ => ?_) fun _ _ e => e)
  · exact attr_base hc0 _ _ _
  · rw [Zh p has]
    have : as.length = l.length := Aw has
    simp only [List.all_map, Bool.and_eq_true, decide_eq_true_eq]
    refine ⟨⟨by simp, rfl⟩, ?_⟩
    simp only [List.length_nil, List.isEmpty_nil, if_true]; lia
  · obtain ⟨mv, μ₁, ⟨hk, hq₁⟩, rv, r₁, g₁⟩ := h₁
    obtain ⟨T, pa, slot, hty, hT, hd⟩ := meth_ok rv r₁ hk
    refine ⟨T, methId m, pa, slot, hty, hT, hd, ?_⟩
    refine callWith_builtin (Z0 as) (Z9 (Z0 as) (wpAny_mono (Zg hl has hA (C.grow g₁ r₁) hq₁) (fun vs s₂ h₂ => ?_) fun _ _ e => e))
    obtain ⟨ms, μ₂, hq₂, rs, r₂, g₂⟩ := h₂
    exact wpAny_mono (op_meth hA (rv.keepT (g₂.keepT r₁)) rs r₂ ((C.grow g₁ r₁).grow g₂ r₂).fzin hq₂) (fun v' s₃ h₃ => h₃.trans (g₁.trans g₂)) fun _ _ e => e
noncomputable def biVal (f : BI) : Value := match f with
  | .len => .builtin "len" | .min2 => .builtin "min" | .max2 => .builtin "max" | .maxD => .builtin "max" | .max1 => .builtin "max" | .sorted => .builtin "sorted" | .sortedR => .builtin "sorted" | .sortedSet => .builtin "sorted"
  | .sortedSetS => .builtin "sorted"
  | .list => .type "list" | .dict => .type "dict" | .int => .type "int" | .str => .type "str" | .all => .builtin "all"
theorem op_bi {f : BI} {ms : List MV} {vs : List Value} {fz : List Addr} {μ : MH} {s : Shared} {Q : MQ} {A : Around} {E : Value → Shared → Prop} (hp : plainBI f = true) (hA : A.handled = none) (r : RepH prog w μ s.heap) (fi : FzIn fz μ) (hv : RepVs s.heap ms vs) (hm : sysModules < s.heap.objs.size) (h : biM fz f ms Q μ) :
    wpAny (model prog w) A (call (biVal f) vs) (PostV prog w fz μ s Q) E s := by
  cases f with
  | len =>
    replace h := U0 h; obtain ⟨m, rfl, h⟩ := h
    replace hv := hv.one; obtain ⟨v, rfl, hv⟩ := hv
    exact op_len hv r h
  | min2 =>
    replace h := a2_inv h; obtain ⟨m, n, rfl, h⟩ := h
    replace h := Kq h; obtain ⟨x, y, rfl, rfl, h⟩ := h
    replace hv := hv.two; obtain ⟨v, u, rfl, ⟨t, rfl⟩, ⟨t', rfl⟩⟩ := hv
    exact op_min2 hA r h
  | max2 =>
    replace h := a2_inv h; obtain ⟨m, n, rfl, h⟩ := h
    replace h := Kq h; obtain ⟨x, y, rfl, rfl, h⟩ := h
    replace hv := hv.two; obtain ⟨v, u, rfl, ⟨t, rfl⟩, ⟨t', rfl⟩⟩ := hv
    exact op_max2 hA r h
  | max1 =>
    replace h := U0 h; obtain ⟨mm, rfl, l, ns, m, hs, hi, hn, hf, hmm, h⟩ := h
    replace hv := hv.one; obtain ⟨v, rfl, hv⟩ := hv
    exact op_max (dflt := none) (m := m) hA hv r hi hn (Vw hs) (by rw [hmm]; rfl) h
  | sorted =>
    replace h := U0 h; obtain ⟨mm, rfl, l, ns, hs, hi, hn, hf, h⟩ := h
    replace hv := hv.one; obtain ⟨v, rfl, hv⟩ := hv
    exact (Df (b := false) r fi hv hi hn hf hA (Vw hs) h).1 rfl
  | list =>
    replace h := U0 h; obtain ⟨mm, rfl, l, hs, hi, hf, h⟩ := h
    replace hv := hv.one; obtain ⟨v, rfl, hv⟩ := hv
    exact op_list hA hv r fi hi hf (Vw hs) h
  | dict =>
    replace h := U0 h; obtain ⟨mm, rfl, h⟩ := h
    replace hv := hv.one; obtain ⟨v, rfl, hv⟩ := hv
    replace h := Zn h; obtain ⟨a, rfl, h⟩ := h
    obtain rfl : v = .ref a := hv
    cases q : μ a with
    | none => rw [q] at h; exact False.elim h
    | some mo =>
      rw [q] at h
      cases mo with
      | list l => obtain ⟨ps, e, hf, h⟩ := h; exact Cn r fi q e hf hA hm h
      | idict l => exact Fh r fi q h.1 hm h.2
      | sdict l => exact False.elim h
  | int =>
    replace h := U0 h; obtain ⟨mm, rfl, h⟩ := h
    replace h := boolV_inv h; obtain ⟨b, rfl, h⟩ := h
    replace hv := hv.one; obtain ⟨v, rfl, hv⟩ := hv
    obtain rfl : v = .bool b := hv
    exact call_int_bool (Yl h r ⟨_, rfl⟩ rfl rfl rfl)
  | all => exact False.elim h
  | str => exact False.elim h
  | maxD => cases hp
  | sortedR => cases hp
  | sortedSet => cases hp
  | sortedSetS => cases hp
theorem biVal_mem (f : BI) : (biName f, biVal f) ∈ biTab := by cases f <;> decide
theorem P2 (pg : PG prog w G Γ h₀ mg mb) {f : BI} {l : List ME} (hl : ∀ e ∈ l, SS prog w G h₀ Φ d e) (hp : plainBI f = true) : SE prog w G h₀ Φ d (.bi f l) := fun S x env vars fz μ s Q A E h hA C hq => by
  obtain ⟨g, np, as, p, rfl, hg, has⟩ := inv_bi hp h
  refine wpAny_Call_ofName (Jj pg C hg (biVal_mem f) ?_)
  rw [Zh p has]
  have fin : wpAny (model prog w) A (spliced (as.map fun x => (false, eval x env))) (fun vs s' => wpAny (model prog w) A (call (biVal f) vs) (PostV prog w fz μ s Q) E s') E s := by
    refine wpAny_mono (Zg hl has hA C hq) (fun vs s₁ h₁ => ?_) fun _ _ e => e
    obtain ⟨ms, μ₁, hq₁, rv, r₁, g₁⟩ := h₁
    have C₁ := C.grow g₁ r₁
    exact wpAny_mono (op_bi hp hA.hand r₁ C₁.fzin rv (mods_lt pg C₁) hq₁) (fun v' s₃ h₃ => h₃.trans g₁) fun _ _ e => e
  cases f <;> simp only [plainBI, Bool.false_eq_true] at hp <;> first
    | exact callWith_builtin (Z0 as) (Z9 (Z0 as) fin)
    | exact PySem.callWith_type (Z0 as) (Z9 (Z0 as) fin)
theorem se_sortedR (pg : PG prog w G Γ h₀ mg mb) {l : List ME} (hl : ∀ e ∈ l, SS prog w G h₀ Φ d e) : SE prog w G h₀ Φ d (.bi .sortedR l) := fun S x env vars fz μ s Q A E h hA C hq => by
  replace h := inv_sortedR h
  obtain ⟨g, np, as, k2, p1, kp, p, rfl, hg, has⟩ := h
  refine wpAny_Call_ofName (Jj pg C hg (v := .builtin "sorted") (by decide) ?_)
  cases as with
  | nil =>
    cases l with
    | cons _ _ => simp [isEs] at has
    | nil => exact False.elim hq
  | cons a as =>
  have ha : isE S (l.headD .cnone) a = true := by cases l with
    | nil => simp [isEs] at has
    | cons e l => simp only [isEs, Bool.and_eq_true] at has; exact has.1
  refine callWith_kw ?_ (by rw [Vt ha]; rfl) (by rw [Zh p has]; exact Z0 _) rfl rfl
  rw [Zh p has]
  refine wpAny_mono (Zg hl has hA C hq) (fun vs s₁ h₁ => ?_) fun _ _ e => e
  obtain ⟨ms, μ₁, hq₁, rv, r₁, g₁⟩ := h₁
  have C₁ := C.grow g₁ r₁
  refine evalAll_cons (wpAny_bind (wpAny_pure (wpAny_bind (wpAny_standAt (wpAny_pure (evalAll_nil ?_))))))
  replace hq₁ := U0 hq₁; obtain ⟨v, rfl, l', ns, hs, hi, hn, hf, hq₁⟩ := hq₁
  obtain ⟨u, hvs, rw'⟩ := rv.one; subst hvs; replace rv := rw'
  exact wpAny_mono (Df (b := true) r₁ C₁.fzin rv hi hn hf hA.hand (Vw hs) (by simpa using hq₁)).2 (fun v' s₃ h₃ => h₃.trans g₁) fun _ _ e => e
theorem Fc (pg : PG prog w G Γ h₀ mg mb) {l : List ME} (hl : ∀ e ∈ l, SS prog w G h₀ Φ d e) : SE prog w G h₀ Φ d (.bi .sortedSet l) := fun S x env vars fz μ s Q A E h hA C hq => by
  replace h := P4 h
  obtain ⟨g, np, g2, np2, as, p2, p, rfl, hg, hg2, has⟩ := h
  refine wpAny_Call_ofName (Jj pg C hg (v := .builtin "sorted") (by decide) ?_)
  refine callWith_builtin rfl (Z9 rfl ?_)
  refine Calls.spliced_cons (wpAny_Call_ofName (Jj pg C hg2 (v := .type "set") (by decide) ?_))
  rw [Zh p2 has]
  refine PySem.callWith_type (Z0 as) (Z9 (Z0 as) (wpAny_mono (Zg hl has hA C hq) (fun vs s₁ h₁ => ?_) fun _ _ e => e))
  obtain ⟨ms, μ₁, hq₁, rv, r₁, g₁⟩ := h₁
  have C₁ := C.grow g₁ r₁
  replace hq₁ := U0 hq₁; obtain ⟨v, rfl, hq₁⟩ := hq₁
  replace hq₁ := Zn hq₁; obtain ⟨a, rfl, l', ns, hl', hi, hn, hq₁⟩ := hq₁
  obtain ⟨u, hvs, rw'⟩ := rv.one; subst hvs
  obtain rfl : u = .ref a := rw'
  exact wpAny_mono (Ff r₁ C₁.fzin hl' hi hn hA.hand hq₁) (fun y s₂ h₂ => Calls.spliced_nil (wpAny_mono h₂ (fun v' s₃ h₃ => h₃.trans g₁) fun _ _ e => e)) fun _ _ e => e
theorem Ck (pg : PG prog w G Γ h₀ mg mb) {l : List ME} (hl : ∀ e ∈ l, SS prog w G h₀ Φ d e) : SE prog w G h₀ Φ d (.bi .sortedSetS l) := fun S x env vars fz μ s Q A E h hA C hq => by
  replace h := P4 (l := l) (show isE S (.bi .sortedSet l) x = true from h)
  obtain ⟨g, np, g2, np2, as, p2, p, rfl, hg, hg2, has⟩ := h
  refine wpAny_Call_ofName (Jj pg C hg (v := .builtin "sorted") (by decide) ?_)
  refine callWith_builtin rfl (Z9 rfl ?_)
  refine Calls.spliced_cons (wpAny_Call_ofName (Jj pg C hg2 (v := .type "set") (by decide) ?_))
  rw [Zh p2 has]
  refine PySem.callWith_type (Z0 as) (Z9 (Z0 as) (wpAny_mono (Zg hl has hA C hq) (fun vs s₁ h₁ => ?_) fun _ _ e => e))
  obtain ⟨ms, μ₁, hq₁, rv, r₁, g₁⟩ := h₁
  have C₁ := C.grow g₁ r₁
  replace hq₁ := U0 hq₁; obtain ⟨v, rfl, hq₁⟩ := hq₁
  replace hq₁ := Zn hq₁; obtain ⟨a, rfl, l', ns, hl', hi, hn, hq₁⟩ := hq₁
  obtain ⟨u, hvs, rw'⟩ := rv.one; subst hvs
  obtain rfl : u = .ref a := rw'
  exact wpAny_mono (Cm r₁ C₁.fzin hl' hi hn hA.hand hq₁) (fun y s₂ h₂ => Calls.spliced_nil (wpAny_mono h₂ (fun v' s₃ h₃ => h₃.trans g₁) fun _ _ e => e)) fun _ _ e => e
theorem se_maxD (pg : PG prog w G Γ h₀ mg mb) {l : List ME} (hl : ∀ e ∈ l, SS prog w G h₀ Φ d e) : SE prog w G h₀ Φ d (.bi .maxD l) := fun S x env vars fz μ s Q A E h hA C hq => by
  replace h := inv_maxD h
  obtain ⟨g, np, y, a, i, k2, p1, kp, p2, rfl, rfl, hg, ha⟩ := h
  refine wpAny_Call_ofName (Jj pg C hg (v := .builtin "max") (by decide) ?_)
  refine callWith_kw ?_ (by rw [Vt ha]; rfl) (by rw [Vt ha]; rfl) rfl rfl
  rw [Vt ha]
  refine Calls.spliced_cons (wpAny_mono ((hl a (.head _)).1 S y env vars fz μ s _ A E ha hA C hq) (fun v s₁ h₁ => ?_) fun _ _ e => e)
  refine Calls.spliced_nil ?_
  obtain ⟨mv, μ₁, hq₁, rv, r₁, g₁⟩ := h₁
  refine evalAll_cons (wpAny_bind (wpAny_Constant_int (wpAny_bind (wpAny_standAt (wpAny_pure (evalAll_nil ?_))))))
  obtain ⟨l', ns, hs, hi, hn, hf, hq₁⟩ : ∃ l ns, isStrV mv = false ∧ items μ₁ mv = some l ∧ intsOf l = some ns ∧ fits l.length ∧ Q (.int ((maxI ns).getD i)) μ₁ := hq₁
  have st : Still s₁ { s₁ with toks := s₁.toks + 1 } := ⟨rfl, rfl, rfl⟩
  refine wpAny_mono (op_max (s := { s₁ with toks := s₁.toks + 1 }) (dflt := some (i, s₁.toks)) (m := (maxI ns).getD i) hA.hand rv r₁ hi hn (Vw hs) (by cases maxI ns <;> rfl) hq₁) (fun v' s₃ h₃ => h₃.trans (g₁.trans st.grow)) fun _ _ e => e
end
end Mine
end
section
namespace Mine
open PySem PySem.Calls PyProof.Rows PySem.W
structure MWalk (prog : Program) (w : World) (A : Around) (I : Addr) (fp wr : List Addr) (all : List MV) (St : Nat → Heap → Prop) : Prop where
  sub : ∀ b ∈ wr, b ∈ fp
  alive : ∀ i h, St i h → ∀ b ∈ wr, ∃ o, h.get? b = some o
  frame : ∀ i h h', St i h → KeepsT h h' → (∀ b ∈ fp, ∀ o, h.get? b = some o → h'.get? b = some o) → St i h'
  item : ∀ i m (s : Shared) (Q : Option Value → Shared → Prop) (E : Value → Shared → Prop), all[i]? = some m → St i s.heap →
    (∀ v h' tk, RepV h' m v → St (i + 1) h' → KeepsT s.heap h' → (∀ b o, b ∉ wr → s.heap.get? b = some o → h'.get? b = some o) → Q (some v) { s with heap := h', toks := tk }) → wpAny (model prog w) A (pyNext (.ref I)) Q E s
  done : ∀ (s : Shared) (Q : Option Value → Shared → Prop) (E : Value → Shared → Prop), St all.length s.heap →
    (∀ h' tk, KeepsT s.heap h' → (∀ b o, b ∉ wr → s.heap.get? b = some o → h'.get? b = some o) → Q none { s with heap := h', toks := tk }) → wpAny (model prog w) A (pyNext (.ref I)) Q E s
  self : ∀ i (s : Shared) (Q : Value → Shared → Prop) (E : Value → Shared → Prop), St i s.heap → Q (.ref I) s → wpAny (model prog w) A (pyIter (.ref I)) Q E s
  go : ∀ target i v (s : Shared) (Q : Unit → Shared → Prop) (E : Value → Shared → Prop), St (i + 1) s.heap → Q () s → wpAny (model prog w) A (letOwnedTupleGo target (.ref I) v) Q E s
noncomputable def iterCls : List String := ["list_iterator", "tuple_iterator", "dict_keyiterator", "str_ascii_iterator", "str_iterator", "range_iterator", "list_reverseiterator", "dict_valueiterator"]
noncomputable def ItObj (h : Heap) (I : Addr) : Prop := ∃ o T, h.get? I = some o ∧ o.cls = .type T ∧ T ∈ iterCls ∧ ∃ vs, o.data = .fields vs
section
variable {prog : Program} {w : World} {A : Around}
theorem ItObj.notImm {h : Heap} {I : Addr} (x : ItObj h I) : ∀ o, h.get? I = some o → ¬ ImmCls o := by
  obtain ⟨o, T, ho, hc, hT, _⟩ := x
  intro o' ho' hi
  rw [ho] at ho'; cases ho'
  unfold ImmCls at hi
  rw [hc] at hi
  simp only [iterCls, List.mem_cons, List.not_mem_nil, or_false] at hT
  rcases hT with rfl | rfl | rfl | rfl | rfl | rfl | rfl | rfl <;> simp at hi
theorem ItObj.go {s : Shared} {I : Addr} (x : ItObj s.heap I) {target : PySem.Expr} {v : Value} {Q : Unit → Shared → Prop} {E : Value → Shared → Prop} (h : Q () s) : wpAny (model prog w) A (letOwnedTupleGo target (.ref I) v) Q E s := by
  obtain ⟨o, T, ho, hc, hT, vs, hd⟩ := x
  have hn : (["enumerate", "zip", "dict_itemiterator", "dict_reverseitemiterator", "odict_iterator", "itertools.zip_longest", "itertools.pairwise"].contains T) = false := by
    simp only [iterCls, List.mem_cons, List.not_mem_nil, or_false] at hT
    rcases hT with rfl | rfl | rfl | rfl | rfl | rfl | rfl | rfl <;> decide
  cases target <;> first
    | exact wpAny_pure h
    | (cases v <;> first
        | exact wpAny_pure h
        | (refine wpAny_bind (wpAny_load ho ?_)
           rw [hc, hd]
           simp only [hn, Bool.false_and]
           exact wpAny_pure h))
theorem MWalk.of {I : Addr} {fp : List Addr} {n : Nat} {P : Nat → Value → Prop} {St : Nat → Heap → Prop} {hc : Heap} {all : List MV} (W : Walks prog w A I fp [I] n P St) (hn : n = all.length) (ni : ∀ i h, St i h → ItObj h I)
    (hP : ∀ i v h', P i v → KeepsT hc h' → ∃ m, all[i]? = some m ∧ RepV h' m v) : MWalk prog w A I fp [I] all (fun i h => St i h ∧ KeepsT hc h) where
  sub := W.sub
  alive := fun i h st b hb => by simp at hb; subst hb; obtain ⟨o, _, ho, _⟩ := ni i h st.1; exact ⟨o, ho⟩
  frame := fun i h h' st k hk => ⟨W.frame i h h' st.1 hk, fun b o e hi => k b o (st.2 b o e hi) hi⟩
  item := fun i m s Q E hm st hQ => by
    have hi : i < n := by rw [hn]; exact (List.getElem?_eq_some_iff.mp hm).1
    refine W.item i s Q E hi st.1 fun v h' tk hv st' hk => ?_
    have kt : KeepsT s.heap h' := fun b o e hi => hk b o (fun q => by simp at q; subst q; exact (ni i _ st.1).notImm o e hi) e
    have kc : KeepsT hc h' := fun b o e hi => kt b o (st.2 b o e hi) hi
    obtain ⟨m', hm', r⟩ := hP i v h' hv kc
    rw [hm] at hm'; cases hm'
    exact hQ v h' tk r ⟨st', kc⟩ kt hk
  done := fun s Q E st hQ => by
    refine W.done s Q E (hn ▸ st.1) fun h' tk hk => ?_
    have kt : KeepsT s.heap h' := fun b o e hi => hk b o (fun q => by simp at q; subst q; exact (ni _ _ st.1).notImm o e hi) e
    exact hQ h' tk kt hk
  self := fun i s Q E st hQ => W.self i s Q E st.1 hQ
  go := fun target i v s Q E st hQ => (ni _ _ st.1).go hQ
end
section
variable {prog : Program} {w : World} {A : Around} {E : Value → Shared → Prop} {fz : List Addr} {μ : MH} {s : Shared}
inductive SrcAt (prog : Program) (w : World) (A : Around) (μ : MH) (held : List Addr) (all : List MV) (s₀ : Shared) (it : Value) (s : Shared) : Prop
  | mk (I : Addr) (fp wr : List Addr) (St : Nat → Heap → Prop) (e : it = .ref I) (W : MWalk prog w A I fp wr all St) (st : St 0 s.heap) (hfp : ∀ b ∈ fp, (μ b = none ∨ b ∈ held) ∧ ∃ o, s.heap.get? b = some o ∧ (∀ v, o.data ≠ .cell v) ∧ (b ∈ held ∨ ∀ es ep, o.data ≠ .dict es ep)) (hwr : ∀ b ∈ wr, s₀.heap.get? b = none ∧ μ b = none)
    (keep : ∀ b o, s₀.heap.get? b = some o → s.heap.get? b = some o) (os : s.os = s₀.os) (gens : s.gens = s₀.gens)
theorem U8 {oI : Obj} {fp : List Addr} {n : Nat} {P : Nat → Value → Prop} {St : Nat → Heap → Prop} {held : List Addr} {all : List MV} (r : RepH prog w μ s.heap)
    (W : Walks prog w A s.heap.objs.size fp [s.heap.objs.size] n P St) (hn : n = all.length) (hst : St 0 (s.heap.push oI)) (ni : ∀ i h, St i h → ItObj h s.heap.objs.size)
    (hP : ∀ i v h', P i v → KeepsT s.heap h' → ∃ m, all[i]? = some m ∧ RepV h' m v) (hfp : ∀ b ∈ fp, b = s.heap.objs.size ∨ ((μ b = none ∨ b ∈ held) ∧ ∃ o, s.heap.get? b = some o ∧ (∀ v, o.data ≠ .cell v) ∧ (b ∈ held ∨ ∀ es ep, o.data ≠ .dict es ep))) :
    SrcAt prog w A μ held all s (.ref s.heap.objs.size) { s with heap := s.heap.push oI } := by
  have kp : ∀ b o, s.heap.get? b = some o → (s.heap.push oI).get? b = some o := fun b o e => Heap.get?_push_of_some _ e
  refine ⟨_, fp, [s.heap.objs.size], _, rfl, MWalk.of (hc := s.heap) W hn ni hP, ⟨hst, .of_all kp⟩, fun b hb => ?_, fun b hb => ?_, kp, rfl, rfl⟩
  · rcases hfp b hb with rfl | ⟨h1, o, h2⟩
    · obtain ⟨o, _, ho, _, _, _, hd⟩ := ni _ _ hst; exact ⟨.inl (r.free (K7 _)), o, ho, (fun v e => by rw [hd] at e; cases e), .inr fun es ep e => by rw [hd] at e; cases e⟩
    · exact ⟨h1, o, kp b o h2.1, h2.2⟩
  · simp at hb; subst hb; exact ⟨K7 _, r.free (K7 _)⟩
theorem tupNone {a : Addr} {o : Obj} (r : RepH prog w μ s.heap) (ho : s.heap.get? a = some o) (hi : ImmCls o) : μ a = none := by
  cases q : μ a with
  | none => rfl
  | some m => obtain ⟨y, hy, hn⟩ := (r a m q).obj; rw [ho] at hy; cases hy; exact absurd hi hn
theorem op_iter {v : MV} {x : Value} {all : List MV} (hA : A.handled = none) (hv : RepV s.heap v x) (r : RepH prog w μ s.heap) (e : items μ v = some all) {Q : Value → Shared → Prop}
    (h : ∀ it s', SrcAt prog w A μ (Src.val v).held all s it s' → Q it s') : wpAny (model prog w) A (pyIter x) Q E s := by
  have lists : ∀ (a : Addr) (vs : List Value) (n : Nat), s.heap.get? a = some { cls := .type "list", data := .seq vs.toArray n } → x = .ref a → RepVs s.heap all vs → a ∈ (Src.val v).held → wpAny (model prog w) A (pyIter x) Q E s := by
    intro a vs n ho hx hr hh
    subst hx
    have lta := Heap.lt_size ho
    have hL : s.heap.IsList a vs.toArray := ⟨_, ho, rfl, n, rfl⟩
    refine wpAny_pyIter_list hL (h _ _ (U8 r (Walks.list hA s.heap.objs.size a (Nat.ne_of_lt lta) vs.toArray) (by simp [hr.length]) ⟨⟨_, Heap.get?_push_size _ rfl, rfl, rfl⟩, hL.push _⟩ ?_ ?_ ?_))
    · rintro i h ⟨⟨o, h1, h2, h3⟩, _⟩; exact ⟨o, _, h1, h2, by decide, _, h3⟩
    · intro i v h' hv' kt
      rw [List.getElem?_toArray] at hv'
      have hlt := (List.getElem?_eq_some_iff.mp hv').1
      have hlt2 : i < all.length := by rw [← hr.length]; exact hlt
      obtain ⟨y, h1, h2⟩ := hr.get (List.getElem?_eq_getElem hlt2)
      rw [hv'] at h1; cases h1
      exact ⟨_, List.getElem?_eq_getElem hlt2, h2.keepT kt⟩
    · intro b hb; simp at hb; rcases hb with rfl | rfl
      · exact .inl rfl
      · exact .inr ⟨.inr hh, _, ho, (fun v e => by cases e), .inl hh⟩
  have dicts : ∀ {K : Type} [DecidableEq K] (knd : PySem.KeyKind prog w K) (enc : K → MV) (he : ∀ k u h', knd.is k u = true → RepV h' (enc k) u) (a : Addr) (kv : List (K × MV)) (kvs : List (K × Value)), s.heap.DictOf knd a kvs → RepKV s.heap kv kvs → (a == sysModules) = false →
      all = kv.map (fun p => enc p.1) → a ∈ (Src.val v).held → (x = .ref a ∨ ∃ r, x = .ref r ∧ KeysView s.heap r a) → wpAny (model prog w) A (pyIter x) Q E s := by
    intro K _ knd enc he a kv kvs hD hk hs hal hh hx
    obtain ⟨ep, hat⟩ := hD.dictAt
    have lta := hat.lt_size
    have fin : ∀ hst, SrcAt prog w A μ (Src.val v).held all s (.ref s.heap.objs.size) { s with heap := s.heap.push hst } ∨ True := fun _ => .inr trivial
    have mk : ∀ oI, (s.heap.push oI).IsKeyIter s.heap.objs.size a 0 kvs.length ep → SrcAt prog w A μ (Src.val v).held all s (.ref s.heap.objs.size) { s with heap := s.heap.push oI } := by
      intro oI hI
      refine U8 r (Walks.dictKeys hA s.heap.objs.size a (Nat.ne_of_lt lta) kvs ep) (by simp [hal, hk.length]) ⟨hI, hat.push _⟩ ?_ ?_ ?_
      · rintro i h ⟨⟨o, h1, h2, h3⟩, _⟩; exact ⟨o, _, h1, h2, by decide, _, h3⟩
      · rintro i u h' ⟨k, y, h1, h2⟩ kt
        obtain ⟨m, h3, h4⟩ := Us hk h1
        exact ⟨enc k, by simp [hal, h3], he k u h' h2⟩
      · intro b hb; simp at hb; rcases hb with rfl | rfl
        · exact .inl rfl
        · obtain ⟨o, ho, hd⟩ : ∃ o, s.heap.get? b = some o ∧ ∀ v, o.data ≠ .cell v := by
            obtain ⟨o, es, ep, ho, hd⟩ := hD
            refine ⟨o, ho, fun v e => ?_⟩
            have := hd.2.1
            rw [this] at e; cases e
          exact .inr ⟨.inr hh, o, ho, hd, .inl hh⟩
    rcases hx with rfl | ⟨r', rfl, hr'⟩
    · exact wpAny_pyIter_dict hs hat (h _ _ (mk _ ⟨_, Heap.get?_push_size _ rfl, rfl, rfl⟩))
    · exact kdl_pyIter_keys hr' hat (h _ _ (mk _ ⟨_, Heap.get?_push_size _ rfl, rfl, rfl⟩))
  have vdicts : ∀ {K : Type} [DecidableEq K] (knd : PySem.KeyKind prog w K) (a : Addr) (kv : List (K × MV)) (kvs : List (K × Value)) (r' : Addr), s.heap.DictOf knd a kvs → RepKV s.heap kv kvs → all = kv.map (fun p => p.2) → a ∈ (Src.val v).held → x = .ref r' → s.heap.IsValuesView r' a → wpAny (model prog w) A (pyIter x) Q E s := by
    intro K _ knd a kv kvs r' hD hk hal hh hx hr'
    subst hx
    obtain ⟨ep, hat⟩ := hD.dictAt
    refine wpAny_pyIter_values hr' hat (h _ _ ?_)
    refine U8 r (Walks.dictValues hA s.heap.objs.size a (Nat.ne_of_lt hat.lt_size) kvs ep) (by simp [hal, hk.length]) ⟨⟨_, Heap.get?_push_size _ rfl, rfl, rfl⟩, hat.push _⟩ ?_ ?_ ?_
    · rintro i h ⟨⟨o, h1, h2, h3⟩, _⟩; exact ⟨o, _, h1, h2, by decide, _, h3⟩
    · rintro i u h' ⟨k, h1⟩ kt
      obtain ⟨m, h3, h4⟩ := Us hk h1
      exact ⟨m, by simp [hal, h3], h4.keepT kt⟩
    · intro b hb; simp at hb; rcases hb with rfl | rfl
      · exact .inl rfl
      · obtain ⟨o, es, ep, ho, hd⟩ := hD
        exact .inr ⟨.inr hh, o, ho, (fun v e => by have := hd.2.1; rw [this] at e; cases e), .inl hh⟩
  cases v with
  | none => cases e
  | bool b => cases e
  | int i => cases e
  | vals a =>
    obtain ⟨r', rfl, hr'⟩ := hv
    replace e : valsO (μ a) = some all := e
    cases q : μ a with
    | none => rw [q] at e; cases e
    | some mo =>
      rw [q] at e
      cases mo with
      | list l => cases e
      | idict l => obtain rfl := Option.some.inj e; obtain ⟨kvs, h1, h2, h3⟩ := r a _ q; exact vdicts (intKind prog w) a l kvs r' h1 h2 rfl (.head _) rfl hr'
      | sdict l => obtain rfl := Option.some.inj e; obtain ⟨kvs, h1, h2, h3⟩ := r a _ q; exact vdicts (strKind prog w) a l kvs r' h1 h2 rfl (.head _) rfl hr'
  | str st =>
    obtain ⟨t, rfl⟩ := hv
    obtain rfl : chars st = all := Option.some.inj e
    have hP : ∀ (i : Nat) v h', SignAt st i v → KeepsT s.heap h' → ∃ m, (chars st)[i]? = some m ∧ RepV h' m v := by
      rintro i v h' ⟨c, u, hc, rfl⟩ kt
      refine ⟨.str ⟨#[c]⟩, ?_, by simp only [RepV]; exact ⟨u, rfl⟩⟩
      unfold chars
      rw [List.getElem?_map, Array.getElem?_toList, hc]; rfl
    refine wpAny_pyIter_strU ?_
    unfold strIterType
    split
    · refine h _ _ (U8 r (Walks.strAscii hA s.heap.objs.size st t) (by simp [chars]) ⟨_, Heap.get?_push_size _ rfl, rfl, rfl⟩ ?_ hP ?_)
      · rintro i h ⟨o, h1, h2, h3⟩; exact ⟨o, _, h1, h2, by decide, _, h3⟩
      · intro b hb; simp at hb; exact .inl hb
    · refine h _ _ (U8 r (Walks.strWide hA s.heap.objs.size st t) (by simp [chars]) ⟨_, Heap.get?_push_size _ rfl, rfl, rfl⟩ ?_ hP ?_)
      · rintro i h ⟨o, h1, h2, h3⟩; exact ⟨o, _, h1, h2, by decide, _, h3⟩
      · intro b hb; simp at hb; exact .inl hb
  | tup l =>
    obtain rfl : l = all := Option.some.inj e
    obtain ⟨a, vs, n, rfl, ho, hr⟩ := hv
    have lta := Heap.lt_size ho
    have hL : s.heap.IsTuple a vs.toArray := ⟨_, ho, rfl, n, rfl⟩
    refine wpAny_pyIter_tuple hL (h _ _ (U8 r (Walks.tuple hA s.heap.objs.size a (Nat.ne_of_lt lta) vs.toArray) (by simp [hr.length]) ⟨⟨_, Heap.get?_push_size _ rfl, rfl, rfl⟩, hL.push _⟩ ?_ ?_ ?_))
    · rintro i h ⟨⟨o, h1, h2, h3⟩, _⟩; exact ⟨o, _, h1, h2, by decide, _, h3⟩
    · intro i v h' hv' kt
      rw [List.getElem?_toArray] at hv'
      have hlt := (List.getElem?_eq_some_iff.mp hv').1
      have hlt2 : i < l.length := by rw [← hr.length]; exact hlt
      obtain ⟨y, h1, h2⟩ := hr.get (List.getElem?_eq_getElem hlt2)
      rw [hv'] at h1; cases h1
      exact ⟨_, List.getElem?_eq_getElem hlt2, h2.keepT kt⟩
    · intro b hb; simp at hb; rcases hb with rfl | rfl
      · exact .inl rfl
      · exact .inr ⟨.inl (tupNone r ho (.inl ⟨rfl, _, _, rfl⟩)), _, ho, (fun v e => by cases e), .inr fun es ep e => by cases e⟩
  | ref a =>
    obtain rfl : x = .ref a := hv
    replace e : itemsO (μ a) = some all := e
    cases q : μ a with
    | none => rw [q] at e; cases e
    | some mo =>
      rw [q] at e
      cases mo with
      | list l => obtain rfl := Option.some.inj e; obtain ⟨vs, ⟨n, h1⟩, h2⟩ := r a _ q; exact lists a vs n h1 rfl h2 (.head _)
      | idict l => obtain rfl := Option.some.inj e; obtain ⟨kvs, h1, h2, h3⟩ := r a _ q; exact dicts (intKind prog w) MV.int encI a l kvs h1 h2 h3 rfl (.head _) (.inl rfl)
      | sdict l => obtain rfl := Option.some.inj e; obtain ⟨kvs, h1, h2, h3⟩ := r a _ q; exact dicts (strKind prog w) MV.str encS a l kvs h1 h2 h3 rfl (.head _) (.inl rfl)
  | keys a =>
    obtain ⟨r', rfl, hr'⟩ := hv
    replace e : keysO (μ a) = some all := e
    cases q : μ a with
    | none => rw [q] at e; cases e
    | some mo =>
      rw [q] at e
      cases mo with
      | list l => cases e
      | idict l => obtain rfl := Option.some.inj e; obtain ⟨kvs, h1, h2, h3⟩ := r a _ q; exact dicts (intKind prog w) MV.int encI a l kvs h1 h2 h3 rfl (.head _) (.inr ⟨r', rfl, hr'⟩)
      | sdict l => obtain rfl := Option.some.inj e; obtain ⟨kvs, h1, h2, h3⟩ := r a _ q; exact dicts (strKind prog w) MV.str encS a l kvs h1 h2 h3 rfl (.head _) (.inr ⟨r', rfl, hr'⟩)
theorem rangeL_get {a b c : Int} {i : Nat} (h : i < ((b - a + c - 1) / c).toNat) : (rangeL a b c)[i]? = some (a + c * i) := by
  unfold rangeL
  rw [List.getElem?_map, List.getElem?_range h]; rfl
theorem Zy {a b c : Int} : (rangeL a b c).length = ((b - a + c - 1) / c).toNat := by simp [rangeL]
theorem O3 {a b c : Int} (hc : 0 < c) : Builtin.Range.rangeSize a b c = (((b - a + c - 1) / c).toNat : Int) := by
  unfold Builtin.Range.rangeSize
  rw [if_pos hc]
  split
  · rename_i h
    have h1 : (b - a + c - 1) / c = (b - a - 1) / c + 1 := by
      rw [show b - a + c - 1 = (b - a - 1) + c * 1 by lia, Int.add_mul_ediv_left _ _ (by lia)]
    have h2 : 0 ≤ (b - a - 1) / c := Int.ediv_nonneg (by lia) (by exact Int.le_of_lt (by assumption))
    rw [h1]; omega
  · rename_i h
    have h1 : (b - a + c - 1) / c ≤ 0 := by
      have : (b - a + c - 1) / c < 1 := Int.ediv_lt_of_lt_mul hc (by lia)
      omega
    lia
theorem Cl {a b c : Int} (hc : 0 < c) (hc' : c ≤ 1000) : Builtin.Range.rangeSize a b c = (((b - a + c - 1) / c).toNat : Int) := O3 hc
theorem small_pos {a b c : Int} (ha : in62 a = true) (hb : in62 b = true) (hc : 0 < c) (hc' : c ≤ 1000) : Builtin.Range.small a b c = true := by
  unfold in62 at ha hb
  simp only [Bool.and_eq_true, decide_eq_true_eq] at ha hb
  unfold Builtin.Range.small Builtin.Range.rangeFitsLong
  rw [O3 hc]
  have h1 : (b - a + c - 1) / c ≤ 2 ^ 63 - 1 := by
    have : (b - a + c - 1) / c < 2 ^ 63 := Int.ediv_lt_of_lt_mul hc (by
      have : (2 : Int) ^ 63 * 1 ≤ 2 ^ 63 * c := Int.mul_le_mul_of_nonneg_left (by assumption) (by simp)
      lia)
    omega
  simp only [Bool.and_eq_true, Bool.or_eq_true, decide_eq_true_eq]
  refine ⟨⟨⟨⟨⟨?_, ?_⟩, ?_, ?_⟩, ?_, ?_⟩, ?_, ?_⟩, .inr ?_⟩
  all_goals first
    | (first | lia | exact Int.lt_trans (And.right (by assumption)) (by decide) | exact Int.lt_of_le_of_lt (by assumption) (by decide) | solve_by_elim (maxDepth := 3) only [*, Nat.le_trans, Nat.lt_of_lt_of_le, Nat.lt_of_le_of_lt, Nat.le_of_lt] | omega)
    | (rw [if_pos hc]; simp only [Bool.and_eq_true, decide_eq_true_eq]; lia)
theorem Vb {r' : Addr} {a b c : Int} {t u v : Tok} (hA : A.handled = none) (r : RepH prog w μ s.heap) (hr : IsRange s.heap r' a b c t u v) (ha : in62 a = true) (hb : in62 b = true) (hc : 0 < c) (hc' : c ≤ 1000) {Q : Value → Shared → Prop}
    (h : ∀ it s', SrcAt prog w A μ [] ((rangeL a b c).map .int) s it s' → Q it s') : wpAny (model prog w) A (pyIter (.ref r')) Q E s := by
  refine wpAny_pyIter_range hr (small_pos ha hb hc hc') (h _ _ ?_)
  refine U8 r (Walks.range hA s.heap.objs.size a c ((b - a + c - 1) / c).toNat).bound (by simp [Zy]) ?_ ?_ ?_ ?_
  · show Heap.get? _ _ = _
    rw [Heap.get?_push_size _ rfl, Cl hc hc']; simp
  · intro i h hh; exact ⟨_, _, hh, rfl, by decide, _, rfl⟩
  · rintro i v h' ⟨hi, t, rfl⟩ kt
    refine ⟨.int (a + c * i), by rw [List.getElem?_map, rangeL_get hi]; rfl, ?_⟩
    simp only [RepV]; exact ⟨t, by rw [Int.mul_comm]⟩
  · intro b hb; simp at hb; exact .inl hb
theorem SrcAt.from {held : List Addr} {all : List MV} {it : Value} {s₁ s' : Shared} (k : ∀ b o, s.heap.get? b = some o → s₁.heap.get? b = some o) (ho : s₁.os = s.os) (hg : s₁.gens = s.gens) (x : SrcAt prog w A μ held all s₁ it s') : SrcAt prog w A μ held all s it s' := by
  obtain ⟨I, fp, wr, St, e, W, st, h1, h2, h3, h4, h5⟩ := x
  refine ⟨I, fp, wr, St, e, W, st, h1, fun b hb => ⟨?_, (h2 b hb).2⟩, fun b o e => h3 b o (k b o e), h4.trans ho, h5.trans hg⟩
  cases q : s.heap.get? b with
  | none => rfl
  | some o => have := k b o q; rw [(h2 b hb).1] at this; cases this
theorem src_rev {a : Addr} {l : List MV} (hA : A.handled = none) (r : RepH prog w μ s.heap) (q : lst μ a = some l) {Q : Value → Shared → Prop}
    (h : ∀ x s', (∀ (Q' : Value → Shared → Prop), (∀ it s'', SrcAt prog w A μ [a] l.reverse s it s'' → Q' it s'') → wpAny (model prog w) A (pyIter x) Q' E s') → Q x s') : wpAny (model prog w) A (call (.type "reversed") [.ref a]) Q E s := by
  obtain ⟨vs, ⟨n, ho⟩, hr, qa⟩ := Un r q
  have lta := Heap.lt_size ho
  have hL : s.heap.IsList a vs.toArray := ⟨_, ho, rfl, n, rfl⟩
  refine call_reversed_list hL (h _ _ fun Q' hQ' => ?_)
  have hI : (s.heap.push (revObj a ((vs.toArray.size : Int) - 1))).IsRevIter s.heap.objs.size a ((vs.toArray.size : Int) - 1) := ⟨_, Heap.get?_push_size _ rfl, rfl, rfl⟩
  refine wpAny_pyIter_revIter (s := { s with heap := _ }) hI (hQ' _ _ (U8 r (Walks.listRev hA s.heap.objs.size a (Nat.ne_of_lt lta) vs.toArray).bound (by simp [hr.length]) ⟨Nat.zero_le _, by simpa using hI, hL.push _⟩ ?_ ?_ ?_))
  · rintro i h ⟨_, ⟨o, h1, h2, h3⟩, _⟩; exact ⟨o, _, h1, h2, by decide, _, h3⟩
  · rintro i v h' ⟨hi, hv'⟩ kt
    rw [List.getElem?_toArray] at hv'
    have hlt := (List.getElem?_eq_some_iff.mp hv').1
    have hl := hr.length
    simp only [List.size_toArray] at hv' hlt hi
    have hlt2 : vs.length - 1 - i < l.length := by lia
    obtain ⟨y, h1, h2⟩ := hr.get (List.getElem?_eq_getElem hlt2)
    rw [hv'] at h1; cases h1
    refine ⟨_, ?_, h2.keepT kt⟩
    rw [List.getElem?_reverse (by lia)]
    rw [show l.length - 1 - i = vs.length - 1 - i by simp [*]]
    exact List.getElem?_eq_getElem hlt2
  · intro b hb; simp at hb; rcases hb with rfl | rfl
    · exact .inl rfl
    · exact .inr ⟨.inr (by simp), _, ho, (fun v e => by cases e), .inr fun es ep e => by cases e⟩
end
section
variable {prog : Program} {w : World} {G : String → Option MV} {Γ : String → Option MFun} {h₀ : Heap} {mg mb : Str → Option Value} {Φ : CallSpec} {d : Nat}
  {S : Sc} {env : Env} {vars : MVars} {fz : List Addr} {μ : MH} {s : Shared} {A : Around} {E : Value → Shared → Prop}
inductive PostI (prog : Program) (w : World) (A : Around) (fz : List Addr) (μ : MH) (s : Shared) (K : Src → List MV → MH → Prop) (it : Value) (s₂ : Shared) : Prop
  | mk (src : Src) (all : List MV) (μ₁ : MH) (s₁ : Shared) (k : K src all μ₁) (hi : src.items μ₁ = some all) (r : RepH prog w μ₁ s₁.heap) (g : Grow fz μ s μ₁ s₁) (hat : SrcAt prog w A μ₁ src.held all s₁ it s₂)
theorem rangeM_of {vs : List MV} {l : List Int} {h : Heap} {vals : List Value} (e : rangeM vs = some l) (r : RepVs h vs vals) :
    (∃ b u, vals = [.int b u] ∧ in62 b = true ∧ l = rangeL 0 b 1) ∨ (∃ a t b u, vals = [.int a t, .int b u] ∧ in62 a = true ∧ in62 b = true ∧ l = rangeL a b 1) ∨
    ∃ a t b u c v, vals = [.int a t, .int b u, .int c v] ∧ in62 a = true ∧ in62 b = true ∧ 0 < c ∧ c ≤ 1000 ∧ l = rangeL a b c := by
  unfold rangeM at e
  split at e
  · split at e
    · rename_i q; cases e
      obtain ⟨v, hvs, hv⟩ := r.one; subst hvs
      simp only [RepV] at hv; obtain ⟨t, rfl⟩ := hv
      exact .inl ⟨_, t, rfl, q, rfl⟩
    · cases e
  · split at e
    · rename_i q; cases e
      simp only [Bool.and_eq_true] at q
      obtain ⟨v, v', hvs, hv, hv'⟩ := r.two; subst hvs
      simp only [RepV] at hv hv'; obtain ⟨t, rfl⟩ := hv; obtain ⟨t', rfl⟩ := hv'
      exact .inr (.inl ⟨_, t, _, t', rfl, q.1, q.2, rfl⟩)
    · cases e
  · split at e
    · rename_i q; cases e
      simp only [Bool.and_eq_true, decide_eq_true_eq] at q
      match vals, r with
      | v :: vs', r =>
        simp only [RepVs] at r
        obtain ⟨v', v'', hvs, hv', hv''⟩ := r.2.two; subst hvs
        have hv := r.1
        simp only [RepV] at hv hv' hv''; obtain ⟨t, rfl⟩ := hv; obtain ⟨t', rfl⟩ := hv'; obtain ⟨t'', rfl⟩ := hv''
        exact .inr (.inr ⟨_, t, _, t', _, t'', rfl, q.1.1.1, q.1.1.2, q.1.2, q.2, rfl⟩)
      | [], r => simp [RepVs] at r
    · cases e
  · cases e
theorem Cy (pg : PG prog w G Γ h₀ mg mb) {k : SK} {its : List ME} (hl : ∀ e ∈ its, SS prog w G h₀ Φ d e) {iter : PySem.Expr} {as : List PySem.Expr} (hs : srcArgs S k iter = some as) (h : isEs S its as = true) (hA : OkA d A) (C : Cur prog w h₀ S env vars fz μ s)
    {K : Src → List MV → MH → Prop} (hq : evs G Φ X0 its fz vars (fun vs μ' => ∃ src all, mkSrc k vs = some src ∧ src.items μ' = some all ∧ K src all μ') μ) :
    (∀ x, foldedSetIterable iter env x = pure x) ∧ wpAny (model prog w) A (eval iter env) (fun x s₁ => wpAny (model prog w) A (pyIter x) (PostI prog w A fz μ s K) E s₁) E s := by
  have one62 : in62 0 = true := by decide
  cases k with
  | plain =>
    obtain rfl : [iter] = as := Option.some.inj hs
    match its, h, hl, hq with
    | [], h, _, _ => exact (Bool.false_ne_true h).elim
    | e :: _ :: _, h, _, _ => exact (Bool.false_ne_true (Ze h).2).elim
    | [e], h, hl, hq =>
      replace h := (Ze h).1
      refine ⟨fun x => folded_none h env x, ?_⟩
      refine wpAny_mono ((hl e (.head _)).1 S iter env vars fz μ s _ A E h hA C hq) (fun v s₁ h₁ => ?_) fun _ _ e => e
      obtain ⟨mv, μ₁, ⟨src, all, hm, hi, hK⟩, rv, r₁, g₁⟩ := h₁
      obtain rfl : Src.val mv = src := Option.some.inj hm
      exact op_iter hA.hand rv r₁ hi fun it s' hat => ⟨.val mv, all, μ₁, s₁, hK, hi, r₁, g₁, hat⟩
  | range =>
    replace hs := ifcall hs; obtain ⟨g, np, p, rfl, hg⟩ := hs
    refine ⟨fun x => rfl, ?_⟩
    refine wpAny_Call_ofName (Jj pg C hg (v := .type "range") (by decide) ?_)
    rw [Zh p h]
    refine PySem.callWith_type (Z0 as) (Z9 (Z0 as) ?_)
    refine wpAny_mono (Zg hl h hA C hq) (fun vs s₁ h₁ => ?_) fun _ _ e => e
    obtain ⟨ms, μ₁, ⟨src, all, hm, hi, hK⟩, rv, r₁, g₁⟩ := h₁
    simp only [mkSrc, Option.map_eq_some_iff] at hm
    obtain ⟨l, hl', rfl⟩ := hm
    simp only [Src.items, Option.some.injEq] at hi
    subst hi
    have kp : ∀ (oI : Obj) b o, s₁.heap.get? b = some o → (s₁.heap.push oI).get? b = some o := fun oI b o e => Heap.get?_push_of_some _ e
    rcases rangeM_of hl' rv with ⟨b, u, rfl, hb, rfl⟩ | ⟨a, t, b, u, rfl, ha, hb, rfl⟩ | ⟨a, t, b, u, c, v, rfl, ha, hb, hc, hc', rfl⟩
    · refine call_range_1 (Vb (s := { s₁ with heap := _, toks := _ }) hA.hand (r₁.ext (kp _)) (IsRange.new s₁.heap 0 b 1 _ _ _) one62 hb (by decide) (by decide) fun it s' hat => ?_)
      exact ⟨.ints _, _, μ₁, s₁, hK, rfl, r₁, g₁, SrcAt.from (s₁ := { s₁ with heap := _, toks := _ }) (kp _) rfl rfl hat⟩
    · refine call_range_2 (Vb (s := { s₁ with heap := _, toks := _ }) hA.hand (r₁.ext (kp _)) (IsRange.new s₁.heap a b 1 _ _ _) ha hb (by decide) (by decide) fun it s' hat => ?_)
      exact ⟨.ints _, _, μ₁, s₁, hK, rfl, r₁, g₁, SrcAt.from (s₁ := { s₁ with heap := _, toks := _ }) (kp _) rfl rfl hat⟩
    · refine call_range_3 (by lia) (Vb (s := { s₁ with heap := _, toks := _ }) hA.hand (r₁.ext (kp _)) (IsRange.new s₁.heap a b c _ _ _) ha hb hc hc' fun it s' hat => ?_) (.inl (Dg _ ⟨by lia, by exact Int.lt_of_le_of_lt (by assumption) (by decide)⟩))
      exact ⟨.ints _, _, μ₁, s₁, hK, rfl, r₁, g₁, SrcAt.from (s₁ := { s₁ with heap := _, toks := _ }) (kp _) rfl rfl hat⟩
  | rev =>
    replace hs := ifcall hs; obtain ⟨g, np, p, rfl, hg⟩ := hs
    refine ⟨fun x => rfl, ?_⟩
    refine wpAny_Call_ofName (Jj pg C hg (v := .type "reversed") (by decide) ?_)
    rw [Zh p h]
    refine PySem.callWith_type (Z0 as) (Z9 (Z0 as) ?_)
    refine wpAny_mono (Zg hl h hA C hq) (fun vs s₁ h₁ => ?_) fun _ _ e => e
    obtain ⟨ms, μ₁, ⟨src, all, hm, hi, hK⟩, rv, r₁, g₁⟩ := h₁
    match ms, hm, rv with
    | [], hm, _ => simp [mkSrc] at hm
    | _ :: _ :: _, hm, _ => simp [mkSrc] at hm
    | [m], hm, rv =>
      simp only [mkSrc, Option.some.injEq] at hm
      subst hm
      obtain ⟨v, hvs, hv⟩ := rv.one; subst hvs
      cases m with
      | ref a =>
        simp only [RepV] at hv; subst hv
        simp only [Src.items, Option.map_eq_some_iff] at hi
        obtain ⟨l, q, rfl⟩ := hi
        exact src_rev hA.hand r₁ q fun x s' hx => hx _ fun it s'' hat => ⟨.rev (.ref a), _, μ₁, s₁, hK, by simp [Src.items, q], r₁, g₁, hat⟩
      | _ => simp [Src.items] at hi
  | zip =>
    replace hs := ifcall hs; obtain ⟨g, np, p, rfl, hg⟩ := hs
    refine ⟨fun x => rfl, ?_⟩
    refine wpAny_Call_ofName (Jj pg C hg (v := .type "zip") (by decide) ?_)
    rw [Zh p h]
    refine PySem.callWith_type (Z0 as) (Z9 (Z0 as) ?_)
    refine wpAny_mono (Zg hl h hA C hq) (fun vs s₁ h₁ => ?_) fun _ _ e => e
    obtain ⟨ms, μ₁, ⟨src, all, hm, hi, hK⟩, rv, r₁, g₁⟩ := h₁
    simp [mkSrc] at hm
end
end Mine
end
section
namespace Mine
open PySem PySem.Calls PyProof.Rows PySem.W
section
variable {prog : Program} {w : World} {h₀ : Heap} {S : Sc} {env : Env} {vars : MVars} {fz : List Addr} {μ : MH} {s : Shared} {A : Around} {E : Value → Shared → Prop} {d : Nat}
theorem Cur.skip {wr : List Addr} {s' : Shared} (C : Cur prog w h₀ S env vars fz μ s) (kt : KeepsT s.heap s'.heap) (k : ∀ b o, b ∉ wr → s.heap.get? b = some o → s'.heap.get? b = some o) (hm : ∀ b ∈ wr, μ b = none) (hb : ∀ b ∈ wr, h₀.get? b = none) (hl : env.locals ∉ wr) (hc : ∀ x c, (x, c) ∈ env.cells → c ∉ wr) :
    Cur prog w h₀ S env vars fz μ s' where
  base := fun b o e => ⟨k b o (fun q => by rw [hb b q] at e; cases e) (C.base b o e).1, (C.base b o e).2⟩
  heap := fun a o e => (C.heap a o e).keeps kt fun y hy => k a y (fun q => by rw [hm a q] at e; cases e) hy
  fzin := C.fzin
  fr := C.fr.keep kt (fun o e => ⟨k _ o hl e, C.fr.fixl⟩) fun x c hx o e => ⟨k c o (hc x c hx) e, (C.fr.fixc x c hx).1⟩
  newl := C.newl
  newc := C.newc
  known := C.known
theorem Cur.ext {s' : Shared} (C : Cur prog w h₀ S env vars fz μ s) (k : ∀ b o, s.heap.get? b = some o → s'.heap.get? b = some o) : Cur prog w h₀ S env vars fz μ s' :=
  C.skip (wr := []) (.of_all k) (fun b o _ e => k b o e) (by simp) (by simp) (by simp) (by simp)
theorem Base.weak {cs : List Addr} (B : Base h₀ fz μ s) : Base h₀ (cs ++ fz) μ s := fun b o e => ⟨(B b o e).1, (B b o e).2.imp id fun m => List.mem_append_right _ m⟩
theorem FzIn.left {cs : List Addr} (f : FzIn (cs ++ fz) μ) : FzIn fz μ := fun b hb => f b (List.mem_append_right _ hb)
theorem Cur.weak {cs : List Addr} (C : Cur prog w h₀ S env vars fz μ s) (hcs : ∀ b ∈ cs, μ b ≠ none) : Cur prog w h₀ S env vars (cs ++ fz) μ s :=
  { C with base := C.base.weak, fzin := fun b hb => (List.mem_append.mp hb).elim (hcs b) (C.fzin b) }
theorem Fn {src : Src} {all : List MV} (e : src.items μ = some all) : ∀ b ∈ src.held, μ b ≠ none := by
  intro b hb q
  cases src with
  | val v =>
    cases v with
    | ref a => obtain rfl := List.mem_singleton.mp hb; replace e : itemsO (μ b) = some all := e; rw [q] at e; cases e
    | keys a => obtain rfl := List.mem_singleton.mp hb; replace e : keysO (μ b) = some all := e; rw [q] at e; cases e
    | vals a => obtain rfl := List.mem_singleton.mp hb; replace e : valsO (μ b) = some all := e; rw [q] at e; cases e
    | _ => cases hb
  | «ints» l => cases hb
  | rev v =>
    cases v with
    | ref a => obtain rfl := List.mem_singleton.mp hb; simp [Src.items, lst, q] at e
    | _ => cases hb
  | zip x y => simp [Src.items] at e
theorem Grow.skip {wr : List Addr} {μ' : MH} {s' s'' : Shared} (g : Grow fz μ s μ' s') (k : ∀ b o, b ∉ wr → s'.heap.get? b = some o → s''.heap.get? b = some o) (hw : ∀ b ∈ wr, s.heap.get? b = none) (ho : s''.os = s'.os) (hg : s''.gens = s'.gens) : Grow fz μ s μ' s'' :=
  ⟨fun b o f e => by
    obtain ⟨e1, q⟩ := g.keep b o f e
    exact ⟨k b o (fun m => by rw [hw b m] at e; cases e) e1, q⟩, ho.trans g.os, hg.trans g.gens⟩
theorem GrowS.skip {wr : List Addr} {μ' : MH} {s' s'' : Shared} (g : GrowS env fz μ s μ' s') (k : ∀ b o, b ∉ wr → s'.heap.get? b = some o → s''.heap.get? b = some o) (hw : ∀ b ∈ wr, s.heap.get? b = none) (ho : s''.os = s'.os) (hg : s''.gens = s'.gens) : GrowS env fz μ s μ' s'' :=
  ⟨fun b o f l c e => by
    obtain ⟨e1, q⟩ := g.keep b o f l c e
    exact ⟨k b o (fun m => by rw [hw b m] at e; cases e) e1, q⟩, ho.trans g.os, hg.trans g.gens⟩
theorem Cv {t : MT} {tg : PySem.Expr} {mv : MV} {v : Value} {vars' : MVars} {Q : Unit → Shared → Prop} (hA : A.handled = none) (C : Cur prog w h₀ S env vars fz μ s) (ht : isTgt S t tg = true) (hv : RepV s.heap mv v) (hb : bindT t mv vars = some vars')
    (h : ∀ s', Cur prog w h₀ S env vars' fz μ s' → GrowS env fz μ s μ s' → KeepsT s.heap s'.heap → ((∀ x ∈ tgtNames tg, S.names.lookup x = some .local) → ∀ b o, b ≠ env.locals → s.heap.get? b = some o → s'.heap.get? b = some o) → Q () s') : wpAny (model prog w) A (assign tg env v) Q E s := by
  cases t with
  | tup is => exact (Bool.false_ne_true ht).elim
  | one i =>
    obtain ⟨h1, h2⟩ := Yj ht
    have e : tg = .Name (node tg).s (node tg).p := inv h1
    have e2 : tgtNames tg = [(node tg).s] := if_pos h1
    obtain rfl : setv vars i mv = vars' := Option.some.inj hb
    rw [e]
    exact PySem.wpAny_assign_Name (Aa C h2 hv fun s' C' g' k' l' => h s' C' g' k' fun hx => l' (hx _ (by rw [e2]; exact .head _)))
end
end Mine
end
section
namespace Mine
open PySem PySem.Calls PyProof.Rows PySem.W
noncomputable def closL (env : Env) : List (Str × NameKind) → List (Str × Addr) → List (Str × Addr)
  | [], acc => acc
  | (n, k) :: r, acc => if k == .free then closL env r ((n, (env.cells.lookup n).getD 0) :: acc) else closL env r acc
theorem clos_eq {env : Env} {sc : Scope} (h : ∀ p ∈ sc.names, p.2 = .free → ∃ c, env.cells.lookup p.1 = some c) : closureFor sc env = pure (closL env sc.names []) := by
  simp only [closureFor]
  generalize ([] : List (Str × Addr)) = acc
  revert h acc
  generalize sc.names = names
  intro h acc
  induction names generalizing acc with
  | nil => rfl
  | cons p r ih =>
    obtain ⟨n, k⟩ := p
    simp only [List.forIn_cons, closL]
    by_cases hk : k == .free
    · simp only [hk, if_true]
      obtain ⟨c, hc⟩ := h (n, k) (.head _) (by simpa using hk)
      have : cellOf env n = pure c := by unfold cellOf; simp only at hc; rw [hc]
      rw [this]
      simp only at hc
      rw [hc]
      exact ih (fun q hq => h q (.tail _ hq)) _
    · simp only [hk, Bool.false_eq_true, if_false]
      exact ih (fun q hq => h q (.tail _ hq)) _
theorem Ut {env : Env} {n : Str} {c : Addr} : ∀ {names : List (Str × NameKind)} {acc : List (Str × Addr)}, (n, c) ∈ closL env names acc → (n, c) ∈ acc ∨ ((n, NameKind.free) ∈ names ∧ c = (env.cells.lookup n).getD 0)
  | [], acc => fun h => .inl h
  | (x, k) :: r, acc => fun h => by
    simp only [closL] at h
    split at h
    · rename_i hk
      have hk : k = .free := by simpa using hk
      subst hk
      rcases Ut h with h1 | ⟨h1, h2⟩
      · rcases List.mem_cons.mp h1 with h1 | h1
        · cases h1; exact .inr ⟨.head _, rfl⟩
        · exact .inl h1
      · exact .inr ⟨.tail _ h1, h2⟩
    · rcases Ut h with h1 | ⟨h1, h2⟩
      · exact .inl h1
      · exact .inr ⟨.tail _ h1, h2⟩
theorem An {env : Env} {p : Str × Addr} : ∀ {names : List (Str × NameKind)} {acc : List (Str × Addr)}, p ∈ acc → p ∈ closL env names acc
  | [], acc => fun h => h
  | (x, k) :: r, acc => fun h => by
    simp only [closL]
    split
    · exact An (.tail _ h)
    · exact An h
theorem Cb {env : Env} {n : Str} : ∀ {names : List (Str × NameKind)} {acc : List (Str × Addr)}, (n, NameKind.free) ∈ names → (n, (env.cells.lookup n).getD 0) ∈ closL env names acc
  | (x, k) :: r, acc, h => by
    simp only [closL]
    rcases List.mem_cons.mp h with h1 | h1
    · cases h1
      rw [if_pos (by simp)]
      exact An (.head _)
    · split
      · exact Cb h1
      · exact Cb h1
theorem Bu {n : Str} {c : Addr} : ∀ {l : List (Str × Addr)}, (n, c) ∈ l → (∀ c', (n, c') ∈ l → c' = c) → l.lookup n = some c
  | (x, y) :: l, h, ha => by
    rw [List.lookup_cons]
    cases hx : n == x with
    | true => have : n = x := by simpa using hx
              subst this; simp only; rw [ha y (.head _)]
    | false =>
      rcases List.mem_cons.mp h with h1 | h1
      · cases h1; simp at hx
      · exact Bu h1 fun c' hc' => ha c' (.tail _ hc')
theorem A6 {env : Env} {n : Str} {c : Addr} {names : List (Str × NameKind)} (h : (n, NameKind.free) ∈ names) (hc : env.cells.lookup n = some c) : (closL env names []).lookup n = some c := by
  refine Bu (by have := Cb (env := env) (acc := []) h; rw [hc] at this; exact this) fun c' hc' => ?_
  rcases Ut hc' with h1 | ⟨_, h2⟩
  · cases h1
  · rw [h2, hc]; rfl
theorem On {env : Env} (ha : env.cells.Pairwise fun x y => x.2 ≠ y.2) : ∀ {names : List (Str × NameKind)} {acc : List (Str × Addr)}, (names.map (·.1)).Nodup → (∀ p ∈ names, p.2 = .free → ∃ c, env.cells.lookup p.1 = some c) →
    acc.Pairwise (fun x y => x.2 ≠ y.2) → (∀ p ∈ acc, env.cells.lookup p.1 = some p.2 ∧ p.1 ∉ names.map (·.1)) → (closL env names acc).Pairwise fun x y => x.2 ≠ y.2
  | [], acc => fun _ _ h _ => h
  | (n, k) :: r, acc => fun hn hf h hacc => by
    simp only [List.map_cons, List.nodup_cons] at hn
    simp only [closL]
    split
    · rename_i hk
      obtain ⟨c, hc⟩ := hf (n, k) (.head _) (by simpa using hk)
      simp only at hc
      refine On ha hn.2 (fun p hp => hf p (.tail _ hp)) (List.pairwise_cons.mpr ⟨fun p hp e => ?_, h⟩) fun p hp => ?_
      · have h1 := (hacc p hp).1
        simp only [hc, Option.getD_some] at e
        subst e
        have := Pe ha hc h1
        exact (hacc p hp).2 (by rw [← this]; simp)
      · rcases List.mem_cons.mp hp with rfl | hp
        · exact ⟨by simp [hc], hn.1⟩
        · exact ⟨(hacc p hp).1, fun m => (hacc p hp).2 (by simp at m ⊢; exact .inr m)⟩
    · refine On ha hn.2 (fun p hp => hf p (.tail _ hp)) h fun p hp => ⟨(hacc p hp).1, fun m => (hacc p hp).2 (by simp at m ⊢; exact .inr m)⟩
theorem K4 {S : Sc} {x : Str} : ∀ {names : List (Str × NameKind)}, (relab S names).lookup x = (names.lookup x).map fun k => if isFree k && isCell (S.names.lookup x) then .cell else k
  | [] => rfl
  | (n, k) :: r => by
    have ih := K4 (S := S) (x := x) (names := r)
    unfold relab at ih ⊢
    rw [List.map_cons]
    have key : ∀ k', List.lookup x ((n, k') :: List.map (fun p => if (isFree p.snd && isCell (List.lookup p.fst S.names)) = true then (p.fst, NameKind.cell) else p) r) = match x == n with | true => some k' | false => List.lookup x (List.map (fun p => if (isFree p.snd && isCell (List.lookup p.fst S.names)) = true then (p.fst, NameKind.cell) else p) r) := fun k' => by
      rw [List.lookup_cons]; cases x == n <;> rfl
    have hcond : (if (isFree (n, k).snd && isCell (List.lookup (n, k).fst S.names)) = true then ((n, k).fst, NameKind.cell) else (n, k)) = (n, if (isFree k && isCell (List.lookup n S.names)) = true then NameKind.cell else k) := by
      simp only; split <;> rfl
    rw [hcond, key, List.lookup_cons]
    cases hx : x == n with
    | true =>
      have : x = n := by simpa using hx
      subst this; rfl
    | false => exact ih
theorem relab_eq {S : Sc} {env : Env} {sc : Scope} (hn : env.scope.names = S.names) (hk : env.scope.kind = .function) : (relabel sc env).names = relab S sc.names := by
  unfold relabel relab
  refine List.map_congr_left fun p hp => ?_
  obtain ⟨n, k⟩ := p
  have h1 : isFree k = (k == .free) := by cases k <;> rfl
  have h2 : isCell (S.names.lookup n) = (env.kindOf n == some .cell) := by
    unfold Env.kindOf; rw [hn]
    cases S.names.lookup n with
    | none => rfl
    | some k => cases k <;> rfl
  simp only [hk, h1, h2]
  simp
structure InOk (S : Sc) (t : MT) (tg : PySem.Expr) (sc : Scope) : Prop where
  kind : sc.kind = .function
  nodup : (sc.names.map (·.1)).Nodup
  names : ∀ p ∈ sc.names, p.2 = .local ∨ p.2 = .free ∨ p.2 = .globalImplicit
  look : ∀ p ∈ sc.names, sc.names.lookup p.1 = some p.2
  free : ∀ p ∈ sc.names, p.2 = .free → S.names.lookup p.1 = some .cell ∨ S.names.lookup p.1 = some .free
  vnd : t.vars.Nodup
  nnd : (tgtNames tg).Nodup
  len : t.vars.length = (tgtNames tg).length
  loc : ∀ x ∈ tgtNames tg, sc.names.lookup x = some .local
theorem Bv : ∀ {l : List (Str × NameKind)}, (l.map (·.1)).Nodup → ∀ p ∈ l, l.lookup p.1 = some p.2
  | (n, k) :: r, h, p, hp => by
    simp only [List.map_cons, List.nodup_cons] at h
    rcases List.mem_cons.mp hp with rfl | hp'
    · simp [List.lookup_cons]
    · rw [List.lookup_cons]
      have : (p.1 == n) = false := by
        rw [beq_eq_false_iff_ne]; rintro rfl
        exact h.1 (List.mem_map_of_mem (f := (·.1)) hp')
      rw [this]; exact Bv h.2 p hp'
theorem Au {β : Type} : ∀ {l : List (Nat × β)}, (l.map (·.1)).Nodup → ∀ p ∈ l, l.lookup p.1 = some p.2
  | (n, k) :: r, h, p, hp => by
    simp only [List.map_cons, List.nodup_cons] at h
    rcases List.mem_cons.mp hp with rfl | hp'
    · simp [List.lookup_cons]
    · rw [List.lookup_cons]
      have : (p.1 == n) = false := by
        rw [beq_eq_false_iff_ne]; rintro rfl
        exact h.1 (List.mem_map_of_mem (f := (·.1)) hp')
      rw [this]; exact Au h.2 p hp'
theorem Os {β : Type} : ∀ {l : List (Nat × β)} {i : Nat} {x : β}, l.lookup i = some x → (i, x) ∈ l
  | (n, k) :: r, i, x, h => by
    rw [List.lookup_cons] at h
    cases hx : i == n with
    | true => rw [hx] at h; simp at h hx; subst h hx; exact .head _
    | false => rw [hx] at h; exact .tail _ (Os h)
theorem inj_of {l : List (Nat × Str)} (nv : (l.map (·.2)).Nodup) : ∀ i j x, l.lookup i = some x → l.lookup j = some x → i = j := by
  intro i j x h1 h2
  have m1 := Os h1
  have m2 := Os h2
  clear h1 h2
  induction l with
  | nil => cases m1
  | cons p l ih =>
    simp only [List.map_cons, List.nodup_cons] at nv
    rcases List.mem_cons.mp m1 with rfl | m1'
    · rcases List.mem_cons.mp m2 with e | m2'
      · cases e; rfl
      · exact absurd (List.mem_map_of_mem (f := (·.2)) m2') nv.1
    · rcases List.mem_cons.mp m2 with rfl | m2'
      · exact absurd (List.mem_map_of_mem (f := (·.2)) m1') nv.1
      · exact ih nv.2 m1' m2'
theorem tgt_len {S : Sc} {t : MT} {tg : PySem.Expr} (h : isTgt S t tg = true) : t.vars.length = (tgtNames tg).length := by
  cases t with
  | tup _ => exact (Bool.false_ne_true h).elim
  | one i => rw [tgtNames, if_pos (Yj h).1]; rfl
theorem inOk_of {S : Sc} {t : MT} {tg : PySem.Expr} {sc : Scope} (h1 : innerOk S sc = true) (h2 : t.vars.Nodup) (h3 : (tgtNames tg).Nodup) (h4 : t.vars.length = (tgtNames tg).length) (h5 : ∀ x ∈ tgtNames tg, sc.names.lookup x = some .local) : InOk S t tg sc := by
  obtain ⟨h0, h1⟩ := Yj h1
  obtain ⟨hk, hn⟩ := Yj h0
  have key : ∀ p ∈ sc.names, (p.2 = .local ∨ p.2 = .globalImplicit) ∨ (p.2 = .free ∧ (S.names.lookup p.1 = some .cell ∨ S.names.lookup p.1 = some .free)) := fun p hp => by
    simpa only [Bool.or_eq_true, Bool.and_eq_true, decide_eq_true_eq] using List.all_eq_true.mp h1 p hp
  refine ⟨of_decide_eq_true hk, of_decide_eq_true hn, fun p hp => ?_, fun p hp => Bv (of_decide_eq_true hn) p hp, fun p hp hf => ?_, h2, h3, h4, h5⟩
  · rcases key p hp with (q | q) | q
    · exact .inl q
    · exact .inr (.inr q)
    · exact .inr (.inl q.1)
  · rcases key p hp with (q | q) | q
    · rw [hf] at q; cases q
    · rw [hf] at q; cases q
    · exact q.2
noncomputable def without (t : MT) (vars : MVars) : MVars := fun j => if j ∈ t.vars then none else vars j
section
variable {prog : Program} {w : World} {h₀ : Heap} {S : Sc} {env : Env} {vars : MVars} {fz : List Addr} {μ : MH} {s : Shared} {t : MT} {tg : PySem.Expr} {sc : Scope}
theorem inner_nk (I : InOk S t tg sc) (hk : (S.tab.map (·.1)).Nodup) : ((S.inner t tg sc.names).tab.map (·.1)).Nodup := by
  unfold Sc.inner
  rw [List.map_append, List.nodup_append]
  refine ⟨?_, ?_, ?_⟩
  · rw [List.map_fst_zip (by rw [I.len]; exact Nat.le_refl _)]; exact I.vnd
  · exact hk.sublist ((List.filter_sublist ..).map _)
  · intro a ha b hb e
    subst e
    rw [List.map_fst_zip (by rw [I.len]; exact Nat.le_refl _)] at ha
    obtain ⟨p, hp, rfl⟩ := List.mem_map.mp hb
    have := (List.mem_filter.mp hp).2
    simp [ha] at this
theorem inner_nv (I : InOk S t tg sc) (hk : (S.tab.map (·.2)).Nodup) : ((S.inner t tg sc.names).tab.map (·.2)).Nodup := by
  unfold Sc.inner
  rw [List.map_append, List.nodup_append]
  refine ⟨?_, ?_, ?_⟩
  · rw [List.map_snd_zip (by rw [I.len]; exact Nat.le_refl _)]; exact I.nnd
  · exact hk.sublist ((List.filter_sublist ..).map _)
  · intro a ha b hb e
    subst e
    rw [List.map_snd_zip (by rw [I.len]; exact Nat.le_refl _)] at ha
    obtain ⟨p, hp, rfl⟩ := List.mem_map.mp hb
    have := (List.mem_filter.mp hp).2
    rw [I.loc _ ha] at this
    simp [isFreeO] at this
theorem inner_cur {varsX : MVars} (C : Cur prog w h₀ S env vars fz μ s) (I : InOk S t tg sc) {L : Addr} {s' : Shared} {m : Str → Option Value} (hn : s'.heap.Ns L m) (hL : s.heap.get? L = none) (k : ∀ b o, s.heap.get? b = some o → s'.heap.get? b = some o)
    (hag : ∀ j, j ∉ t.vars → varsX j = vars j) (hin : ∀ i x mv, (i, x) ∈ t.vars.zip (tgtNames tg) → varsX i = some mv → ∃ v, RepV s'.heap mv v ∧ m x = some v) :
    Cur prog w h₀ (S.inner t tg sc.names) (compEnvC sc (closL env sc.names []) L env) varsX fz μ s' := by
  have kt := KeepsT.of_all k
  have hcell : ∀ p ∈ sc.names, p.2 = .free → ∃ c, env.cells.lookup p.1 = some c := fun p hp hf => C.fr.cells p.1 (by
    have : env.kindOf p.1 = S.names.lookup p.1 := by unfold Env.kindOf; rw [C.fr.names]
    rw [this]; exact I.free p hp hf)
  have hko : ∀ x, (compEnvC sc (closL env sc.names []) L env).kindOf x = (relab S sc.names).lookup x := fun x => by
    show (relabel sc env).names.lookup x = _
    rw [relab_eq C.fr.names C.fr.kind]
  have frees : ∀ x, isFreeO (sc.names.lookup x) = true → (x, NameKind.free) ∈ sc.names := by
    intro x hx
    exact mem_of_lookup (of_decide_eq_true hx)
  have nk := inner_nk I C.fr.nk
  have nv := inner_nv I C.fr.nv
  refine { base := fun b o e => ⟨k b o (C.base b o e).1, (C.base b o e).2⟩, heap := C.heap.ext k, fzin := C.fzin, newl := ?nl, newc := ?nc, known := C.known, fr := ?fr }
  case nl =>
    cases q : h₀.get? L with
    | none => exact q
    | some o => have := (C.base L o q).1; rw [hL] at this; cases this
  case nc =>
    intro x c hc
    rcases Ut hc with h1 | ⟨h1, h2⟩
    · cases h1
    · obtain ⟨c', hc'⟩ := hcell _ h1 rfl
      simp only at hc'
      rw [hc'] at h2; simp at h2; subst h2
      exact C.newc x c (mem_of_lookup hc')
  case fr =>
    refine { names := ?nm, inj := inj_of nv, nk := nk, nv := nv, kind := I.kind, glob := C.fr.glob, bui := C.fr.bui, ns := ⟨m, hn, ?ns⟩, cells := ?cs, apart := ?ap, fixl := C.heap.free hL, fixc := ?fx }
    case nm => exact relab_eq C.fr.names C.fr.kind
    case ns =>
      intro i x mv hi hkv hv
      have hm := Os hi
      unfold Sc.inner at hm
      rcases List.mem_append.mp hm with h1 | h1
      · obtain ⟨v, hr, hmx⟩ := hin i x mv h1 hv
        refine ⟨v, hr, ?_⟩
        unfold VarAt
        rw [hko, K4, I.loc x (List.of_mem_zip h1).2]
        exact hmx
      · obtain ⟨h2, h3⟩ := List.mem_filter.mp h1
        simp only [Bool.and_eq_true, Bool.not_eq_true', List.contains_eq_mem, decide_eq_false_iff_not] at h3
        have hvi : vars i = some mv := (hag i h3.2).symm.trans hv
        have hfr := frees x h3.1
        have hSl : S.tab.lookup i = some x := Au C.fr.nk _ h2
        have hS := I.free _ hfr rfl
        simp only at hS
        obtain ⟨mm, hmm, hvv⟩ := C.fr.ns
        obtain ⟨v, hr, va⟩ := hvv i x mv hSl (by rcases hS with q | q <;> rw [q] <;> rfl) hvi
        refine ⟨v, hr.keepT kt, ?_⟩
        have hko' : env.kindOf x = S.names.lookup x := by unfold Env.kindOf; rw [C.fr.names]
        have hc : ∃ c, env.cells.lookup x = some c ∧ s.heap.IsCell c (some v) := by
          unfold VarAt at va
          rw [hko'] at va
          rcases hS with q | q <;> rw [q] at va <;> exact va
        obtain ⟨c, h4, h5⟩ := hc
        have h6 : (closL env sc.names []).lookup x = some c := A6 hfr h4
        have h7 : s'.heap.IsCell c (some v) := by obtain ⟨o, ho, hd⟩ := h5; exact ⟨o, k c o ho, hd⟩
        unfold VarAt
        rw [hko, K4, I.look _ hfr]
        simp only [Option.map_some]
        rcases hS with q | q
        · rw [if_pos (by rw [q]; rfl)]; exact ⟨c, h6, h7⟩
        · rw [if_neg (by rw [q]; simp [isCell])]; exact ⟨c, h6, h7⟩
    case cs =>
      intro x hx
      rw [hko, K4] at hx
      have : (x, NameKind.free) ∈ sc.names := by
        cases q : sc.names.lookup x with
        | none => rw [q] at hx; simp at hx
        | some kk =>
          rw [q] at hx
          have hmem := mem_of_lookup q
          rcases I.names _ hmem with h1 | h1 | h1 <;> simp only at h1 <;> subst h1
          · simp [isFree] at hx
          · exact hmem
          · simp [isFree] at hx
      obtain ⟨c, hc⟩ := hcell _ this rfl
      exact ⟨c, A6 this hc⟩
    case ap => exact On C.fr.apart I.nodup hcell List.Pairwise.nil (by simp)
    case fx =>
      intro x c hc
      rcases Ut hc with h1 | ⟨h1, h2⟩
      · cases h1
      · obtain ⟨c', hc'⟩ := hcell _ h1 rfl
        simp only at hc'
        rw [hc'] at h2; simp at h2; subst h2
        obtain ⟨f1, f2, v, o, ho, hd⟩ := C.fr.fixc x c (mem_of_lookup hc')
        have ne : c ≠ L := fun e => by subst e; rw [hL] at ho; cases ho
        exact ⟨f1, ne, v, o, k c o ho, hd⟩
theorem bind_agree {v : MV} {a b : MVars} {c : MVars} (h1 : isOne t = true) (hb : bindT t v b = some c) (h : ∀ j, j ∉ t.vars → a j = b j) : bindT t v a = some c := by
  cases t with
  | tup _ => exact (Bool.false_ne_true h1).elim
  | one i =>
    rw [← hb]
    refine congrArg some (funext fun j => ?_)
    unfold setv
    split
    · rfl
    · rename_i q; exact h j (fun m => q (List.mem_singleton.mp m))
theorem bind_out {v : MV} {a c : MVars} (h1 : isOne t = true) (hb : bindT t v a = some c) : ∀ j, j ∉ t.vars → c j = a j := by
  intro j hj
  cases t with
  | tup _ => exact (Bool.false_ne_true h1).elim
  | one i =>
    obtain rfl : setv a i v = c := Option.some.inj hb
    exact if_neg fun q => hj (List.mem_singleton.mpr q)
end
end Mine
end
section
namespace Mine
open PySem PySem.Calls PyProof.Rows PySem.W
section
variable {prog : Program} {w : World} {G : String → Option MV} {Γ : String → Option MFun} {h₀ : Heap} {mg mb : Str → Option Value} {Φ : CallSpec} {d : Nat}
theorem Dn {M : Model} {A : Around} {E : Value → Shared → Prop} {s : Shared} {env : Env} {Q : Bool → Shared → Prop} (h : Q false s) : ∀ (xs : List PySem.Expr),
    wpAny M A (forIn xs false fun c r => if r = true then do let ok ← isTrue c env (eval c env); pure (ForInStep.yield ok) else pure (ForInStep.yield r)) Q E s
  | [] => wpAny_pure h
  | x :: xs => by
    simp only [List.forIn_cons, Bool.false_eq_true, if_false]
    exact wpAny_bind (wpAny_pure (Dn h xs))
theorem Cz {S : Sc} {env : Env} {vars : MVars} {fz : List Addr} {A : Around} {E : Value → Shared → Prop} : ∀ {l : List ME} (hl : ∀ e ∈ l, ST prog w G h₀ Φ d e) {xs : List PySem.Expr} {μ : MH} {s : Shared} {F : Bool → MH → Prop}, isEs S l xs = true → OkA d A → Cur prog w h₀ S env vars fz μ s → evIfs G Φ X0 l fz vars F μ →
    wpAny (model prog w) A (forIn xs true fun c r => if r = true then do let ok ← isTrue c env (eval c env); pure (ForInStep.yield ok) else pure (ForInStep.yield r)) (PostB prog w fz μ s F) E s
  | [], _, [], μ, s, F => fun h hA C hq => by
    exact wpAny_pure ⟨μ, hq, C.heap, .refl⟩
  | e :: l, hl, x :: xs, μ, s, F => fun h hA C hq => by
    simp only [isEs, Bool.and_eq_true] at h
    have hq' : ev G Φ X0 e fz vars (fun v μ' => ∃ b, truthy μ' v = some b ∧ if b then evIfs G Φ X0 l fz vars F μ' else F false μ') μ := by
      cases l with
      | nil =>
        have q : (fun (v : MV) (μ' : MH) => ∃ b, truthy μ' v = some b ∧ F b μ') = (fun v μ' => ∃ b, truthy μ' v = some b ∧ if b = true then F true μ' else F false μ') := by
          funext v μ'
          apply propext
          constructor <;> rintro ⟨b, hb, hh⟩ <;> refine ⟨b, hb, ?_⟩ <;> cases b <;> simpa using hh
        have hq : ev G Φ X0 e fz vars (fun v μ' => ∃ b, truthy μ' v = some b ∧ F b μ') μ := hq
        rw [q] at hq; exact hq
      | cons e' l => exact hq
    simp only [List.forIn_cons, if_true]
    refine wpAny_bind (wpAny_bind (wpAny_mono (hl e (.head _) S x env vars fz μ s (fun b μ' => if b then evIfs G Φ X0 l fz vars F μ' else F false μ') A E h.1 hA C hq') (fun b s₁ h₁ => wpAny_pure ?_) fun _ _ e => e))
    obtain ⟨μ₁, hq₁, r₁, g₁⟩ := h₁
    cases b with
    | false => exact Dn (PostB.trans g₁ ⟨μ₁, hq₁, r₁, .refl⟩) xs
    | true => exact wpAny_mono (Cz (fun e' he' => hl e' (.tail _ he')) h.2 hA (C.grow g₁ r₁) hq₁) (fun v' s₃ h₃ => h₃.trans g₁) fun _ _ e => e
  | [], _, _ :: _, _, _, _ => fun h _ _ _ => by simp [isEs] at h
  | _ :: _, _, [], _, _, _ => fun h _ _ _ => by simp [isEs] at h
structure CompEnd (prog : Program) (w : World) (fz : List Addr) (μ : MH) (s : Shared) (Q : MQ) (D L : Addr) (s' : Shared) : Prop where
  out : ∃ μ', Q (.ref D) μ' ∧ RepH prog w μ' s'.heap ∧ Grow fz μ s μ' s' ∧ μ' L = none
  fresh : ∀ o, (μ L = none ∨ L ∈ fz) → s.heap.get? L = some o → False
  ns : ∃ m, s'.heap.Ns L m
structure CompOk (S : Sc) (elt : ME) (t : MT) (k : SK) (its ifs : List ME) (el tg iter : PySem.Expr) (ifs' : List PySem.Expr) (sc : Scope) : Prop where
  src : ∃ as, srcArgs S k iter = some as ∧ isEs S its as = true
  one : isOne t = true
  inn : InOk S t tg sc
  tgt : isTgt (S.inner t tg sc.names) t tg = true
  ifs : isEs (S.inner t tg sc.names) ifs ifs' = true
  elt : isE (S.inner t tg sc.names) elt el = true
theorem Dz {S : Sc} {elt : ME} {t : MT} {k : SK} {its ifs : List ME} {x : PySem.Expr} (h : isE S (.comp elt t k its ifs) x = true) : ∃ el tg iter ifs' sc p, x = .ListComp el [⟨tg, iter, ifs', 0⟩] sc p ∧ CompOk S elt t k its ifs el tg iter ifs' sc := by
  obtain ⟨el, tg, iter, ifs', sc, p, e, h1, h2, h3, h4, h5, h6, h7, h8, h9⟩ := inv_comp h
  exact ⟨el, tg, iter, ifs', sc, p, e, h1, h2, inOk_of h3 h4 h5 (tgt_len h6) h7, h6, h8, h9⟩
theorem isTgt_name {S : Sc} {t : MT} {tg : PySem.Expr} (h : isTgt S t tg = true) : ∃ x p, tg = .Name x p := by
  cases t with
  | tup _ => exact (Bool.false_ne_true h).elim
  | one i => exact ⟨_, _, inv (Yj h).1⟩
structure CompInv (prog : Program) (w : World) (h₀ : Heap) (S : Sc) (env : Env) (G : String → Option MV) (Φ : CallSpec) (t : MT) (vars : MVars) (elt : ME) (ifs : List ME) (Q : MQ) (fz held fp wr : List Addr) (D : Addr) (St : Nat → Heap → Prop) (all : List MV) (μ₁ : MH) (sa : Shared)
    (i : Nat) (acc : List MV) (ys : List Value) (varsX : MVars) (μ' : MH) (s' : Shared) : Prop where
  le : i ≤ all.length
  st : St i s'.heap
  pl : s'.heap.PlainList D (List.toArray ys)
  rs : RepVs s'.heap acc ys
  ai : acc.length ≤ i
  cur : Cur prog w h₀ S env varsX (held ++ fz) μ' s'
  ag : ∀ j, j ∉ t.vars → varsX j = vars j
  gr : Grow fz μ₁ sa μ' s'
  dm : μ' D = none
  fp : ∀ b ∈ fp, (μ' b = none ∨ b ∈ held ++ fz) ∧ ∃ o, s'.heap.get? b = some o
  wr : ∀ b ∈ wr, μ' b = none
  run : compM fz t vars (fun vs F μ => evIfs G Φ X0 ifs (held ++ fz) vs F μ) (fun vs F μ => ev G Φ X0 elt (held ++ fz) vs F μ) Q (all.drop i) acc μ'
inductive CompAt (prog : Program) (w : World) (h₀ : Heap) (S : Sc) (env : Env) (G : String → Option MV) (Φ : CallSpec) (t : MT) (vars : MVars) (elt : ME) (ifs : List ME) (Q : MQ) (fz held fp wr : List Addr) (D : Addr) (St : Nat → Heap → Prop) (all : List MV) (μ₁ : MH) (sa : Shared) (n : Nat) (s' : Shared) : Prop
  | mk (i : Nat) (acc : List MV) (ys : List Value) (varsX : MVars) (μ' : MH) (e : n = all.length + 1 - i) (h : CompInv prog w h₀ S env G Φ t vars elt ifs Q fz held fp wr D St all μ₁ sa i acc ys varsX μ' s')
theorem Dy (pg : PG prog w G Γ h₀ mg mb) {elt : ME} {t : MT} {k : SK} {its ifs : List ME} (hits : ∀ e ∈ its, SS prog w G h₀ Φ d e) (hifs : ∀ e ∈ ifs, SS prog w G h₀ Φ d e) (helt : SE prog w G h₀ Φ d elt)
    {S : Sc} {el tg iter : PySem.Expr} {ifs' : List PySem.Expr} {sc : Scope} {p : Pos} {env : Env} {vars : MVars} {fz : List Addr} {μ : MH} {s : Shared} {Q : MQ} {A : Around} {E : Value → Shared → Prop}
    (h : CompOk S elt t k its ifs el tg iter ifs' sc) (hA : OkA d A) (C : Cur prog w h₀ S env vars fz μ s) (hq : ev G Φ X0 (.comp elt t k its ifs) fz vars Q μ) {RR : Value → Addr → Result → Shared → Prop}
    (hR : ∀ D L s', CompEnd prog w fz μ s Q D L s' → RR (.ref D) L (.ok .next) s') :
    (∀ x, foldedSetIterable iter env x = pure x) ∧ closureFor sc env = pure (closL env sc.names []) ∧
    wpAny (model prog w) A (eval iter env) (fun x s₁ => wpAny (model prog w) A (pyIter x) (fun it s₂ => wpAny (model prog w) A (newList []) (fun acc s₃ =>
      wpAny (model prog w) A (newFunctionEnv sc env.globals (closL env sc.names []) [] env.qual none .none (some env)) (fun cenv s₄ =>
        codeAny (model prog w) A (.compStart (.ListComp el [⟨tg, iter, ifs', 0⟩] sc p) 0 it acc { cenv with scope := relabel sc env }) (RR acc cenv.locals) s₄) E s₃) E s₂) E s₁) E s := by
  obtain ⟨⟨as, has, hsrc⟩, h1, I, htg, hifs', hel⟩ := h
  have hcell : ∀ p ∈ sc.names, p.2 = .free → ∃ c, env.cells.lookup p.1 = some c := fun p hp hf => C.fr.cells p.1 (by
    have : env.kindOf p.1 = S.names.lookup p.1 := by unfold Env.kindOf; rw [C.fr.names]
    rw [this]; exact I.free p hp hf)
  obtain ⟨hfold, hsource⟩ := Cy (E := E) pg hits has hsrc hA C hq
  refine ⟨hfold, clos_eq hcell, wpAny_mono hsource (fun x s₁ h₁ => wpAny_mono h₁ (fun it s₂ h₂ => ?_) fun _ _ e => e) fun _ _ e => e⟩
  obtain ⟨src, all, μ₁, sa, ⟨hfit, hK⟩, hit, ra, ga, hat⟩ := h₂
  obtain ⟨Ia, fp, wr, St, rfl, W, hst, hfp, hwr, hkeep, hos, hgens⟩ := hat
  have Ca := C.grow ga ra
  have C₂ : Cur prog w h₀ S env vars fz μ₁ s₂ := Ca.ext hkeep
  have hnc : ∀ b ∈ fp, ∀ x c, (x, c) ∈ env.cells → b ≠ c := by
    intro b hb x c hc e
    subst e
    obtain ⟨_, _, v, o, ho, hd⟩ := C₂.fr.fixc x b hc
    obtain ⟨_, o', ho', hd'⟩ := hfp b hb
    rw [ho] at ho'; cases ho'; exact hd'.1 v hd
  have hnocell : ∀ y ∈ sc.names, y.2 ≠ .cell := fun y hy e => by rcases I.names y hy with q | q | q <;> rw [q] at e <;> cases e
  refine wpAny_newObj_type (wpAny_newFunctionEnv hnocell (by intro y hy; simp at hy) (fun h₁ hns₁ hsb₁ => ?_) I.kind)
  dsimp only at hns₁ hsb₁ ⊢
  generalize hH2 : s₂.heap.push { cls := .type "list", dict := none, data := .seq ([] : List Value).toArray } = H2 at hns₁ hsb₁ ⊢
  generalize hDe : s₂.heap.objs.size = D at hns₁ hsb₁ ⊢
  have hC : H2.objs.size = D + 1 := by rw [← hH2, Heap.size_push, hDe]
  generalize hLe : H2.objs.size = L at hC hns₁ hsb₁ ⊢
  have hDC : D ≠ L := by rw [hC]; exact Nat.ne_of_lt (Nat.lt_succ_self _)
  have below : ∀ b o, s₂.heap.get? b = some o → b ≠ L ∧ b ≠ D := fun b o e => by
    have := Heap.lt_size e
    rw [hDe] at this
    exact ⟨by rw [hC]; exact Nat.ne_of_lt (Nat.lt_succ_of_lt this), Nat.ne_of_lt this⟩
  have old : ∀ b o, s₂.heap.get? b = some o → h₁.get? b = some o := fun b o e => hsb₁.extBut b o (below b o e).1 (Heap.get?_push_of_some _ (hH2 ▸ Heap.get?_push_of_some _ e))
  have hD2 : s₂.heap.get? D = none := by rw [← hDe]; exact K7 _
  have hL2 : s₂.heap.get? L = none := by
    cases e : s₂.heap.get? L with
    | none => rfl
    | some o => exact absurd rfl (below L o e).1
  have hDa : sa.heap.get? D = none := by
    cases e : sa.heap.get? D with
    | none => rfl
    | some o => have := hkeep D o e; rw [hD2] at this; cases this
  have hLa : sa.heap.get? L = none := by
    cases e : sa.heap.get? L with
    | none => rfl
    | some o => have := hkeep L o e; rw [hL2] at this; cases this
  have hacc : h₁.PlainList D #[] := ⟨_, hsb₁.extBut _ _ hDC (Heap.get?_push_of_some _ (hH2 ▸ hDe ▸ Heap.get?_push_size _ rfl))⟩
  have hDm : μ₁ D = none := C₂.heap.free hD2
  have hLm : μ₁ L = none := C₂.heap.free hL2
  have hDfp : D ∉ fp := fun m => by obtain ⟨_, o, ho, _⟩ := hfp D m; rw [hD2] at ho; cases ho
  have hLfp : L ∉ fp := fun m => by obtain ⟨_, o, ho, _⟩ := hfp L m; rw [hL2] at ho; cases ho
  have Cw := C₂.weak (cs := src.held) (Fn hit)
  let cenv := compEnvC sc (closL env sc.names []) L env
  have hcenvc : ∀ x c, (x, c) ∈ cenv.cells → (x, c) ∈ env.cells := by
    intro x c hc
    rcases Ut hc with q | ⟨q1, q2⟩
    · cases q
    · obtain ⟨c', hc'⟩ := hcell _ q1 rfl
      simp only at hc'
      rw [hc'] at q2; simp at q2; subst q2
      exact mem_of_lookup hc'
  have hh0 : ∀ b, s₂.heap.get? b = none → h₀.get? b = none := fun b e => by
    cases q : h₀.get? b with
    | none => rfl
    | some o => have := (C₂.base b o q).1; rw [e] at this; cases this
  have hwr0 : ∀ b ∈ wr, h₀.get? b = none := fun b hb => by
    cases q : h₀.get? b with
    | none => rfl
    | some o => have := (Ca.base b o q).1; rw [(hwr b hb).1] at this; cases this
  have hcwr : ∀ x c, (x, c) ∈ cenv.cells → c ∉ wr := fun x c hc hm => hnc c (W.sub c hm) x c (hcenvc x c hc) rfl
  have hD0 : h₀.get? D = none := hh0 D hD2
  have hcD : ∀ x c, (x, c) ∈ cenv.cells → c ∉ [D] := fun x c hc hm => by
    simp at hm; subst hm
    obtain ⟨_, _, v, o, ho, _⟩ := C₂.fr.fixc x c (hcenvc x c hc)
    rw [hD2] at ho; cases ho
  let S' := S.inner t tg sc.names
  have tloc : ∀ x ∈ tgtNames tg, S'.names.lookup x = some .local := fun x hx => by
    show (relab S sc.names).lookup x = _
    rw [K4, I.loc x hx]; simp [isFree]
  let Inv : Nat → Shared → Prop := CompAt prog w h₀ S' cenv G Φ t vars elt ifs Q fz src.held fp wr D St all μ₁ sa
  have notD : ∀ (hh : Heap) ys o, hh.PlainList D ys → hh.get? D = some o → ¬ ImmCls o := by
    rintro hh ys o ⟨n, hn⟩ ho hi
    rw [hn] at ho; cases ho
    unfold ImmCls at hi; simp at hi
  have loop : ∀ s₄ : Shared, s₄ = { s₂ with heap := h₁, toks := s₂.toks + ([] : List (Str × Value)).length } → codeAny (model prog w) A (.compLoop (.ListComp el [⟨tg, iter, ifs', 0⟩] sc p) 0 (.ref Ia) (.ref D) cenv) (RR (.ref D) L) s₄ := by
    rintro s₄ rfl
    refine codeAny_compLoop_tests Inv ?_ (all.length + 1) ?_ ?_
    · rintro n s' ⟨i, acc, ys, varsX, μ', rfl, hi, hst', hpl, hrs, hai, C', hag, g', hDm', hfp', hwr', hM⟩
      have hfz' : ∀ {b : Addr}, μ' b = none → b ∉ src.held ++ fz := fun e => C'.fzin.free e
      by_cases hlt : i < all.length
      · have hm : all[i]? = some all[i] := List.getElem?_eq_getElem hlt
        rw [List.drop_eq_getElem_cons hlt] at hM
        obtain ⟨vars', hb, hM⟩ := hM
        refine W.item i all[i] s' _ _ hm hst' fun v h' tk rv st' kt hk => ?_
        have C1 : Cur prog w h₀ S' cenv varsX (src.held ++ fz) μ' { s' with heap := h', toks := tk } := C'.skip kt hk hwr' hwr0 (fun m => hLfp (W.sub _ m)) hcwr
        have g1 : Grow fz μ₁ sa μ' { s' with heap := h', toks := tk } := g'.skip hk (fun b hb => (hwr b hb).1) rfl rfl
        refine Cv hA.hand C1 htg rv (bind_agree h1 hb hag) fun s₅ C2 gs2 kt2 kl2 => ?_
        have kl : ∀ b o, b ≠ L → h'.get? b = some o → s₅.heap.get? b = some o := kl2 tloc
        have g2 : Grow fz μ₁ sa μ' s₅ := g1.skip (wr := [L]) (fun b o hb e => kl b o (by simpa using hb) e) (by simp [hLa]) gs2.os gs2.gens
        have hDw : D ∉ wr := fun m => hDfp (W.sub _ m)
        have keepD : ∀ o, s'.heap.get? D = some o → s₅.heap.get? D = some o := fun o e => kl D o hDC (hk D o hDw e)
        have hst5 : St (i + 1) s₅.heap := W.frame _ _ _ st' kt2 fun b hb o e => kl b o (fun q => hLfp (q ▸ hb)) e
        have hpl5 : s₅.heap.PlainList D ys.toArray := by obtain ⟨n, hn⟩ := hpl; exact ⟨n, keepD _ hn⟩
        have hrs5 : RepVs s₅.heap acc ys := (hrs.keepT kt).keepT kt2
        have hfp5 : ∀ b ∈ fp, (μ' b = none ∨ b ∈ src.held ++ fz) ∧ ∃ o, s₅.heap.get? b = some o := by
          intro b hb
          refine ⟨(hfp' b hb).1, ?_⟩
          have hbL : b ≠ L := fun q => hLfp (q ▸ hb)
          by_cases hw : b ∈ wr
          · obtain ⟨o, ho⟩ := W.alive _ _ st' b hw
            exact ⟨o, kl b o hbL ho⟩
          · obtain ⟨o, ho⟩ := (hfp' b hb).2
            exact ⟨o, kl b o hbL (hk b o hw ho)⟩
        refine wpAny_mono (Cz (fun e he => (hifs e he).2) hifs' hA C2 hM) (fun ok s₆ h₆ => ?_) fun _ _ e => e
        obtain ⟨μ₆, hq₆, r₆, g₆⟩ := h₆
        have C6 := C2.grow g₆ r₆
        have kD6 : ∀ o, s₅.heap.get? D = some o → s₆.heap.get? D = some o ∧ μ₆ D = none := fun o e => (g₆.keep D o (.inl hDm') e).imp id fun q => q.trans hDm'
        have kfp6 : ∀ b ∈ fp, ∀ o, s₅.heap.get? b = some o → s₆.heap.get? b = some o := fun b hb o e => (g₆.keep b o (hfp5 b hb).1 e).1
        have hst6 : St (i + 1) s₆.heap := W.frame _ _ _ hst5 (g₆.keepT C2.heap) kfp6
        have hfp6 : ∀ b ∈ fp, (μ₆ b = none ∨ b ∈ src.held ++ fz) ∧ ∃ o, s₆.heap.get? b = some o := fun b hb => by
          obtain ⟨q, o, ho⟩ := hfp5 b hb
          obtain ⟨e1, e2⟩ := g₆.keep b o q ho
          exact ⟨q.imp (fun z => e2.trans z) id, o, e1⟩
        have hwr6 : ∀ b ∈ wr, μ₆ b = none := fun b hb => by
          obtain ⟨q, o, ho⟩ := hfp5 b (W.sub b hb)
          exact (g₆.keep b o q ho).2.trans (hwr' b hb)
        obtain ⟨nD, hnD⟩ := id hpl5
        have hpl6 : s₆.heap.PlainList D ys.toArray := ⟨nD, (kD6 _ hnD).1⟩
        have hrs6 : RepVs s₆.heap acc ys := hrs5.keepT (g₆.keepT C2.heap)
        have hag' : ∀ j, j ∉ t.vars → vars' j = vars j := bind_out h1 hb
        have g6 : Grow fz μ₁ sa μ₆ s₆ := g2.trans g₆.weak
        cases ok with
        | false =>
          exact ⟨all.length + 1 - (i + 1), by lia, i + 1, acc, ys, vars', μ₆, rfl, hlt, hst6, hpl6, hrs6, by exact Nat.le_succ_of_le (by assumption), C6, hag', g6, (kD6 _ hnD).2, hfp6, hwr6, hq₆⟩
        | true =>
          refine wpAny_mono (helt S' el cenv vars' _ μ₆ s₆ _ A _ hel hA C6 hq₆) (fun r s₇ h₇ => ?_) fun _ _ e => e
          obtain ⟨mr, μ₇, hq₇, rr, r₇, g₇⟩ := h₇
          have C7 := C6.grow g₇ r₇
          have kD7 := g₇.keep D _ (.inl (kD6 _ hnD).2) (kD6 _ hnD).1
          have hD7 : μ₇ D = none := kD7.2.trans (kD6 _ hnD).2
          have hst7 : St (i + 1) s₇.heap := W.frame _ _ _ hst6 (g₇.keepT r₆) fun b hb o e => (g₇.keep b o (hfp6 b hb).1 e).1
          have hpl7 : s₇.heap.PlainList D ys.toArray := ⟨nD, kD7.1⟩
          have hlen : ys.length = acc.length := hrs.length
          refine wpAny_list_append_plain hpl7 (fun h' hpl8 hs8 => ?_) (by
            have : all.length ≤ sizeLine := Yp hfit
            simp only [List.size_toArray]; lia)
          have kall : ∀ b o, b ∉ [D] → s₇.heap.get? b = some o → h'.get? b = some o := fun b o hb e => hs8.extBut b o (by simpa using hb) e
          have kt8 : KeepsT s₇.heap h' := fun b o e hi => kall b o (fun q => by simp at q; subst q; exact notD _ _ o hpl7 e hi) e
          refine ⟨all.length + 1 - (i + 1), by lia, i + 1, acc ++ [mr], ys ++ [r], vars', μ₇, rfl, hlt, ?_, ?_, ?_, by simp; assumption, ?_, hag', ?_, hD7, ?_, ?_, hq₇⟩
          · exact W.frame _ _ _ hst7 kt8 fun b hb o e => kall b o (fun q => by simp at q; subst q; exact hDfp hb) e
          · simpa using hpl8
          · exact ((hrs6.keepT (g₇.keepT r₆)).keepT kt8).append (by simp only [RepVs, and_true]; exact rr.keepT kt8)
          · exact C7.skip (s' := { s₇ with heap := h' }) kt8 kall (by simp [hD7]) (by simp [hD0]) (fun q => by simp at q; exact hDC q.symm) hcD
          · exact (g6.trans g₇.weak).skip (wr := [D]) (s'' := { s₇ with heap := h' }) kall (by simp [hDa]) rfl rfl
          · intro b hb
            obtain ⟨q, o, ho⟩ := hfp6 b hb
            obtain ⟨e1, e2⟩ := g₇.keep b o q ho
            exact ⟨q.imp (fun z => e2.trans z) id, o, kall b o (fun q => by simp at q; subst q; exact hDfp hb) e1⟩
          · intro b hb
            obtain ⟨q, o, ho⟩ := hfp6 b (W.sub b hb)
            exact (g₇.keep b o q ho).2.trans (hwr6 b hb)
      · have hie : i = all.length := by lia
        subst hie
        rw [List.drop_length] at hM
        refine W.done s' _ _ hst' fun h' tk kt hk => ?_
        have hDw : D ∉ wr := fun m => hDfp (W.sub _ m)
        refine hR D L _ ⟨⟨upd μ' D (.list acc), ?_, ?_, ?_, ?_⟩, ?_, ?_⟩
        · exact hM D hDm' (fun m => hfz' hDm' (List.mem_append_right _ m))
        · have C1 : Cur prog w h₀ S' cenv varsX (src.held ++ fz) μ' { s' with heap := h', toks := tk } := C'.skip kt hk hwr' hwr0 (fun m => hLfp (W.sub _ m)) hcwr
          refine C1.heap.alloc (fun b o e => e) ⟨ys, ?_, hrs.keepT kt⟩
          obtain ⟨n, hn⟩ := hpl; exact ⟨n, hk D _ hDw hn⟩
        · refine ga.trans ⟨fun b o f e => ?_, g'.os, g'.gens⟩
          obtain ⟨e1, e2⟩ := g'.keep b o f e
          have hbD : b ≠ D := fun q => by subst q; rw [hDa] at e; cases e
          exact ⟨hk b o (fun m => by rw [(hwr b m).1] at e; cases e) e1, by unfold upd; rw [if_neg hbD]; exact e2⟩
        · unfold upd; rw [if_neg (Ne.symm hDC)]; exact C'.fr.fixl
        · intro o f e
          have := (ga.keep L o f e).1
          rw [hLa] at this; cases this
        · obtain ⟨m, hm, _⟩ := C'.fr.ns
          exact ⟨m, hm.at' fun o e => hk _ o (fun m => hLfp (W.sub _ m)) e⟩
    · have k₁ : ∀ b o, s₂.heap.get? b = some o → h₁.get? b = some o := old
      refine ⟨0, [], [], without t vars, μ₁, rfl, Nat.zero_le _, W.frame _ _ _ hst (.of_all k₁) (fun b _ o e => k₁ b o e), hacc, trivial, Nat.le_refl _, ?_, ?_, ?_, hDm, ?_, fun b hb => (hwr b hb).2, ?_⟩
      · exact inner_cur (s' := { s₂ with heap := h₁, toks := _ }) Cw I hns₁ hL2 k₁ (fun j hj => if_neg hj) fun i x mv hi hv => by
          rw [show without t vars i = none from if_pos (List.of_mem_zip hi).1] at hv; cases hv
      · intro j hj; simp [without, hj]
      · exact ⟨fun b o _ e => ⟨k₁ b o (hkeep b o e), rfl⟩, hos, hgens⟩
      · intro b hb
        obtain ⟨q, o, ho, _⟩ := hfp b hb
        exact ⟨q.imp id fun m => List.mem_append_left _ m, o, k₁ b o ho⟩
      · rw [List.drop_zero]; exact hK
    · obtain ⟨x, px, rfl⟩ := isTgt_name htg
      intro v; rfl
  exact codeAny_compStart_list (loop _ rfl) (W.self 0 _ _ _ (W.frame _ _ _ hst (.of_all old) (fun b _ o e => old b o e)) (loop _ rfl))
theorem SameBut.keep {L : Addr} {h h' : Heap} (hs : Heap.SameBut L h h') : ∀ b o, b ∉ [L] → h.get? b = some o → h'.get? b = some o := fun b o hb e => hs.extBut b o (by simpa using hb) e
theorem Ag {h : Heap} {L : Addr} {m : Str → Option Value} (hn : h.Ns L m) : ∀ o, h.get? L = some o → ¬ ImmCls o := by
  obtain ⟨o, es, ep, ho, hd, _⟩ := hn
  rintro o' ho' (⟨_, _, _, q⟩ | ⟨_, _, q⟩ | ⟨_, _, q⟩) <;> rw [ho] at ho' <;> cases ho' <;> rw [hd] at q <;> cases q
theorem end_post {fz : List Addr} {μ : MH} {s s' : Shared} {Q : MQ} {A : Around} {E : Value → Shared → Prop} {D L : Addr} (e : CompEnd prog w fz μ s Q D L s') : compPost (model prog w) A E none (PostV prog w fz μ s Q) (.ref D) L (.ok .next) s' := by
  obtain ⟨⟨μ', hq', r', g', hL⟩, hf, m, hn⟩ := e
  refine ⟨m, hn, fun h'' hs'' => ⟨.ref D, μ', hq', rfl, ?_, ?_⟩⟩
  · have kt : KeepsT s'.heap h'' := fun b o e hi => SameBut.keep hs'' b o (fun q => by simp at q; subst q; exact Ag hn o e hi) e
    exact fun a o e => (r' a o e).keeps kt fun y hy => SameBut.keep hs'' a y (fun q => by simp at q; subst q; rw [hL] at e; cases e) hy
  · exact ⟨fun b o f e => by
      obtain ⟨e1, e2⟩ := g'.keep b o f e
      exact ⟨SameBut.keep hs'' b o (fun q => by simp at q; subst q; exact hf o f e) e1, e2⟩, g'.os, g'.gens⟩
theorem se_comp (pg : PG prog w G Γ h₀ mg mb) {elt : ME} {t : MT} {k : SK} {its ifs : List ME} (hits : ∀ e ∈ its, SS prog w G h₀ Φ d e) (hifs : ∀ e ∈ ifs, SS prog w G h₀ Φ d e) (helt : SE prog w G h₀ Φ d elt) : SE prog w G h₀ Φ d (.comp elt t k its ifs) := fun S x env vars fz μ s Q A E h hA C hq => by
  obtain ⟨el, tg, iter, ifs', sc, p, rfl, hok⟩ := Dz h
  obtain ⟨hs, hclos, hw⟩ := Dy (E := E) (RR := fun acc L => compPost (model prog w) A E none (PostV prog w fz μ s Q) acc L) pg hits hifs helt hok hA C hq (fun _ _ _ e => end_post e)
  rw [eval_ListComp]
  exact wpAny_comprehension_free (use := none) rfl hs hclos hok.inn.kind (fun x hx hl => by rw [hok.inn.look x hx, hl]) hw
noncomputable def ME.tag : ME → Tg
  | .var _ | .glob _ => .name
  | .cint _ => .cint
  | .cstr _ => .cstr
  | .cbool _ => .cbool
  | .cnone => .cnone
  | .bin _ _ _ => .bin
  | .neg _ => .neg
  | .not _ => .not
  | .and _ => .and
  | .or _ => .or
  | .cmp _ _ _ => .cmp
  | .ite _ _ _ => .ife
  | .idx _ _ => .sub
  | .slice _ _ _ _ => .slc
  | .list _ => .list
  | .tuple _ => .tup
  | .dict0 _ => .dict0
  | .dict _ _ => .other
  | .call _ _ | .bi _ _ | .isinst _ _ => .callN
  | .meth _ _ _ => .callA
  | .comp _ _ _ _ _ => .lc
theorem Fl {S : Sc} {e : ME} {x : PySem.Expr} (h : isE S e x = true) : (node x).t = e.tag := by
  cases e with
  | cnone => exact of_decide_eq_true h
  | dict0 _ => exact of_decide_eq_true h
  | dict _ _ => exact (Bool.false_ne_true h).elim
  | ite _ _ _ => exact (Bool.false_ne_true h).elim
  | call _ _ => exact of_decide_eq_true (Yj (Yj (Yj h).1).1).1
  | isinst _ _ => exact of_decide_eq_true (Yj (Yj (Yj h).1).1).1
  | bi f _ => cases f <;> first | exact of_decide_eq_true (Yj (Yj (Yj h).1).1).1 | exact of_decide_eq_true (Yj h).1 | exact (Bool.false_ne_true h).elim
  | _ => exact of_decide_eq_true (Yj h).1
noncomputable def Tg.plain : Tg → Bool
  | .not | .and | .or | .cmp | .ife | .other => false
  | _ => true
theorem isTrue_tag {x : PySem.Expr} {env : Env} (h : (node x).t.plain = true) : ∀ whole, isTrue x env whole = (do let v ← whole; standAt x.pos; holding [v] (PySem.truthy v)) := by
  intro whole
  cases x <;> first
    | rfl
    | exact (Bool.false_ne_true h).elim
    | (rename_i op _ _; cases op <;> first | rfl | exact (Bool.false_ne_true h).elim)
theorem SS.of_plain {e : ME} (he : e.tag.plain = true) (h : SE prog w G h₀ Φ d e) : SS prog w G h₀ Φ d e :=
  ⟨h, fun S x env vars fz μ s F A E hx hA C hq => truthyT h (isTrue_tag (by rw [Fl hx]; exact he)) hx hA C hq⟩
end
end Mine
end
section
namespace Mine
open PySem PySem.Calls PyProof.Rows PySem.W
section
variable {prog : Program} {w : World} {G : String → Option MV} {Γ : String → Option MFun} {h₀ : Heap} {mg mb : Str → Option Value} {Φ : CallSpec} {d : Nat}
mutual
theorem Zr (pg : PG prog w G Γ h₀ mg mb) (hc : SC prog w h₀ Φ d) : ∀ e : ME, SS prog w G h₀ Φ d e
  | .var i => .of_plain rfl (se_var i)
  | .glob g => .of_plain rfl (se_glob pg g)
  | .cint i => .of_plain rfl (se_cint i)
  | .cstr t => .of_plain rfl (se_cstr t)
  | .cbool b => .of_plain rfl (se_cbool b)
  | .cnone => .of_plain rfl se_cnone
  | .bin op a b => .of_plain rfl (se_bin (Zr pg hc a).1 (Zr pg hc b).1)
  | .neg a => .of_plain rfl (se_neg (Zr pg hc a).1)
  | .not a => ⟨se_not (Zr pg hc a).1, st_not (Zr pg hc a).2⟩
  | .and l => ⟨se_and fun e he => (Z8 pg hc l e he).1, st_and fun e he => (Z8 pg hc l e he).2⟩
  | .or l => ⟨se_or fun e he => (Z8 pg hc l e he).1, st_or fun e he => (Z8 pg hc l e he).2⟩
  | .cmp a ops es => ⟨se_cmp (Zr pg hc a).1 fun e he => (Z8 pg hc es e he).1, st_cmp (Zr pg hc a).1 fun e he => (Z8 pg hc es e he).1⟩
  | .ite _ _ _ => ⟨fun S x env vars fz μ s Q A E h hA C hq => (Bool.false_ne_true h).elim, fun S x env vars fz μ s Q A E h hA C hq => (Bool.false_ne_true h).elim⟩
  | .idx a i => .of_plain rfl (se_idx (Zr pg hc a).1 (Zr pg hc i).1)
  | .slice a lo hi st => .of_plain rfl (se_slice (Zr pg hc a).1 (Zr pg hc lo).1 (Zr pg hc hi).1 (Zr pg hc st).1)
  | .list l => .of_plain rfl (se_list (Z8 pg hc l))
  | .tuple l => .of_plain rfl (se_tuple (Z8 pg hc l))
  | .dict0 b => .of_plain rfl (se_dict0 pg b)
  | .dict _ _ => ⟨fun S x env vars fz μ s Q A E h hA C hq => (Bool.false_ne_true h).elim, fun S x env vars fz μ s Q A E h hA C hq => (Bool.false_ne_true h).elim⟩
  | .call f l => .of_plain rfl (se_call hc (Z8 pg hc l))
  | .bi .sortedR l => .of_plain rfl (se_sortedR pg (Z8 pg hc l))
  | .bi .maxD l => .of_plain rfl (se_maxD pg (Z8 pg hc l))
  | .bi .sortedSetS l => .of_plain rfl (Ck pg (Z8 pg hc l))
  | .bi .sortedSet l => .of_plain rfl (Fc pg (Z8 pg hc l))
  | .bi .len l => .of_plain rfl (P2 pg (Z8 pg hc l) rfl)
  | .bi .min2 l => .of_plain rfl (P2 pg (Z8 pg hc l) rfl)
  | .bi .max2 l => .of_plain rfl (P2 pg (Z8 pg hc l) rfl)
  | .bi .max1 l => .of_plain rfl (P2 pg (Z8 pg hc l) rfl)
  | .bi .sorted l => .of_plain rfl (P2 pg (Z8 pg hc l) rfl)
  | .bi .list l => .of_plain rfl (P2 pg (Z8 pg hc l) rfl)
  | .bi .dict l => .of_plain rfl (P2 pg (Z8 pg hc l) rfl)
  | .bi .int l => .of_plain rfl (P2 pg (Z8 pg hc l) rfl)
  | .bi .str l => .of_plain rfl (P2 pg (Z8 pg hc l) rfl)
  | .bi .all l => .of_plain rfl (P2 pg (Z8 pg hc l) rfl)
  | .isinst a t => .of_plain rfl (se_isinst pg (Zr pg hc a))
  | .meth m o l => .of_plain rfl (se_meth (Zr pg hc o).1 (Z8 pg hc l))
  | .comp elt t k its ifs => .of_plain rfl (se_comp pg (Z8 pg hc its) (Z8 pg hc ifs) (Zr pg hc elt).1)
theorem Z8 (pg : PG prog w G Γ h₀ mg mb) (hc : SC prog w h₀ Φ d) : ∀ l : List ME, ∀ e ∈ l, SS prog w G h₀ Φ d e
  | [] => fun e h => by cases h
  | a :: l => fun e h => (List.mem_cons.mp h).elim (fun q => q ▸ Zr pg hc a) (fun q => Z8 pg hc l e q)
end
end
end Mine
end
section
namespace Mine
open PySem PySem.Calls PyProof.Rows PySem.W
noncomputable def RepFl (h : Heap) : MFlow → Flow → Prop
  | .next, f => f = .next
  | .brk, f => f = .brk
  | .cont, f => f = .cont
  | .ret m, f => ∃ v, f = .ret v ∧ RepV h m v
inductive PostF (prog : Program) (w : World) (h₀ : Heap) (S : Sc) (env : Env) (fz : List Addr) (μ : MH) (s : Shared) (R : MFlow → MVars → MH → Prop) (f : Flow) (s' : Shared) : Prop
  | mk (fl : MFlow) (vars' : MVars) (μ' : MH) (q : R fl vars' μ') (hf : RepFl s'.heap fl f) (cur : Cur prog w h₀ S env vars' fz μ' s') (g : GrowS env fz μ s μ' s')
section
variable (prog : Program) (w : World) (G : String → Option MV) (h₀ : Heap) (Φ : CallSpec) (d : Nat)
noncomputable def SX (st : MS) : Prop := ∀ (S : Sc) (x : PySem.Stmt) (env : Env) (vars : MVars) (fz : List Addr) (μ : MH) (s : Shared) (R : MFlow → MVars → MH → Prop) (A : Around) (E : Value → Shared → Prop), isS S st x = true → OkA d A → Cur prog w h₀ S env vars fz μ s →
  ex G Φ X0 st fz vars R μ → wpAny (model prog w) A (exec x env) (PostF prog w h₀ S env fz μ s R) E s
noncomputable def SXs (l : List MS) : Prop := ∀ (S : Sc) (xs : List PySem.Stmt) (env : Env) (vars : MVars) (fz : List Addr) (μ : MH) (s : Shared) (R : MFlow → MVars → MH → Prop) (A : Around) (E : Value → Shared → Prop), isSs S l xs = true → OkA d A → Cur prog w h₀ S env vars fz μ s →
  exs G Φ X0 l fz vars R μ → wpAny (model prog w) A (execs xs env) (PostF prog w h₀ S env fz μ s R) E s
end
section
variable {prog : Program} {w : World} {G : String → Option MV} {Γ : String → Option MFun} {h₀ : Heap} {mg mb : Str → Option Value} {Φ : CallSpec} {d : Nat}
theorem PostF.trans {S : Sc} {env : Env} {fz : List Addr} {μ μ₁ : MH} {s s₁ : Shared} {R : MFlow → MVars → MH → Prop} {f : Flow} {s' : Shared} (g : GrowS env fz μ s μ₁ s₁) (x : PostF prog w h₀ S env fz μ₁ s₁ R f s') : PostF prog w h₀ S env fz μ s R f s' := by
  obtain ⟨fl, vars', μ', h1, h2, h3, h4⟩ := x
  exact ⟨fl, vars', μ', h1, h2, h3, g.trans h4⟩
theorem sx_nil : SXs prog w G h₀ Φ d [] := fun S xs env vars fz μ s R A E h hA C hq => by
  cases xs with
  | cons _ _ => exact (Bool.false_ne_true h).elim
  | nil => exact wpAny_execs_nil ⟨.next, vars, μ, hq, rfl, C, .refl⟩
theorem sx_cons {st : MS} {l : List MS} (h1 : SX prog w G h₀ Φ d st) (h2 : SXs prog w G h₀ Φ d l) : SXs prog w G h₀ Φ d (st :: l) := fun S xs env vars fz μ s R A E h hA C hq => by
  cases xs with
  | nil => exact (Bool.false_ne_true h).elim
  | cons x xs =>
    replace h := isSs_cons h
    refine wpAny_execs_cons (wpAny_mono (h1 S x env vars fz μ s _ A E h.1 hA C hq) (fun f s₁ h₁ => ?_) fun _ _ e => e)
    obtain ⟨fl, vars₁, μ₁, hq₁, hf, C₁, g₁⟩ := h₁
    cases fl with
    | next =>
      obtain rfl := hf
      exact wpAny_mono (h2 S xs env vars₁ fz μ₁ s₁ R A E h.2 hA C₁ hq₁) (fun f' s₂ h₂ => h₂.trans g₁) fun _ _ e => e
    | brk => obtain rfl := hf; exact ⟨.brk, vars₁, μ₁, hq₁, rfl, C₁, g₁⟩
    | cont => obtain rfl := hf; exact ⟨.cont, vars₁, μ₁, hq₁, rfl, C₁, g₁⟩
    | ret m => obtain ⟨v, rfl, rv⟩ := hf; exact ⟨.ret m, vars₁, μ₁, hq₁, ⟨v, rfl, rv⟩, C₁, g₁⟩
theorem sx_pass : SX prog w G h₀ Φ d .pass := fun S x env vars fz μ s R A E h hA C hq => by
  replace h := invS_pass h; obtain ⟨p, rfl⟩ := h
  exact wpAny_Pass ⟨.next, vars, μ, hq, rfl, C, .refl⟩
theorem sx_ret0 : SX prog w G h₀ Φ d .ret0 := fun S x env vars fz μ s R A E h hA C hq => by
  replace h := invS_ret0 h; obtain ⟨p, rfl⟩ := h
  exact wpAny_Return_none ⟨.ret .none, vars, μ, hq, ⟨.none, rfl, rfl⟩, C, .refl⟩
theorem sx_ret {a : ME} (ha : SE prog w G h₀ Φ d a) : SX prog w G h₀ Φ d (.ret a) := fun S x env vars fz μ s R A E h hA C hq => by
  replace h := invS_ret h; obtain ⟨v, p, rfl, h⟩ := h
  refine wpAny_Return_some (wpAny_mono (ha S _ env vars fz μ s _ A E h hA C hq) (fun v s₁ h₁ => ?_) fun _ _ e => e)
  obtain ⟨mv, μ₁, hq₁, rv, r₁, g₁⟩ := h₁
  exact ⟨.ret mv, vars, μ₁, hq₁, ⟨v, rfl, rv⟩, C.grow g₁ r₁, g₁.toS⟩
theorem swaps_none {v : PySem.Expr} (h : notComp v = true) (line : Nat) (env : Env) : swapsWith v none line env = pure false := by
  have h' := Yj h
  cases v <;> first
    | rfl
    | exact (Bool.false_ne_true h'.2).elim
    | (rename_i el gs sc p
       cases gs with
       | nil => exact (Bool.false_ne_true h'.2).elim
       | cons g gs =>
         obtain ⟨tg, it, ifs, n⟩ := g
         cases n with
         | ofNat m => cases m <;> cases gs <;> first | exact (Bool.false_ne_true h'.2).elim | exact (Bool.false_ne_true h'.1).elim
         | negSucc m => cases gs <;> exact (Bool.false_ne_true h'.2).elim)
theorem sx_expr {a : ME} (ha : SE prog w G h₀ Φ d a) : SX prog w G h₀ Φ d (.expr a) := fun S x env vars fz μ s R A E h hA C hq => by
  replace h := invS_expr h; obtain ⟨v, p, rfl, hn, h⟩ := h
  refine wpAny_Expr_any (wpAny_mono (ha S _ env vars fz μ s _ A E h hA C hq) (fun v s₁ h₁ => ?_) fun _ _ e => e) (by unfold interactive; rw [C.fr.kind]; rfl) (swaps_none hn _ _)
  obtain ⟨mv, μ₁, hq₁, rv, r₁, g₁⟩ := h₁
  exact ⟨.next, vars, μ₁, hq₁, rfl, C.grow g₁ r₁, g₁.toS⟩
theorem sx_ite {c : ME} {a b : List MS} (hc : ST prog w G h₀ Φ d c) (ha : SXs prog w G h₀ Φ d a) (hb : SXs prog w G h₀ Φ d b) : SX prog w G h₀ Φ d (.ite c a b) := fun S x env vars fz μ s R A E h hA C hq => by
  replace h := invS_ite h; obtain ⟨tt, y, z, p, rfl, h⟩ := h
  simp only [Bool.and_eq_true] at h
  refine wpAny_If (wpAny_mono (hc S _ env vars fz μ s (fun b' μ' => if b' then exs G Φ X0 a fz vars R μ' else exs G Φ X0 b fz vars R μ') A E h.1.1 hA C hq) (fun v s₁ h₁ => ?_) fun _ _ e => e)
  obtain ⟨μ₁, hq₁, r₁, g₁⟩ := h₁
  cases v with
  | true => exact wpAny_mono (ha S _ env vars fz μ₁ s₁ R A E h.1.2 hA (C.grow g₁ r₁) hq₁) (fun v' s₃ h₃ => h₃.trans g₁.toS) fun _ _ e => e
  | false => exact wpAny_mono (hb S _ env vars fz μ₁ s₁ R A E h.2 hA (C.grow g₁ r₁) hq₁) (fun v' s₃ h₃ => h₃.trans g₁.toS) fun _ _ e => e
theorem sx_setidx {o i a : ME} (ho : SE prog w G h₀ Φ d o) (hi : SE prog w G h₀ Φ d i) (ha : SE prog w G h₀ Φ d a) : SX prog w G h₀ Φ d (.setidx o i a) := fun S x env vars fz μ s R A E h hA C hq => by
  replace h := invS_setidx h; obtain ⟨ov, iv, sp, v, p, rfl, h⟩ := h
  simp only [Bool.and_eq_true] at h
  refine wpAny_Assign_Subscript (wpAny_mono (ha S _ env vars fz μ s _ A E h.2 hA C hq) (fun v s₁ h₁ => ?_) fun _ _ e => e) ?_
  · obtain ⟨mv, μ₁, hq₁, rv, r₁, g₁⟩ := h₁
    have C₁ := C.grow g₁ r₁
    refine wpAny_mono (ho S _ env vars fz μ₁ s₁ _ A E h.1.1 hA C₁ hq₁) (fun u s₂ h₂ => ?_) fun _ _ e => e
    obtain ⟨mu, μ₂, hq₂, ru, r₂, g₂⟩ := h₂
    have C₂ := C₁.grow g₂ r₂
    refine wpAny_mono (hi S _ env vars fz μ₂ s₂ _ A E h.1.2 hA C₂ hq₂) (fun y s₃ h₃ => ?_) fun _ _ e => e
    obtain ⟨my, μ₃, hq₃, ry, r₃, g₃⟩ := h₃
    have C₃ := C₂.grow g₃ r₃
    refine wpAny_mono (op_set (ru.keepT (g₃.keepT r₂)) ry ((rv.keepT (g₂.keepT r₁)).keepT (g₃.keepT r₂)) r₃ hq₃) (fun _ s₄ h₄ => ?_) fun _ _ e => e
    obtain ⟨μ₄, hq₄, r₄, g₄⟩ := h₄
    exact ⟨.next, vars, μ₄, hq₄, rfl, C₃.grow g₄ r₄, (((g₁.trans g₂).trans g₃).trans g₄).toS⟩
  · cases v <;> rfl
theorem lc_of {a : ME} (h : a.tag = .lc) : ∃ elt t k its ifs, a = .comp elt t k its ifs := by
  cases a <;> first | (cases h; done) | exact ⟨_, _, _, _, _, rfl⟩
theorem tag_other {S : Sc} {a : ME} {x : PySem.Expr} (h : isE S a x = true) : a.tag ≠ .other := by
  cases a <;> first | exact (Bool.false_ne_true h).elim | (intro q; cases q; done)
theorem swaps_name {v : PySem.Expr} (h1 : (node v).t ≠ .lc) (h2 : (node v).t ≠ .other) (t : PySem.Expr) (line : Nat) (env : Env) : swapsWith v (some t) line env = pure false := by
  cases v <;> first
    | rfl
    | exact absurd rfl h2
    | (rename_i el gs sc p
       cases gs with
       | nil => exact absurd rfl h2
       | cons g gs =>
         obtain ⟨tg, it, ifs, n⟩ := g
         cases n with
         | ofNat m => cases m <;> cases gs <;> first | exact absurd rfl h2 | exact absurd rfl h1
         | negSucc m => cases gs <;> exact absurd rfl h2)
theorem sx_assign (pg : PG prog w G Γ h₀ mg mb) (hc : SC prog w h₀ Φ d) {i : Nat} {a : ME} : SX prog w G h₀ Φ d (.assign i a) := fun S x env vars fz μ s R A E h hA C hq => by
  replace h := invS_assign h; obtain ⟨x, px, v, p, rfl, h1, h2⟩ := h
  have plain : ∀ hs : swapsWith v (some (.Name x px)) p.line env = pure false, wpAny (model prog w) A (exec (.Assign [.Name x px] v p) env) (PostF prog w h₀ S env fz μ s R) E s := by
    intro hs
    refine wpAny_Assign_Name (wpAny_mono ((Zr pg hc a).1 S _ env vars fz μ s _ A E h2 hA C hq) (fun u s₁ h₁ => ?_) fun _ _ e => e) hs
    obtain ⟨mv, μ₁, hq₁, rv, r₁, g₁⟩ := h₁
    exact Aa (C.grow g₁ r₁) h1 rv fun s₂ C₂ g₂ k₂ l₂ => ⟨.next, _, μ₁, hq₁, rfl, C₂, g₁.toS.trans g₂⟩
  by_cases hcomp : a.tag = .lc
  · obtain ⟨elt, t, k, its, ifs, rfl⟩ := lc_of hcomp
    obtain ⟨el, tg, iter, ifs', sc, vp, rfl, hok⟩ := Dz h2
    have hsw : ∃ b : Bool, swapsWith (.ListComp el [⟨tg, iter, ifs', 0⟩] sc vp) (some (.Name x px)) p.line env = pure b := ⟨_, rfl⟩
    obtain ⟨b, hsw⟩ := hsw
    cases b with
    | false => exact plain hsw
    | true =>
      have hR : ∀ D L s', CompEnd prog w fz μ s (fun v μ' => R .next (setv vars i v) μ') D L s' → compPost (model prog w) A E (some (assign (.Name x px) env)) (fun _ s' => PostF prog w h₀ S env fz μ s R .next s') (.ref D) L (.ok .next) s' := by
        intro D L s' e
        obtain ⟨⟨μ', hq', r', g', hL⟩, hf, m, hn⟩ := e
        have C' := C.grow g' r'
        show wpAny _ A (assign (.Name x px) env (.ref D)) _ _ s'
        refine PySem.wpAny_assign_Name (Aa C' h1 (mv := .ref D) rfl fun s₂ C₂ g₂ k₂ l₂ => ?_)
        have hLl : L ≠ env.locals := fun q => by
          obtain ⟨mm, ⟨o, es, ep, ho, _⟩, _⟩ := C.fr.ns
          rw [← q] at ho
          exact hf o (.inl (by rw [q]; exact C.fr.fixl)) ho
        have hLc : ∀ y c, (y, c) ∈ env.cells → L ≠ c := fun y c hm q => by
          subst q
          obtain ⟨f1, _, u, o, ho, _⟩ := C.fr.fixc y L hm
          exact hf o (.inl f1) ho
        have hn₂ : s₂.heap.Ns L m := hn.at' fun o e => (g₂.keep L o (.inl hL) hLl hLc e).1
        refine ⟨m, hn₂, fun h'' hs'' => ⟨.next, _, μ', hq', rfl, ?_, ?_⟩⟩
        · refine C₂.skip (wr := [L]) (s' := { s₂ with heap := h'' }) (fun b o e hi => SameBut.keep hs'' b o (fun q => by simp at q; subst q; exact Ag hn₂ o e hi) e) (SameBut.keep hs'') (by simp [hL]) ?_ (by simpa using Ne.symm hLl) (fun y c hm => by simpa using Ne.symm (hLc y c hm))
          intro b hb
          simp at hb; subst hb
          cases q : h₀.get? b with
          | none => rfl
          | some o => exact (hf o (C.base b o q).2 (C.base b o q).1).elim
        · have gg := g'.toS.trans g₂
          exact ⟨fun b o f l c e => by
            obtain ⟨e1, e2⟩ := gg.keep b o f l c e
            exact ⟨SameBut.keep hs'' b o (fun q => by simp at q; subst q; exact hf o f e) e1, e2⟩, gg.os, gg.gens⟩
      obtain ⟨hs, hclos, hw⟩ := Dy (E := E) (RR := fun acc L => compPost (model prog w) A E (some (assign (.Name x px) env)) (fun _ s' => PostF prog w h₀ S env fz μ s R .next s') acc L) pg (Z8 pg hc its) (Z8 pg hc ifs) (Zr pg hc elt).1 hok hA C hq hR
      rw [exec_Assign_Name_used _ _ _ _ hsw]
      refine wpAny_bind (wpAny_standAt (wpAny_bind ?_))
      show wpAny _ A (do let _ ← comprehension (.ListComp el [⟨tg, iter, ifs', 0⟩] sc vp) sc env _ (newList []) false (eval iter env) (some (assign (.Name x px) env))) _ _ s
      refine wpAny_bind (wpAny_mono (wpAny_comprehension_free (use := some (assign (.Name x px) env)) (Q := fun _ s' => PostF prog w h₀ S env fz μ s R .next s') rfl hs hclos hok.inn.kind (fun x hx hl => by rw [hok.inn.look x hx, hl]) hw) (fun _ s' hq => wpAny_pure (wpAny_pure hq)) fun _ _ e => e)
  · exact plain (swaps_name (Fl h2 ▸ hcomp) (by rw [Fl h2]; exact tag_other h2) _ _ _)
end
end Mine
end
section
namespace Mine
open PySem PySem.Calls PyProof.Rows PySem.W
section
variable {prog : Program} {w : World} {G : String → Option MV} {Γ : String → Option MFun} {h₀ : Heap} {mg mb : Str → Option Value} {Φ : CallSpec} {d : Nat}
theorem Cur.back {S : Sc} {env : Env} {vars vars' : MVars} {fz cs : List Addr} {μ μ' : MH} {s s' : Shared} (C' : Cur prog w h₀ S env vars' (cs ++ fz) μ' s') (C : Cur prog w h₀ S env vars fz μ s) (g : GrowS env fz μ s μ' s') : Cur prog w h₀ S env vars' fz μ' s' :=
  { C' with
    base := fun b o e => by
      obtain ⟨e1, f⟩ := C.base b o e
      obtain ⟨e2, q⟩ := g.keep b o f (fun q => by rw [q, C.newl] at e; cases e) (fun x c hm q => by rw [q, C.newc x c hm] at e; cases e) e1
      exact ⟨e2, f.imp (fun z => q.trans z) id⟩
    fzin := C'.fzin.left }
theorem GrowS.keepT {S : Sc} {env : Env} {vars : MVars} {fz : List Addr} {μ μ' : MH} {s s' : Shared} (C : Cur prog w h₀ S env vars fz μ s) (g : GrowS env fz μ s μ' s') : KeepsT s.heap s'.heap := fun b o e hi => by
  refine (g.keep b o (.inl (tupNone C.heap e hi)) (fun q => ?_) (fun x c hc q => ?_) e).1
  · subst q
    obtain ⟨m, hn, _⟩ := C.fr.ns
    exact Ag hn o e hi
  · subst q
    obtain ⟨_, _, v, o', ho, hd⟩ := C.fr.fixc x b hc
    rw [e] at ho; cases ho
    rcases hi with ⟨_, _, _, q⟩ | ⟨_, _, q⟩ | ⟨_, _, q⟩ <;> rw [hd] at q <;> cases q
structure ForInv (prog : Program) (w : World) (h₀ : Heap) (S : Sc) (env : Env) (G : String → Option MV) (Φ : CallSpec) (t : MT) (body : List MS) (R : MFlow → MVars → MH → Prop) (fz held fp wr : List Addr) (St : Nat → Heap → Prop) (all : List MV) (μ₁ : MH) (sa : Shared) (i : Nat) (vars' : MVars) (μ' : MH) (s' : Shared) : Prop where
  le : i ≤ all.length
  st : St i s'.heap
  cur : Cur prog w h₀ S env vars' (held ++ fz) μ' s'
  gr : GrowS env (held ++ fz) μ₁ sa μ' s'
  fp : ∀ b ∈ fp, (μ' b = none ∨ b ∈ held ++ fz) ∧ ∃ o, s'.heap.get? b = some o
  wr : ∀ b ∈ wr, μ' b = none
  run : loopM t (fun vs F μ => exs G Φ X0 body (held ++ fz) vs F μ) R (all.drop i) vars' μ'
inductive ForAt (prog : Program) (w : World) (h₀ : Heap) (S : Sc) (env : Env) (G : String → Option MV) (Φ : CallSpec) (t : MT) (body : List MS) (R : MFlow → MVars → MH → Prop) (fz held fp wr : List Addr) (St : Nat → Heap → Prop) (all : List MV) (μ₁ : MH) (sa : Shared) (n : Nat) (s' : Shared) : Prop
  | mk (i : Nat) (vars' : MVars) (μ' : MH) (e : n = all.length + 1 - i) (h : ForInv prog w h₀ S env G Φ t body R fz held fp wr St all μ₁ sa i vars' μ' s')
theorem sx_for (pg : PG prog w G Γ h₀ mg mb) {t : MT} {k : SK} {its : List ME} {body : List MS} (hits : ∀ e ∈ its, SS prog w G h₀ Φ d e) (hbody : SXs prog w G h₀ Φ d body) : SX prog w G h₀ Φ d (.for t k its body) := fun S x env vars fz μ s R A E h hA C hq => by
  replace h := invS_for h; obtain ⟨tg, iter, bd, p, as, rfl, has, hsrc, htg, hbd⟩ := h
  obtain ⟨hfold, hsource⟩ := Cy (E := E) pg hits has hsrc hA C hq
  refine wpAny_For (wpAny_mono hsource (fun x s₁ h₁ => wpAny_mono h₁ (fun it s₂ h₂ => ?_) fun _ _ e => e) fun _ _ e => e) hfold
  obtain ⟨src, all, μ₁, sa, ⟨hfit, hK⟩, hit, ra, ga, hat⟩ := h₂
  obtain ⟨Ia, fp, wr, St, rfl, W, hst, hfp, hwr, hkeep, hos, hgens⟩ := hat
  have Ca := C.grow ga ra
  have C₂ : Cur prog w h₀ S env vars fz μ₁ s₂ := Ca.ext hkeep
  have hnc : ∀ b ∈ fp, ∀ x c, (x, c) ∈ env.cells → b ≠ c := by
    intro b hb x c hc e
    subst e
    obtain ⟨_, _, v, o, ho, hd⟩ := C₂.fr.fixc x b hc
    obtain ⟨_, o', ho', hd'⟩ := hfp b hb
    rw [ho] at ho'; cases ho'; exact hd'.1 v hd
  have hnl : ∀ b ∈ fp, b ≠ env.locals := by
    intro b hb e
    subst e
    obtain ⟨m, ⟨o, es, ep, ho, hd, _⟩, _⟩ := C₂.fr.ns
    obtain ⟨_, o', ho', _, hd'⟩ := hfp _ hb
    rw [ho] at ho'; cases ho'
    rcases hd' with q | q
    · exact Fn hit _ q C₂.fr.fixl
    · exact q es ep hd
  have hwr0 : ∀ b ∈ wr, h₀.get? b = none := fun b hb => by
    cases q : h₀.get? b with
    | none => rfl
    | some o => have := (Ca.base b o q).1; rw [(hwr b hb).1] at this; cases this
  have hcwr : ∀ x c, (x, c) ∈ env.cells → c ∉ wr := fun x c hc hm => hnc c (W.sub c hm) x c hc rfl
  have hlwr : env.locals ∉ wr := fun m => hnl _ (W.sub _ m) rfl
  have Cw := C₂.weak (cs := src.held) (Fn hit)
  let Inv : Nat → Shared → Prop := ForAt prog w h₀ S env G Φ t body R fz src.held fp wr St all μ₁ sa
  refine codeAny_forLoop_any Inv ?_ (all.length + 1) ?_
  · rintro n s' ⟨i, vars', μ', rfl, hi, hst', C', g', hfp', hwr', hM⟩
    by_cases hlt : i < all.length
    · have hm : all[i]? = some all[i] := List.getElem?_eq_getElem hlt
      rw [List.drop_eq_getElem_cons hlt] at hM
      obtain ⟨vars'', hb, hM⟩ := hM
      refine W.item i all[i] s' _ _ hm hst' fun v h' tk rv st' kt hk => ?_
      refine W.go tg i v _ _ _ st' ?_
      have C1 : Cur prog w h₀ S env vars' (src.held ++ fz) μ' { s' with heap := h', toks := tk } := C'.skip kt hk hwr' hwr0 hlwr hcwr
      have g1 : GrowS env (src.held ++ fz) μ₁ sa μ' { s' with heap := h', toks := tk } := g'.skip hk (fun b hb => (hwr b hb).1) rfl rfl
      refine Cv hA.hand C1 htg rv hb fun s₅ C2 gs2 kt2 kl2 => ?_
      have g2 := g1.trans gs2
      have hkb : ∀ b ∈ fp, ∀ o, h'.get? b = some o → s₅.heap.get? b = some o := fun b hb o e => (gs2.keep b o (hfp' b hb).1 (hnl b hb) (fun x c hc => hnc b hb x c hc) e).1
      have hst5 : St (i + 1) s₅.heap := W.frame _ _ _ st' kt2 hkb
      have hfp5 : ∀ b ∈ fp, (μ' b = none ∨ b ∈ src.held ++ fz) ∧ ∃ o, s₅.heap.get? b = some o := by
        intro b hb
        refine ⟨(hfp' b hb).1, ?_⟩
        by_cases hw : b ∈ wr
        · obtain ⟨o, ho⟩ := W.alive _ _ st' b hw
          exact ⟨o, hkb b hb o ho⟩
        · obtain ⟨o, ho⟩ := (hfp' b hb).2
          exact ⟨o, hkb b hb o (hk b o hw ho)⟩
      refine wpAny_mono (hbody S bd env vars'' _ μ' s₅ _ A _ hbd hA C2 hM) (fun f s₆ h₆ => ?_) fun _ _ e => e
      obtain ⟨fl, vars₆, μ₆, hq₆, hf, C6, g₆⟩ := h₆
      have g6 := g2.trans g₆
      have gback := ga.toS.trans g6.weak
      have next : ∀ hh : loopM t (fun vs F μ => exs G Φ X0 body (src.held ++ fz) vs F μ) R (all.drop (i + 1)) vars₆ μ₆, ∃ m, m < all.length + 1 - i ∧ Inv m s₆ := by
        intro hh
        refine ⟨all.length + 1 - (i + 1), by lia, i + 1, vars₆, μ₆, rfl, hlt, ?_, C6, g6, ?_, ?_, hh⟩
        · exact W.frame _ _ _ hst5 (g₆.keepT C2) fun b hb o e => (g₆.keep b o (hfp5 b hb).1 (hnl b hb) (fun x c hc => hnc b hb x c hc) e).1
        · intro b hb
          obtain ⟨q, o, ho⟩ := hfp5 b hb
          obtain ⟨e1, e2⟩ := g₆.keep b o q (hnl b hb) (fun x c hc => hnc b hb x c hc) ho
          exact ⟨q.imp (fun z => e2.trans z) id, o, e1⟩
        · intro b hb
          obtain ⟨q, o, ho⟩ := hfp5 b (W.sub b hb)
          exact (g₆.keep b o q (hnl b (W.sub b hb)) (fun x c hc => hnc b (W.sub b hb) x c hc) ho).2.trans (hwr' b hb)
      cases fl with
      | next => obtain rfl := hf; exact next hq₆
      | cont => obtain rfl := hf; exact next hq₆
      | brk => obtain rfl := hf; exact ⟨.next, vars₆, μ₆, hq₆, rfl, C6.back C gback, gback⟩
      | ret m => obtain ⟨v, rfl, rv⟩ := hf; exact ⟨.ret m, vars₆, μ₆, hq₆, ⟨v, rfl, rv⟩, C6.back C gback, gback⟩
    · have hie : i = all.length := by lia
      subst hie
      rw [List.drop_length] at hM
      refine W.done s' _ _ hst' fun h' tk kt hk => ?_
      have C1 : Cur prog w h₀ S env vars' (src.held ++ fz) μ' { s' with heap := h', toks := tk } := C'.skip kt hk hwr' hwr0 hlwr hcwr
      have g1 : GrowS env (src.held ++ fz) μ₁ sa μ' { s' with heap := h', toks := tk } := g'.skip hk (fun b hb => (hwr b hb).1) rfl rfl
      have gback := ga.toS.trans g1.weak
      exact wpAny_execs_nil ⟨.next, vars', μ', hM, rfl, C1.back C gback, gback⟩
  · refine ⟨0, vars, μ₁, rfl, Nat.zero_le _, hst, Cw, ⟨fun b o _ _ _ e => ⟨hkeep b o e, rfl⟩, hos, hgens⟩, ?_, fun b hb => (hwr b hb).2, ?_⟩
    · intro b hb
      obtain ⟨q, o, ho, _⟩ := hfp b hb
      exact ⟨q.imp id fun m => List.mem_append_left _ m, o, ho⟩
    · rw [List.drop_zero]; exact hK
theorem sx_while {c : ME} {body : List MS} (hc : ST prog w G h₀ Φ d c) (hbody : SXs prog w G h₀ Φ d body) : SX prog w G h₀ Φ d (.while c body) := fun S x env vars fz μ s R A E h hA C hq => by
  replace h := invS_while h; obtain ⟨test, bd, p, rfl, h⟩ := h
  replace h := Yj h
  obtain ⟨n, hq⟩ := hq
  refine wpAny_While ?_
  refine codeAny_whileLoop (fun k s' => ∃ vars' μ', Cur prog w h₀ S env vars' fz μ' s' ∧ GrowS env fz μ s μ' s' ∧ whileM (fun vs F μ => ev G Φ X0 c fz vs (fun v μ' => ∃ t, truthy μ' v = some t ∧ F t μ') μ) (fun vs F μ => exs G Φ X0 body fz vs F μ) R k vars' μ') ?_ n ⟨vars, μ, C, .refl, hq⟩
  rintro k s' ⟨vars', μ', C', g', hM⟩
  cases k with
  | zero => exact hM.elim
  | succ k =>
    refine wpAny_mono (hc S test env vars' fz μ' s' _ A _ h.1 hA C' hM) (fun b s₁ h₁ => ?_) fun _ _ e => e
    obtain ⟨μ₁, hq₁, r₁, g₁⟩ := h₁
    have C₁ := C'.grow g₁ r₁
    cases b with
    | false =>
      simp only [Bool.false_eq_true, if_false] at hq₁ ⊢
      exact wpAny_execs_nil ⟨.next, vars', μ₁, hq₁, rfl, C₁, g'.trans g₁.toS⟩
    | true =>
      simp only [if_true] at hq₁ ⊢
      refine wpAny_mono (hbody S bd env vars' fz μ₁ s₁ _ A _ h.2 hA C₁ hq₁) (fun f s₂ h₂ => ?_) fun _ _ e => e
      obtain ⟨fl, vars₂, μ₂, hq₂, hf, C₂, g₂⟩ := h₂
      have g := (g'.trans g₁.toS).trans g₂
      cases fl with
      | next => obtain rfl := hf; exact ⟨k, Nat.lt_succ_self _, vars₂, μ₂, C₂, g, hq₂⟩
      | cont => obtain rfl := hf; exact ⟨k, Nat.lt_succ_self _, vars₂, μ₂, C₂, g, hq₂⟩
      | brk => obtain rfl := hf; exact ⟨.next, vars₂, μ₂, hq₂, rfl, C₂, g⟩
      | ret m => obtain ⟨v, rfl, rv⟩ := hf; exact ⟨.ret m, vars₂, μ₂, hq₂, ⟨v, rfl, rv⟩, C₂, g⟩
mutual
theorem soundS (pg : PG prog w G Γ h₀ mg mb) (hc : SC prog w h₀ Φ d) : ∀ st : MS, SX prog w G h₀ Φ d st
  | .assign i a => sx_assign pg hc
  | .unpack _ _ => fun S x env vars fz μ s R A E h hA C hq => (Bool.false_ne_true h).elim
  | .setidx o i a => sx_setidx (Zr pg hc o).1 (Zr pg hc i).1 (Zr pg hc a).1
  | .expr a => sx_expr (Zr pg hc a).1
  | .ret a => sx_ret (Zr pg hc a).1
  | .ret0 => sx_ret0
  | .ite c a b => sx_ite (Zr pg hc c).2 (Oo pg hc a) (Oo pg hc b)
  | .for t k its body => sx_for pg (Z8 pg hc its) (Oo pg hc body)
  | .while c body => sx_while (Zr pg hc c).2 (Oo pg hc body)
  | .pass => sx_pass
theorem Oo (pg : PG prog w G Γ h₀ mg mb) (hc : SC prog w h₀ Φ d) : ∀ l : List MS, SXs prog w G h₀ Φ d l
  | [] => sx_nil
  | st :: l => sx_cons (soundS pg hc st) (Oo pg hc l)
end
end
end Mine
end
section
namespace Mine
open PySem PySem.Calls PyProof.Rows PySem.W
theorem Vy {α β : Type} {f g : α → Option β} : ∀ {l : List α}, (∀ x ∈ l, f x = g x) → l.filterMap f = l.filterMap g
  | [] => fun _ => rfl
  | a :: l => fun h => by rw [List.filterMap_cons, List.filterMap_cons, h a (.head _), Vy fun x hx => h x (.tail _ hx)]
theorem Oz : ∀ {names : List Str} {vals : List Value}, names.Nodup → vals.length = names.length → names.filterMap (fun n => ((names.zip vals).lookup n).map (n, ·)) = names.zip vals
  | [], [] => fun _ _ => rfl
  | n :: ns, v :: vs => fun hn hl => by
    simp only [List.nodup_cons] at hn
    have ih := Oz hn.2 (vals := vs) (by simpa using hl)
    rw [List.filterMap_cons]
    have e0 : List.lookup n ((n :: ns).zip (v :: vs)) = some v := by simp [List.lookup_cons]
    rw [e0]
    simp only [Option.map_some, List.zip_cons_cons]
    congr 1
    refine Eq.trans (Vy fun x hx => ?_) ih
    have : (x == n) = false := by rw [beq_eq_false_iff_ne]; rintro rfl; exact hn.1 hx
    rw [List.lookup_cons, this]
  | [], _ :: _ => fun _ h => by simp at h
  | _ :: _, [] => fun _ h => by simp at h
theorem zip_some : ∀ {names : List Str} {vals : List Value}, vals.length = names.length → ∀ n ∈ names, ((names.zip vals).lookup n).isSome = true
  | [], [] => fun _ _ h => by cases h
  | n :: ns, v :: vs => fun hl x hx => by
    simp only [List.zip_cons_cons, List.lookup_cons]
    cases q : x == n with
    | true => rfl
    | false =>
      rcases List.mem_cons.mp hx with rfl | hx
      · simp at q
      · exact zip_some (by simpa using hl) x hx
  | [], _ :: _ => fun h _ _ => by simp at h
  | _ :: _, [] => fun h _ _ => by simp at h
theorem Cc {name : Str} {body : List PySem.Stmt} {scope : Scope} {pm code doc : Value} {params : Arguments} {vals : List Value} (h1 : params.posonlyargs = []) (h2 : params.vararg = none) (h3 : params.kwonlyargs = []) (h4 : params.kwarg = none)
    (hn : (params.args.map (·.arg)).Nodup) (hl : vals.length = (params.args.map (·.arg)).length) : bindArgs (docDef name params body scope pm code doc) ⟨vals, []⟩ = pure ((params.args.map (·.arg)).zip vals) := by
  obtain ⟨pa, as, va, kw, kd, ka, df⟩ := params
  obtain rfl : pa = [] := h1
  obtain rfl : va = none := h2
  obtain rfl : kw = [] := h3
  obtain rfl : ka = none := h4
  replace hn : (as.map (·.arg)).Nodup := hn
  replace hl : vals.length = (as.map (·.arg)).length := hl
  have e1 : ¬ (vals.length > (as.map (·.arg)).length) := by simp [*]
  have e2 : ((as.map (·.arg)).filter fun n => (((as.map (·.arg)).zip vals).lookup n).isNone) = [] := by
    rw [List.filter_eq_nil_iff]
    intro n hx
    have := zip_some hl n hx
    cases q : ((as.map (·.arg)).zip vals).lookup n with
    | none => rw [q] at this; cases this
    | some _ => simp
  have e3 := Oz hn hl
  show bindArgs _ _ = pure ((as.map (·.arg)).zip vals)
  generalize hN : as.map (·.arg) = names at e1 e2 e3 ⊢
  unfold bindArgs docDef
  simp [hN, e1, e2, e3, show seqItems? Value.none = pure none from rfl]
structure FunOk (fd : MFun) (tab : List (Nat × Str)) (funs : List String) (params : Arguments) (body : List PySem.Stmt) (sc : Scope) : Prop where
  p1 : params.posonlyargs = []
  p2 : params.vararg = none
  p3 : params.kwonlyargs = []
  p4 : params.kwarg = none
  n : params.args.length = fd.n
  par : ∀ (i : Nat) (x : Str), (params.args.map (·.arg))[i]? = some x → tab.lookup i = some x ∧ (sc.names.lookup x = some .local ∨ sc.names.lookup x = some .cell)
  kind : sc.kind = .function
  gen : sc.isGenerator = false
  co : sc.isCoroutine = false
  nv : (tab.map (·.2)).Nodup
  nk : (tab.map (·.1)).Nodup
  nn : (sc.names.map (·.1)).Nodup
  np : (params.args.map (·.arg)).Nodup
  nofree : ∀ p ∈ sc.names, p.2 ≠ .free
  body : isSs ⟨tab, sc.names, funs⟩ fd.body body = true
theorem funOk_of {fd : MFun} {tab : List (Nat × Str)} {funs : List String} {params : Arguments} {body : List PySem.Stmt} {sc : Scope} (h : isFun fd tab funs params body sc = true) : FunOk fd tab funs params body sc := by
  unfold isFun at h
  simp only [Bool.and_eq_true, decide_eq_true_eq, List.isEmpty_iff, Option.isNone_iff_eq_none, List.all_eq_true, Bool.not_eq_true', beq_iff_eq] at h
  obtain ⟨⟨⟨⟨⟨⟨⟨⟨⟨⟨⟨⟨⟨⟨⟨⟨h1, h2⟩, h3⟩, h4⟩, h5⟩, h6⟩, h7⟩, h8⟩, h9⟩, h10⟩, h11⟩, h12⟩, h13⟩, h14⟩, h15⟩, h16⟩, h17⟩ := h
  refine ⟨h1, h2, h3, h4, h7, fun i x hx => ?_, ?_, h10, h11, h12, h13, h14, h15, fun p hp e => ?_, h17⟩
  · have hm : (x, i) ∈ (params.args.map (·.arg)).zipIdx := by
      rw [List.mem_zipIdx_iff_getElem?]; exact hx
    obtain ⟨q1, q2⟩ := h8 _ hm
    refine ⟨q1, ?_⟩
    simpa only [kindSt, Bool.or_eq_true, decide_eq_true_eq] using q2
  · exact h9
  · have := h16 p hp
    rw [e] at this; simp [isFree] at this
theorem Vr {p : Str × Addr} : ∀ {names : List (Str × NameKind)} {n : Nat} {acc : List (Str × Addr)}, p ∈ acc → p ∈ cellsFrom n names acc
  | [], _, _ => fun h => h
  | (x, k) :: r, n, acc => fun h => by
    unfold cellsFrom
    split
    · exact Vr (.tail _ h)
    · exact Vr h
theorem Kk {x : Str} : ∀ {names : List (Str × NameKind)} {n : Nat} {acc : List (Str × Addr)}, (x, NameKind.cell) ∈ names → ∃ c, (x, c) ∈ cellsFrom n names acc
  | (y, k) :: r, n, acc, h => by
    unfold cellsFrom
    rcases List.mem_cons.mp h with h1 | h1
    · cases h1
      rw [if_pos (by simp)]
      exact ⟨n, Vr (.head _)⟩
    · split
      · exact Kk h1
      · exact Kk h1
theorem Jp : ∀ {names : List (Str × NameKind)} {n : Nat} {acc : List (Str × Addr)}, (names.map (·.1)).Nodup → (acc.map (·.1)).Nodup → (∀ p ∈ acc, p.1 ∉ names.map (·.1)) → ((cellsFrom n names acc).map (·.1)).Nodup
  | [], _, _ => fun _ h _ => h
  | (y, k) :: r, n, acc => fun hn ha hd => by
    simp only [List.map_cons, List.nodup_cons] at hn
    unfold cellsFrom
    split
    · refine Jp hn.2 ?_ ?_
      · simp only [List.map_cons, List.nodup_cons]
        refine ⟨fun m => ?_, ha⟩
        obtain ⟨p, hp, e⟩ := List.mem_map.mp m
        exact hd p hp (by rw [e]; simp)
      · intro p hp
        rcases List.mem_cons.mp hp with rfl | hp
        · exact hn.1
        · exact fun m => hd p hp (by simp at m ⊢; exact .inr m)
    · exact Jp hn.2 ha fun p hp m => hd p hp (by simp at m ⊢; exact .inr m)
theorem Ub : ∀ {l : List (Str × Addr)}, (l.map (·.1)).Nodup → ∀ p ∈ l, l.lookup p.1 = some p.2
  | (n, k) :: r, h, p, hp => by
    simp only [List.map_cons, List.nodup_cons] at h
    rcases List.mem_cons.mp hp with rfl | hp'
    · simp [List.lookup_cons]
    · rw [List.lookup_cons]
      have : (p.1 == n) = false := by
        rw [beq_eq_false_iff_ne]; rintro rfl
        exact h.1 (List.mem_map_of_mem (f := (·.1)) hp')
      rw [this]; exact Ub h.2 p hp'
theorem B1 {kindOf : Str → Option NameKind} {x : Str} : ∀ {binds : List (Str × Value)} {m : Str → Option Value}, x ∉ binds.map (·.1) → bindL kindOf binds m x = m x
  | [], m => fun _ => rfl
  | (n, v) :: r, m => fun h => by
    simp only [List.map_cons, List.mem_cons, not_or] at h
    unfold bindL
    rw [B1 h.2]
    split
    · simp [h.1]
    · rfl
theorem F2 {kindOf : Str → Option NameKind} {x : Str} {v : Value} (hk : kindOf x = some .local) : ∀ {binds : List (Str × Value)} {m : Str → Option Value}, (binds.map (·.1)).Nodup → (x, v) ∈ binds → bindL kindOf binds m x = some v
  | (n, u) :: r, m, hn, h => by
    simp only [List.map_cons, List.nodup_cons] at hn
    unfold bindL
    rcases List.mem_cons.mp h with h1 | h1
    · cases h1
      rw [B1 hn.1, if_pos hk]; simp
    · exact F2 hk hn.2 h1
theorem B2 {kindOf : Str → Option NameKind} {x : Str} : ∀ {binds : List (Str × Value)} {m : Str → Option Value}, x ∉ binds.map (·.1) → bindC kindOf binds m x = m x
  | [], m => fun _ => rfl
  | (n, v) :: r, m => fun h => by
    simp only [List.map_cons, List.mem_cons, not_or] at h
    unfold bindC
    rw [B2 h.2]
    split
    · rfl
    · simp [h.1]
theorem F3 {kindOf : Str → Option NameKind} {x : Str} {v : Value} (hk : kindOf x = some .cell) : ∀ {binds : List (Str × Value)} {m : Str → Option Value}, (binds.map (·.1)).Nodup → (x, v) ∈ binds → bindC kindOf binds m x = some v
  | (n, u) :: r, m, hn, h => by
    simp only [List.map_cons, List.nodup_cons] at hn
    unfold bindC
    rcases List.mem_cons.mp h with h1 | h1
    · cases h1
      rw [B2 hn.1, if_neg (by rw [hk]; simp)]; simp
    · exact F3 hk hn.2 h1
section
variable {prog : Program} {w : World} {G : String → Option MV} {Γ : String → Option MFun} {h₀ : Heap} {mg mb : Str → Option Value}
theorem PG.fnAt (pg : PG prog w G Γ h₀ mg mb) {f : String} {fd : MFun} (h : Γ f = some fd) : ∃ fa, FnAt h₀ f fa := by
  obtain ⟨a, o, pm, code, doc, params, body, scope, tab, funs, h1, h2, h3, _⟩ := pg.fn f fd h
  exact ⟨a, mg, pg.g, h1, o, _, h2, h3⟩
theorem sc_calls (pg : PG prog w G Γ h₀ mg mb) (d : Nat) : SC prog w h₀ (calls G Γ d) d := by
  induction d with
  | zero => exact fun f vs vals fz μ s Q A E fa hA B r fi rv hfn h => h.elim
  | succ d ih =>
    intro f vs vals fz μ s Q A E fa hA B r fi rv hfn h
    obtain ⟨fd, hΓ, hn, hex⟩ := h
    obtain ⟨a, o, pm, code, doc, params, body, scope, tab, funs, hmf, ho, hdata, hcode, hfun, hfuns⟩ := pg.fn f fd hΓ
    obtain ⟨m, hm, hmf', _⟩ := hfn
    have : m = mg := hm.eq_nsMap.trans pg.g.eq_nsMap.symm
    subst this
    rw [hmf] at hmf'; cases hmf'
    have F := funOk_of hfun
    have keep0 : ∀ b o, h₀.get? b = some o → s.heap.get? b = some o := fun b o e => (B b o e).1
    have hlen : vals.length = (params.args.map (·.arg)).length := by rw [rv.length, hn, List.length_map, F.n]
    have hfst : (((params.args.map (·.arg)).zip vals).map (·.1)) = params.args.map (·.arg) := List.map_fst_zip (by simp [*])
    have hkinds : ∀ x ∈ (params.args.map (·.arg)).zip vals, scope.names.lookup x.1 = some .local ∨ (scope.names.lookup x.1 = some .cell ∧ ((cellsFrom (s.heap.objs.size + 1) scope.names []).lookup x.1).isSome = true) := by
      intro x hx
      have hx1 : x.1 ∈ params.args.map (·.arg) := by rw [← hfst]; exact List.mem_map_of_mem hx
      obtain ⟨i, hi⟩ := List.mem_iff_getElem?.mp hx1
      rcases (F.par i x.1 hi).2 with q | q
      · exact .inl q
      · refine .inr ⟨q, ?_⟩
        obtain ⟨c, hc⟩ := Kk (n := s.heap.objs.size + 1) (acc := []) (mem_of_lookup q)
        rw [Ub (Jp F.nn (by simp) (by simp)) _ hc]; rfl
    refine wpAny_call (codeAny_call_cells (binds := (params.args.map (·.arg)).zip vals) (by have := hA.depth; lia) (keep0 _ _ ho) hdata (pg.nolimit.keeps keep0) (hcode.keeps keep0) rfl (Cc F.p1 F.p2 F.p3 F.p4 F.np hlen) rfl hkinds (fun s₁ x => ?_) F.co F.gen F.kind)
    generalize hL : s.heap.objs.size = L at x ⊢
    obtain ⟨⟨h', tk, hs₁⟩, hns, hkeep, hfresh⟩ := x.toInCall
    have hos : s₁.os = s.os := by rw [hs₁]
    have hgens : s₁.gens = s.gens := by rw [hs₁]
    have above : ∀ b, L ≤ b → s.heap.get? b = none := fun b hb => by
      cases q : s.heap.get? b with
      | none => rfl
      | some o => have := Heap.lt_size q; rw [hL] at this; exact absurd this (Nat.not_lt.mpr hb)
    have none0 : ∀ b, s.heap.get? b = none → h₀.get? b = none := fun b e => by
      cases q : h₀.get? b with
      | none => rfl
      | some o => have := keep0 b o q; rw [e] at this; cases this
    have cnd : ((cellsFrom (L + 1) scope.names []).map (·.1)).Nodup := Jp F.nn (by simp) (by simp)
    have C : Cur prog w h₀ ⟨tab, scope.names, funs⟩ (callEnvC (docDef (Str.ofString f) params body scope pm code doc) L fa) (args0 vs) fz μ s₁ := by
      refine { base := fun b o e => ⟨hkeep b o (B b o e).1, (B b o e).2⟩, heap := r.ext hkeep, fzin := fi, newl := none0 _ (above _ (Nat.le_refl _)), newc := ?nc, known := ?kn, fr := ?fr }
      case nc => exact fun x' c hc => none0 _ (above _ (Nat.le_of_lt (x.above x' c hc)))
      case kn =>
        intro g hg
        obtain ⟨fd', hg'⟩ := hfuns g hg
        exact pg.fnAt hg'
      case fr =>
        refine { names := rfl, inj := inj_of F.nv, nk := F.nk, nv := F.nv, kind := F.kind, glob := rfl, bui := rfl, ns := ⟨_, hns, ?ns⟩, cells := ?cs, apart := x.apart, fixl := r.free (above _ (Nat.le_refl _)), fixc := ?fx }
        case ns =>
          intro i y mv hi hkv hv
          have hvi : vs[i]? = some mv := hv
          obtain ⟨v, hval, hrep⟩ := rv.get hvi
          have hilt : i < (params.args.map (·.arg)).length := by rw [← hlen]; exact (List.getElem?_eq_some_iff.mp hval).1
          have hpi := List.getElem?_eq_getElem hilt
          obtain ⟨q1, q2⟩ := F.par i _ hpi
          have hy : (params.args.map (·.arg))[i] = y := by
            have : some _ = some y := q1.symm.trans hi
            exact Option.some.inj this
          rw [hy] at q2 hpi
          have hmem : (y, v) ∈ (params.args.map (·.arg)).zip vals := by
            refine List.mem_iff_getElem?.mpr ⟨i, ?_⟩
            rw [List.getElem?_zip_eq_some]; exact ⟨hpi, hval⟩
          refine ⟨v, hrep.keepT (.of_all hkeep), ?_⟩
          have hko : (callEnvC (docDef (Str.ofString f) params body scope pm code doc) L fa).kindOf y = scope.names.lookup y := rfl
          unfold VarAt
          rw [hko]
          rcases q2 with q | q
          · rw [q]; exact F2 (by rw [hko]; exact q) (by rw [hfst]; exact F.np) hmem
          · rw [q]
            obtain ⟨c, hc⟩ := Kk (n := L + 1) (acc := []) (mem_of_lookup q)
            have hc' := Ub cnd _ hc
            refine ⟨c, hc', ?_⟩
            have := x.cell y c hc'
            rw [F3 (by rw [hko]; exact q) (by rw [hfst]; exact F.np) hmem] at this
            exact this
        case cs =>
          intro y hy
          rcases hy with q | q
          · obtain ⟨c, hc⟩ := Kk (n := L + 1) (acc := []) (mem_of_lookup q)
            exact ⟨c, Ub cnd _ hc⟩
          · exact absurd rfl (F.nofree _ (mem_of_lookup q))
        case fx =>
          intro y c hc
          exact ⟨r.free (above _ (Nat.le_of_lt (x.above y c hc))), Ne.symm (Nat.ne_of_lt (x.above y c hc)), _, x.cell y c (Ub cnd _ hc)⟩
    have hA' : OkA d (A.deeper (callEnvC (docDef (Str.ofString f) params body scope pm code doc) L fa)) := ⟨hA.hand, by have := hA.depth; show A.depth + 1 + d < _; lia, by have := hA.units; show A.units + 3 + 4 * d + 100 < _; lia⟩
    refine wpAny_mono (Oo pg ih fd.body _ body _ _ fz μ s₁ _ _ _ F.body hA' C hex) (fun fl s₂ h₂ => ?_) fun _ _ e => e
    obtain ⟨mf, vars₂, μ₂, hq₂, hf, C₂, g₂⟩ := h₂
    have g : Grow fz μ s μ₂ s₂ := ⟨fun b o f e => by
      have hb : b < L := by rw [← hL]; exact Heap.lt_size e
      exact g₂.keep b o f (Nat.ne_of_lt hb) (fun y c hc => Nat.ne_of_lt (Nat.lt_trans hb (x.above y c hc))) (hkeep b o e), g₂.os.trans hos, g₂.gens.trans hgens⟩
    cases mf with
    | next => simp only [RepFl] at hf; subst hf; exact ⟨.none, μ₂, hq₂, rfl, C₂.heap, g⟩
    | brk => exact hq₂.elim
    | cont => exact hq₂.elim
    | ret mv => simp only [RepFl] at hf; obtain ⟨v, rfl, hv⟩ := hf; exact ⟨mv, μ₂, hq₂, hv, C₂.heap, g⟩
end
end Mine
end
section
namespace Mine
open PySem PySem.Calls PyProof.Rows PySem.W
abbrev Defs := List (String × MFun × List (Nat × Str))
noncomputable def Defs.env (D : Defs) (f : String) : Option MFun := (D.find? fun p => p.1 == f).map fun p => p.2.1
noncomputable def defOk (ds : List DefRec) (funs : List String) (p : String × MFun × List (Nat × Str)) : Bool :=
  match ds.find? fun d => d.name == Str.ofString p.1 with
  | some d => isFun p.2.1 p.2.2 funs d.params d.body d.scope
  | none => false
noncomputable def progOk (ds : List DefRec) (D : Defs) : Bool := D.all (defOk ds (D.map (·.1)))
abbrev Consts := List (String × MV)
noncomputable def Consts.env (C : Consts) (g : String) : Option MV := (C.find? fun p => p.1 == g).map (·.2)
noncomputable def constOk (vo : Str → Option PyData) (p : String × MV) : Bool := match p.2, vo (Str.ofString p.1) with
  | .int i, some (.int j) => i == j
  | .str x, some (.str y) => x == y
  | _, _ => false
noncomputable def biOk (bt : Str → Option Value) : Bool := biTab.all fun p => !(Str.ofString p.1 == Str.ofString "__name__") && decide (bt (Str.ofString p.1) = some p.2)
section
variable {prog p : Program} {w : World} {loose : List Str} {mean : ExcName → Option Value} {mg mb : Str → Option Value} {h : Heap}
theorem pg_of (T : Top p loose mean mg mb h) (D : Defs) (Cs : Consts) (h1 : progOk (recsOf p) D = true) (h2 : Cs.all (constOk (valOf p)) = true)
    (h3 : biTab.all (fun q => !startupNames.contains (Str.ofString q.1) && !loose.contains (Str.ofString q.1) && !((recsOf p).map (·.name)).contains (Str.ofString q.1) && !((litsOf p).map (·.1)).contains (Str.ofString q.1) && !((clssOf p loose).map (·.name)).contains (Str.ofString q.1)) = true)
    (h4 : biOk bootBuiltins = true) : PG prog w Cs.env D.env h mg mb where
  g := T.g
  b := T.b
  nolimit := T.nolimit
  bi := fun q hq => by
    have a := List.all_eq_true.mp h3 q hq
    simp only [Bool.and_eq_true, Bool.not_eq_true', List.contains_eq_mem, decide_eq_false_iff_not] at a
    have b := List.all_eq_true.mp h4 q hq
    simp only [Bool.and_eq_true, Bool.not_eq_true', decide_eq_true_eq, beq_eq_false_iff_ne] at b
    refine ⟨T.free _ a.1.1.1.1 a.1.1.1.2 a.1.1.2 a.1.2 a.2, ?_⟩
    rw [T.builtins _ b.1]; exact b.2
  fn := fun f fd hf => by
    unfold Defs.env at hf
    rw [Option.map_eq_some_iff] at hf
    obtain ⟨q, hq, rfl⟩ := hf
    have hm := List.mem_of_find?_eq_some hq
    have hn : q.1 = f := by simpa using List.find?_some hq
    subst hn
    have a := List.all_eq_true.mp h1 q hm
    unfold defOk at a
    split at a
    · rename_i d hd
      have hdm := List.mem_of_find?_eq_some hd
      have hdn : d.name = Str.ofString q.1 := by simpa using List.find?_some hd
      obtain ⟨fa, o, pm, code, doc, e1, e2, e3, e4⟩ := T.fn d hdm
      rw [hdn] at e1 e3 e4
      refine ⟨fa, o, pm, code, doc, d.params, d.body, d.scope, q.2.2, D.map (·.1), e1, e2, e3, e4, a, fun g hg => ?_⟩
      obtain ⟨q', hq', rfl⟩ := List.mem_map.mp hg
      unfold Defs.env
      cases hfind : D.find? fun p => p.1 == q'.1 with
      | none => exact absurd (List.find?_eq_none.mp hfind q' hq') (by simp)
      | some z => exact ⟨z.2.1, rfl⟩
    · cases a
  const := fun g v hv => by
    unfold Consts.env at hv
    rw [Option.map_eq_some_iff] at hv
    obtain ⟨q, hq, rfl⟩ := hv
    have hm := List.mem_of_find?_eq_some hq
    have hn : q.1 = g := by simpa using List.find?_some hq
    subst hn
    have a := List.all_eq_true.mp h2 q hm
    unfold constOk at a
    split at a
    · rename_i i j e1 e2
      obtain ⟨val, h5, h6⟩ := T.const _ _ e2
      have := h6 h
      refine ⟨val, h5, .inl ?_⟩
      simp only [beq_iff_eq] at a
      subst a
      cases this
      exact ⟨_, _, e1, rfl⟩
    · rename_i i j e1 e2
      obtain ⟨val, h5, h6⟩ := T.const _ _ e2
      have := h6 h
      refine ⟨val, h5, .inr ?_⟩
      simp only [beq_iff_eq] at a
      subst a
      cases this
      exact ⟨_, _, e1, rfl⟩
    · cases a
theorem glue {G : String → Option MV} {Γ : String → Option MFun} (pg : PG prog w G Γ h mg mb) {s : Shared} (hs : s.heap = h) (d : Nat) {f : String} {fa : Addr} (hf : mg (Str.ofString f) = some (.ref fa)) {fd : MFun} (hΓ : Γ f = some fd) {a : Addr} {vs : List Value} {ns : List Int} (hp : s.heap.PlainList a vs.toArray) (hi : IntsAre vs ns)
    (hA : OkA d callerA) (hrun : calls G Γ d f [.ref a] [a] (fun v _ => v = .bool true) X0 (upd (fun _ => none) a (.list (ns.map .int)))) {E : Value → Shared → Prop} :
    wpAny (model prog w) callerA (call (.ref fa) [.ref a]) (fun v s' => v = .bool true ∧ (∀ b o, s.heap.get? b = some o → s'.heap.get? b = some o) ∧ s'.os = s.os ∧ s'.gens = s.gens) E s := by
  subst hs
  have hrep : RepVs s.heap (ns.map .int) vs := by
    clear hrun hp
    induction hi with
    | nil => trivial
    | cons i t hi ih => simp only [List.map_cons, RepVs]; exact ⟨by simp only [RepV]; exact ⟨_, rfl⟩, ih⟩
  have hfn : FnAt s.heap f fa := by
    obtain ⟨a', o, pm, code, doc, params, body, scope, tab, funs, e1, e2, e3, _⟩ := pg.fn f fd hΓ
    rw [hf] at e1; cases e1
    exact ⟨mg, pg.g, hf, o, _, e2, e3⟩
  refine wpAny_mono (sc_calls pg d f [.ref a] [.ref a] [a] _ s _ callerA E fa hA (fun b o e => ⟨e, ?_⟩) ?_ ?_ ?_ hfn hrun) (fun v s' h => ?_) fun _ _ e => e
  · unfold upd
    split
    · rename_i q; subst q; exact .inr (by simp)
    · exact .inl rfl
  · intro b o e
    unfold upd at e
    split at e
    · rename_i q; subst q; cases e; exact ⟨vs, hp, hrep⟩
    · cases e
  · intro b hb; simp at hb; subst hb; simp [upd]
  · simp [RepVs, RepV]
  · obtain ⟨mv, μ', rfl, hv, _, g⟩ := h
    simp only [RepV] at hv
    refine ⟨hv, fun b o e => (g.keep b o ?_ e).1, g.os, g.gens⟩
    unfold upd
    split
    · rename_i q; subst q; exact .inr (by simp)
    · exact .inl rfl
theorem plain_of {P : Params} {hh : Heap} {a : Addr} {xs : List PyData} {vs : List Value} (hW : Well P hh (.ref a) (ofPy (.list xs))) (hL : hh.IsList a vs.toArray) : hh.PlainList a vs.toArray := by
  rw [show ofPy (.list xs) = .list (ofPys xs) by simp [ofPy]] at hW
  generalize ofPys xs = ws at hW
  cases hW with
  | list ho _ =>
    obtain ⟨o, ho', hc, n, hd⟩ := hL
    rw [ho] at ho'
    cases ho'
    simp only [Data.seq.injEq] at hd
    exact ⟨_, by rw [ho, hd.1]⟩
end
end Mine
end
section
namespace Mine
open PySem
noncomputable def Ext (μ μ' : MH) : Prop := ∀ b o, μ b = some o → μ' b = some o
theorem Ext.refl {μ : MH} : Ext μ μ := fun _ _ e => e
theorem Ext.trans {μ μ₁ μ₂ : MH} (x : Ext μ μ₁) (y : Ext μ₁ μ₂) : Ext μ μ₂ := fun b o e => y b o (x b o e)
theorem Ext.upd {μ : MH} {a : Addr} {o : MO} (h : μ a = none) : Ext μ (upd μ a o) := fun b x e => by
  unfold Mine.upd; rw [if_neg (fun q => by rw [q, h] at e; cases e)]; exact e
theorem Yh {μ : MH} {a : Addr} {o : MO} : upd μ a o a = some o := by simp [upd]
theorem Yk {μ : MH} {a b : Addr} {o : MO} (h : b ≠ a) : upd μ a o b = μ b := by simp [upd, h]
theorem K5 {μ : MH} {a : Addr} {l : List MV} (h : μ a = some (.list l)) : lst μ a = some l := by simp [lst, h]
theorem Uv {α : Type} (l : List α) (lo hi : Option Int) : pick l lo hi none = (l.drop (lo.elim 0 (clipAt l.length))).take (hi.elim l.length (clipAt l.length) - lo.elim 0 (clipAt l.length)) := by
  unfold pick pickN
  rw [sliceBounds_plain]
  generalize (lo.elim 0 (clipAt l.length)) = a
  generalize (hi.elim l.length (clipAt l.length)) = b
  show List.filterMap _ (sliceRange (a : Int) (b : Int) 1) = _
  rw [Mine.sliceRange_one, Int.toNat_sub]
  have e : (List.range (b - a)).map (fun (k : Nat) => ((a : Int) + k).toNat) = (List.range (b - a)).map (a + ·) := List.map_congr_left fun k _ => Int.toNat_natCast (a + k)
  rw [e]
  have := pick_run l.toArray a (b - a)
  simpa only [List.getElem?_toArray] using this
theorem pick_one {α : Type} (l : List α) {k : Int} (hk : 0 ≤ k) : pick l (some k) (some (k + 1)) none = (l.drop k.toNat).take 1 := by
  obtain ⟨n, rfl⟩ := Int.eq_ofNat_of_zero_le hk
  rw [Uv]
  show List.take (clipAt l.length ((n : Int) + 1) - clipAt l.length (n : Int)) (List.drop (clipAt l.length (n : Int)) l) = List.take 1 (List.drop n l)
  rw [show ((n : Int) + 1) = ((n + 1 : Nat) : Int) from rfl, clipAt_nat, clipAt_nat]
  by_cases h : n < l.length
  · rw [Nat.min_eq_left (Nat.le_of_lt h), Nat.min_eq_left (show n + 1 ≤ l.length from h), Nat.add_sub_cancel_left]
  · have h := Nat.le_of_not_lt h
    rw [Nat.min_eq_right h, Nat.min_eq_right (Nat.le_succ_of_le h), List.drop_eq_nil_of_le (Nat.le_refl _), List.drop_eq_nil_of_le h, List.take_nil, List.take_nil]
theorem Dc {α : Type} (l : List α) {b : Int} (hb : 0 ≤ b) (hb' : b ≤ l.length) : pick l none (some b) none = l.take b.toNat := by
  obtain ⟨n, rfl⟩ := Int.eq_ofNat_of_zero_le hb
  rw [Uv]
  show List.take (clipAt l.length (n : Int) - 0) (List.drop 0 l) = List.take n l
  rw [clipAt_nat, Nat.min_eq_left (Int.ofNat_le.mp hb')]; rfl
theorem Dd {α : Type} (l : List α) {b : Int} (hb : 0 ≤ b) (hb' : b ≤ l.length) : pick l (some b) none none = l.drop b.toNat := by
  obtain ⟨n, rfl⟩ := Int.eq_ofNat_of_zero_le hb
  rw [Uv]
  show List.take (l.length - clipAt l.length (n : Int)) (List.drop (clipAt l.length (n : Int)) l) = List.drop n l
  rw [clipAt_nat, Nat.min_eq_left (Int.ofNat_le.mp hb')]
  exact List.take_of_length_le (by rw [List.length_drop]; exact Nat.le_refl _)
theorem Bq {α : Type} (l : List α) : pick l none none (some (-1)) = l.reverse := by
  unfold pick pickN
  rw [PySem.W.krv_bounds]
  simp only
  rw [PySem.W.krv_sliceRange, PySem.W.krv_range]
  rw [List.filterMap_reverse]
  congr 1
  exact List.filterMap_getElem?_range_length l
section
variable {G : String → Option MV} {Φ : CallSpec} {X : MX} {fz : List Addr} {vars : MVars} {Q : MQ} {μ : MH}
theorem Qx {i : Nat} : ev G Φ X (.var i) fz vars Q μ = (∃ v, vars i = some v ∧ Q v μ) := rfl
theorem Qu {g : String} : ev G Φ X (.glob g) fz vars Q μ = (∃ v, G g = some v ∧ Q v μ) := rfl
theorem Qn {i : Int} : ev G Φ X (.cint i) fz vars Q μ = (Q (.int i) μ) := rfl
theorem Qv {s : String} : ev G Φ X (.cstr s) fz vars Q μ = (Q (.str (Str.ofString s)) μ) := rfl
theorem Qg {b : Bool} : ev G Φ X (.cbool b) fz vars Q μ = (Q (.bool b) μ) := rfl
theorem Qf : ev G Φ X (.cnone) fz vars Q μ = (Q .none μ) := rfl
theorem Qz {op : BOp} {a b : ME} : ev G Φ X (.bin op a b) fz vars Q μ = (ev G Φ X a fz vars (fun x μ' => ev G Φ X b fz vars (fun y μ'' => binM fz op x y Q μ'') μ') μ) := rfl
theorem X9 {a : ME} : ev G Φ X (.neg a) fz vars Q μ = (ev G Φ X a fz vars (fun x μ' => ∃ i, x = .int i ∧ Q (.int (-i)) μ') μ) := rfl
theorem X8 {a : ME} : ev G Φ X (.not a) fz vars Q μ = (ev G Φ X a fz vars (fun x μ' => ∃ b, truthy μ' x = some b ∧ Q (.bool (!b)) μ') μ) := rfl
theorem X4 {l : List ME} : ev G Φ X (.and l) fz vars Q μ = (evAnd G Φ X l fz vars Q μ) := rfl
theorem Xi {l : List ME} : ev G Φ X (.or l) fz vars Q μ = (evOr G Φ X l fz vars Q μ) := rfl
theorem X2 {a : ME} {ops : List COp} {es : List ME} : ev G Φ X (.cmp a ops es) fz vars Q μ = (ev G Φ X a fz vars (fun x μ' => evCmp G Φ X es ops x fz vars Q μ') μ) := rfl
theorem Xa {c a b : ME} : ev G Φ X (.ite c a b) fz vars Q μ = (ev G Φ X c fz vars (fun x μ' => ∃ t, truthy μ' x = some t ∧ if t then ev G Φ X a fz vars Q μ' else ev G Φ X b fz vars Q μ') μ) := rfl
theorem X1 {a i : ME} : ev G Φ X (.idx a i) fz vars Q μ = (ev G Φ X a fz vars (fun x μ' => ev G Φ X i fz vars (fun y μ'' => ∃ v, idxM μ'' x y = some v ∧ Q v μ'') μ') μ) := rfl
theorem Qd {a lo hi st : ME} : ev G Φ X (.slice a lo hi st) fz vars Q μ = (ev G Φ X a fz vars (fun x μ' => ev G Φ X lo fz vars (fun l μ₁ => ev G Φ X hi fz vars (fun h μ₂ => ev G Φ X st fz vars (fun s μ₃ => sliceM fz x l h s Q μ₃) μ₂) μ₁) μ') μ) := rfl
theorem Qt {l : List ME} : ev G Φ X (.list l) fz vars Q μ = (evs G Φ X l fz vars (fun vs μ' => fits vs.length ∧ allocM fz μ' (.list vs) fun c μ'' => Q (.ref c) μ'') μ) := rfl
theorem Qc {l : List ME} : ev G Φ X (.tuple l) fz vars Q μ = (evs G Φ X l fz vars (fun vs μ' => fits vs.length ∧ Q (.tup vs) μ') μ) := rfl
theorem Qe {s : Bool} : ev G Φ X (.dict0 s) fz vars Q μ = (allocM fz μ (if s then .sdict [] else .idict []) fun c μ' => Q (.ref c) μ') := rfl
theorem Ql {f : String} {args : List ME} : ev G Φ X (.call f args) fz vars Q μ = (evs G Φ X args fz vars (fun vs μ' => Φ f vs fz Q X μ') μ) := rfl
theorem Xg {f : BI} {args : List ME} : ev G Φ X (.bi f args) fz vars Q μ = (evs G Φ X args fz vars (fun vs μ' => biM fz f vs Q μ') μ) := rfl
theorem Q6 {e : ME} {t : TY} : ev G Φ X (.isinst e t) fz vars Q μ = (ev G Φ X e fz vars (fun v μ' => ∃ b, isTy μ' t v = some b ∧ Q (.bool b) μ') μ) := rfl
theorem Qp {m : MM} {o : ME} {args : List ME} : ev G Φ X (.meth m o args) fz vars Q μ = (ev G Φ X o fz vars (fun x μ' => mmKind m μ' x = true ∧ evs G Φ X args fz vars (fun vs μ'' => methM fz m x vs Q μ'') μ') μ) := rfl
theorem Qq {elt : ME} {t : MT} {k : SK} {its ifs : List ME} : ev G Φ X (.comp elt t k its ifs) fz vars Q μ = (evs G Φ X its fz vars (fun vs μ' => ∃ src all, mkSrc k vs = some src ∧ src.items μ' = some all ∧ fits all.length ∧ compM fz t vars (fun vs F μ => evIfs G Φ X ifs (src.held ++ fz) vs F μ) (fun vs F μ => ev G Φ X elt (src.held ++ fz) vs F μ) Q all [] μ') μ) := rfl
theorem Qk {P : List MV → MH → Prop} : evs G Φ X [] fz vars P μ = (P [] μ) := rfl
theorem Qb {e : ME} {r : List ME} {P : List MV → MH → Prop} : evs G Φ X (e :: r) fz vars P μ = (ev G Φ X e fz vars (fun v μ' => evs G Φ X r fz vars (fun vs μ'' => P (v :: vs) μ'') μ') μ) := rfl
theorem Qa {e : ME} : evAnd G Φ X [e] fz vars Q μ = (ev G Φ X e fz vars (fun v μ' => Q v μ') μ) := rfl
theorem Q1 {e e' : ME} {r : List ME} : evAnd G Φ X (e :: e' :: r) fz vars Q μ = (ev G Φ X e fz vars (fun v μ' => ∃ b, truthy μ' v = some b ∧ if b then evAnd G Φ X (e' :: r) fz vars Q μ' else Q v μ') μ) := rfl
theorem Qh {e : ME} : evOr G Φ X [e] fz vars Q μ = (ev G Φ X e fz vars (fun v μ' => Q v μ') μ) := rfl
theorem Q7 {e e' : ME} {r : List ME} : evOr G Φ X (e :: e' :: r) fz vars Q μ = (ev G Φ X e fz vars (fun v μ' => ∃ b, truthy μ' v = some b ∧ if b then Q v μ' else evOr G Φ X (e' :: r) fz vars Q μ') μ) := rfl
theorem Q4 {e : ME} {op : COp} {x : MV} : evCmp G Φ X [e] [op] x fz vars Q μ = (ev G Φ X e fz vars (fun y μ' => ∃ b, cmpM op μ' x y = some b ∧ Q (.bool b) μ') μ) := rfl
theorem Q0 {e e' : ME} {r : List ME} {op op' : COp} {ops : List COp} {x : MV} : evCmp G Φ X (e :: e' :: r) (op :: op' :: ops) x fz vars Q μ = (ev G Φ X e fz vars (fun y μ' => ∃ b, cmpM op μ' x y = some b ∧ if b then evCmp G Φ X (e' :: r) (op' :: ops) y fz vars Q μ' else Q (.bool false) μ') μ) := rfl
theorem Q9 {F : Bool → MH → Prop} : evIfs G Φ X [] fz vars F μ = (F true μ) := rfl
theorem Q8 {e : ME} {F : Bool → MH → Prop} : evIfs G Φ X [e] fz vars F μ = (ev G Φ X e fz vars (fun v μ' => ∃ b, truthy μ' v = some b ∧ F b μ') μ) := rfl
theorem Q3 {i : Nat} {e : ME} {R : MFlow → MVars → MH → Prop} : ex G Φ X (.assign i e) fz vars R μ = (ev G Φ X e fz vars (fun v μ' => R .next (setv vars i v) μ') μ) := rfl
theorem Q5 {o i e : ME} {R : MFlow → MVars → MH → Prop} : ex G Φ X (.setidx o i e) fz vars R μ = (ev G Φ X e fz vars (fun v μ₁ => ev G Φ X o fz vars (fun x μ₂ => ev G Φ X i fz vars (fun y μ₃ => setM fz x y v (fun μ₄ => R .next vars μ₄) μ₃) μ₂) μ₁) μ) := rfl
theorem Qo {e : ME} {R : MFlow → MVars → MH → Prop} : ex G Φ X (.expr e) fz vars R μ = (ev G Φ X e fz vars (fun _ μ' => R .next vars μ') μ) := rfl
theorem Qy {e : ME} {R : MFlow → MVars → MH → Prop} : ex G Φ X (.ret e) fz vars R μ = (ev G Φ X e fz vars (fun v μ' => R (.ret v) vars μ') μ) := rfl
theorem Qr {R : MFlow → MVars → MH → Prop} : ex G Φ X (.ret0) fz vars R μ = (R (.ret .none) vars μ) := rfl
theorem X5 {c : ME} {a b : List MS} {R : MFlow → MVars → MH → Prop} : ex G Φ X (.ite c a b) fz vars R μ = (ev G Φ X c fz vars (fun v μ' => ∃ t, truthy μ' v = some t ∧ if t then exs G Φ X a fz vars R μ' else exs G Φ X b fz vars R μ') μ) := rfl
theorem X6 {t : MT} {k : SK} {its : List ME} {body : List MS} {R : MFlow → MVars → MH → Prop} : ex G Φ X (.for t k its body) fz vars R μ = (evs G Φ X its fz vars (fun vs μ' => ∃ src all, mkSrc k vs = some src ∧ src.items μ' = some all ∧ fits all.length ∧ loopM t (fun vs F μ => exs G Φ X body (src.held ++ fz) vs F μ) R all vars μ') μ) := rfl
theorem Qs {R : MFlow → MVars → MH → Prop} : ex G Φ X (.pass) fz vars R μ = (R .next vars μ) := rfl
end
section
variable {fz : List Addr} {Q : MQ} {μ : MH}
theorem X3 {x y : Int} : binM fz .add (.int x) (.int y) Q μ = Q (.int (x + y)) μ := rfl
theorem Xb {x y : Int} : binM fz .sub (.int x) (.int y) Q μ = Q (.int (x - y)) μ := rfl
theorem b_mul {x y : Int} : binM fz .mul (.int x) (.int y) Q μ = ((small x ∨ small y) ∧ Q (.int (x * y)) μ) := rfl
theorem b_fdiv {x y : Int} : binM fz .fdiv (.int x) (.int y) Q μ = ((y ≠ 0 ∧ small y) ∧ Q (.int (x.fdiv y)) μ) := rfl
theorem b_mod {x y : Int} : binM fz .mod (.int x) (.int y) Q μ = (y ≠ 0 ∧ Q (.int (x.fmod y)) μ) := rfl
theorem Xf {x y : Int} (h : -1000000000000 ≤ y ∧ y ≤ 1000000000000) : binM fz .mul (.int x) (.int y) Q μ = Q (.int (x * y)) μ := by
  rw [b_mul]; simp only [eq_iff_iff, and_iff_right_iff_imp]; exact fun _ => .inr ⟨by lia, by exact Int.lt_of_le_of_lt (And.right (by assumption)) (by decide)⟩
theorem Xh {x y : Int} (h : -1000000000000 ≤ x ∧ x ≤ 1000000000000) : binM fz .mul (.int x) (.int y) Q μ = Q (.int (x * y)) μ := by
  rw [b_mul]; simp only [eq_iff_iff, and_iff_right_iff_imp]; exact fun _ => .inl ⟨by lia, by exact Int.lt_of_le_of_lt (And.right (by assumption)) (by decide)⟩
theorem Xc {x y : Int} (h : 0 < y ∧ y ≤ 1000000000000) : binM fz .fdiv (.int x) (.int y) Q μ = Q (.int (x.fdiv y)) μ := by
  rw [b_fdiv]; simp only [eq_iff_iff, and_iff_right_iff_imp]; exact fun _ => ⟨by lia, by lia, by exact Int.lt_of_le_of_lt (And.right (by assumption)) (by decide)⟩
theorem Xe {x y : Int} (h : 0 < y) : binM fz .mod (.int x) (.int y) Q μ = Q (.int (x.fmod y)) μ := by
  rw [b_mod]; simp only [eq_iff_iff, and_iff_right_iff_imp]; exact fun _ => by lia
theorem Xr {n : Nat} (h : n ≤ 100000) : fits n = True := by simp only [eq_iff_iff, iff_true]; unfold fits; exact Nat.le_trans (by assumption) (by decide)
theorem b_adds {x y : Str} : binM fz .add (.str x) (.str y) Q μ = (fits (x.length + y.length) ∧ Q (.str (x ++ y)) μ) := rfl
theorem Cg {a b : Addr} {x y : List MV} (h1 : μ a = some (.list x)) (h2 : μ b = some (.list y)) (hf : fits (x.length + y.length)) (h : ∀ c, μ c = none → c ∉ fz → Q (.ref c) (upd μ c (.list (x ++ y)))) : binM fz .add (.ref a) (.ref b) Q μ :=
  ⟨x, y, K5 h1, K5 h2, hf, h⟩
theorem Xj {x y : Int} : cmpM .lt μ (.int x) (.int y) = some (decide (x < y)) := rfl
theorem Xk {x y : Int} : cmpM .le μ (.int x) (.int y) = some (decide (x ≤ y)) := rfl
theorem Xl {x y : Int} : cmpM .gt μ (.int x) (.int y) = some (decide (x > y)) := rfl
theorem Xm {x y : Int} : cmpM .ge μ (.int x) (.int y) = some (decide (x ≥ y)) := rfl
theorem Xv {x y : Int} : cmpM .eq μ (.int x) (.int y) = some (x == y) := by simp [cmpM, eqM, eqD, deep, PyData.eqv]
theorem Xu {x y : Int} : cmpM .ne μ (.int x) (.int y) = some (!(x == y)) := by simp [cmpM, eqM, eqD, deep, PyData.eqv]
theorem Jd {x y : Str} (hx : PyData.strOk x = true) (hy : PyData.strOk y = true) : cmpM .eq μ (.str x) (.str y) = some (x == y) := by simp [cmpM, eqM, eqD, deep, PyData.eqv, hx, hy]
theorem Qm {b : Bool} : truthy μ (.bool b) = some b := rfl
theorem X7 {i : Int} : truthy μ (.int i) = some (decide (i ≠ 0)) := rfl
theorem Xn {vars : MVars} {i : Nat} {v : MV} : setv vars i v i = some v := by simp [setv]
theorem Xd {vars : MVars} {i j : Nat} {v : MV} (h : j ≠ i) : setv vars i v j = vars j := by simp [setv, h]
theorem Qi {x y : Int} : biM fz .min2 [.int x, .int y] Q μ = Q (.int (min x y)) μ := rfl
theorem Qj {x y : Int} : biM fz .max2 [.int x, .int y] Q μ = Q (.int (max x y)) μ := rfl
theorem Qw {b : Bool} : biM fz .int [.bool b] Q μ = Q (.int (if b then 1 else 0)) μ := rfl
theorem Q2 {i : Nat} {v : MV} {vars : MVars} : bindT (.one i) v vars = some (setv vars i v) := rfl
theorem Ux {p : Addr} {k : Int} {l : List MV} (h : μ p = some (.list l)) (hl : l.length ≤ 2 ^ 20) : idxM μ (.ref p) (.int k) = atI l k := by simp [idxM, idxO, intO, h, hl]
theorem N8 {p : Addr} {k : Int} {l : List (Int × MV)} (h : μ p = some (.idict l)) : idxM μ (.ref p) (.int k) = lookI l k := by simp [idxM, idxO, intO, h]
theorem Do {k : Int} {l : List MV} (hl : l.length ≤ 2 ^ 20) : idxM μ (.tup l) (.int k) = atI l k := by simp [idxM, intO, hl]
theorem i_str {k : Int} {x : Str} (hl : x.length ≤ 2 ^ 20) : idxM μ (.str x) (.int k) = (atI x.cps.toList k).map fun c => .str ⟨#[c]⟩ := by simp [idxM, intO, hl]
theorem Op {p : Addr} {l : List MV} {lo hi st : MV} {a b s : Option Int} (h1 : partI lo = some a) (h2 : partI hi = some b) (h3 : partI st = some s) (h4 : s ≠ some 0) (h : μ p = some (.list l)) (hf : fits l.length) (hq : ∀ c, μ c = none → c ∉ fz → Q (.ref c) (upd μ c (.list (pick l a b s)))) : sliceM fz (.ref p) lo hi st Q μ :=
  ⟨a, b, s, h1, h2, h3, h4, l, K5 h, hf, hq⟩
theorem Fb {x : Str} {lo hi st : MV} {a b s : Option Int} (h1 : partI lo = some a) (h2 : partI hi = some b) (h3 : partI st = some s) (h4 : s ≠ some 0) (hf : fits x.length) (hq : Q (.str ⟨(pick x.cps.toList a b s).toArray⟩) μ) : sliceM fz (.str x) lo hi st Q μ :=
  ⟨a, b, s, h1, h2, h3, h4, hf, hq⟩
theorem set_list {a : Addr} {l : List MV} {k : Int} {v : MV} {Q : MH → Prop} (h : μ a = some (.list l)) (hf : a ∉ fz) (hl : fits l.length) (h0 : 0 ≤ k) (h1 : k < l.length) (hq : Q (upd μ a (.list (l.set k.toNat v)))) : setM fz (.ref a) (.int k) v Q μ := by
  refine ⟨hf, ?_⟩
  rw [h]
  exact ⟨hl, _, by unfold setAt; rw [if_pos h0, if_pos (by first|exact dn hd rfl|exact dl hd rfl|simp [*])], hq⟩
theorem set_dict {a : Addr} {l : List (Int × MV)} {k : Int} {v : MV} {Q : MH → Prop} (h : μ a = some (.idict l)) (hf : a ∉ fz) (hl : fits l.length) (hq : Q (upd μ a (.idict (putI l k v)))) : setM fz (.ref a) (.int k) v Q μ := by
  refine ⟨hf, ?_⟩
  rw [h]
  exact ⟨hl, hq⟩
theorem Zk {p : Addr} {l : List MV} (h : μ p = some (.list l)) (hf : fits l.length) (hq : Q (.int l.length) μ) : biM fz .len [.ref p] Q μ := by
  show lenO (μ p) fun n => Q (.int n) μ
  rw [h]; exact ⟨hf, hq⟩
theorem bi_len_str {x : Str} : biM fz .len [.str x] Q μ = (fits x.length ∧ Q (.int x.length) μ) := rfl
end
theorem V7 {μ : MH} {a : Addr} {l : List MV} (h : μ a = some (.list l)) : isListO (μ a) = true := by rw [h]; rfl
theorem Ua {μ : MH} {a : Addr} {l : List (Int × MV)} (h : μ a = some (.idict l)) : isDictO (μ a) = true := by rw [h]; rfl
theorem Bs {μ : MH} {a : Addr} {l : List (Str × MV)} (h : μ a = some (.sdict l)) : isDictO (μ a) = true := by rw [h]; rfl
theorem get_s {μ : MH} {fz : List Addr} {Q : MQ} {a : Addr} {l : List (Str × MV)} {k : Str} {d : MV} (h : μ a = some (.sdict l)) (hq : Q ((lookI l k).getD d) μ) : methM fz .get2 (.ref a) [.str k, d] Q μ := by
  show get2M (μ a) (.str k) d fun v => Q v μ
  rw [h]; exact hq
theorem bi_dict_d {μ : MH} {fz : List Addr} {Q : MQ} {a : Addr} {l : List (Int × MV)} (h : μ a = some (.idict l)) (hq : fits l.length ∧ ∀ c, μ c = none → c ∉ fz → Q (.ref c) (upd μ c (.idict l))) : biM fz .dict [.ref a] Q μ := by
  show dictO fz (μ a) Q μ
  rw [h]; exact hq
theorem F4 {μ : MH} {fz : List Addr} {Q : MQ} {a : Addr} {l : List MV} (h : μ a = some (.list l)) (hq : ∃ ps, pairsI l = some ps ∧ fits l.length ∧ ∀ c, μ c = none → c ∉ fz → Q (.ref c) (upd μ c (.idict (ps.foldl (fun d kv => putI d kv.1 kv.2) [])))) : biM fz .dict [.ref a] Q μ := by
  show dictO fz (μ a) Q μ
  rw [h]; exact hq
theorem in_dict {μ : MH} {u : Addr} {l : List (Int × MV)} {k : Int} (h : μ u = some (.idict l)) : inM μ (.int k) (.ref u) = some ((lookI l k).isSome) := by
  show inO μ u (.int k) (μ u) = _
  rw [h]; rfl
theorem in_list {μ : MH} {u : Addr} {l : List MV} {a : MV} {xs : List PyData} {d : PyData} (h : μ u = some (.list l)) (h1 : deep μ 9 (.ref u) = some (.list xs)) (h2 : deep μ 9 a = some d) : inM μ a (.ref u) = some (xs.any fun y => PyData.eqv y d) := by
  show inO μ u a (μ u) = _
  rw [h]
  show anyL (deep μ 9 (.ref u)) (deep μ 9 a) = _
  rw [h1, h2]; rfl
theorem fit {n : Nat} (h : n ≤ 100000) : fits n := by unfold fits; exact Nat.le_trans (by assumption) (by decide)
theorem dn {k d m : Nat} (h : m ≤ d) (e : Nat.ble (k + 1) m = true) : k ≤ d - 1 := Nat.le_sub_of_add_le (Nat.le_trans (Nat.le_of_ble_eq_true e) h)
theorem dl {k d m : Nat} (h : m ≤ d) (e : Nat.ble k m = true) : k ≤ d := Nat.le_trans (Nat.le_of_ble_eq_true e) h
theorem nei {j i m : Nat} (h : m ≤ i) (e : Nat.ble (j + 1) m = true) : j ≠ i := Nat.ne_of_lt (Nat.le_trans (Nat.le_of_ble_eq_true e) h)
theorem Yi {μ : MH} {a c : Addr} {o : MO} (h : μ a = some o) (hc : μ c = none) : a ≠ c := fun q => by rw [q, hc] at h; cases h
variable {G : String → Option MV} {Γ : String → Option MFun}
theorem all_of {P : Int → Bool} {l : List Int} {x : Int} (h : x ∈ l) (a : l.all P = true) : P x = true := List.all_eq_true.mp a x h
noncomputable def kr (G : String → Option MV) (Φ : CallSpec) (X : MX) (r : List MS) (fz : List Addr) (R : MFlow → MVars → MH → Prop) : MFlow → MVars → MH → Prop := fun fl vars' μ' => match fl with | .next => exs G Φ X r fz vars' R μ' | fl => R fl vars' μ'
noncomputable def kl (L : MVars → MH → Prop) (R : MFlow → MVars → MH → Prop) : MFlow → MVars → MH → Prop := fun fl vars' μ' => match fl with | .next | .cont => L vars' μ' | .brk => R .next vars' μ' | .ret v => R (.ret v) vars' μ'
noncomputable def kz (Q : MQ) : MFlow → MVars → MH → Prop := fun fl _ μ' => match fl with | .ret v => Q v μ' | .next => Q .none μ' | _ => False
theorem kr0 {Φ : CallSpec} {X : MX} {r : List MS} {fz : List Addr} {vars : MVars} {R : MFlow → MVars → MH → Prop} {μ : MH} : kr G Φ X r fz R .next vars μ = exs G Φ X r fz vars R μ := rfl
theorem kr1 {Φ : CallSpec} {X : MX} {r : List MS} {fz : List Addr} {vars : MVars} {R : MFlow → MVars → MH → Prop} {μ : MH} {v : MV} : kr G Φ X r fz R (.ret v) vars μ = R (.ret v) vars μ := rfl
theorem kl0 {L : MVars → MH → Prop} {R : MFlow → MVars → MH → Prop} {vars : MVars} {μ : MH} : kl L R .next vars μ = L vars μ := rfl
theorem kl1 {L : MVars → MH → Prop} {R : MFlow → MVars → MH → Prop} {vars : MVars} {μ : MH} {v : MV} : kl L R (.ret v) vars μ = R (.ret v) vars μ := rfl
theorem kz0 {Q : MQ} {vars : MVars} {μ : MH} {v : MV} : kz Q (.ret v) vars μ = Q v μ := rfl
theorem Z5 {t : MT} {B : MVars → (MFlow → MVars → MH → Prop) → MH → Prop} {R : MFlow → MVars → MH → Prop} {vars : MVars} {μ : MH} : loopM t B R [] vars μ = R .next vars μ := rfl
theorem Z6 {t : MT} {B : MVars → (MFlow → MVars → MH → Prop) → MH → Prop} {R : MFlow → MVars → MH → Prop} {v : MV} {l : List MV} {vars : MVars} {μ : MH} : loopM t B R (v :: l) vars μ = ∃ vars', bindT t v vars = some vars' ∧ B vars' (kl (loopM t B R l) R) μ := rfl
theorem seq {Φ : CallSpec} {X : MX} {st : MS} {r : List MS} {fz : List Addr} {vars : MVars} {R : MFlow → MVars → MH → Prop} {μ : MH} (h : ex G Φ X st fz vars (kr G Φ X r fz R) μ) : exs G Φ X (st :: r) fz vars R μ := h
theorem Zm {Φ : CallSpec} {X : MX} {fz : List Addr} {vars : MVars} {R : MFlow → MVars → MH → Prop} {μ : MH} (h : R .next vars μ) : exs G Φ X [] fz vars R μ := by
  exact h
theorem K3 {Φ : CallSpec} {X : MX} {fz : List Addr} {vars : MVars} {R : MFlow → MVars → MH → Prop} {μ : MH} (h : R .next vars μ) : kr G Φ X [] fz R .next vars μ := h
theorem gen {Φ : CallSpec} {X : MX} {r : List MS} {fz : List Addr} {vars : MVars} {R : MFlow → MVars → MH → Prop} {μ μ₁ : MH} (x : Ext μ μ₁) (h : ∀ μ', Ext μ μ' → exs G Φ X r fz vars R μ') : exs G Φ X r fz vars R μ₁ := h μ₁ x
theorem Z2 {d : Nat} {f : String} {vs : List MV} {fz : List Addr} {Q : MQ} {X : MX} {μ : MH} {fd : MFun} (h : Γ f = some fd) (hn : vs.length = fd.n) (hd : 0 < d)
    (hx : exs G (calls G Γ (d - 1)) X fd.body fz (args0 vs) (kz Q) μ) : calls G Γ d f vs fz Q X μ := by
  cases d with
  | zero => lia
  | succ d => exact ⟨fd, h, hn, hx⟩
noncomputable def evB (G : String → Option MV) (Φ : CallSpec) (e : ME) (fz : List Addr) (vars : MVars) (F : Bool → MH → Prop) (μ : MH) : Prop := ev G Φ X0 e fz vars (fun v μ' => ∃ t, truthy μ' v = some t ∧ F t μ') μ
section
variable {Φ : CallSpec} {fz : List Addr} {vars : MVars} {F : Bool → MH → Prop} {μ : MH}
theorem Je {c : ME} {a b : List MS} {R : MFlow → MVars → MH → Prop} (h : evB G Φ c fz vars (fun t μ' => if t then exs G Φ X0 a fz vars R μ' else exs G Φ X0 b fz vars R μ') μ) : ex G Φ X0 (.ite c a b) fz vars R μ := by
  exact h
theorem Ol {e : ME} (h : evB G Φ e fz vars F μ) : evB G Φ (.and [e]) fz vars F μ := by
  exact h
theorem Ur {e e' : ME} {r : List ME} (h : evB G Φ e fz vars (fun t μ' => if t then evB G Φ (.and (e' :: r)) fz vars F μ' else F false μ') μ) : evB G Φ (.and (e :: e' :: r)) fz vars F μ := by
  unfold evB at h ⊢
  rw [X4, Q1]
  have q : (fun (v : MV) (μ' : MH) => ∃ t, truthy μ' v = some t ∧ if t = true then evAnd G Φ X0 (e' :: r) fz vars (fun v μ' => ∃ t, truthy μ' v = some t ∧ F t μ') μ' else F false μ') =
      (fun v μ' => ∃ b, truthy μ' v = some b ∧ if b = true then evAnd G Φ X0 (e' :: r) fz vars (fun v μ' => ∃ t, truthy μ' v = some t ∧ F t μ') μ' else ∃ t, truthy μ' v = some t ∧ F t μ') := by
    funext v μ'
    apply propext
    constructor
    · rintro ⟨b, hb, hh⟩
      refine ⟨b, hb, ?_⟩
      cases b
      · rw [if_neg (by simp)] at hh ⊢; exact ⟨_, hb, hh⟩
      · rw [if_pos rfl] at hh ⊢; exact hh
    · rintro ⟨b, hb, hh⟩
      refine ⟨b, hb, ?_⟩
      cases b
      · rw [if_neg (by simp)] at hh ⊢; obtain ⟨b', hb', hh⟩ := hh; rw [hb] at hb'; cases hb'; exact hh
      · rw [if_pos rfl] at hh ⊢; exact hh
  exact Eq.mp (congrArg (fun z => ev G Φ X0 e fz vars z μ) q) h
theorem Z7 {a b : ME} {op : COp} (h : ev G Φ X0 a fz vars (fun x μ₁ => ev G Φ X0 b fz vars (fun y μ₂ => ∃ t, cmpM op μ₂ x y = some t ∧ F t μ₂) μ₁) μ) : evB G Φ (.cmp a [op] [b]) fz vars F μ := by
  unfold evB
  rw [X2]
  simp only [Q4, Q0, Qm, Option.some.injEq, exists_eq_left']
  exact h
theorem evB_call {f : String} {args : List ME} (h : evs G Φ X0 args fz vars (fun vs μ' => Φ f vs fz (fun v μ'' => ∃ t, truthy μ'' v = some t ∧ F t μ'') X0 μ') μ) : evB G Φ (.call f args) fz vars F μ := by
  exact h
theorem Ki {elt it : ME} {t : MT} {k : SK} {ifs : List ME} {X : MX} {Q : MQ} (h : ev G Φ X it fz vars (fun v μ' => ∃ src all, mkSrc k [v] = some src ∧ src.items μ' = some all ∧ fits all.length ∧
      compM fz t vars (fun vs F μ => evIfs G Φ X ifs (src.held ++ fz) vs F μ) (fun vs F μ => ev G Φ X elt (src.held ++ fz) vs F μ) Q all [] μ') μ) : ev G Φ X (.comp elt t k [it] ifs) fz vars Q μ := by
  exact h
theorem Pl {i : Nat} {v : MV} {X : MX} {Q : MQ} (hv : vars i = some v) (h : Q v μ) : ev G Φ X (.var i) fz vars Q μ := ⟨v, hv, h⟩
theorem Fr {e : ME} {X : MX} {Q : List MV → MH → Prop} (h : ev G Φ X e fz vars (fun v μ' => Q [v] μ') μ) : evs G Φ X [e] fz vars Q μ := by
  exact h
theorem evB_cmp2 {a b c : ME} {op op' : COp} (h : ev G Φ X0 a fz vars (fun x μ₁ => ev G Φ X0 b fz vars (fun y μ₂ => ∃ t, cmpM op μ₂ x y = some t ∧ if t then ev G Φ X0 c fz vars (fun z μ₃ => ∃ t, cmpM op' μ₃ y z = some t ∧ F t μ₃) μ₂ else F false μ₂) μ₁) μ) : evB G Φ (.cmp a [op, op'] [b, c]) fz vars F μ := by
  unfold evB
  rw [X2]
  simp only [Q4, Q0, Qm, Option.some.injEq, exists_eq_left']
  exact h
end
end Mine
end
section
namespace Mine
open PySem
noncomputable def Pi : MS := .ret (.idx (.bin .add (.slice (.var 0) (.var 1) (.bin .add (.var 1) (.cint 1)) .cnone) (.list [(.cint 0)])) (.cint 0))
noncomputable def Uc : MFun := ⟨2, [Pi]⟩
noncomputable def Vh : MS := .assign 2 (.cstr "abcdefghijklmnopqrstuvwxy")
noncomputable def Vg : MS := .assign 3 (.list [])
noncomputable def Jn : MS := .assign 5 (.bin .add (.bin .fdiv (.var 0) (.cint 2)) (.bin .mul (.bin .mul (.var 4) (.cint 48271)) (.bin .mod (.var 0) (.cint 2))))
noncomputable def Jm : MS := .assign 6 (.meth .join (.cstr "") [(.comp (.idx (.var 2) (.bin .mod (.bin .add (.bin .fdiv (.var 5) (.cint 7)) (.bin .mul (.cint 6) (.var 8))) (.cint 25))) (.one 8) .range [(.bin .mod (.var 5) (.cint 7))] [])])
noncomputable def Zx : MS := .assign 7 (.bin .mod (.bin .fdiv (.var 5) (.cint 175)) (.bin .add (.bi .len [(.var 6)]) (.cint 1)))
noncomputable def Zw : MS := .expr (.meth .append (.var 3) [(.bin .add (.bin .add (.bin .add (.slice (.var 6) .cnone (.var 7) .cnone) (.cstr "z")) (.idx (.var 2) (.var 4))) (.slice (.var 6) (.var 7) .cnone .cnone))])
noncomputable def Vf : MS := .for (.one 4) .range [(.var 1)] [Jn, Jm, Zx, Zw]
noncomputable def Uh : MS := .setidx (.var 3) (.cint 1) (.slice (.idx (.var 3) (.cint 0)) .cnone .cnone (.neg (.cint 1)))
noncomputable def Ve : MS := .ite (.and [(.cmp (.bin .mod (.var 0) (.cint 5)) [.eq] [(.cint 3)]), (.cmp (.slice (.idx (.var 3) (.cint 0)) .cnone .cnone (.neg (.cint 1))) [.notin] [(.var 3)])]) [Uh] []
noncomputable def J0 : MS := .ret (.var 3)
noncomputable def Ud : MFun := ⟨2, [Vh, Vg, Vf, Ve, J0]⟩
noncomputable def Vm : MS := .assign 2 (.bin .mod (.bin .mul (.var 2) (.cint 48271)) (.cint 2147483647))
noncomputable def Vl : MS := .assign 4 (.bi .min2 [(.cint 1000000), (.bin .add (.var 1) (.bin .mod (.bin .fdiv (.var 2) (.cint 24)) (.idx (.list [(.cint 10), (.cint 900000)]) (.bi .int [(.cmp (.bin .mod (.bin .fdiv (.var 2) (.cint 11520)) (.cint 5)) [.eq] [(.cint 1)])]))))])
noncomputable def Vk : MS := .assign 5 (.bi .min2 [(.cint 1000000), (.bin .add (.var 4) (.idx (.list [(.cint 0), (.cint 1), (.cint 3), (.cint 9), (.cint 35), (.cint 700), (.cint 1000000), (.cint 9)]) (.bin .mod (.bin .fdiv (.var 2) (.cint 240)) (.cint 8))))])
noncomputable def Vj : MS := .assign 6 (.idx (.var 0) (.bin .mod (.bin .fdiv (.var 2) (.cint 8)) (.cint 3)))
noncomputable def Uk : MS := .ret (.tuple [(.cstr "undo"), (.bin .add (.cint 1) (.bin .mod (.bin .fdiv (.var 2) (.cint 8)) (.bin .sub (.var 3) (.cint 1))))])
noncomputable def Vi : MS := .ite (.and [(.cmp (.bin .mod (.var 2) (.cint 8)) [.gt] [(.cint 5)]), (.cmp (.var 3) [.gt] [(.cint 1)])]) [Uk] []
noncomputable def Uj : MS := .ret (.tuple [(.cstr "clear"), (.var 6), (.var 4), (.var 5)])
noncomputable def U5 : MS := .ite (.cmp (.bin .mod (.var 2) (.cint 8)) [.eq] [(.cint 3)]) [Uj] []
noncomputable def Ui : MS := .ret (.tuple [(.cstr "like"), (.var 6), (.var 4), (.var 5), (.idx (.var 0) (.bin .mod (.bin .fdiv (.var 2) (.cint 1920)) (.cint 3)))])
noncomputable def U4 : MS := .ite (.cmp (.bin .mod (.var 2) (.cint 8)) [.isin] [(.tuple [(.cint 4), (.cint 5)])]) [Ui] []
noncomputable def U3 : MS := .ret (.tuple [(.cstr "tell"), (.var 6), (.var 4), (.var 5), (.idx (.list [(.cint 1), (.cint 2), (.cint 1), (.cint 0), (.neg (.cint 1)), (.bin .sub (.bin .mod (.var 2) (.cint 2000000001)) (.cint 1000000000))]) (.bin .mod (.bin .fdiv (.var 2) (.cint 1920)) (.cint 6)))])
noncomputable def J9 : MFun := ⟨4, [Vm, Vl, Vk, Vj, Vi, U5, U4, U3]⟩
noncomputable def Nr : MS := .ret (.idx (.list [(.cint 0), (.cint 7), (.cint 300), (.cint 999982)]) (.bin .mod (.call "_law_of" [(.var 0), (.cint 0)]) (.cint 4)))
noncomputable def Jx : MFun := ⟨1, [Nr]⟩
noncomputable def Nq : MS := .assign 2 (.call "_law_names" [(.call "_law_of" [(.var 0), (.cint 1)]), (.cint 3)])
noncomputable def Np : MS := .assign 3 (.bin .add (.cint 1) (.bin .mod (.bin .fdiv (.call "_law_of" [(.var 0), (.cint 0)]) (.cint 4)) (.cint 3)))
noncomputable def No : MS := .assign 4 (.list [])
noncomputable def Kg : MS := .assign 6 (.bin .add (.cint 1) (.bin .mul (.var 5) (.var 3)))
noncomputable def Kf : MS := .expr (.meth .append (.var 4) [(.tuple [(.var 6), (.call "_law_entry" [(.var 2), (.call "_law_base" [(.var 0)]), (.bin .add (.idx (.var 0) (.bin .add (.cint 4) (.var 5))) (.bin .mul (.cint 7) (.var 5))), (.var 6)])])])
noncomputable def Nn : MS := .for (.one 5) .range [(.bi .min2 [(.var 1), (.bin .sub (.bi .len [(.var 0)]) (.cint 4))])] [Kg, Kf]
noncomputable def Nm : MS := .assign 7 (.bin .mod (.bin .fdiv (.call "_law_of" [(.var 0), (.cint 0)]) (.cint 12)) (.bin .add (.bi .len [(.var 4)]) (.cint 1)))
noncomputable def Nl : MS := .ret (.bi .dict [(.bin .add (.slice (.var 4) (.var 7) .cnone .cnone) (.slice (.var 4) .cnone (.var 7) .cnone))])
noncomputable def Pk : MFun := ⟨2, [Nq, Np, No, Nn, Nm, Nl]⟩
noncomputable def Cu : MS := .ret (.and [(.isinst (.var 0) .int), (.not (.isinst (.var 0) .bool))])
noncomputable def f_law_whole : MFun := ⟨1, [Cu]⟩
end Mine
end
section
namespace Mine
open PySem
variable {G : String → Option MV} {Γ : String → Option MFun}
theorem Ny {α : Type} {l : List α} {k : Int} (h : 0 ≤ k) : atI l k = l[k.toNat]? := by simp [atI, h]
noncomputable def at0 (ns : List Int) (k : Int) : Int := ns.getD k.toNat 0
noncomputable def sel (l : List Int) (k : Int) : Int := l.getD k.toNat 0
theorem sel_at {l : List Int} {k : Int} (h0 : 0 ≤ k) (h : k < l.length) : atI (l.map MV.int) k = some (.int (sel l k)) := by
  have : k.toNat < l.length := by simp [*]
  rw [Ny h0, List.getElem?_map]
  simp [sel, List.getD_eq_getElem?_getD, this]
theorem B5 {l : List Int} {k : Int} (h0 : 0 ≤ k) (h : k < l.length) : sel l k ∈ l := by
  have : k.toNat < l.length := by simp [*]
  simp [sel, List.getD_eq_getElem?_getD, this]
theorem fm {a b : Int} (h : 0 < b) : 0 ≤ a.fmod b ∧ a.fmod b < b := ⟨Int.fmod_nonneg_of_pos _ h, Int.fmod_lt_of_pos _ h⟩
theorem Zi {d : Nat} {a : Addr} {fz : List Addr} {Q : MQ} {μ : MH} {ns : List Int} {k : Int} (hΓ : Γ "_law_of" = some Uc) (hd : 1 ≤ d) (ha : μ a = some (.list (ns.map .int))) (hn : ns.length ≤ 63) (hk : 0 ≤ k)
    (h : ∀ μ', Ext μ μ' → Q (.int (at0 ns k)) μ') : calls G Γ d "_law_of" [.ref a, .int k] fz Q X0 μ := by
  refine Z2 hΓ rfl hd (seq ?_)
  ((try dsimp only [Pi,Qx,Qu,Qn,Qv,Qg,Qf,Qz,X9,X8,X4,Xi,X2,Xa,X1,Qd,Qt,Qc,Qe,Ql,Xg,Q6,Qp,Qq,Qk,Qb,Qa,Q1,Qh,Q7,Q4,Q0,Q9,Q8,Q3,Q5,Qo,Qy,Qr,X5,X6,Qs,args0,X3,Xb,Xj,Xk,Xl,Xm,Qm,X7,Qi,Qj,Qw,Q2,zgz,zgs,zlc,zln,Nat.reduceAdd,kr0,kr1,kl0,kl1,kz0]); (try simp (discharger := decide) only [Pi,Qx,Qu,Qn,Qv,Qg,Qf,Qz,X9,X8,X4,Xi,X2,Xa,X1,Qd,Qt,Qc,Qe,Ql,Xg,Q6,Qp,Qq,Qk,Qb,Qa,Q1,Qh,Q7,Q4,Q0,Q9,Q8,Q3,Q5,Qo,Qy,Qr,X5,X6,Qs,args0,X3,Xb,Xf,Xh,Xc,Xe,Xj,Xk,Xl,Xm,Xv,Xu,Qm,X7,Xn,Xd,Qi,Qj,Qw,Q2,Xr,zoi,zel,zta,zat,zgz,zgs,zlc,zln,Nat.reduceAdd,zza,znt,zcn,MV.int.injEq,kr0,kr1,kl0,kl1,kz0]))
  refine Op rfl rfl rfl (by simp) ha (by simp [fits]; exact Nat.le_trans (by assumption) (by decide)) fun c hc hcf c₂ hc₂ hcf₂ => ?_
  rw [pick_one _ hk] at hc₂ ⊢
  have ne : c ≠ c₂ := Yi (o := .list ((List.map MV.int ns).drop k.toNat |>.take 1)) (by simp [Yh]) hc₂
  refine Cg (by rw [Yk ne, Yh]) Yh (fit (by simp; omega)) fun c₃ hc₃ hcf₃ => ?_
  refine ⟨_, ?_, h _ ((Ext.upd hc).trans ((Ext.upd hc₂).trans (Ext.upd hc₃)))⟩
  rw [Ux Yh (by simp; omega), Ny (by first|exact dn hd rfl|exact dl hd rfl|exact Int.natCast_nonneg _)]
  simp only [Int.toNat_zero]
  by_cases hlt : k.toNat < ns.length
  · rw [List.drop_eq_getElem_cons (by simpa using hlt)]
    simp [at0, List.getD_eq_getElem?_getD, hlt]
  · rw [List.drop_eq_nil_of_le (by simp; lia)]
    simp [at0, List.getD_eq_getElem?_getD, List.getElem?_eq_none (show ns.length ≤ k.toNat by lia)]
noncomputable def baseOf (ns : List Int) : Int := sel [0, 7, 300, 999982] ((at0 ns 0).fmod 4)
theorem Jh {d : Nat} {a : Addr} {fz : List Addr} {Q : MQ} {μ : MH} {ns : List Int} (hΓ₁ : Γ "_law_of" = some Uc) (hΓ : Γ "_law_base" = some Jx) (hd : 2 ≤ d) (ha : μ a = some (.list (ns.map .int))) (hn : ns.length ≤ 63)
    (h : ∀ μ', Ext μ μ' → Q (.int (baseOf ns)) μ') : calls G Γ d "_law_base" [.ref a] fz Q X0 μ := by
  refine Z2 hΓ rfl (by first|exact dn hd rfl|exact dl hd rfl|omega) (seq ?_)
  ((try dsimp only [Nr,Qx,Qu,Qn,Qv,Qg,Qf,Qz,X9,X8,X4,Xi,X2,Xa,X1,Qd,Qt,Qc,Qe,Ql,Xg,Q6,Qp,Qq,Qk,Qb,Qa,Q1,Qh,Q7,Q4,Q0,Q9,Q8,Q3,Q5,Qo,Qy,Qr,X5,X6,Qs,args0,X3,Xb,Xj,Xk,Xl,Xm,Qm,X7,Qi,Qj,Qw,Q2,zgz,zgs,zlc,zln,Nat.reduceAdd,kr0,kr1,kl0,kl1,kz0]); (try simp (discharger := decide) only [Nr,Qx,Qu,Qn,Qv,Qg,Qf,Qz,X9,X8,X4,Xi,X2,Xa,X1,Qd,Qt,Qc,Qe,Ql,Xg,Q6,Qp,Qq,Qk,Qb,Qa,Q1,Qh,Q7,Q4,Q0,Q9,Q8,Q3,Q5,Qo,Qy,Qr,X5,X6,Qs,args0,X3,Xb,Xf,Xh,Xc,Xe,Xj,Xk,Xl,Xm,Xv,Xu,Qm,X7,Xn,Xd,Qi,Qj,Qw,Q2,Xr,zoi,zel,zta,zat,zgz,zgs,zlc,zln,Nat.reduceAdd,zza,znt,zcn,MV.int.injEq,kr0,kr1,kl0,kl1,kz0]))
  intro c hc hcf
  refine Zi hΓ₁ (by first|exact dn hd rfl|exact dl hd rfl|omega) (by rw [Yk (Yi ha hc)]; exact ha) hn (by decide) fun μ' hx => ?_
  have hc' := hx c _ Yh
  ((try dsimp only [Qx,Qu,Qn,Qv,Qg,Qf,Qz,X9,X8,X4,Xi,X2,Xa,X1,Qd,Qt,Qc,Qe,Ql,Xg,Q6,Qp,Qq,Qk,Qb,Qa,Q1,Qh,Q7,Q4,Q0,Q9,Q8,Q3,Q5,Qo,Qy,Qr,X5,X6,Qs,args0,X3,Xb,Xj,Xk,Xl,Xm,Qm,X7,Qi,Qj,Qw,Q2,zgz,zgs,zlc,zln,Nat.reduceAdd,kr0,kr1,kl0,kl1,kz0]); (try simp (discharger := decide) only [Qx,Qu,Qn,Qv,Qg,Qf,Qz,X9,X8,X4,Xi,X2,Xa,X1,Qd,Qt,Qc,Qe,Ql,Xg,Q6,Qp,Qq,Qk,Qb,Qa,Q1,Qh,Q7,Q4,Q0,Q9,Q8,Q3,Q5,Qo,Qy,Qr,X5,X6,Qs,args0,X3,Xb,Xf,Xh,Xc,Xe,Xj,Xk,Xl,Xm,Xv,Xu,Qm,X7,Xn,Xd,Qi,Qj,Qw,Q2,Xr,zoi,zel,zta,zat,zgz,zgs,zlc,zln,Nat.reduceAdd,zza,znt,zcn,MV.int.injEq,kr0,kr1,kl0,kl1,kz0]))
  refine ⟨_, ?_, h _ ((Ext.upd hc).trans hx)⟩
  rw [Ux hc' (by simp)]
  exact sel_at (l := [0, 7, 300, 999982]) (fm (by first|exact dn hd rfl|exact dl hd rfl|exact Int.natCast_nonneg _)).1 (fm (by first|exact dn hd rfl|exact dl hd rfl|exact Int.natCast_nonneg _)).2
end Mine
end
section
namespace Mine
open PySem
variable {G : String → Option MV} {Γ : String → Option MFun}
noncomputable def GoodN (s : Str) : Prop := 2 ≤ s.length ∧ s.length ≤ 8 ∧ ∀ c ∈ s.cps.toList, 97 ≤ c ∧ c ≤ 122
abbrev S (x : String) : Str := Str.ofString x
noncomputable def GoodE (names : List Str) (number : Int) (e : MV) : Prop :=
  (∃ j, e = .tup [.str (S "undo"), .int j] ∧ 1 ≤ j ∧ j < number) ∨
  (∃ nm lo hi, e = .tup [.str (S "clear"), .str nm, .int lo, .int hi] ∧ nm ∈ names ∧ 0 ≤ lo ∧ lo ≤ hi ∧ hi ≤ 1000000) ∨
  (∃ nm lo hi nm', e = .tup [.str (S "like"), .str nm, .int lo, .int hi, .str nm'] ∧ nm ∈ names ∧ nm' ∈ names ∧ 0 ≤ lo ∧ lo ≤ hi ∧ hi ≤ 1000000) ∨
  (∃ nm lo hi v, e = .tup [.str (S "tell"), .str nm, .int lo, .int hi, .int v] ∧ nm ∈ names ∧ 0 ≤ lo ∧ lo ≤ hi ∧ hi ≤ 1000000 ∧ -1000000000 ≤ v ∧ v ≤ 1000000000)
theorem lit {μ : MH} {c : Addr} (l : List Int) {k : Int} (h0 : 0 ≤ k) (h1 : k < l.length) (hl : l.length ≤ 1000) {Q : MV → Prop} (h : Q (.int (sel l k))) : ∃ v, idxM (upd μ c (.list (l.map .int))) (.ref c) (.int k) = some v ∧ Q v :=
  ⟨_, by rw [Ux Yh (by simp; exact Nat.le_trans (by assumption) (by decide))]; exact sel_at h0 h1, h⟩
theorem atS {μ : MH} {p : Addr} {names : List Str} {k : Int} (hp : μ p = some (.list (names.map .str))) (hl : names.length ≤ 1000) (h0 : 0 ≤ k) (h1 : k < names.length) {Q : MV → Prop} (h : ∀ nm ∈ names, Q (.str nm)) : ∃ v, idxM μ (.ref p) (.int k) = some v ∧ Q v := by
  have hk : k.toNat < names.length := by simp [*]
  refine ⟨.str names[k.toNat], ?_, h _ (List.getElem_mem hk)⟩
  rw [Ux hp (by simp; exact Nat.le_trans (by assumption) (by decide)), Ny h0]
  simp [hk]
theorem at3 {μ : MH} {p : Addr} {names : List Str} {n : Int} (hp : μ p = some (.list (names.map .str))) (hl : names.length = 3) {Q : MV → Prop} (h : ∀ nm ∈ names, Q (.str nm)) : ∃ v, idxM μ (.ref p) (.int (n.fmod 3)) = some v ∧ Q v :=
  atS hp (by first|exact dn hd rfl|exact dl hd rfl|simp [*]) (fm (by decide)).1 (by have := (fm (a := n) (b := 3) (by decide)).2; simp [*]) h
theorem entry_tail {Φ : CallSpec} {p : Addr} {fz : List Addr} {Q : MQ} {μ : MH} {names : List Str} {n number lo hi : Int} {nm : Str} {V : MVars} (hp : μ p = some (.list (names.map .str))) (h3 : names.length = 3) (hnm : nm ∈ names) (hlo : 0 ≤ lo) (hhi : lo ≤ hi) (hm : hi ≤ 1000000)
    (v0 : V 0 = some (.ref p)) (v2 : V 2 = some (.int n)) (v4 : V 4 = some (.int lo)) (v5 : V 5 = some (.int hi)) (v6 : V 6 = some (.str nm)) (h : ∀ e μ', Ext μ μ' → GoodE names number e → Q e μ') :
    exs G Φ X0 [U5, U4, U3] fz V (kz Q) μ := by
  refine seq ?_
  ((try dsimp only [U5,Qx,Qu,Qn,Qv,Qg,Qf,Qz,X9,X8,X4,Xi,X2,Xa,X1,Qd,Qt,Qc,Qe,Ql,Xg,Q6,Qp,Qq,Qk,Qb,Qa,Q1,Qh,Q7,Q4,Q0,Q9,Q8,Q3,Q5,Qo,Qy,Qr,X5,X6,Qs,args0,X3,Xb,Xj,Xk,Xl,Xm,Qm,X7,Qi,Qj,Qw,Q2,zgz,zgs,zlc,zln,Nat.reduceAdd,kr0,kr1,kl0,kl1,kz0,v0,v2,v4,v5,v6]); (try simp (discharger := decide) only [U5,Qx,Qu,Qn,Qv,Qg,Qf,Qz,X9,X8,X4,Xi,X2,Xa,X1,Qd,Qt,Qc,Qe,Ql,Xg,Q6,Qp,Qq,Qk,Qb,Qa,Q1,Qh,Q7,Q4,Q0,Q9,Q8,Q3,Q5,Qo,Qy,Qr,X5,X6,Qs,args0,X3,Xb,Xf,Xh,Xc,Xe,Xj,Xk,Xl,Xm,Xv,Xu,Qm,X7,Xn,Xd,Qi,Qj,Qw,Q2,Xr,zoi,zel,zta,zat,zgz,zgs,zlc,zln,Nat.reduceAdd,zza,znt,zcn,MV.int.injEq,kr0,kr1,kl0,kl1,kz0,v0,v2,v4,v5,v6]))
  split
  · refine seq ?_
    ((try dsimp only [Uj,Qx,Qu,Qn,Qv,Qg,Qf,Qz,X9,X8,X4,Xi,X2,Xa,X1,Qd,Qt,Qc,Qe,Ql,Xg,Q6,Qp,Qq,Qk,Qb,Qa,Q1,Qh,Q7,Q4,Q0,Q9,Q8,Q3,Q5,Qo,Qy,Qr,X5,X6,Qs,args0,X3,Xb,Xj,Xk,Xl,Xm,Qm,X7,Qi,Qj,Qw,Q2,zgz,zgs,zlc,zln,Nat.reduceAdd,kr0,kr1,kl0,kl1,kz0,v0,v2,v4,v5,v6]); (try simp (discharger := decide) only [Uj,Qx,Qu,Qn,Qv,Qg,Qf,Qz,X9,X8,X4,Xi,X2,Xa,X1,Qd,Qt,Qc,Qe,Ql,Xg,Q6,Qp,Qq,Qk,Qb,Qa,Q1,Qh,Q7,Q4,Q0,Q9,Q8,Q3,Q5,Qo,Qy,Qr,X5,X6,Qs,args0,X3,Xb,Xf,Xh,Xc,Xe,Xj,Xk,Xl,Xm,Xv,Xu,Qm,X7,Xn,Xd,Qi,Qj,Qw,Q2,Xr,zoi,zel,zta,zat,zgz,zgs,zlc,zln,Nat.reduceAdd,zza,znt,zcn,MV.int.injEq,kr0,kr1,kl0,kl1,kz0,v0,v2,v4,v5,v6]))
    exact h _ _ .refl (.inr (.inl ⟨nm, lo, hi, rfl, hnm, hlo, hhi, hm⟩))
  (try dsimp only [kr0])
  refine Zm (seq ?_)
  ((try dsimp only [U4,Qx,Qu,Qn,Qv,Qg,Qf,Qz,X9,X8,X4,Xi,X2,Xa,X1,Qd,Qt,Qc,Qe,Ql,Xg,Q6,Qp,Qq,Qk,Qb,Qa,Q1,Qh,Q7,Q4,Q0,Q9,Q8,Q3,Q5,Qo,Qy,Qr,X5,X6,Qs,args0,X3,Xb,Xj,Xk,Xl,Xm,Qm,X7,Qi,Qj,Qw,Q2,zgz,zgs,zlc,zln,Nat.reduceAdd,kr0,kr1,kl0,kl1,kz0,v0,v2,v4,v5,v6]); (try simp (discharger := decide) only [U4,Qx,Qu,Qn,Qv,Qg,Qf,Qz,X9,X8,X4,Xi,X2,Xa,X1,Qd,Qt,Qc,Qe,Ql,Xg,Q6,Qp,Qq,Qk,Qb,Qa,Q1,Qh,Q7,Q4,Q0,Q9,Q8,Q3,Q5,Qo,Qy,Qr,X5,X6,Qs,args0,X3,Xb,Xf,Xh,Xc,Xe,Xj,Xk,Xl,Xm,Xv,Xu,Qm,X7,Xn,Xd,Qi,Qj,Qw,Q2,Xr,zoi,zel,zta,zat,zgz,zgs,zlc,zln,Nat.reduceAdd,zza,znt,zcn,MV.int.injEq,kr0,kr1,kl0,kl1,kz0,v0,v2,v4,v5,v6]))
  have hd1 : deep μ 9 (.tup [.int 4, .int 5]) = some (.tuple [.int 4, .int 5]) := by simp [deep, List.mapM_cons, List.mapM_nil]
  have hd2 : deep μ 9 (.int (n.fmod 8)) = some (.int (n.fmod 8)) := by simp [deep]
  have hin : cmpM .isin μ (.int (n.fmod 8)) (.tup [.int 4, .int 5]) = some (4 == n.fmod 8 || 5 == n.fmod 8) := by
    show anyT (deep μ 9 (.tup [.int 4, .int 5])) (deep μ 9 (.int (n.fmod 8))) = _
    rw [hd1, hd2]
    show some (PyData.eqv (.int 4) (.int (n.fmod 8)) || (PyData.eqv (.int 5) (.int (n.fmod 8)) || false)) = _
    rw [Bool.or_false]; rfl
  ((try dsimp only [hin,Qx,Qu,Qn,Qv,Qg,Qf,Qz,X9,X8,X4,Xi,X2,Xa,X1,Qd,Qt,Qc,Qe,Ql,Xg,Q6,Qp,Qq,Qk,Qb,Qa,Q1,Qh,Q7,Q4,Q0,Q9,Q8,Q3,Q5,Qo,Qy,Qr,X5,X6,Qs,args0,X3,Xb,Xj,Xk,Xl,Xm,Qm,X7,Qi,Qj,Qw,Q2,zgz,zgs,zlc,zln,Nat.reduceAdd,kr0,kr1,kl0,kl1,kz0]); (try simp (discharger := decide) only [hin,Qx,Qu,Qn,Qv,Qg,Qf,Qz,X9,X8,X4,Xi,X2,Xa,X1,Qd,Qt,Qc,Qe,Ql,Xg,Q6,Qp,Qq,Qk,Qb,Qa,Q1,Qh,Q7,Q4,Q0,Q9,Q8,Q3,Q5,Qo,Qy,Qr,X5,X6,Qs,args0,X3,Xb,Xf,Xh,Xc,Xe,Xj,Xk,Xl,Xm,Xv,Xu,Qm,X7,Xn,Xd,Qi,Qj,Qw,Q2,Xr,zoi,zel,zta,zat,zgz,zgs,zlc,zln,Nat.reduceAdd,zza,znt,zcn,MV.int.injEq,kr0,kr1,kl0,kl1,kz0]))
  split
  · refine seq ?_
    ((try dsimp only [Ui,Qx,Qu,Qn,Qv,Qg,Qf,Qz,X9,X8,X4,Xi,X2,Xa,X1,Qd,Qt,Qc,Qe,Ql,Xg,Q6,Qp,Qq,Qk,Qb,Qa,Q1,Qh,Q7,Q4,Q0,Q9,Q8,Q3,Q5,Qo,Qy,Qr,X5,X6,Qs,args0,X3,Xb,Xj,Xk,Xl,Xm,Qm,X7,Qi,Qj,Qw,Q2,zgz,zgs,zlc,zln,Nat.reduceAdd,kr0,kr1,kl0,kl1,kz0,v0,v2,v4,v5,v6]); (try simp (discharger := decide) only [Ui,Qx,Qu,Qn,Qv,Qg,Qf,Qz,X9,X8,X4,Xi,X2,Xa,X1,Qd,Qt,Qc,Qe,Ql,Xg,Q6,Qp,Qq,Qk,Qb,Qa,Q1,Qh,Q7,Q4,Q0,Q9,Q8,Q3,Q5,Qo,Qy,Qr,X5,X6,Qs,args0,X3,Xb,Xf,Xh,Xc,Xe,Xj,Xk,Xl,Xm,Xv,Xu,Qm,X7,Xn,Xd,Qi,Qj,Qw,Q2,Xr,zoi,zel,zta,zat,zgz,zgs,zlc,zln,Nat.reduceAdd,zza,znt,zcn,MV.int.injEq,kr0,kr1,kl0,kl1,kz0,v0,v2,v4,v5,v6]))
    refine at3 hp h3 fun nm' hnm' => ?_
    exact h _ _ .refl (.inr (.inr (.inl ⟨nm, lo, hi, nm', rfl, hnm, hnm', hlo, hhi, hm⟩)))
  (try dsimp only [kr0])
  refine Zm (seq ?_)
  ((try dsimp only [U3,Qx,Qu,Qn,Qv,Qg,Qf,Qz,X9,X8,X4,Xi,X2,Xa,X1,Qd,Qt,Qc,Qe,Ql,Xg,Q6,Qp,Qq,Qk,Qb,Qa,Q1,Qh,Q7,Q4,Q0,Q9,Q8,Q3,Q5,Qo,Qy,Qr,X5,X6,Qs,args0,X3,Xb,Xj,Xk,Xl,Xm,Qm,X7,Qi,Qj,Qw,Q2,zgz,zgs,zlc,zln,Nat.reduceAdd,kr0,kr1,kl0,kl1,kz0,v0,v2,v4,v5,v6]); (try simp (discharger := decide) only [U3,Qx,Qu,Qn,Qv,Qg,Qf,Qz,X9,X8,X4,Xi,X2,Xa,X1,Qd,Qt,Qc,Qe,Ql,Xg,Q6,Qp,Qq,Qk,Qb,Qa,Q1,Qh,Q7,Q4,Q0,Q9,Q8,Q3,Q5,Qo,Qy,Qr,X5,X6,Qs,args0,X3,Xb,Xf,Xh,Xc,Xe,Xj,Xk,Xl,Xm,Xv,Xu,Qm,X7,Xn,Xd,Qi,Qj,Qw,Q2,Xr,zoi,zel,zta,zat,zgz,zgs,zlc,zln,Nat.reduceAdd,zza,znt,zcn,MV.int.injEq,kr0,kr1,kl0,kl1,kz0,v0,v2,v4,v5,v6]))
  intro c hc hcf
  refine lit [1, 2, 1, 0, -1, n.fmod 2000000001 - 1000000000] (fm (b := 6) (by decide)).1 (fm (b := 6) (by decide)).2 (by simp) ?_
  have hs := B5 (l := [1, 2, 1, 0, -1, n.fmod 2000000001 - 1000000000]) (k := (n.fdiv 1920).fmod 6) (fm (b := 6) (by decide)).1 (fm (b := 6) (by decide)).2
  generalize sel [1, 2, 1, 0, -1, n.fmod 2000000001 - 1000000000] ((n.fdiv 1920).fmod 6) = w at hs ⊢
  have := fm (a := n) (b := 2000000001) (by decide)
  simp only [List.mem_cons, List.not_mem_nil, or_false] at hs
  have hb : -1000000000 ≤ n.fmod 2000000001 - 1000000000 ∧ n.fmod 2000000001 - 1000000000 ≤ 1000000000 := ⟨Int.sub_le_sub_right this.1 1000000000, Int.sub_le_sub_right (b := 2000000000) (Int.le_of_lt_add_one this.2) 1000000000⟩
  have hwb : -1000000000 ≤ w ∧ w ≤ 1000000000 := by
    rcases hs with e | e | e | e | e | e <;> rw [e]
    · decide
    · decide
    · decide
    · decide
    · decide
    · exact hb
  exact h _ _ (Ext.upd hc) (.inr (.inr (.inr ⟨nm, lo, hi, w, rfl, hnm, hlo, hhi, hm, hwb.1, hwb.2⟩)))
theorem O6 {d : Nat} {p : Addr} {fz : List Addr} {Q : MQ} {μ : MH} {names : List Str} {base n₀ number : Int} (hΓ : Γ "_law_entry" = some J9) (hd : 1 ≤ d) (hp : μ p = some (.list (names.map .str))) (h3 : names.length = 3)
    (hb : 0 ≤ base ∧ base ≤ 1000000) (hnum : 1 ≤ number ∧ number ≤ 1000) (h : ∀ e μ', Ext μ μ' → GoodE names number e → Q e μ') : calls G Γ d "_law_entry" [.ref p, .int base, .int n₀, .int number] fz Q X0 μ := by
  refine Z2 hΓ rfl hd (seq ?_)
  ((try dsimp only [Vm,Qx,Qu,Qn,Qv,Qg,Qf,Qz,X9,X8,X4,Xi,X2,Xa,X1,Qd,Qt,Qc,Qe,Ql,Xg,Q6,Qp,Qq,Qk,Qb,Qa,Q1,Qh,Q7,Q4,Q0,Q9,Q8,Q3,Q5,Qo,Qy,Qr,X5,X6,Qs,args0,X3,Xb,Xj,Xk,Xl,Xm,Qm,X7,Qi,Qj,Qw,Q2,zgz,zgs,zlc,zln,Nat.reduceAdd,kr0,kr1,kl0,kl1,kz0]); (try simp (discharger := decide) only [Vm,Qx,Qu,Qn,Qv,Qg,Qf,Qz,X9,X8,X4,Xi,X2,Xa,X1,Qd,Qt,Qc,Qe,Ql,Xg,Q6,Qp,Qq,Qk,Qb,Qa,Q1,Qh,Q7,Q4,Q0,Q9,Q8,Q3,Q5,Qo,Qy,Qr,X5,X6,Qs,args0,X3,Xb,Xf,Xh,Xc,Xe,Xj,Xk,Xl,Xm,Xv,Xu,Qm,X7,Xn,Xd,Qi,Qj,Qw,Q2,Xr,zoi,zel,zta,zat,zgz,zgs,zlc,zln,Nat.reduceAdd,zza,znt,zcn,MV.int.injEq,kr0,kr1,kl0,kl1,kz0]))
  have hnn := fm (a := n₀ * 48271) (b := 2147483647) (by decide)
  generalize (n₀ * 48271).fmod 2147483647 = n at hnn ⊢
  refine seq ?_
  ((try dsimp only [Vl,Qx,Qu,Qn,Qv,Qg,Qf,Qz,X9,X8,X4,Xi,X2,Xa,X1,Qd,Qt,Qc,Qe,Ql,Xg,Q6,Qp,Qq,Qk,Qb,Qa,Q1,Qh,Q7,Q4,Q0,Q9,Q8,Q3,Q5,Qo,Qy,Qr,X5,X6,Qs,args0,X3,Xb,Xj,Xk,Xl,Xm,Qm,X7,Qi,Qj,Qw,Q2,zgz,zgs,zlc,zln,Nat.reduceAdd,kr0,kr1,kl0,kl1,kz0]); (try simp (discharger := decide) only [Vl,Qx,Qu,Qn,Qv,Qg,Qf,Qz,X9,X8,X4,Xi,X2,Xa,X1,Qd,Qt,Qc,Qe,Ql,Xg,Q6,Qp,Qq,Qk,Qb,Qa,Q1,Qh,Q7,Q4,Q0,Q9,Q8,Q3,Q5,Qo,Qy,Qr,X5,X6,Qs,args0,X3,Xb,Xf,Xh,Xc,Xe,Xj,Xk,Xl,Xm,Xv,Xu,Qm,X7,Xn,Xd,Qi,Qj,Qw,Q2,Xr,zoi,zel,zta,zat,zgz,zgs,zlc,zln,Nat.reduceAdd,zza,znt,zcn,MV.int.injEq,kr0,kr1,kl0,kl1,kz0]))
  intro c hc hcf
  refine lit [10, 900000] (by split <;> exact Int.natCast_nonneg _) (by simp only [List.length_cons, List.length_nil]; split <;> exact Int.natCast_nonneg _) (by simp) ?_
  have hs : sel [10, 900000] (if ((n.fdiv 11520).fmod 5 == 1) = true then 1 else 0) = 10 ∨ sel [10, 900000] (if ((n.fdiv 11520).fmod 5 == 1) = true then 1 else 0) = 900000 := by split <;> simp [sel]
  generalize sel [10, 900000] (if ((n.fdiv 11520).fmod 5 == 1) = true then 1 else 0) = w at hs ⊢
  have hw : 0 < w := by rcases hs with e | e <;> rw [e] <;> decide
  rw [Xe hw]
  ((try dsimp only [Qx,Qu,Qn,Qv,Qg,Qf,Qz,X9,X8,X4,Xi,X2,Xa,X1,Qd,Qt,Qc,Qe,Ql,Xg,Q6,Qp,Qq,Qk,Qb,Qa,Q1,Qh,Q7,Q4,Q0,Q9,Q8,Q3,Q5,Qo,Qy,Qr,X5,X6,Qs,args0,X3,Xb,Xj,Xk,Xl,Xm,Qm,X7,Qi,Qj,Qw,Q2,zgz,zgs,zlc,zln,Nat.reduceAdd,kr0,kr1,kl0,kl1,kz0]); (try simp (discharger := decide) only [Qx,Qu,Qn,Qv,Qg,Qf,Qz,X9,X8,X4,Xi,X2,Xa,X1,Qd,Qt,Qc,Qe,Ql,Xg,Q6,Qp,Qq,Qk,Qb,Qa,Q1,Qh,Q7,Q4,Q0,Q9,Q8,Q3,Q5,Qo,Qy,Qr,X5,X6,Qs,args0,X3,Xb,Xf,Xh,Xc,Xe,Xj,Xk,Xl,Xm,Xv,Xu,Qm,X7,Xn,Xd,Qi,Qj,Qw,Q2,Xr,zoi,zel,zta,zat,zgz,zgs,zlc,zln,Nat.reduceAdd,zza,znt,zcn,MV.int.injEq,kr0,kr1,kl0,kl1,kz0]))
  have hlo : 0 ≤ min 1000000 (base + (n.fdiv 24).fmod w) ∧ min 1000000 (base + (n.fdiv 24).fmod w) ≤ 1000000 := by
    exact ⟨Int.le_min.mpr ⟨by decide, Int.add_nonneg hb.1 (fm (a := n.fdiv 24) hw).1⟩, Int.min_le_left _ _⟩
  generalize min 1000000 (base + (n.fdiv 24).fmod w) = lo at hlo ⊢
  refine seq ?_
  ((try dsimp only [Vk,Qx,Qu,Qn,Qv,Qg,Qf,Qz,X9,X8,X4,Xi,X2,Xa,X1,Qd,Qt,Qc,Qe,Ql,Xg,Q6,Qp,Qq,Qk,Qb,Qa,Q1,Qh,Q7,Q4,Q0,Q9,Q8,Q3,Q5,Qo,Qy,Qr,X5,X6,Qs,args0,X3,Xb,Xj,Xk,Xl,Xm,Qm,X7,Qi,Qj,Qw,Q2,zgz,zgs,zlc,zln,Nat.reduceAdd,kr0,kr1,kl0,kl1,kz0]); (try simp (discharger := decide) only [Vk,Qx,Qu,Qn,Qv,Qg,Qf,Qz,X9,X8,X4,Xi,X2,Xa,X1,Qd,Qt,Qc,Qe,Ql,Xg,Q6,Qp,Qq,Qk,Qb,Qa,Q1,Qh,Q7,Q4,Q0,Q9,Q8,Q3,Q5,Qo,Qy,Qr,X5,X6,Qs,args0,X3,Xb,Xf,Xh,Xc,Xe,Xj,Xk,Xl,Xm,Xv,Xu,Qm,X7,Xn,Xd,Qi,Qj,Qw,Q2,Xr,zoi,zel,zta,zat,zgz,zgs,zlc,zln,Nat.reduceAdd,zza,znt,zcn,MV.int.injEq,kr0,kr1,kl0,kl1,kz0]))
  intro c₂ hc₂ hcf₂
  refine lit [0, 1, 3, 9, 35, 700, 1000000, 9] (fm (b := 8) (by decide)).1 (fm (b := 8) (by decide)).2 (by simp) ?_
  have hs2 := B5 (l := [0, 1, 3, 9, 35, 700, 1000000, 9]) (k := (n.fdiv 240).fmod 8) (fm (b := 8) (by decide)).1 (fm (b := 8) (by decide)).2
  generalize sel [0, 1, 3, 9, 35, 700, 1000000, 9] ((n.fdiv 240).fmod 8) = w2 at hs2 ⊢
  have hw2 : 0 ≤ w2 := of_decide_eq_true (all_of (P := fun y => decide (0 ≤ y)) hs2 rfl)
  ((try dsimp only [Qx,Qu,Qn,Qv,Qg,Qf,Qz,X9,X8,X4,Xi,X2,Xa,X1,Qd,Qt,Qc,Qe,Ql,Xg,Q6,Qp,Qq,Qk,Qb,Qa,Q1,Qh,Q7,Q4,Q0,Q9,Q8,Q3,Q5,Qo,Qy,Qr,X5,X6,Qs,args0,X3,Xb,Xj,Xk,Xl,Xm,Qm,X7,Qi,Qj,Qw,Q2,zgz,zgs,zlc,zln,Nat.reduceAdd,kr0,kr1,kl0,kl1,kz0]); (try simp (discharger := decide) only [Qx,Qu,Qn,Qv,Qg,Qf,Qz,X9,X8,X4,Xi,X2,Xa,X1,Qd,Qt,Qc,Qe,Ql,Xg,Q6,Qp,Qq,Qk,Qb,Qa,Q1,Qh,Q7,Q4,Q0,Q9,Q8,Q3,Q5,Qo,Qy,Qr,X5,X6,Qs,args0,X3,Xb,Xf,Xh,Xc,Xe,Xj,Xk,Xl,Xm,Xv,Xu,Qm,X7,Xn,Xd,Qi,Qj,Qw,Q2,Xr,zoi,zel,zta,zat,zgz,zgs,zlc,zln,Nat.reduceAdd,zza,znt,zcn,MV.int.injEq,kr0,kr1,kl0,kl1,kz0]))
  have hhi : lo ≤ min 1000000 (lo + w2) ∧ min 1000000 (lo + w2) ≤ 1000000 := ⟨Int.le_min.mpr ⟨hlo.2, Int.le_add_of_nonneg_right hw2⟩, Int.min_le_left _ _⟩
  generalize min 1000000 (lo + w2) = hi at hhi ⊢
  refine gen ((Ext.upd hc).trans (Ext.upd hc₂)) fun μ₂ x2 => ?_
  have hp₂ := x2 _ _ hp
  refine seq ?_
  ((try dsimp only [Vj,Qx,Qu,Qn,Qv,Qg,Qf,Qz,X9,X8,X4,Xi,X2,Xa,X1,Qd,Qt,Qc,Qe,Ql,Xg,Q6,Qp,Qq,Qk,Qb,Qa,Q1,Qh,Q7,Q4,Q0,Q9,Q8,Q3,Q5,Qo,Qy,Qr,X5,X6,Qs,args0,X3,Xb,Xj,Xk,Xl,Xm,Qm,X7,Qi,Qj,Qw,Q2,zgz,zgs,zlc,zln,Nat.reduceAdd,kr0,kr1,kl0,kl1,kz0]); (try simp (discharger := decide) only [Vj,Qx,Qu,Qn,Qv,Qg,Qf,Qz,X9,X8,X4,Xi,X2,Xa,X1,Qd,Qt,Qc,Qe,Ql,Xg,Q6,Qp,Qq,Qk,Qb,Qa,Q1,Qh,Q7,Q4,Q0,Q9,Q8,Q3,Q5,Qo,Qy,Qr,X5,X6,Qs,args0,X3,Xb,Xf,Xh,Xc,Xe,Xj,Xk,Xl,Xm,Xv,Xu,Qm,X7,Xn,Xd,Qi,Qj,Qw,Q2,Xr,zoi,zel,zta,zat,zgz,zgs,zlc,zln,Nat.reduceAdd,zza,znt,zcn,MV.int.injEq,kr0,kr1,kl0,kl1,kz0]))
  refine at3 hp₂ h3 fun nm hnm => ?_
  refine seq ?_
  ((try dsimp only [Vi,Qx,Qu,Qn,Qv,Qg,Qf,Qz,X9,X8,X4,Xi,X2,Xa,X1,Qd,Qt,Qc,Qe,Ql,Xg,Q6,Qp,Qq,Qk,Qb,Qa,Q1,Qh,Q7,Q4,Q0,Q9,Q8,Q3,Q5,Qo,Qy,Qr,X5,X6,Qs,args0,X3,Xb,Xj,Xk,Xl,Xm,Qm,X7,Qi,Qj,Qw,Q2,zgz,zgs,zlc,zln,Nat.reduceAdd,kr0,kr1,kl0,kl1,kz0]); (try simp (discharger := decide) only [Vi,Qx,Qu,Qn,Qv,Qg,Qf,Qz,X9,X8,X4,Xi,X2,Xa,X1,Qd,Qt,Qc,Qe,Ql,Xg,Q6,Qp,Qq,Qk,Qb,Qa,Q1,Qh,Q7,Q4,Q0,Q9,Q8,Q3,Q5,Qo,Qy,Qr,X5,X6,Qs,args0,X3,Xb,Xf,Xh,Xc,Xe,Xj,Xk,Xl,Xm,Xv,Xu,Qm,X7,Xn,Xd,Qi,Qj,Qw,Q2,Xr,zoi,zel,zta,zat,zgz,zgs,zlc,zln,Nat.reduceAdd,zza,znt,zcn,MV.int.injEq,kr0,kr1,kl0,kl1,kz0]))
  have rest := entry_tail (G := G) (Φ := calls G Γ (d - 1)) (fz := fz) (Q := Q) (n := n) (number := number) (V := (setv (setv (setv (setv (args0 [MV.ref p, MV.int base, MV.int n₀, MV.int number]) 2 (MV.int n)) 4 (MV.int lo)) 5 (MV.int hi)) 6 (MV.str nm))) hp₂ h3 hnm hlo.1 hhi.1 hhi.2 rfl rfl rfl rfl rfl (fun e μ' x g => h e μ' (x2.trans x) g)
  split
  · split
    · rename_i hgt
      simp only [decide_eq_true_eq] at hgt
      refine seq ?_
      ((try dsimp only [Uk,Qx,Qu,Qn,Qv,Qg,Qf,Qz,X9,X8,X4,Xi,X2,Xa,X1,Qd,Qt,Qc,Qe,Ql,Xg,Q6,Qp,Qq,Qk,Qb,Qa,Q1,Qh,Q7,Q4,Q0,Q9,Q8,Q3,Q5,Qo,Qy,Qr,X5,X6,Qs,args0,X3,Xb,Xj,Xk,Xl,Xm,Qm,X7,Qi,Qj,Qw,Q2,zgz,zgs,zlc,zln,Nat.reduceAdd,kr0,kr1,kl0,kl1,kz0]); (try simp (discharger := decide) only [Uk,Qx,Qu,Qn,Qv,Qg,Qf,Qz,X9,X8,X4,Xi,X2,Xa,X1,Qd,Qt,Qc,Qe,Ql,Xg,Q6,Qp,Qq,Qk,Qb,Qa,Q1,Qh,Q7,Q4,Q0,Q9,Q8,Q3,Q5,Qo,Qy,Qr,X5,X6,Qs,args0,X3,Xb,Xf,Xh,Xc,Xe,Xj,Xk,Xl,Xm,Xv,Xu,Qm,X7,Xn,Xd,Qi,Qj,Qw,Q2,Xr,zoi,zel,zta,zat,zgz,zgs,zlc,zln,Nat.reduceAdd,zza,znt,zcn,MV.int.injEq,kr0,kr1,kl0,kl1,kz0]))
      rw [Xe (by first|exact dn hd rfl|exact dl hd rfl|simp [*])]
      ((try dsimp only [Qx,Qu,Qn,Qv,Qg,Qf,Qz,X9,X8,X4,Xi,X2,Xa,X1,Qd,Qt,Qc,Qe,Ql,Xg,Q6,Qp,Qq,Qk,Qb,Qa,Q1,Qh,Q7,Q4,Q0,Q9,Q8,Q3,Q5,Qo,Qy,Qr,X5,X6,Qs,args0,X3,Xb,Xj,Xk,Xl,Xm,Qm,X7,Qi,Qj,Qw,Q2,zgz,zgs,zlc,zln,Nat.reduceAdd,kr0,kr1,kl0,kl1,kz0]); (try simp (discharger := decide) only [Qx,Qu,Qn,Qv,Qg,Qf,Qz,X9,X8,X4,Xi,X2,Xa,X1,Qd,Qt,Qc,Qe,Ql,Xg,Q6,Qp,Qq,Qk,Qb,Qa,Q1,Qh,Q7,Q4,Q0,Q9,Q8,Q3,Q5,Qo,Qy,Qr,X5,X6,Qs,args0,X3,Xb,Xf,Xh,Xc,Xe,Xj,Xk,Xl,Xm,Xv,Xu,Qm,X7,Xn,Xd,Qi,Qj,Qw,Q2,Xr,zoi,zel,zta,zat,zgz,zgs,zlc,zln,Nat.reduceAdd,zza,znt,zcn,MV.int.injEq,kr0,kr1,kl0,kl1,kz0]))
      have := fm (a := n.fdiv 8) (b := number - 1) (by first|exact dn hd rfl|exact dl hd rfl|simp [*])
      exact h _ _ x2 (.inl ⟨_, rfl, by omega, by omega⟩)
    · exact Zm rest
  · exact Zm rest
end Mine
end
section
namespace Mine
open PySem
variable {G : String → Option MV} {Γ : String → Option MFun}
noncomputable def Low (s : Str) : Prop := ∀ c ∈ s.cps.toList, 97 ≤ c ∧ c ≤ 122
theorem Low.ok {s : Str} (h : Low s) : PyData.strOk s = true := by
  unfold PyData.strOk
  rw [Array.all_eq_true']
  intro c hc
  have := h c (Array.mem_toList_iff.mpr hc)
  simp only [decide_eq_true_eq]; lia
theorem C8 (x y : Str) : (x ++ y).cps.toList = x.cps.toList ++ y.cps.toList := by
  show (Str.append x y).cps.toList = _
  simp [Str.append]
theorem Ot (x : Str) : x.length = x.cps.toList.length := by simp [Str.length]
theorem J5 (x y : Str) : (x ++ y).length = x.length + y.length := by simp only [Ot, C8, List.length_append]
theorem Low.append {x y : Str} (hx : Low x) (hy : Low y) : Low (x ++ y) := fun c hc => by
  rw [C8] at hc
  rcases List.mem_append.mp hc with h | h
  · exact hx c h
  · exact hy c h
theorem e0 : (S "").cps.toList = [] := by decide +kernel
theorem Low.join {ss : List Str} (h : ∀ s ∈ ss, Low s) : Low (Txt.join (S "") ss) := by
  have e : Txt.join (S "") ss = Str.join (S "") ss := StrLaws.glued_eq_join _ _
  rw [e]
  clear e
  induction ss with
  | nil => intro c hc; simp [Str.join, Str.empty] at hc
  | cons x ss ih =>
    cases ss with
    | nil => exact h x (.head _)
    | cons y ss => exact ((h x (.head _)).append (by intro c hc; rw [e0] at hc; cases hc)).append (ih fun s hs => h s (.tail _ hs))
theorem len_join {ss : List Str} (h : ∀ s ∈ ss, s.length = 1) : (Txt.join (S "") ss).length = ss.length := by
  have e : Txt.join (S "") ss = Str.join (S "") ss := StrLaws.glued_eq_join _ _
  rw [e]
  clear e
  induction ss with
  | nil => rfl
  | cons x ss ih =>
    cases ss with
    | nil => exact h x (.head _)
    | cons y ss =>
      show (x ++ S "" ++ Str.join _ (y :: ss)).length = _
      rw [J5, J5, h x (.head _), ih fun s hs => h s (.tail _ hs)]
      simp only [List.length_cons]
      have : (S "").length = 0 := by decide
      lia
noncomputable def AB : Str := S "abcdefghijklmnopqrstuvwxy"
theorem AB_len : AB.length = 25 := by decide +kernel
theorem AB_low : Low AB := by unfold Low; decide +kernel
noncomputable def signS (k : Int) : Str := ⟨#[AB.cps.toList.getD k.toNat 0]⟩
theorem sign_get {k : Int} (h0 : 0 ≤ k) (h1 : k < 25) : AB.cps.toList[k.toNat]? = some (AB.cps.toList.getD k.toNat 0) := by
  have hk : k.toNat < AB.cps.toList.length := by rw [← Ot, AB_len]; exact (Int.toNat_lt h0).mpr h1
  rw [List.getD_eq_getElem?_getD, List.getElem?_eq_getElem hk]; rfl
theorem sign_AB {μ : MH} {k : Int} (h0 : 0 ≤ k) (h1 : k < 25) : idxM μ (.str AB) (.int k) = some (.str (signS k)) := by
  rw [i_str (by rw [AB_len]; decide), Ny h0, sign_get h0 h1]; rfl
theorem sign_low {k : Int} (h0 : 0 ≤ k) (h1 : k < 25) : Low (signS k) := fun c hc => by
  obtain rfl : c = AB.cps.toList.getD k.toNat 0 := by simpa [signS] using hc
  exact AB_low _ (List.mem_of_getElem? (sign_get h0 h1))
theorem Ox {Z : Type} {fz : List Addr} {t : MT} {vars : MVars} {T : MVars → (Bool → MH → Prop) → MH → Prop} {Bd : MVars → MQ → MH → Prop} {Q : MQ} {μ : MH} (enc : Z → MV) (p : Z → Bool) (g : Z → MV) {zs : List Z} : ∀ {acc : List MV},
    (∀ z ∈ zs, ∃ vars', bindT t (enc z) vars = some vars' ∧ (∀ F : Bool → MH → Prop, F (p z) μ → T vars' F μ) ∧ ∀ F : MQ, F (g z) μ → Bd vars' F μ) →
    (∀ c, μ c = none → c ∉ fz → Q (.ref c) (upd μ c (.list (acc ++ (zs.filter p).map g)))) → compM fz t vars T Bd Q (zs.map enc) acc μ := by
  induction zs with
  | nil =>
    intro acc _ h c hc hcz
    have := h c hc hcz
    rw [List.filter_nil, List.map_nil, List.append_nil] at this
    exact this
  | cons z zs ih =>
    intro acc hv h
    obtain ⟨vars', hb, hT, hB⟩ := hv z (.head _)
    refine ⟨vars', hb, hT _ ?_⟩
    cases q : p z with
    | false =>
      rw [if_neg Bool.false_ne_true]
      rw [List.filter_cons_of_neg (by rw [q]; decide)] at h
      exact ih (fun u hu => hv u (.tail _ hu)) h
    | true =>
      rw [if_pos rfl]
      rw [List.filter_cons_of_pos q, List.map_cons] at h
      exact hB _ (ih (fun u hu => hv u (.tail _ hu)) fun c hc hcz => by rw [List.append_assoc]; exact h c hc hcz)
theorem P7 : ∀ (ss : List Str), strsOf (ss.map .str) = some ss
  | [] => rfl
  | s :: ss => by
    have := P7 ss
    unfold strsOf at this ⊢
    rw [List.map_cons, List.mapM_cons, this]; rfl
theorem Low.take {x : Str} (h : Low x) (n : Nat) : Low ⟨(x.cps.toList.take n).toArray⟩ := fun c hc => h c (List.mem_of_mem_take (by simpa using hc))
theorem Low.drop {x : Str} (h : Low x) (n : Nat) : Low ⟨(x.cps.toList.drop n).toArray⟩ := fun c hc => h c (List.mem_of_mem_drop (by simpa using hc))
theorem Low.rev {x : Str} (h : Low x) : Low ⟨x.cps.toList.reverse.toArray⟩ := fun c hc => h c (by simpa using hc)
theorem z_len : (Str.ofString "z").length = 1 := by decide +kernel
theorem z_low : Low (S "z") := by unfold Low; decide +kernel
structure NV (cell : Int) (c : Addr) (V : MVars) : Prop where
  v0 : V 0 = some (.int cell)
  v2 : V 2 = some (.str AB)
  v3 : V 3 = some (.ref c)
theorem NV.set {cell : Int} {c : Addr} {V : MVars} (x : NV cell c V) {i : Nat} (h : 4 ≤ i) (v : MV) : NV cell c (setv V i v) :=
  ⟨(Xd (by first | exact nei h rfl | decide)).trans x.v0, (Xd (by first | exact nei h rfl | decide)).trans x.v2, (Xd (by first | exact nei h rfl | decide)).trans x.v3⟩
noncomputable def wordL (more : Int) : List Str := (rangeL 0 (more.fmod 7) 1).map fun j => signS ((more.fdiv 7 + 6 * j).fmod 25)
noncomputable def wordF (more : Int) : Str := Txt.join (S "") (wordL more)
noncomputable def moreF (cell k : Int) : Int := cell.fdiv 2 + k * 48271 * cell.fmod 2
noncomputable def putF (word : Str) (pl : Nat) (y : Str) : Str := { cps := (word.cps.toList.take pl).toArray } ++ S "z" ++ y ++ { cps := (word.cps.toList.drop pl).toArray }
noncomputable def nameF (cell k : Int) : Str := putF (wordF (moreF cell k)) (((moreF cell k).fdiv 175).fmod ((wordF (moreF cell k)).length + 1)).toNat (signS k)
theorem word_signs {more : Int} : ∀ s ∈ wordL more, Low s ∧ s.length = 1 := fun s hs => by
  obtain ⟨j, _, rfl⟩ := List.mem_map.mp hs
  exact ⟨sign_low (fm (by decide)).1 (fm (by decide)).2, rfl⟩
theorem word_len (more : Int) : (wordL more).length ≤ 6 := by
  unfold wordL
  rw [List.length_map, Zy]
  have := fm (a := more) (b := 7) (by decide)
  lia
set_option maxHeartbeats 4000000 in
theorem Pd {Φ : CallSpec} {fz : List Addr} {μ₀ μ : MH} {cell k : Int} {c : Addr} {V : MVars} {names : List Str} {R : MFlow → MVars → MH → Prop} (x : NV cell c V) (v4 : V 4 = some (.int k)) (hk : 0 ≤ k ∧ k < 25) (hc0 : μ₀ c = none) (hcf : c ∉ fz)
    (hx : Ext μ₀ μ) (hc : μ c = some (.list (names.map .str))) (hn : names.length ≤ 100) (h : ∀ μ' V', GoodN (nameF cell k) → NV cell c V' → Ext μ₀ μ' → μ' c = some (.list ((names ++ [nameF cell k]).map .str)) → R .next V' μ') :
    exs G Φ X0 [Jn, Jm, Zx, Zw] fz V R μ := by
  refine seq ?_
  ((try dsimp only [Jn,Qx,Qu,Qn,Qv,Qg,Qf,Qz,X9,X8,X4,Xi,X2,Xa,X1,Qd,Qt,Qc,Qe,Ql,Xg,Q6,Qp,Qq,Qk,Qb,Qa,Q1,Qh,Q7,Q4,Q0,Q9,Q8,Q3,Q5,Qo,Qy,Qr,X5,X6,Qs,args0,X3,Xb,Xj,Xk,Xl,Xm,Qm,X7,Qi,Qj,Qw,Q2,zgz,zgs,zlc,zln,Nat.reduceAdd,kr0,kr1,kl0,kl1,kz0,x.v0,x.v2,x.v3,v4]); (try simp (discharger := decide) only [Jn,Qx,Qu,Qn,Qv,Qg,Qf,Qz,X9,X8,X4,Xi,X2,Xa,X1,Qd,Qt,Qc,Qe,Ql,Xg,Q6,Qp,Qq,Qk,Qb,Qa,Q1,Qh,Q7,Q4,Q0,Q9,Q8,Q3,Q5,Qo,Qy,Qr,X5,X6,Qs,args0,X3,Xb,Xf,Xh,Xc,Xe,Xj,Xk,Xl,Xm,Xv,Xu,Qm,X7,Xn,Xd,Qi,Qj,Qw,Q2,Xr,zoi,zel,zta,zat,zgz,zgs,zlc,zln,Nat.reduceAdd,zza,znt,zcn,MV.int.injEq,kr0,kr1,kl0,kl1,kz0,x.v0,x.v2,x.v3,v4]))
  have hc2 := fm (a := cell) (b := 2) (by decide)
  rw [Xf (by first|exact dn hd rfl|exact dl hd rfl|omega)]
  ((try dsimp only [Qx,Qu,Qn,Qv,Qg,Qf,Qz,X9,X8,X4,Xi,X2,Xa,X1,Qd,Qt,Qc,Qe,Ql,Xg,Q6,Qp,Qq,Qk,Qb,Qa,Q1,Qh,Q7,Q4,Q0,Q9,Q8,Q3,Q5,Qo,Qy,Qr,X5,X6,Qs,args0,X3,Xb,Xj,Xk,Xl,Xm,Qm,X7,Qi,Qj,Qw,Q2,zgz,zgs,zlc,zln,Nat.reduceAdd,kr0,kr1,kl0,kl1,kz0]); (try simp (discharger := decide) only [Qx,Qu,Qn,Qv,Qg,Qf,Qz,X9,X8,X4,Xi,X2,Xa,X1,Qd,Qt,Qc,Qe,Ql,Xg,Q6,Qp,Qq,Qk,Qb,Qa,Q1,Qh,Q7,Q4,Q0,Q9,Q8,Q3,Q5,Qo,Qy,Qr,X5,X6,Qs,args0,X3,Xb,Xf,Xh,Xc,Xe,Xj,Xk,Xl,Xm,Xv,Xu,Qm,X7,Xn,Xd,Qi,Qj,Qw,Q2,Xr,zoi,zel,zta,zat,zgz,zgs,zlc,zln,Nat.reduceAdd,zza,znt,zcn,MV.int.injEq,kr0,kr1,kl0,kl1,kz0]))
  unfold nameF at h
  replace h : ∀ μ' V', GoodN (putF (wordF (cell.fdiv 2 + k * 48271 * cell.fmod 2)) (((cell.fdiv 2 + k * 48271 * cell.fmod 2).fdiv 175).fmod ((wordF (cell.fdiv 2 + k * 48271 * cell.fmod 2)).length + 1)).toNat (signS k)) → NV cell c V' → Ext μ₀ μ' → μ' c = some (.list ((names ++ [putF (wordF (cell.fdiv 2 + k * 48271 * cell.fmod 2)) (((cell.fdiv 2 + k * 48271 * cell.fmod 2).fdiv 175).fmod ((wordF (cell.fdiv 2 + k * 48271 * cell.fmod 2)).length + 1)).toNat (signS k)]).map .str)) → R .next V' μ' := h
  generalize cell.fdiv 2 + k * 48271 * cell.fmod 2 = more at h ⊢
  replace x := x.set (i := 5) (by decide) (.int more)
  have v4' : setv V 5 (.int more) 4 = some (.int k) := (Xd (by first | exact nei h rfl | decide)).trans v4
  have v5 : setv V 5 (.int more) 5 = some (.int more) := Xn
  generalize setv V 5 (.int more) = V at x v4' v5
  refine seq ?_
  have hm7 := fm (a := more) (b := 7) (by decide)
  ((try dsimp only [Jm,Qx,Qu,Qn,Qv,Qg,Qf,Qz,X9,X8,X4,Xi,X2,Xa,X1,Qd,Qt,Qc,Qe,Ql,Xg,Q6,Qp,Qq,Qk,Qb,Qa,Q1,Qh,Q7,Q4,Q0,Q9,Q8,Q3,Q5,Qo,Qy,Qr,X5,X6,Qs,args0,X3,Xb,Xj,Xk,Xl,Xm,Qm,X7,Qi,Qj,Qw,Q2,zgz,zgs,zlc,zln,Nat.reduceAdd,kr0,kr1,kl0,kl1,kz0,x.v0,x.v2,x.v3,v5]); (try simp (discharger := decide) only [Jm,Qx,Qu,Qn,Qv,Qg,Qf,Qz,X9,X8,X4,Xi,X2,Xa,X1,Qd,Qt,Qc,Qe,Ql,Xg,Q6,Qp,Qq,Qk,Qb,Qa,Q1,Qh,Q7,Q4,Q0,Q9,Q8,Q3,Q5,Qo,Qy,Qr,X5,X6,Qs,args0,X3,Xb,Xf,Xh,Xc,Xe,Xj,Xk,Xl,Xm,Xv,Xu,Qm,X7,Xn,Xd,Qi,Qj,Qw,Q2,Xr,zoi,zel,zta,zat,zgz,zgs,zlc,zln,Nat.reduceAdd,zza,znt,zcn,MV.int.injEq,kr0,kr1,kl0,kl1,kz0,x.v0,x.v2,x.v3,v5]))
  refine ⟨rfl, .ints (rangeL 0 (more.fmod 7) 1), _, ?_, rfl, ?_, ?_⟩
  · simp only [mkSrc, rangeM]
    rw [if_pos (by simp only [in62, Bool.and_eq_true, decide_eq_true_eq]; omega)]; rfl
  · rw [List.length_map, Zy]; exact fit (by first|exact dn hd rfl|exact dl hd rfl|lia)
  refine Ox MV.int (fun _ => true) (fun j => .str (signS ((more.fdiv 7 + 6 * j).fmod 25))) (fun j _ => ⟨_, rfl, fun F hF => hF, fun F hF => ?_⟩) fun c₂ hc₂ hcf₂ => ?_
  · ((try dsimp only [Qx,Qu,Qn,Qv,Qg,Qf,Qz,X9,X8,X4,Xi,X2,Xa,X1,Qd,Qt,Qc,Qe,Ql,Xg,Q6,Qp,Qq,Qk,Qb,Qa,Q1,Qh,Q7,Q4,Q0,Q9,Q8,Q3,Q5,Qo,Qy,Qr,X5,X6,Qs,args0,X3,Xb,Xj,Xk,Xl,Xm,Qm,X7,Qi,Qj,Qw,Q2,zgz,zgs,zlc,zln,Nat.reduceAdd,kr0,kr1,kl0,kl1,kz0,x.v0,x.v2,x.v3,v5]); (try simp (discharger := decide) only [Qx,Qu,Qn,Qv,Qg,Qf,Qz,X9,X8,X4,Xi,X2,Xa,X1,Qd,Qt,Qc,Qe,Ql,Xg,Q6,Qp,Qq,Qk,Qb,Qa,Q1,Qh,Q7,Q4,Q0,Q9,Q8,Q3,Q5,Qo,Qy,Qr,X5,X6,Qs,args0,X3,Xb,Xf,Xh,Xc,Xe,Xj,Xk,Xl,Xm,Xv,Xu,Qm,X7,Xn,Xd,Qi,Qj,Qw,Q2,Xr,zoi,zel,zta,zat,zgz,zgs,zlc,zln,Nat.reduceAdd,zza,znt,zcn,MV.int.injEq,kr0,kr1,kl0,kl1,kz0,x.v0,x.v2,x.v3,v5]))
    exact ⟨_, sign_AB (fm (by decide)).1 (fm (by decide)).2, hF⟩
  have hss := word_signs (more := more)
  have hsl := word_len more
  have hwd : wordF more = Txt.join (S "") (wordL more) := rfl
  rw [hwd] at h
  have hcl : ([] ++ ((rangeL 0 (more.fmod 7) 1).filter fun _ => true).map fun j => MV.str (signS ((more.fdiv 7 + 6 * j).fmod 25))) = (wordL more).map .str := by
    rw [List.nil_append, List.filter_eq_self.mpr fun _ _ => rfl]
    unfold wordL
    rw [List.map_map]; rfl
  rw [hcl]
  generalize wordL more = ss at hss hsl h ⊢
  have hsum : (ss.map (·.length)).sum = ss.length := by
    clear hsl h hcl hwd
    induction ss with
    | nil => rfl
    | cons s ss ih => simp only [List.map_cons, List.sum_cons, List.length_cons, (hss s (.head _)).2, ih fun s hs => hss s (.tail _ hs)]; lia
  refine ⟨ss.map .str, ss, K5 Yh, P7 ss, by decide, by lia, ?_⟩
  have hwl : Low (Txt.join (S "") ss) := Low.join fun s hs => (hss s hs).1
  have hwn : (Txt.join (S "") ss).length = ss.length := len_join fun s hs => (hss s hs).2
  generalize Txt.join (S "") ss = word at hwl hwn h ⊢
  have hcc : c ≠ c₂ := Yi hc hc₂
  have hx' : Ext μ₀ (upd μ c₂ (.list (ss.map .str))) := hx.trans (Ext.upd hc₂)
  have hc' : upd μ c₂ (.list (ss.map .str)) c = some (.list (names.map .str)) := by rw [Yk hcc]; exact hc
  replace x := x.set (i := 6) (by decide) (.str word)
  have w4 : setv V 6 (.str word) 4 = some (.int k) := (Xd (by first | exact nei h rfl | decide)).trans v4'
  have w5 : setv V 6 (.str word) 5 = some (.int more) := (Xd (by first | exact nei h rfl | decide)).trans v5
  have w6 : setv V 6 (.str word) 6 = some (.str word) := Xn
  show exs G Φ X0 [Zx, Zw] fz (setv V 6 (.str word)) R _
  generalize setv V 6 (.str word) = V at x w4 w5 w6 ⊢
  generalize upd μ c₂ (.list (ss.map .str)) = μ at hx' hc' ⊢
  refine seq ?_
  ((try dsimp only [Zx,Qx,Qu,Qn,Qv,Qg,Qf,Qz,X9,X8,X4,Xi,X2,Xa,X1,Qd,Qt,Qc,Qe,Ql,Xg,Q6,Qp,Qq,Qk,Qb,Qa,Q1,Qh,Q7,Q4,Q0,Q9,Q8,Q3,Q5,Qo,Qy,Qr,X5,X6,Qs,args0,X3,Xb,Xj,Xk,Xl,Xm,Qm,X7,Qi,Qj,Qw,Q2,zgz,zgs,zlc,zln,Nat.reduceAdd,kr0,kr1,kl0,kl1,kz0,w5,w6]); (try simp (discharger := decide) only [Zx,Qx,Qu,Qn,Qv,Qg,Qf,Qz,X9,X8,X4,Xi,X2,Xa,X1,Qd,Qt,Qc,Qe,Ql,Xg,Q6,Qp,Qq,Qk,Qb,Qa,Q1,Qh,Q7,Q4,Q0,Q9,Q8,Q3,Q5,Qo,Qy,Qr,X5,X6,Qs,args0,X3,Xb,Xf,Xh,Xc,Xe,Xj,Xk,Xl,Xm,Xv,Xu,Qm,X7,Xn,Xd,Qi,Qj,Qw,Q2,Xr,zoi,zel,zta,zat,zgz,zgs,zlc,zln,Nat.reduceAdd,zza,znt,zcn,MV.int.injEq,kr0,kr1,kl0,kl1,kz0,w5,w6]))
  rw [bi_len_str]
  refine ⟨fit (by first|exact dn hd rfl|exact dl hd rfl|lia), ?_⟩
  ((try dsimp only [Qx,Qu,Qn,Qv,Qg,Qf,Qz,X9,X8,X4,Xi,X2,Xa,X1,Qd,Qt,Qc,Qe,Ql,Xg,Q6,Qp,Qq,Qk,Qb,Qa,Q1,Qh,Q7,Q4,Q0,Q9,Q8,Q3,Q5,Qo,Qy,Qr,X5,X6,Qs,args0,X3,Xb,Xj,Xk,Xl,Xm,Qm,X7,Qi,Qj,Qw,Q2,zgz,zgs,zlc,zln,Nat.reduceAdd,kr0,kr1,kl0,kl1,kz0]); (try simp (discharger := decide) only [Qx,Qu,Qn,Qv,Qg,Qf,Qz,X9,X8,X4,Xi,X2,Xa,X1,Qd,Qt,Qc,Qe,Ql,Xg,Q6,Qp,Qq,Qk,Qb,Qa,Q1,Qh,Q7,Q4,Q0,Q9,Q8,Q3,Q5,Qo,Qy,Qr,X5,X6,Qs,args0,X3,Xb,Xf,Xh,Xc,Xe,Xj,Xk,Xl,Xm,Xv,Xu,Qm,X7,Xn,Xd,Qi,Qj,Qw,Q2,Xr,zoi,zel,zta,zat,zgz,zgs,zlc,zln,Nat.reduceAdd,zza,znt,zcn,MV.int.injEq,kr0,kr1,kl0,kl1,kz0]))
  rw [Xe (by first|exact dn hd rfl|exact dl hd rfl|simp)]
  have hat := fm (a := more.fdiv 175) (b := (word.length : Int) + 1) (by first|exact dn hd rfl|exact dl hd rfl|simp)
  generalize (more.fdiv 175).fmod ((word.length : Int) + 1) = pl at hat h ⊢
  replace x := x.set (i := 7) (by decide) (.int pl)
  have u4 : setv V 7 (.int pl) 4 = some (.int k) := (Xd (by first | exact nei h rfl | decide)).trans w4
  have u6 : setv V 7 (.int pl) 6 = some (.str word) := (Xd (by first | exact nei h rfl | decide)).trans w6
  have u7 : setv V 7 (.int pl) 7 = some (.int pl) := Xn
  generalize setv V 7 (.int pl) = V at x u4 u6 u7 ⊢
  refine seq ?_
  ((try dsimp only [Zw,Qx,Qu,Qn,Qv,Qg,Qf,Qz,X9,X8,X4,Xi,X2,Xa,X1,Qd,Qt,Qc,Qe,Ql,Xg,Q6,Qp,Qq,Qk,Qb,Qa,Q1,Qh,Q7,Q4,Q0,Q9,Q8,Q3,Q5,Qo,Qy,Qr,X5,X6,Qs,args0,X3,Xb,Xj,Xk,Xl,Xm,Qm,X7,Qi,Qj,Qw,Q2,zgz,zgs,zlc,zln,Nat.reduceAdd,kr0,kr1,kl0,kl1,kz0,x.v3,x.v2,u4,u6,u7]); (try simp (discharger := decide) only [Zw,Qx,Qu,Qn,Qv,Qg,Qf,Qz,X9,X8,X4,Xi,X2,Xa,X1,Qd,Qt,Qc,Qe,Ql,Xg,Q6,Qp,Qq,Qk,Qb,Qa,Q1,Qh,Q7,Q4,Q0,Q9,Q8,Q3,Q5,Qo,Qy,Qr,X5,X6,Qs,args0,X3,Xb,Xf,Xh,Xc,Xe,Xj,Xk,Xl,Xm,Xv,Xu,Qm,X7,Xn,Xd,Qi,Qj,Qw,Q2,Xr,zoi,zel,zta,zat,zgz,zgs,zlc,zln,Nat.reduceAdd,zza,znt,zcn,MV.int.injEq,kr0,kr1,kl0,kl1,kz0,x.v3,x.v2,u4,u6,u7]))
  refine ⟨V7 hc', ?_⟩
  have hwc := Ot word
  refine Fb rfl rfl rfl (by simp) (fit (by first|exact dn hd rfl|exact dl hd rfl|lia)) ?_
  rw [Dc _ hat.1 (by first|exact dn hd rfl|exact dl hd rfl|lia), b_adds]
  have l1 : Str.length ⟨(word.cps.toList.take pl.toNat).toArray⟩ = pl.toNat := by simp [Ot]; rw [Ot] at hat; simp at hat; lia
  have lz : (Str.ofString "z").length = 1 := z_len
  refine ⟨fit (by rw [l1, lz]; lia), ?_⟩
  refine ⟨_, sign_AB hk.1 hk.2, ?_⟩
  have hy := sign_low hk.1 hk.2
  have hyl : (signS k).length = 1 := rfl
  unfold putF at h
  generalize signS k = y at hy hyl h ⊢
  rw [b_adds]
  refine ⟨fit (by rw [J5, l1, hyl, lz]; lia), ?_⟩
  refine Fb rfl rfl rfl (by simp) (fit (by first|exact dn hd rfl|exact dl hd rfl|lia)) ?_
  rw [Dd _ hat.1 (by first|exact dn hd rfl|exact dl hd rfl|lia), b_adds]
  have l2 : Str.length ⟨(word.cps.toList.drop pl.toNat).toArray⟩ = word.length - pl.toNat := by simp [Ot]
  have hlen : (({ cps := (word.cps.toList.take pl.toNat).toArray } ++ S "z" ++ y ++ { cps := (word.cps.toList.drop pl.toNat).toArray } : Str)).length = word.length + 2 := by
    rw [J5, J5, J5, l1, l2, hyl, lz]; lia
  refine ⟨fit (by rw [J5, J5, l1, l2, hyl, lz]; lia), ?_⟩
  have hlow : Low ({ cps := (word.cps.toList.take pl.toNat).toArray } ++ S "z" ++ y ++ { cps := (word.cps.toList.drop pl.toNat).toArray } : Str) := (((hwl.take _).append z_low).append hy).append (hwl.drop _)
  generalize ({ cps := (word.cps.toList.take pl.toNat).toArray } ++ S "z" ++ y ++ { cps := (word.cps.toList.drop pl.toNat).toArray } : Str) = w at hlen hlow h ⊢
  refine ⟨_, hc', hcf, fit (by simp; exact Nat.le_trans (by assumption) (by decide)), ?_⟩
  (try dsimp only [kr0])
  refine Zm (h _ V ⟨by rw [hlen]; simp, by rw [hlen]; simp [*], hlow⟩ x ?_ ?_)
  · intro b o e
    rw [Yk (Yi e hc0)]; exact hx' b o e
  · rw [Yh]; simp
end Mine
end
section
namespace Mine
open PySem
variable {G : String → Option MV} {Γ : String → Option MFun}
theorem GoodN.rev {x : Str} (h : GoodN x) : GoodN ⟨x.cps.toList.reverse.toArray⟩ := by
  obtain ⟨h1, h2, h3⟩ := h
  refine ⟨?_, ?_, fun c hc => h3 c (by simpa using hc)⟩
  · simpa [Str.length] using h1
  · simpa [Str.length] using h2
theorem GoodN.ok {x : Str} (h : GoodN x) : PyData.strOk x = true := Low.ok (s := x) h.2.2
theorem Dv {μ : MH} {n : Nat} : ∀ {ss : List Str}, (∀ s ∈ ss, PyData.strOk s = true) → (ss.map MV.str).mapM (deep μ n) = some (ss.map PyData.str)
  | [] => fun _ => rfl
  | s :: ss => fun h => by
    have ih := Dv (μ := μ) (n := n) fun s hs => h s (.tail _ hs)
    rw [List.map_cons, List.mapM_cons, ih]
    have : deep μ n (.str s) = some (.str s) := by cases n <;> simp [deep, h s (.head _)]
    rw [this]; rfl
noncomputable def names3 (cell : Int) : List Str := [nameF cell 0, nameF cell 1, nameF cell 2]
noncomputable def revS (x : Str) : Str := ⟨x.cps.toList.reverse.toArray⟩
noncomputable def swapF (cell : Int) : Bool := (cell.fmod 5 == 3) && !((names3 cell).map PyData.str).any (fun y => PyData.eqv y (.str (revS (nameF cell 0))))
noncomputable def namesF (cell : Int) : List Str := if swapF cell then (names3 cell).set 1 (revS (nameF cell 0)) else names3 cell
theorem Pu {d : Nat} {fz : List Addr} {Q : MQ} {μ : MH} {cell : Int} (hΓ : Γ "_law_names" = some Ud) (hd : 1 ≤ d)
    (h : ∀ (c : Addr) (μ' : MH), Ext μ μ' → μ c = none → c ∉ fz → μ' c = some (.list ((namesF cell).map .str)) → (namesF cell).length = 3 → (∀ nm ∈ namesF cell, GoodN nm) → Q (.ref c) μ') : calls G Γ d "_law_names" [.int cell, .int 3] fz Q X0 μ := by
  refine Z2 hΓ rfl hd (seq ?_)
  ((try dsimp only [Vh,Qx,Qu,Qn,Qv,Qg,Qf,Qz,X9,X8,X4,Xi,X2,Xa,X1,Qd,Qt,Qc,Qe,Ql,Xg,Q6,Qp,Qq,Qk,Qb,Qa,Q1,Qh,Q7,Q4,Q0,Q9,Q8,Q3,Q5,Qo,Qy,Qr,X5,X6,Qs,args0,X3,Xb,Xj,Xk,Xl,Xm,Qm,X7,Qi,Qj,Qw,Q2,zgz,zgs,zlc,zln,Nat.reduceAdd,kr0,kr1,kl0,kl1,kz0]); (try simp (discharger := decide) only [Vh,Qx,Qu,Qn,Qv,Qg,Qf,Qz,X9,X8,X4,Xi,X2,Xa,X1,Qd,Qt,Qc,Qe,Ql,Xg,Q6,Qp,Qq,Qk,Qb,Qa,Q1,Qh,Q7,Q4,Q0,Q9,Q8,Q3,Q5,Qo,Qy,Qr,X5,X6,Qs,args0,X3,Xb,Xf,Xh,Xc,Xe,Xj,Xk,Xl,Xm,Xv,Xu,Qm,X7,Xn,Xd,Qi,Qj,Qw,Q2,Xr,zoi,zel,zta,zat,zgz,zgs,zlc,zln,Nat.reduceAdd,zza,znt,zcn,MV.int.injEq,kr0,kr1,kl0,kl1,kz0]))
  refine seq ?_
  ((try dsimp only [Vg,Qx,Qu,Qn,Qv,Qg,Qf,Qz,X9,X8,X4,Xi,X2,Xa,X1,Qd,Qt,Qc,Qe,Ql,Xg,Q6,Qp,Qq,Qk,Qb,Qa,Q1,Qh,Q7,Q4,Q0,Q9,Q8,Q3,Q5,Qo,Qy,Qr,X5,X6,Qs,args0,X3,Xb,Xj,Xk,Xl,Xm,Qm,X7,Qi,Qj,Qw,Q2,zgz,zgs,zlc,zln,Nat.reduceAdd,kr0,kr1,kl0,kl1,kz0]); (try simp (discharger := decide) only [Vg,Qx,Qu,Qn,Qv,Qg,Qf,Qz,X9,X8,X4,Xi,X2,Xa,X1,Qd,Qt,Qc,Qe,Ql,Xg,Q6,Qp,Qq,Qk,Qb,Qa,Q1,Qh,Q7,Q4,Q0,Q9,Q8,Q3,Q5,Qo,Qy,Qr,X5,X6,Qs,args0,X3,Xb,Xf,Xh,Xc,Xe,Xj,Xk,Xl,Xm,Xv,Xu,Qm,X7,Xn,Xd,Qi,Qj,Qw,Q2,Xr,zoi,zel,zta,zat,zgz,zgs,zlc,zln,Nat.reduceAdd,zza,znt,zcn,MV.int.injEq,kr0,kr1,kl0,kl1,kz0]))
  intro c hc hcf
  refine seq ?_
  ((try dsimp only [Vf,Qx,Qu,Qn,Qv,Qg,Qf,Qz,X9,X8,X4,Xi,X2,Xa,X1,Qd,Qt,Qc,Qe,Ql,Xg,Q6,Qp,Qq,Qk,Qb,Qa,Q1,Qh,Q7,Q4,Q0,Q9,Q8,Q3,Q5,Qo,Qy,Qr,X5,X6,Qs,args0,X3,Xb,Xj,Xk,Xl,Xm,Qm,X7,Qi,Qj,Qw,Q2,zgz,zgs,zlc,zln,Nat.reduceAdd,kr0,kr1,kl0,kl1,kz0]); (try simp (discharger := decide) only [Vf,Qx,Qu,Qn,Qv,Qg,Qf,Qz,X9,X8,X4,Xi,X2,Xa,X1,Qd,Qt,Qc,Qe,Ql,Xg,Q6,Qp,Qq,Qk,Qb,Qa,Q1,Qh,Q7,Q4,Q0,Q9,Q8,Q3,Q5,Qo,Qy,Qr,X5,X6,Qs,args0,X3,Xb,Xf,Xh,Xc,Xe,Xj,Xk,Xl,Xm,Xv,Xu,Qm,X7,Xn,Xd,Qi,Qj,Qw,Q2,Xr,zoi,zel,zta,zat,zgz,zgs,zlc,zln,Nat.reduceAdd,zza,znt,zcn,MV.int.injEq,kr0,kr1,kl0,kl1,kz0]))
  refine ⟨.ints [0, 1, 2], _, rfl, rfl, fit (by decide), ?_⟩
  simp only [List.map_cons, List.map_nil, Z5, Z6, Src.held, List.nil_append]
  refine ⟨_, rfl, ?_⟩
  refine Pd (names := []) (c := c) (cell := cell) ⟨rfl, rfl, rfl⟩ Xn (by decide) hc hcf (Ext.upd hc) Yh (by decide) fun μ0 V0 g0 x0 e0 c0 => ?_
  refine ⟨_, rfl, ?_⟩
  refine Pd (x0.set (by first|exact dn hd rfl|exact dl hd rfl|exact Nat.le_refl _) _) Xn (by decide) hc hcf e0 c0 (by simp) fun μ1 V1 g1 x1 e1 c1 => ?_
  refine ⟨_, rfl, ?_⟩
  refine Pd (x1.set (by first|exact dn hd rfl|exact dl hd rfl|exact Nat.le_refl _) _) Xn (by decide) hc hcf e1 c1 (by simp) fun μ2 V2 g2 x2 e2 c2 => ?_
  unfold namesF swapF names3 at h
  replace c2 : μ2 c = some (.list ([nameF cell 0, nameF cell 1, nameF cell 2].map .str)) := c2
  clear c1 c0 e1 e0 x1 x0
  generalize nameF cell 0 = w0 at g0 c2 h
  generalize nameF cell 1 = w1 at g1 c2 h
  generalize nameF cell 2 = w2 at g2 c2 h
  have hall : ∀ nm ∈ [w0, w1, w2], GoodN nm := by
    intro nm hm; simp only [List.mem_cons, List.not_mem_nil, or_false] at hm; rcases hm with rfl | rfl | rfl <;> assumption
  have i0 : idxM μ2 (.ref c) (.int 0) = some (.str w0) := by rw [Ux c2 (show 3 ≤ 2 ^ 20 by decide)]; rfl
  have fin : ∀ b : Bool, ((cell.fmod 5 == 3) && !([w0, w1, w2].map PyData.str).any fun y => PyData.eqv y (.str (revS w0))) = b → b = false → exs G (calls G Γ (d - 1)) X0 [J0] fz V2 (kz Q) μ2 := fun b hb hf => by
    rw [hb, hf] at h
    refine seq ?_
    ((try dsimp only [J0,Qx,Qu,Qn,Qv,Qg,Qf,Qz,X9,X8,X4,Xi,X2,Xa,X1,Qd,Qt,Qc,Qe,Ql,Xg,Q6,Qp,Qq,Qk,Qb,Qa,Q1,Qh,Q7,Q4,Q0,Q9,Q8,Q3,Q5,Qo,Qy,Qr,X5,X6,Qs,args0,X3,Xb,Xj,Xk,Xl,Xm,Qm,X7,Qi,Qj,Qw,Q2,zgz,zgs,zlc,zln,Nat.reduceAdd,kr0,kr1,kl0,kl1,kz0,x2.v3]); (try simp (discharger := decide) only [J0,Qx,Qu,Qn,Qv,Qg,Qf,Qz,X9,X8,X4,Xi,X2,Xa,X1,Qd,Qt,Qc,Qe,Ql,Xg,Q6,Qp,Qq,Qk,Qb,Qa,Q1,Qh,Q7,Q4,Q0,Q9,Q8,Q3,Q5,Qo,Qy,Qr,X5,X6,Qs,args0,X3,Xb,Xf,Xh,Xc,Xe,Xj,Xk,Xl,Xm,Xv,Xu,Qm,X7,Xn,Xd,Qi,Qj,Qw,Q2,Xr,zoi,zel,zta,zat,zgz,zgs,zlc,zln,Nat.reduceAdd,zza,znt,zcn,MV.int.injEq,kr0,kr1,kl0,kl1,kz0,x2.v3]))
    exact h c μ2 e2 hc hcf c2 rfl hall
  refine seq ?_
  ((try dsimp only [Ve,Qx,Qu,Qn,Qv,Qg,Qf,Qz,X9,X8,X4,Xi,X2,Xa,X1,Qd,Qt,Qc,Qe,Ql,Xg,Q6,Qp,Qq,Qk,Qb,Qa,Q1,Qh,Q7,Q4,Q0,Q9,Q8,Q3,Q5,Qo,Qy,Qr,X5,X6,Qs,args0,X3,Xb,Xj,Xk,Xl,Xm,Qm,X7,Qi,Qj,Qw,Q2,zgz,zgs,zlc,zln,Nat.reduceAdd,kr0,kr1,kl0,kl1,kz0,x2.v0,x2.v3]); (try simp (discharger := decide) only [Ve,Qx,Qu,Qn,Qv,Qg,Qf,Qz,X9,X8,X4,Xi,X2,Xa,X1,Qd,Qt,Qc,Qe,Ql,Xg,Q6,Qp,Qq,Qk,Qb,Qa,Q1,Qh,Q7,Q4,Q0,Q9,Q8,Q3,Q5,Qo,Qy,Qr,X5,X6,Qs,args0,X3,Xb,Xf,Xh,Xc,Xe,Xj,Xk,Xl,Xm,Xv,Xu,Qm,X7,Xn,Xd,Qi,Qj,Qw,Q2,Xr,zoi,zel,zta,zat,zgz,zgs,zlc,zln,Nat.reduceAdd,zza,znt,zcn,MV.int.injEq,kr0,kr1,kl0,kl1,kz0,x2.v0,x2.v3]))
  cases q5 : (cell.fmod 5 == 3) with
  | false =>
    simp only [Bool.false_eq_true, if_false]
    exact Zm (fin _ rfl (by rw [q5]; rfl))
  | true =>
    simp only [if_true]
    ((try dsimp only [Qx,Qu,Qn,Qv,Qg,Qf,Qz,X9,X8,X4,Xi,X2,Xa,X1,Qd,Qt,Qc,Qe,Ql,Xg,Q6,Qp,Qq,Qk,Qb,Qa,Q1,Qh,Q7,Q4,Q0,Q9,Q8,Q3,Q5,Qo,Qy,Qr,X5,X6,Qs,args0,X3,Xb,Xj,Xk,Xl,Xm,Qm,X7,Qi,Qj,Qw,Q2,zgz,zgs,zlc,zln,Nat.reduceAdd,kr0,kr1,kl0,kl1,kz0,x2.v3,i0]); (try simp (discharger := decide) only [Qx,Qu,Qn,Qv,Qg,Qf,Qz,X9,X8,X4,Xi,X2,Xa,X1,Qd,Qt,Qc,Qe,Ql,Xg,Q6,Qp,Qq,Qk,Qb,Qa,Q1,Qh,Q7,Q4,Q0,Q9,Q8,Q3,Q5,Qo,Qy,Qr,X5,X6,Qs,args0,X3,Xb,Xf,Xh,Xc,Xe,Xj,Xk,Xl,Xm,Xv,Xu,Qm,X7,Xn,Xd,Qi,Qj,Qw,Q2,Xr,zoi,zel,zta,zat,zgz,zgs,zlc,zln,Nat.reduceAdd,zza,znt,zcn,MV.int.injEq,kr0,kr1,kl0,kl1,kz0,x2.v3,i0]))
    refine Fb rfl rfl rfl (by simp) (fit (Nat.le_trans g0.2.1 (by decide))) ?_
    rw [Bq]
    have hr := g0.rev
    replace h : ∀ (c : Addr) (μ' : MH), Ext μ μ' → μ c = none → c ∉ fz → μ' c = some (.list ((if ((cell.fmod 5 == 3) && !([w0, w1, w2].map PyData.str).any fun y => PyData.eqv y (.str ⟨w0.cps.toList.reverse.toArray⟩)) = true then [w0, w1, w2].set 1 ⟨w0.cps.toList.reverse.toArray⟩ else [w0, w1, w2]).map .str)) → (if ((cell.fmod 5 == 3) && !([w0, w1, w2].map PyData.str).any fun y => PyData.eqv y (.str ⟨w0.cps.toList.reverse.toArray⟩)) = true then [w0, w1, w2].set 1 ⟨w0.cps.toList.reverse.toArray⟩ else [w0, w1, w2]).length = 3 → (∀ nm ∈ if ((cell.fmod 5 == 3) && !([w0, w1, w2].map PyData.str).any fun y => PyData.eqv y (.str ⟨w0.cps.toList.reverse.toArray⟩)) = true then [w0, w1, w2].set 1 ⟨w0.cps.toList.reverse.toArray⟩ else [w0, w1, w2], GoodN nm) → Q (.ref c) μ' := h
    have hd1 : deep μ2 9 (.ref c) = some (.list ([w0, w1, w2].map .str)) := by
      simp only [deep, K5 c2, Dv fun s hs => (hall s hs).ok]; rfl
    have hd2 : deep μ2 9 (.str ⟨w0.cps.toList.reverse.toArray⟩) = some (.str ⟨w0.cps.toList.reverse.toArray⟩) := by simp only [deep, hr.ok]; rfl
    refine ⟨_, congrArg (Option.map (!·)) (in_list c2 hd1 hd2), ?_⟩
    cases q : ([w0, w1, w2].map PyData.str).any fun y => PyData.eqv y (.str ⟨w0.cps.toList.reverse.toArray⟩) with
    | true =>
      simp only [Bool.not_true, Bool.false_eq_true, if_false]
      exact Zm (fin _ rfl (by rw [show revS w0 = ⟨w0.cps.toList.reverse.toArray⟩ from rfl, q, Bool.not_true, Bool.and_false]))
    | false =>
      rw [q5, q] at h
      simp only [Bool.not_false, if_true]
      refine seq ?_
      ((try dsimp only [Uh,Qx,Qu,Qn,Qv,Qg,Qf,Qz,X9,X8,X4,Xi,X2,Xa,X1,Qd,Qt,Qc,Qe,Ql,Xg,Q6,Qp,Qq,Qk,Qb,Qa,Q1,Qh,Q7,Q4,Q0,Q9,Q8,Q3,Q5,Qo,Qy,Qr,X5,X6,Qs,args0,X3,Xb,Xj,Xk,Xl,Xm,Qm,X7,Qi,Qj,Qw,Q2,zgz,zgs,zlc,zln,Nat.reduceAdd,kr0,kr1,kl0,kl1,kz0,x2.v3,i0]); (try simp (discharger := decide) only [Uh,Qx,Qu,Qn,Qv,Qg,Qf,Qz,X9,X8,X4,Xi,X2,Xa,X1,Qd,Qt,Qc,Qe,Ql,Xg,Q6,Qp,Qq,Qk,Qb,Qa,Q1,Qh,Q7,Q4,Q0,Q9,Q8,Q3,Q5,Qo,Qy,Qr,X5,X6,Qs,args0,X3,Xb,Xf,Xh,Xc,Xe,Xj,Xk,Xl,Xm,Xv,Xu,Qm,X7,Xn,Xd,Qi,Qj,Qw,Q2,Xr,zoi,zel,zta,zat,zgz,zgs,zlc,zln,Nat.reduceAdd,zza,znt,zcn,MV.int.injEq,kr0,kr1,kl0,kl1,kz0,x2.v3,i0]))
      refine Fb rfl rfl rfl (by simp) (fit (Nat.le_trans g0.2.1 (by decide))) ?_
      rw [Bq]
      clear fin hd1 hd2 q
      generalize (⟨w0.cps.toList.reverse.toArray⟩ : Str) = rv at hr h ⊢
      refine set_list c2 hcf (fit (show 3 ≤ 100000 by decide)) (by decide) (show (1 : Int) < 3 by decide) (Zm (seq ?_))
      ((try dsimp only [J0,Qx,Qu,Qn,Qv,Qg,Qf,Qz,X9,X8,X4,Xi,X2,Xa,X1,Qd,Qt,Qc,Qe,Ql,Xg,Q6,Qp,Qq,Qk,Qb,Qa,Q1,Qh,Q7,Q4,Q0,Q9,Q8,Q3,Q5,Qo,Qy,Qr,X5,X6,Qs,args0,X3,Xb,Xj,Xk,Xl,Xm,Qm,X7,Qi,Qj,Qw,Q2,zgz,zgs,zlc,zln,Nat.reduceAdd,kr0,kr1,kl0,kl1,kz0,x2.v3]); (try simp (discharger := decide) only [J0,Qx,Qu,Qn,Qv,Qg,Qf,Qz,X9,X8,X4,Xi,X2,Xa,X1,Qd,Qt,Qc,Qe,Ql,Xg,Q6,Qp,Qq,Qk,Qb,Qa,Q1,Qh,Q7,Q4,Q0,Q9,Q8,Q3,Q5,Qo,Qy,Qr,X5,X6,Qs,args0,X3,Xb,Xf,Xh,Xc,Xe,Xj,Xk,Xl,Xm,Xv,Xu,Qm,X7,Xn,Xd,Qi,Qj,Qw,Q2,Xr,zoi,zel,zta,zat,zgz,zgs,zlc,zln,Nat.reduceAdd,zza,znt,zcn,MV.int.injEq,kr0,kr1,kl0,kl1,kz0,x2.v3]))
      refine h c _ (fun b o e => by rw [Yk (Yi e hc)]; exact e2 b o e) hc hcf (by rw [Yh]; rfl) rfl fun nm hm => ?_
      rcases List.mem_or_eq_of_mem_set hm with q | rfl
      · exact hall _ q
      · exact hr
theorem Bx {d : Nat} {fz : List Addr} {Q : MQ} {μ : MH} {cell : Int} (hΓ : Γ "_law_names" = some Ud) (hd : 1 ≤ d)
    (h : ∀ (c : Addr) (μ' : MH) (names : List Str), Ext μ μ' → μ c = none → c ∉ fz → μ' c = some (.list (names.map .str)) → names.length = 3 → (∀ nm ∈ names, GoodN nm) → Q (.ref c) μ') : calls G Γ d "_law_names" [.int cell, .int 3] fz Q X0 μ :=
  Pu hΓ hd fun c μ' => h c μ' (namesF cell)
end Mine
end
section
namespace Mine
open PySem
variable {G : String → Option MV} {Γ : String → Option MFun}
noncomputable def gapOf (ns : List Int) : Int := 1 + ((at0 ns 0).fdiv 4).fmod 3
noncomputable def manyOf (ns : List Int) (many : Int) : Nat := (min many ((ns.length : Int) - 4)).toNat
noncomputable def BookOk (ns : List Int) (many : Int) (kvs : List (Int × MV)) : Prop :=
  ∃ (names : List Str) (rows : List (Int × MV)) (cut : Nat), names.length = 3 ∧ (∀ nm ∈ names, GoodN nm) ∧ rows.map (·.1) = (List.range (manyOf ns many)).map (fun (k : Nat) => 1 + (k : Int) * gapOf ns) ∧ (∀ p ∈ rows, GoodE names p.1 p.2) ∧
    cut ≤ rows.length ∧ kvs = rows.drop cut ++ rows.take cut ∧ names = namesF (at0 ns 1)
noncomputable def rowV (p : Int × MV) : MV := .tup [.int p.1, p.2]
theorem Pc : ∀ (l : List (Int × MV)), pairsI (l.map rowV) = some l
  | [] => rfl
  | p :: l => by
    have := Pc l
    unfold pairsI at this ⊢
    rw [List.map_cons, List.mapM_cons, this]; rfl
theorem put_new {K : Type} [DecidableEq K] {l : List (K × MV)} {k : K} {v : MV} (h : k ∉ l.map (·.1)) : putI l k v = l ++ [(k, v)] := by
  unfold putI
  rw [if_neg]
  simp only [List.any_eq_true, decide_eq_true_eq, not_exists, not_and]
  exact fun p hp e => h (e ▸ List.mem_map_of_mem hp)
theorem B6 {K : Type} [DecidableEq K] : ∀ {l acc : List (K × MV)}, ((acc ++ l).map (·.1)).Nodup → l.foldl (fun d kv => putI d kv.1 kv.2) acc = acc ++ l
  | [], acc => fun _ => by simp
  | p :: l, acc => fun h => by
    have hp : p.1 ∉ acc.map (·.1) := by
      rw [List.map_append, List.nodup_append] at h
      exact fun m => h.2.2 _ m _ (by simp) rfl
    rw [List.foldl_cons, put_new hp, B6 (by simpa using h)]
    simp
structure BV (a nm r : Addr) (gap : Int) (V : MVars) : Prop where
  v0 : V 0 = some (.ref a)
  v2 : V 2 = some (.ref nm)
  v3 : V 3 = some (.int gap)
  v4 : V 4 = some (.ref r)
theorem BV.set {a nm r : Addr} {gap : Int} {V : MVars} (x : BV a nm r gap V) {i : Nat} (h : 5 ≤ i) (v : MV) : BV a nm r gap (setv V i v) :=
  ⟨(Xd (by first | exact nei h rfl | decide)).trans x.v0, (Xd (by first | exact nei h rfl | decide)).trans x.v2, (Xd (by first | exact nei h rfl | decide)).trans x.v3, (Xd (by first | exact nei h rfl | decide)).trans x.v4⟩
theorem Cf (ns : List Int) : 0 ≤ baseOf ns ∧ baseOf ns ≤ 1000000 := by
  have := B5 (l := [0, 7, 300, 999982]) (k := (at0 ns 0).fmod 4) (fm (by decide)).1 (fm (b := 4) (by decide)).2
  unfold baseOf
  exact of_decide_eq_true (all_of (P := fun y => decide (0 ≤ y ∧ y ≤ 1000000)) this rfl)
theorem Fp (ns : List Int) : 1 ≤ gapOf ns ∧ gapOf ns ≤ 3 := by
  have := fm (a := (at0 ns 0).fdiv 4) (b := 3) (by decide)
  unfold gapOf; omega
theorem at_script {μ : MH} {a : Addr} {ns : List Int} {k : Int} (ha : μ a = some (.list (ns.map .int))) (hn : ns.length ≤ 63) (h0 : 0 ≤ k) (h1 : k < ns.length) {Q : MV → Prop} (h : Q (.int (at0 ns k))) : ∃ v, idxM μ (.ref a) (.int k) = some v ∧ Q v :=
  ⟨_, by rw [Ux ha (by simp; exact Nat.le_trans (by assumption) (by decide))]; exact sel_at h0 h1, h⟩
theorem D8 {d : Nat} {a nm r : Addr} {fz : List Addr} {μ₁ : MH} {ns : List Int} {names : List Str} {R : MFlow → MVars → MH → Prop} (hΓ₁ : Γ "_law_of" = some Uc) (hΓ₂ : Γ "_law_base" = some Jx) (hΓ₃ : Γ "_law_entry" = some J9) (hd : 2 ≤ d)
    (ha : μ₁ a = some (.list (ns.map .int))) (hn : ns.length ≤ 63) (hnm : μ₁ nm = some (.list (names.map .str))) (h3 : names.length = 3) (hr : μ₁ r = none) (hrf : r ∉ fz) :
    ∀ (j i : Nat) (V : MVars) (μ : MH) (rows : List (Int × MV)), (j = 0 ∨ (i : Int) + j ≤ (ns.length : Int) - 4) → i + j ≤ 100 → BV a nm r (gapOf ns) V → Ext μ₁ μ → μ r = some (.list (rows.map rowV)) → rows.map (·.1) = (List.range i).map (fun (k : Nat) => 1 + (k : Int) * gapOf ns) → (∀ p ∈ rows, GoodE names p.1 p.2) →
      (∀ (V' : MVars) (μ' : MH) (rows' : List (Int × MV)), BV a nm r (gapOf ns) V' → Ext μ₁ μ' → μ' r = some (.list (rows'.map rowV)) → rows'.map (·.1) = (List.range (i + j)).map (fun (k : Nat) => 1 + (k : Int) * gapOf ns) → (∀ p ∈ rows', GoodE names p.1 p.2) → R .next V' μ') →
      loopM (.one 5) (fun vs F μ => exs G (calls G Γ d) X0 [Kg, Kf] fz vs F μ) R ((List.range' i j).map fun (k : Nat) => MV.int k) V μ
  | 0 => fun i V μ rows _ _ x hx hm hk hg h => by
    simp only [List.range'_zero, List.map_nil, Z5, Z6]
    exact h V μ rows x hx hm hk hg
  | j + 1 => fun i V μ rows hj hs x hx hm hk hg h => by
    simp only [List.range'_succ, List.map_cons, Z5, Z6]
    refine ⟨_, rfl, ?_⟩
    have gp := Fp ns
    have hlen : rows.length = i := by have := congrArg List.length hk; simpa using this
    replace x := x.set (i := 5) (by decide) (.int i)
    have v5 : setv V 5 (.int i) 5 = some (.int i) := Xn
    generalize setv V 5 (.int i) = V at x v5 ⊢
    refine seq ?_
    ((try dsimp only [Kg,Qx,Qu,Qn,Qv,Qg,Qf,Qz,X9,X8,X4,Xi,X2,Xa,X1,Qd,Qt,Qc,Qe,Ql,Xg,Q6,Qp,Qq,Qk,Qb,Qa,Q1,Qh,Q7,Q4,Q0,Q9,Q8,Q3,Q5,Qo,Qy,Qr,X5,X6,Qs,args0,X3,Xb,Xj,Xk,Xl,Xm,Qm,X7,Qi,Qj,Qw,Q2,zgz,zgs,zlc,zln,Nat.reduceAdd,kr0,kr1,kl0,kl1,kz0,x.v3,v5]); (try simp (discharger := decide) only [Kg,Qx,Qu,Qn,Qv,Qg,Qf,Qz,X9,X8,X4,Xi,X2,Xa,X1,Qd,Qt,Qc,Qe,Ql,Xg,Q6,Qp,Qq,Qk,Qb,Qa,Q1,Qh,Q7,Q4,Q0,Q9,Q8,Q3,Q5,Qo,Qy,Qr,X5,X6,Qs,args0,X3,Xb,Xf,Xh,Xc,Xe,Xj,Xk,Xl,Xm,Xv,Xu,Qm,X7,Xn,Xd,Qi,Qj,Qw,Q2,Xr,zoi,zel,zta,zat,zgz,zgs,zlc,zln,Nat.reduceAdd,zza,znt,zcn,MV.int.injEq,kr0,kr1,kl0,kl1,kz0,x.v3,v5]))
    rw [Xf (by first|exact dn hd rfl|exact dl hd rfl|lia)]
    ((try dsimp only [Qx,Qu,Qn,Qv,Qg,Qf,Qz,X9,X8,X4,Xi,X2,Xa,X1,Qd,Qt,Qc,Qe,Ql,Xg,Q6,Qp,Qq,Qk,Qb,Qa,Q1,Qh,Q7,Q4,Q0,Q9,Q8,Q3,Q5,Qo,Qy,Qr,X5,X6,Qs,args0,X3,Xb,Xj,Xk,Xl,Xm,Qm,X7,Qi,Qj,Qw,Q2,zgz,zgs,zlc,zln,Nat.reduceAdd,kr0,kr1,kl0,kl1,kz0]); (try simp (discharger := decide) only [Qx,Qu,Qn,Qv,Qg,Qf,Qz,X9,X8,X4,Xi,X2,Xa,X1,Qd,Qt,Qc,Qe,Ql,Xg,Q6,Qp,Qq,Qk,Qb,Qa,Q1,Qh,Q7,Q4,Q0,Q9,Q8,Q3,Q5,Qo,Qy,Qr,X5,X6,Qs,args0,X3,Xb,Xf,Xh,Xc,Xe,Xj,Xk,Xl,Xm,Xv,Xu,Qm,X7,Xn,Xd,Qi,Qj,Qw,Q2,Xr,zoi,zel,zta,zat,zgz,zgs,zlc,zln,Nat.reduceAdd,zza,znt,zcn,MV.int.injEq,kr0,kr1,kl0,kl1,kz0]))
    have hnum : 1 ≤ 1 + (i : Int) * gapOf ns ∧ 1 + (i : Int) * gapOf ns ≤ 1000 := by
      have h1 : 0 ≤ (i : Int) * gapOf ns := Int.mul_nonneg (by first|exact dn hd rfl|exact dl hd rfl|exact Int.natCast_nonneg _) (by first|exact dn hd rfl|exact dl hd rfl|lia)
      have h2 : (i : Int) * gapOf ns ≤ (i : Int) * 3 := Int.mul_le_mul_of_nonneg_left gp.2 (by first|exact dn hd rfl|exact dl hd rfl|exact Int.natCast_nonneg _)
      lia
    generalize hno : 1 + (i : Int) * gapOf ns = number at hnum
    replace x := x.set (i := 6) (by decide) (.int number)
    have w5 : setv V 6 (.int number) 5 = some (.int i) := (Xd (by first | exact nei h rfl | decide)).trans v5
    have w6 : setv V 6 (.int number) 6 = some (.int number) := Xn
    generalize setv V 6 (.int number) = V at x w5 w6 ⊢
    refine seq ?_
    ((try dsimp only [Kf,Qx,Qu,Qn,Qv,Qg,Qf,Qz,X9,X8,X4,Xi,X2,Xa,X1,Qd,Qt,Qc,Qe,Ql,Xg,Q6,Qp,Qq,Qk,Qb,Qa,Q1,Qh,Q7,Q4,Q0,Q9,Q8,Q3,Q5,Qo,Qy,Qr,X5,X6,Qs,args0,X3,Xb,Xj,Xk,Xl,Xm,Qm,X7,Qi,Qj,Qw,Q2,zgz,zgs,zlc,zln,Nat.reduceAdd,kr0,kr1,kl0,kl1,kz0,x.v0,x.v2,x.v3,x.v4,w5,w6]); (try simp (discharger := decide) only [Kf,Qx,Qu,Qn,Qv,Qg,Qf,Qz,X9,X8,X4,Xi,X2,Xa,X1,Qd,Qt,Qc,Qe,Ql,Xg,Q6,Qp,Qq,Qk,Qb,Qa,Q1,Qh,Q7,Q4,Q0,Q9,Q8,Q3,Q5,Qo,Qy,Qr,X5,X6,Qs,args0,X3,Xb,Xf,Xh,Xc,Xe,Xj,Xk,Xl,Xm,Xv,Xu,Qm,X7,Xn,Xd,Qi,Qj,Qw,Q2,Xr,zoi,zel,zta,zat,zgz,zgs,zlc,zln,Nat.reduceAdd,zza,znt,zcn,MV.int.injEq,kr0,kr1,kl0,kl1,kz0,x.v0,x.v2,x.v3,x.v4,w5,w6]))
    refine ⟨V7 hm, ?_⟩
    refine Jh hΓ₁ hΓ₂ hd (hx _ _ ha) hn fun μ₂ hx₂ => ?_
    ((try dsimp only [Qx,Qu,Qn,Qv,Qg,Qf,Qz,X9,X8,X4,Xi,X2,Xa,X1,Qd,Qt,Qc,Qe,Ql,Xg,Q6,Qp,Qq,Qk,Qb,Qa,Q1,Qh,Q7,Q4,Q0,Q9,Q8,Q3,Q5,Qo,Qy,Qr,X5,X6,Qs,args0,X3,Xb,Xj,Xk,Xl,Xm,Qm,X7,Qi,Qj,Qw,Q2,zgz,zgs,zlc,zln,Nat.reduceAdd,kr0,kr1,kl0,kl1,kz0]); (try simp (discharger := decide) only [Qx,Qu,Qn,Qv,Qg,Qf,Qz,X9,X8,X4,Xi,X2,Xa,X1,Qd,Qt,Qc,Qe,Ql,Xg,Q6,Qp,Qq,Qk,Qb,Qa,Q1,Qh,Q7,Q4,Q0,Q9,Q8,Q3,Q5,Qo,Qy,Qr,X5,X6,Qs,args0,X3,Xb,Xf,Xh,Xc,Xe,Xj,Xk,Xl,Xm,Xv,Xu,Qm,X7,Xn,Xd,Qi,Qj,Qw,Q2,Xr,zoi,zel,zta,zat,zgz,zgs,zlc,zln,Nat.reduceAdd,zza,znt,zcn,MV.int.injEq,kr0,kr1,kl0,kl1,kz0]))
    refine at_script (hx₂ _ _ (hx _ _ ha)) hn (by first|exact dn hd rfl|exact dl hd rfl|exact Int.natCast_nonneg _) (by first|exact dn hd rfl|exact dl hd rfl|lia) ?_
    ((try dsimp only [Qx,Qu,Qn,Qv,Qg,Qf,Qz,X9,X8,X4,Xi,X2,Xa,X1,Qd,Qt,Qc,Qe,Ql,Xg,Q6,Qp,Qq,Qk,Qb,Qa,Q1,Qh,Q7,Q4,Q0,Q9,Q8,Q3,Q5,Qo,Qy,Qr,X5,X6,Qs,args0,X3,Xb,Xj,Xk,Xl,Xm,Qm,X7,Qi,Qj,Qw,Q2,zgz,zgs,zlc,zln,Nat.reduceAdd,kr0,kr1,kl0,kl1,kz0]); (try simp (discharger := decide) only [Qx,Qu,Qn,Qv,Qg,Qf,Qz,X9,X8,X4,Xi,X2,Xa,X1,Qd,Qt,Qc,Qe,Ql,Xg,Q6,Qp,Qq,Qk,Qb,Qa,Q1,Qh,Q7,Q4,Q0,Q9,Q8,Q3,Q5,Qo,Qy,Qr,X5,X6,Qs,args0,X3,Xb,Xf,Xh,Xc,Xe,Xj,Xk,Xl,Xm,Xv,Xu,Qm,X7,Xn,Xd,Qi,Qj,Qw,Q2,Xr,zoi,zel,zta,zat,zgz,zgs,zlc,zln,Nat.reduceAdd,zza,znt,zcn,MV.int.injEq,kr0,kr1,kl0,kl1,kz0]))
    refine O6 hΓ₃ (by first|exact dn hd rfl|exact dl hd rfl|omega) (hx₂ _ _ (hx _ _ hnm)) h3 (Cf ns) hnum fun e μ₃ hx₃ ge => ?_
    have hm₃ := hx₃ _ _ (hx₂ _ _ hm)
    ((try dsimp only [Qx,Qu,Qn,Qv,Qg,Qf,Qz,X9,X8,X4,Xi,X2,Xa,X1,Qd,Qt,Qc,Qe,Ql,Xg,Q6,Qp,Qq,Qk,Qb,Qa,Q1,Qh,Q7,Q4,Q0,Q9,Q8,Q3,Q5,Qo,Qy,Qr,X5,X6,Qs,args0,X3,Xb,Xj,Xk,Xl,Xm,Qm,X7,Qi,Qj,Qw,Q2,zgz,zgs,zlc,zln,Nat.reduceAdd,kr0,kr1,kl0,kl1,kz0]); (try simp (discharger := decide) only [Qx,Qu,Qn,Qv,Qg,Qf,Qz,X9,X8,X4,Xi,X2,Xa,X1,Qd,Qt,Qc,Qe,Ql,Xg,Q6,Qp,Qq,Qk,Qb,Qa,Q1,Qh,Q7,Q4,Q0,Q9,Q8,Q3,Q5,Qo,Qy,Qr,X5,X6,Qs,args0,X3,Xb,Xf,Xh,Xc,Xe,Xj,Xk,Xl,Xm,Xv,Xu,Qm,X7,Xn,Xd,Qi,Qj,Qw,Q2,Xr,zoi,zel,zta,zat,zgz,zgs,zlc,zln,Nat.reduceAdd,zza,znt,zcn,MV.int.injEq,kr0,kr1,kl0,kl1,kz0]))
    refine ⟨_, hm₃, hrf, fit (by simp; lia), ?_⟩
    (try dsimp only [kr0])
    refine Zm (D8 hΓ₁ hΓ₂ hΓ₃ hd ha hn hnm h3 hr hrf j (i + 1) V _ (rows ++ [(number, e)]) (by first|exact dn hd rfl|exact dl hd rfl|lia) (by first|exact dn hd rfl|exact dl hd rfl|lia) x ?_ ?_ ?_ ?_ ?_)
    · intro b o eb
      rw [Yk (Yi eb hr)]; exact hx₃ _ _ (hx₂ _ _ (hx b o eb))
    · rw [Yh]; simp [rowV]
    · rw [List.range_succ, List.map_append, List.map_append, hk]; simp [hno]
    · intro p hp
      rcases List.mem_append.mp hp with q | q
      · exact hg p q
      · simp at q; subst q; exact ge
    · intro V' μ' rows' x' hx' hm' hk' hg'
      exact h V' μ' rows' x' hx' hm' (by rw [hk']; congr 2; lia) hg'
theorem Pa {n : Int} : (rangeL 0 n 1).map MV.int = (List.range' 0 n.toNat).map fun (k : Nat) => MV.int k := by
  unfold rangeL
  rw [List.map_map, List.range_eq_range']
  have : ((n - 0 + 1 - 1) / 1).toNat = n.toNat := by simp
  rw [this]
  refine List.map_congr_left fun k _ => ?_
  simp
theorem Cq {d : Nat} {a : Addr} {fz : List Addr} {Q : MQ} {μ : MH} {ns : List Int} {many : Int} (hΓ₁ : Γ "_law_of" = some Uc) (hΓ₂ : Γ "_law_base" = some Jx) (hΓ₃ : Γ "_law_entry" = some J9) (hΓ₄ : Γ "_law_names" = some Ud) (hΓ : Γ "_law_book" = some Pk) (hd : 3 ≤ d)
    (ha : μ a = some (.list (ns.map .int))) (hn : ns.length ≤ 63) (hmany : 0 ≤ many ∧ many ≤ 60)
    (h : ∀ (c : Addr) (μ' : MH) (kvs : List (Int × MV)), Ext μ μ' → μ c = none → c ∉ fz → μ' c = some (.idict kvs) → BookOk ns many kvs → Q (.ref c) μ') : calls G Γ d "_law_book" [.ref a, .int many] fz Q X0 μ := by
  refine Z2 hΓ rfl (by first|exact dn hd rfl|exact dl hd rfl|omega) (seq ?_)
  ((try dsimp only [Nq,Qx,Qu,Qn,Qv,Qg,Qf,Qz,X9,X8,X4,Xi,X2,Xa,X1,Qd,Qt,Qc,Qe,Ql,Xg,Q6,Qp,Qq,Qk,Qb,Qa,Q1,Qh,Q7,Q4,Q0,Q9,Q8,Q3,Q5,Qo,Qy,Qr,X5,X6,Qs,args0,X3,Xb,Xj,Xk,Xl,Xm,Qm,X7,Qi,Qj,Qw,Q2,zgz,zgs,zlc,zln,Nat.reduceAdd,kr0,kr1,kl0,kl1,kz0]); (try simp (discharger := decide) only [Nq,Qx,Qu,Qn,Qv,Qg,Qf,Qz,X9,X8,X4,Xi,X2,Xa,X1,Qd,Qt,Qc,Qe,Ql,Xg,Q6,Qp,Qq,Qk,Qb,Qa,Q1,Qh,Q7,Q4,Q0,Q9,Q8,Q3,Q5,Qo,Qy,Qr,X5,X6,Qs,args0,X3,Xb,Xf,Xh,Xc,Xe,Xj,Xk,Xl,Xm,Xv,Xu,Qm,X7,Xn,Xd,Qi,Qj,Qw,Q2,Xr,zoi,zel,zta,zat,zgz,zgs,zlc,zln,Nat.reduceAdd,zza,znt,zcn,MV.int.injEq,kr0,kr1,kl0,kl1,kz0]))
  refine Zi hΓ₁ (by first|exact dn hd rfl|exact dl hd rfl|omega) ha hn (by decide) fun μ₁ x₁ => ?_
  ((try dsimp only [Qx,Qu,Qn,Qv,Qg,Qf,Qz,X9,X8,X4,Xi,X2,Xa,X1,Qd,Qt,Qc,Qe,Ql,Xg,Q6,Qp,Qq,Qk,Qb,Qa,Q1,Qh,Q7,Q4,Q0,Q9,Q8,Q3,Q5,Qo,Qy,Qr,X5,X6,Qs,args0,X3,Xb,Xj,Xk,Xl,Xm,Qm,X7,Qi,Qj,Qw,Q2,zgz,zgs,zlc,zln,Nat.reduceAdd,kr0,kr1,kl0,kl1,kz0]); (try simp (discharger := decide) only [Qx,Qu,Qn,Qv,Qg,Qf,Qz,X9,X8,X4,Xi,X2,Xa,X1,Qd,Qt,Qc,Qe,Ql,Xg,Q6,Qp,Qq,Qk,Qb,Qa,Q1,Qh,Q7,Q4,Q0,Q9,Q8,Q3,Q5,Qo,Qy,Qr,X5,X6,Qs,args0,X3,Xb,Xf,Xh,Xc,Xe,Xj,Xk,Xl,Xm,Xv,Xu,Qm,X7,Xn,Xd,Qi,Qj,Qw,Q2,Xr,zoi,zel,zta,zat,zgz,zgs,zlc,zln,Nat.reduceAdd,zza,znt,zcn,MV.int.injEq,kr0,kr1,kl0,kl1,kz0]))
  refine Pu hΓ₄ (by first|exact dn hd rfl|exact dl hd rfl|omega) fun nm μ₂ x₂ hnm hnmf hnml h3 hgood => ?_
  generalize hnF : namesF (at0 ns 1) = names at hnml h3 hgood
  refine seq ?_
  ((try dsimp only [Np,Qx,Qu,Qn,Qv,Qg,Qf,Qz,X9,X8,X4,Xi,X2,Xa,X1,Qd,Qt,Qc,Qe,Ql,Xg,Q6,Qp,Qq,Qk,Qb,Qa,Q1,Qh,Q7,Q4,Q0,Q9,Q8,Q3,Q5,Qo,Qy,Qr,X5,X6,Qs,args0,X3,Xb,Xj,Xk,Xl,Xm,Qm,X7,Qi,Qj,Qw,Q2,zgz,zgs,zlc,zln,Nat.reduceAdd,kr0,kr1,kl0,kl1,kz0]); (try simp (discharger := decide) only [Np,Qx,Qu,Qn,Qv,Qg,Qf,Qz,X9,X8,X4,Xi,X2,Xa,X1,Qd,Qt,Qc,Qe,Ql,Xg,Q6,Qp,Qq,Qk,Qb,Qa,Q1,Qh,Q7,Q4,Q0,Q9,Q8,Q3,Q5,Qo,Qy,Qr,X5,X6,Qs,args0,X3,Xb,Xf,Xh,Xc,Xe,Xj,Xk,Xl,Xm,Xv,Xu,Qm,X7,Xn,Xd,Qi,Qj,Qw,Q2,Xr,zoi,zel,zta,zat,zgz,zgs,zlc,zln,Nat.reduceAdd,zza,znt,zcn,MV.int.injEq,kr0,kr1,kl0,kl1,kz0]))
  refine Zi hΓ₁ (by first|exact dn hd rfl|exact dl hd rfl|omega) (x₂ _ _ (x₁ _ _ ha)) hn (by decide) fun μ₃ x₃ => ?_
  ((try dsimp only [Qx,Qu,Qn,Qv,Qg,Qf,Qz,X9,X8,X4,Xi,X2,Xa,X1,Qd,Qt,Qc,Qe,Ql,Xg,Q6,Qp,Qq,Qk,Qb,Qa,Q1,Qh,Q7,Q4,Q0,Q9,Q8,Q3,Q5,Qo,Qy,Qr,X5,X6,Qs,args0,X3,Xb,Xj,Xk,Xl,Xm,Qm,X7,Qi,Qj,Qw,Q2,zgz,zgs,zlc,zln,Nat.reduceAdd,kr0,kr1,kl0,kl1,kz0]); (try simp (discharger := decide) only [Qx,Qu,Qn,Qv,Qg,Qf,Qz,X9,X8,X4,Xi,X2,Xa,X1,Qd,Qt,Qc,Qe,Ql,Xg,Q6,Qp,Qq,Qk,Qb,Qa,Q1,Qh,Q7,Q4,Q0,Q9,Q8,Q3,Q5,Qo,Qy,Qr,X5,X6,Qs,args0,X3,Xb,Xf,Xh,Xc,Xe,Xj,Xk,Xl,Xm,Xv,Xu,Qm,X7,Xn,Xd,Qi,Qj,Qw,Q2,Xr,zoi,zel,zta,zat,zgz,zgs,zlc,zln,Nat.reduceAdd,zza,znt,zcn,MV.int.injEq,kr0,kr1,kl0,kl1,kz0]))
  refine seq ?_
  ((try dsimp only [No,Qx,Qu,Qn,Qv,Qg,Qf,Qz,X9,X8,X4,Xi,X2,Xa,X1,Qd,Qt,Qc,Qe,Ql,Xg,Q6,Qp,Qq,Qk,Qb,Qa,Q1,Qh,Q7,Q4,Q0,Q9,Q8,Q3,Q5,Qo,Qy,Qr,X5,X6,Qs,args0,X3,Xb,Xj,Xk,Xl,Xm,Qm,X7,Qi,Qj,Qw,Q2,zgz,zgs,zlc,zln,Nat.reduceAdd,kr0,kr1,kl0,kl1,kz0]); (try simp (discharger := decide) only [No,Qx,Qu,Qn,Qv,Qg,Qf,Qz,X9,X8,X4,Xi,X2,Xa,X1,Qd,Qt,Qc,Qe,Ql,Xg,Q6,Qp,Qq,Qk,Qb,Qa,Q1,Qh,Q7,Q4,Q0,Q9,Q8,Q3,Q5,Qo,Qy,Qr,X5,X6,Qs,args0,X3,Xb,Xf,Xh,Xc,Xe,Xj,Xk,Xl,Xm,Xv,Xu,Qm,X7,Xn,Xd,Qi,Qj,Qw,Q2,Xr,zoi,zel,zta,zat,zgz,zgs,zlc,zln,Nat.reduceAdd,zza,znt,zcn,MV.int.injEq,kr0,kr1,kl0,kl1,kz0]))
  intro r hr hrf
  refine seq ?_
  ((try dsimp only [Nn,Qx,Qu,Qn,Qv,Qg,Qf,Qz,X9,X8,X4,Xi,X2,Xa,X1,Qd,Qt,Qc,Qe,Ql,Xg,Q6,Qp,Qq,Qk,Qb,Qa,Q1,Qh,Q7,Q4,Q0,Q9,Q8,Q3,Q5,Qo,Qy,Qr,X5,X6,Qs,args0,X3,Xb,Xj,Xk,Xl,Xm,Qm,X7,Qi,Qj,Qw,Q2,zgz,zgs,zlc,zln,Nat.reduceAdd,kr0,kr1,kl0,kl1,kz0]); (try simp (discharger := decide) only [Nn,Qx,Qu,Qn,Qv,Qg,Qf,Qz,X9,X8,X4,Xi,X2,Xa,X1,Qd,Qt,Qc,Qe,Ql,Xg,Q6,Qp,Qq,Qk,Qb,Qa,Q1,Qh,Q7,Q4,Q0,Q9,Q8,Q3,Q5,Qo,Qy,Qr,X5,X6,Qs,args0,X3,Xb,Xf,Xh,Xc,Xe,Xj,Xk,Xl,Xm,Xv,Xu,Qm,X7,Xn,Xd,Qi,Qj,Qw,Q2,Xr,zoi,zel,zta,zat,zgz,zgs,zlc,zln,Nat.reduceAdd,zza,znt,zcn,MV.int.injEq,kr0,kr1,kl0,kl1,kz0]))
  have ha₃ := x₃ _ _ (x₂ _ _ (x₁ _ _ ha))
  refine Zk (by rw [Yk (Yi ha₃ hr)]; exact ha₃) (fit (by simp; exact Nat.le_trans (by assumption) (by decide))) ?_
  ((try dsimp only [Qx,Qu,Qn,Qv,Qg,Qf,Qz,X9,X8,X4,Xi,X2,Xa,X1,Qd,Qt,Qc,Qe,Ql,Xg,Q6,Qp,Qq,Qk,Qb,Qa,Q1,Qh,Q7,Q4,Q0,Q9,Q8,Q3,Q5,Qo,Qy,Qr,X5,X6,Qs,args0,X3,Xb,Xj,Xk,Xl,Xm,Qm,X7,Qi,Qj,Qw,Q2,zgz,zgs,zlc,zln,Nat.reduceAdd,kr0,kr1,kl0,kl1,kz0]); (try simp (discharger := decide) only [Qx,Qu,Qn,Qv,Qg,Qf,Qz,X9,X8,X4,Xi,X2,Xa,X1,Qd,Qt,Qc,Qe,Ql,Xg,Q6,Qp,Qq,Qk,Qb,Qa,Q1,Qh,Q7,Q4,Q0,Q9,Q8,Q3,Q5,Qo,Qy,Qr,X5,X6,Qs,args0,X3,Xb,Xf,Xh,Xc,Xe,Xj,Xk,Xl,Xm,Xv,Xu,Qm,X7,Xn,Xd,Qi,Qj,Qw,Q2,Xr,zoi,zel,zta,zat,zgz,zgs,zlc,zln,Nat.reduceAdd,zza,znt,zcn,MV.int.injEq,kr0,kr1,kl0,kl1,kz0]))
  rw [List.length_map]
  have hmn : min many ((ns.length : Int) - 4) ≤ 60 := Int.le_trans (Int.min_le_left _ _) hmany.2
  have hmn' : -4 ≤ min many ((ns.length : Int) - 4) := Int.le_min.mpr ⟨Int.le_trans (by decide) hmany.1, Int.sub_le_sub_right (Int.natCast_nonneg _) 4⟩
  have hmr : min many ((ns.length : Int) - 4) ≤ (ns.length : Int) - 4 := Int.min_le_right _ _
  have hM : (min many ((ns.length : Int) - 4)).toNat = manyOf ns many := rfl
  generalize min many ((ns.length : Int) - 4) = M at hmn hmn' hmr hM ⊢
  have hml : manyOf ns many ≤ 60 := hM ▸ Int.toNat_le.mpr hmn
  refine ⟨.ints (rangeL 0 M 1), _, ?_, rfl, ?_, ?_⟩
  · simp only [mkSrc, rangeM]
    rw [if_pos (by simp only [in62, Bool.and_eq_true, decide_eq_true_eq]; lia)]; rfl
  · rw [List.length_map, Zy]; exact fit (by first|exact dn hd rfl|exact dl hd rfl|lia)
  simp only [Src.held, List.nil_append]
  rw [Pa]
  refine D8 hΓ₁ hΓ₂ hΓ₃ (by first|exact dn hd rfl|exact dl hd rfl|omega) ha₃ hn (x₃ _ _ hnml) h3 hr hrf _ 0 _ _ [] (by first|exact dn hd rfl|exact dl hd rfl|lia) (by first|exact dn hd rfl|exact dl hd rfl|lia) ⟨rfl, rfl, rfl, rfl⟩ (Ext.upd hr) Yh rfl (by simp) fun V μ₄ rows bv x₄ hm₄ hk hg => ?_
  have hlen : rows.length = manyOf ns many := by have := congrArg List.length hk; simpa [hM] using this
  refine seq ?_
  ((try dsimp only [Nm,Qx,Qu,Qn,Qv,Qg,Qf,Qz,X9,X8,X4,Xi,X2,Xa,X1,Qd,Qt,Qc,Qe,Ql,Xg,Q6,Qp,Qq,Qk,Qb,Qa,Q1,Qh,Q7,Q4,Q0,Q9,Q8,Q3,Q5,Qo,Qy,Qr,X5,X6,Qs,args0,X3,Xb,Xj,Xk,Xl,Xm,Qm,X7,Qi,Qj,Qw,Q2,zgz,zgs,zlc,zln,Nat.reduceAdd,kr0,kr1,kl0,kl1,kz0,bv.v0,bv.v4]); (try simp (discharger := decide) only [Nm,Qx,Qu,Qn,Qv,Qg,Qf,Qz,X9,X8,X4,Xi,X2,Xa,X1,Qd,Qt,Qc,Qe,Ql,Xg,Q6,Qp,Qq,Qk,Qb,Qa,Q1,Qh,Q7,Q4,Q0,Q9,Q8,Q3,Q5,Qo,Qy,Qr,X5,X6,Qs,args0,X3,Xb,Xf,Xh,Xc,Xe,Xj,Xk,Xl,Xm,Xv,Xu,Qm,X7,Xn,Xd,Qi,Qj,Qw,Q2,Xr,zoi,zel,zta,zat,zgz,zgs,zlc,zln,Nat.reduceAdd,zza,znt,zcn,MV.int.injEq,kr0,kr1,kl0,kl1,kz0,bv.v0,bv.v4]))
  refine Zi hΓ₁ (by first|exact dn hd rfl|exact dl hd rfl|omega) (x₄ _ _ ha₃) hn (by decide) fun μ₅ x₅ => ?_
  ((try dsimp only [Qx,Qu,Qn,Qv,Qg,Qf,Qz,X9,X8,X4,Xi,X2,Xa,X1,Qd,Qt,Qc,Qe,Ql,Xg,Q6,Qp,Qq,Qk,Qb,Qa,Q1,Qh,Q7,Q4,Q0,Q9,Q8,Q3,Q5,Qo,Qy,Qr,X5,X6,Qs,args0,X3,Xb,Xj,Xk,Xl,Xm,Qm,X7,Qi,Qj,Qw,Q2,zgz,zgs,zlc,zln,Nat.reduceAdd,kr0,kr1,kl0,kl1,kz0]); (try simp (discharger := decide) only [Qx,Qu,Qn,Qv,Qg,Qf,Qz,X9,X8,X4,Xi,X2,Xa,X1,Qd,Qt,Qc,Qe,Ql,Xg,Q6,Qp,Qq,Qk,Qb,Qa,Q1,Qh,Q7,Q4,Q0,Q9,Q8,Q3,Q5,Qo,Qy,Qr,X5,X6,Qs,args0,X3,Xb,Xf,Xh,Xc,Xe,Xj,Xk,Xl,Xm,Xv,Xu,Qm,X7,Xn,Xd,Qi,Qj,Qw,Q2,Xr,zoi,zel,zta,zat,zgz,zgs,zlc,zln,Nat.reduceAdd,zza,znt,zcn,MV.int.injEq,kr0,kr1,kl0,kl1,kz0]))
  refine Zk (x₅ _ _ hm₄) (fit (by simp; lia)) ?_
  ((try dsimp only [Qx,Qu,Qn,Qv,Qg,Qf,Qz,X9,X8,X4,Xi,X2,Xa,X1,Qd,Qt,Qc,Qe,Ql,Xg,Q6,Qp,Qq,Qk,Qb,Qa,Q1,Qh,Q7,Q4,Q0,Q9,Q8,Q3,Q5,Qo,Qy,Qr,X5,X6,Qs,args0,X3,Xb,Xj,Xk,Xl,Xm,Qm,X7,Qi,Qj,Qw,Q2,zgz,zgs,zlc,zln,Nat.reduceAdd,kr0,kr1,kl0,kl1,kz0]); (try simp (discharger := decide) only [Qx,Qu,Qn,Qv,Qg,Qf,Qz,X9,X8,X4,Xi,X2,Xa,X1,Qd,Qt,Qc,Qe,Ql,Xg,Q6,Qp,Qq,Qk,Qb,Qa,Q1,Qh,Q7,Q4,Q0,Q9,Q8,Q3,Q5,Qo,Qy,Qr,X5,X6,Qs,args0,X3,Xb,Xf,Xh,Xc,Xe,Xj,Xk,Xl,Xm,Xv,Xu,Qm,X7,Xn,Xd,Qi,Qj,Qw,Q2,Xr,zoi,zel,zta,zat,zgz,zgs,zlc,zln,Nat.reduceAdd,zza,znt,zcn,MV.int.injEq,kr0,kr1,kl0,kl1,kz0]))
  rw [List.length_map]
  rw [Xe (by first|exact dn hd rfl|exact dl hd rfl|simp)]
  have hcut := fm (a := (at0 ns 0).fdiv 12) (b := (rows.length : Int) + 1) (by first|exact dn hd rfl|exact dl hd rfl|simp)
  generalize ((at0 ns 0).fdiv 12).fmod ((rows.length : Int) + 1) = cut at hcut ⊢
  refine seq ?_
  ((try dsimp only [Nl,Qx,Qu,Qn,Qv,Qg,Qf,Qz,X9,X8,X4,Xi,X2,Xa,X1,Qd,Qt,Qc,Qe,Ql,Xg,Q6,Qp,Qq,Qk,Qb,Qa,Q1,Qh,Q7,Q4,Q0,Q9,Q8,Q3,Q5,Qo,Qy,Qr,X5,X6,Qs,args0,X3,Xb,Xj,Xk,Xl,Xm,Qm,X7,Qi,Qj,Qw,Q2,zgz,zgs,zlc,zln,Nat.reduceAdd,kr0,kr1,kl0,kl1,kz0,bv.v4]); (try simp (discharger := decide) only [Nl,Qx,Qu,Qn,Qv,Qg,Qf,Qz,X9,X8,X4,Xi,X2,Xa,X1,Qd,Qt,Qc,Qe,Ql,Xg,Q6,Qp,Qq,Qk,Qb,Qa,Q1,Qh,Q7,Q4,Q0,Q9,Q8,Q3,Q5,Qo,Qy,Qr,X5,X6,Qs,args0,X3,Xb,Xf,Xh,Xc,Xe,Xj,Xk,Xl,Xm,Xv,Xu,Qm,X7,Xn,Xd,Qi,Qj,Qw,Q2,Xr,zoi,zel,zta,zat,zgz,zgs,zlc,zln,Nat.reduceAdd,zza,znt,zcn,MV.int.injEq,kr0,kr1,kl0,kl1,kz0,bv.v4]))
  have hm₅ := x₅ _ _ hm₄
  refine Op rfl rfl rfl (by simp) hm₅ (fit (by simp; lia)) fun c₁ hc₁ hcf₁ => ?_
  refine Op rfl rfl rfl (by simp) (by rw [Yk (Yi hm₅ hc₁)]; exact hm₅) (fit (by simp; lia)) fun c₂ hc₂ hcf₂ => ?_
  have e1 : pick (rows.map rowV) (some cut) none none = (rows.drop cut.toNat).map rowV := by rw [Dd _ hcut.1 (by simp; lia), List.map_drop]
  have e2 : pick (rows.map rowV) none (some cut) none = (rows.take cut.toNat).map rowV := by rw [Dc _ hcut.1 (by simp; lia), List.map_take]
  rw [e1] at hc₂ ⊢
  rw [e2]
  have ne : c₁ ≠ c₂ := Yi (o := .list ((rows.drop cut.toNat).map rowV)) Yh hc₂
  refine Cg (by rw [Yk ne, Yh]) Yh (fit (by simp; omega)) fun c₃ hc₃ hcf₃ => ?_
  rw [← List.map_append]
  refine F4 Yh ?_
  refine ⟨_, Pc _, fit (by simp; omega), fun c₄ hc₄ hcf₄ => ?_⟩
  have hnd : ((rows.drop cut.toNat ++ rows.take cut.toNat).map (·.1)).Nodup := by
    have h1 : (rows.map (·.1)).Nodup := by
      rw [hk]
      have gp := Fp ns
      refine List.Pairwise.map _ ?_ List.nodup_range
      intro x y hxy e
      have : ((x : Int) - y) * gapOf ns = 0 := by rw [Int.sub_mul]; lia
      rcases Int.mul_eq_zero.mp this with q | q
      · exact hxy (by first|exact dn hd rfl|exact dl hd rfl|lia)
      · lia
    have hp : (rows.drop cut.toNat ++ rows.take cut.toNat).Perm rows := by
      have := List.perm_append_comm (l₁ := rows.drop cut.toNat) (l₂ := rows.take cut.toNat)
      rwa [List.take_append_drop] at this
    exact (hp.map (·.1)).nodup_iff.mpr h1
  rw [B6 (acc := []) (by simpa using hnd), List.nil_append]
  have xx : Ext μ μ₅ := (((x₁.trans x₂).trans x₃).trans x₄).trans x₅
  have x6 := ((xx.trans (Ext.upd hc₁)).trans (Ext.upd hc₂)).trans (Ext.upd (o := .list ((rows.drop cut.toNat ++ rows.take cut.toNat).map rowV)) hc₃)
  refine h c₄ _ _ (x6.trans (Ext.upd hc₄)) ?_ hcf₄ Yh ⟨names, rows, cut.toNat, h3, hgood, ?_, hg, by lia, rfl, hnF.symm⟩
  · cases q : μ c₄ with
    | none => rfl
    | some o => rw [x6 _ _ q] at hc₄; cases hc₄
  · rw [hk]; simp [hM]
end Mine
end
section
namespace Mine
open PySem
noncomputable def Nx : MS := .assign 2 (.dict0 false)
noncomputable def Nw : MS := .assign 3 (.list [])
noncomputable def Jc : MS := .expr (.meth .append (.var 3) [(.var 4)])
noncomputable def Jy : MS := .setidx (.var 2) (.idx (.idx (.var 0) (.var 4)) (.cint 1)) (.cbool true)
noncomputable def N0 : MS := .ite (.cmp (.idx (.idx (.var 0) (.var 4)) (.cint 0)) [.eq] [(.cstr "undo")]) [Jy] []
noncomputable def Ok : MS := .ite (.and [(.cmp (.var 4) [.le] [(.var 1)]), (.cmp (.var 4) [.notin] [(.var 2)])]) [Jc, N0] []
noncomputable def Nv : MS := .for (.one 4) .plain [(.bi .sortedR [(.meth .keys (.var 0) [])])] [Ok]
noncomputable def Nu : MS := .ret (.bi .sorted [(.var 3)])
noncomputable def Jz : MFun := ⟨2, [Nx, Nw, Nv, Nu]⟩
end Mine
end
section
namespace Mine
open PySem
variable {G : String → Option MV} {Γ : String → Option MFun}
noncomputable def Atom (v : MV) : Prop := (∃ i, v = .int i) ∨ ∃ s, v = .str s ∧ PyData.strOk s = true
noncomputable def EntOk (e : MV) : Prop := (∃ j, e = .tup [.str (S "undo"), .int j]) ∨ ∃ s rest, e = .tup (.str s :: rest) ∧ s ≠ S "undo" ∧ PyData.strOk s = true ∧ rest.length ≤ 10 ∧ ∀ v ∈ rest, Atom v
noncomputable def undoOf (e : MV) : Option Int := match e with
  | .tup [.str s, .int j] => if s = S "undo" then some j else none
  | _ => none
noncomputable def undoAt (kvs : List (Int × MV)) (k : Int) : Option Int := (lookI kvs k).bind undoOf
theorem Ul : PyData.strOk (S "undo") = true := by decide +kernel
theorem EntOk.other {s : Str} {rest : List MV} (h : s ≠ S "undo") : undoOf (.tup (.str s :: rest)) = none := by
  unfold undoOf
  split
  · rename_i q; cases q; rw [if_neg h]
  · rfl
theorem EntOk.undo {j : Int} : undoOf (.tup [.str (S "undo"), .int j]) = some j := by simp [undoOf]
theorem GoodE.ent {names : List Str} {number : Int} {e : MV} (hn : ∀ nm ∈ names, GoodN nm) (h : GoodE names number e) : EntOk e := by
  have a1 : S "clear" ≠ S "undo" := by decide +kernel
  have a2 : S "like" ≠ S "undo" := by decide +kernel
  have a3 : S "tell" ≠ S "undo" := by decide +kernel
  have b1 : PyData.strOk (S "clear") = true := by decide +kernel
  have b2 : PyData.strOk (S "like") = true := by decide +kernel
  have b3 : PyData.strOk (S "tell") = true := by decide +kernel
  have hs : ∀ nm ∈ names, Atom (.str nm) := fun nm h => .inr ⟨nm, rfl, (hn nm h).ok⟩
  have hi : ∀ i, Atom (.int i) := fun i => .inl ⟨i, rfl⟩
  rcases h with ⟨j, rfl, _⟩ | ⟨nm, lo, hi', rfl, h1, _⟩ | ⟨nm, lo, hi', nm', rfl, h1, h2, _⟩ | ⟨nm, lo, hi', v, rfl, h1, _⟩
  · exact .inl ⟨j, rfl⟩
  · exact .inr ⟨_, _, rfl, a1, b1, by simp, by simp [hs nm h1, hi]⟩
  · exact .inr ⟨_, _, rfl, a2, b2, by simp, by simp [hs nm h1, hs nm' h2, hi]⟩
  · exact .inr ⟨_, _, rfl, a3, b3, by simp, by simp [hs nm h1, hi]⟩
theorem Pm {μ : MH} {n : Nat} : ∀ {l : List MV}, (∀ v ∈ l, Atom v) → ∃ ds, l.mapM (deep μ n) = some ds
  | [] => fun _ => ⟨[], rfl⟩
  | v :: l => fun h => by
    obtain ⟨ds, hd⟩ := Pm (μ := μ) (n := n) fun v hv => h v (.tail _ hv)
    have : ∃ d, deep μ n v = some d := by
      rcases h v (.head _) with ⟨i, rfl⟩ | ⟨s, rfl, hs⟩
      · exact ⟨.int i, by cases n <;> simp [deep]⟩
      · exact ⟨.str s, by cases n <;> simp [deep, hs]⟩
    obtain ⟨d, hv⟩ := this
    exact ⟨d :: ds, by rw [List.mapM_cons, hv, hd]; rfl⟩
theorem eq_undo {μ : MH} {e : MV} {k : Int} (h : EntOk e) : cmpM .eq μ e (.tup [.str (S "undo"), .int k]) = some (decide (undoOf e = some k)) := by
  have hd2 : deep μ 9 (.tup [.str (S "undo"), .int k]) = some (.tuple [.str (S "undo"), .int k]) := by
    simp [deep, List.mapM_cons, List.mapM_nil, Ul]
  rcases h with ⟨j, rfl⟩ | ⟨s, rest, rfl, hs, ho, _, ha⟩
  · have hd1 : deep μ 9 (.tup [.str (S "undo"), .int j]) = some (.tuple [.str (S "undo"), .int j]) := by
      simp [deep, List.mapM_cons, List.mapM_nil, Ul]
    rw [EntOk.undo]
    simp only [cmpM, eqM, eqD, hd1, hd2, PyData.eqv, PyData.eqvAll]
    by_cases q : j = k <;> simp [q]
  · obtain ⟨ds, hds⟩ := Pm (μ := μ) (n := 8) ha
    have hd1 : deep μ 9 (.tup (.str s :: rest)) = some (.tuple (.str s :: ds)) := by
      simp only [deep, List.mapM_cons, ho, hds]; rfl
    rw [EntOk.other hs]
    have hne : (s == S "undo") = false := by rw [beq_eq_false_iff_ne]; exact hs
    simp only [cmpM, eqM, eqD, hd1, hd2, PyData.eqv, PyData.eqvAll, hne]
    simp
theorem Bw {K : Type} [DecidableEq K] {kvs : List (K × MV)} (hn : (kvs.map (·.1)).Nodup) {p : K × MV} (hp : p ∈ kvs) : lookI kvs p.1 = some p.2 := by
  induction kvs with
  | nil => cases hp
  | cons q l ih =>
    simp only [List.map_cons, List.nodup_cons] at hn
    unfold lookI
    rw [List.find?_cons]
    rcases List.mem_cons.mp hp with rfl | hp'
    · simp
    · have : q.1 ≠ p.1 := fun e => hn.1 (e ▸ List.mem_map_of_mem hp')
      simp only [this, decide_false]
      exact ih hn.2 hp'
end Mine
end
section
namespace Mine
open PySem
variable {G : String → Option MV} {Γ : String → Option MFun}
noncomputable def cntF (kvs : List (Int × MV)) (n : Int) : List Int → List Int → List Int
  | [], _ => []
  | k :: ks, u => if k ≤ n ∧ k ∉ u then k :: cntF kvs n ks (match undoAt kvs k with | some j => j :: u | none => u) else cntF kvs n ks u
theorem look_put {l : List (Int × MV)} {j k : Int} {v : MV} : (lookI (putI l j v) k).isSome = (decide (k = j) || (lookI l k).isSome) := by
  unfold lookI putI
  simp only [Option.isSome_map, List.find?_isSome]
  split
  · rename_i h
    simp only [List.any_eq_true, decide_eq_true_eq] at h
    rw [Bool.eq_iff_iff]
    simp only [Bool.or_eq_true, decide_eq_true_eq, List.find?_isSome]
    constructor
    · rintro ⟨x, hx, e⟩
      obtain ⟨y, hy, rfl⟩ := List.mem_map.mp hx
      refine .inr ⟨y, hy, ?_⟩
      split at e <;> exact e
    · rintro (rfl | ⟨x, hx, e⟩)
      · obtain ⟨x, hx, e⟩ := h
        exact ⟨_, List.mem_map.mpr ⟨x, hx, rfl⟩, by split <;> exact e⟩
      · exact ⟨_, List.mem_map.mpr ⟨x, hx, rfl⟩, by split <;> exact e⟩
  · rw [Bool.eq_iff_iff]
    simp only [Bool.or_eq_true, decide_eq_true_eq, List.find?_isSome, List.mem_append, List.mem_singleton]
    constructor
    · rintro ⟨x, hx | rfl, e⟩
      · exact .inr ⟨x, hx, e⟩
      · exact .inl e.symm
    · rintro (rfl | ⟨x, hx, e⟩)
      · exact ⟨_, .inr rfl, rfl⟩
      · exact ⟨x, .inl hx, e⟩
theorem put_len {l : List (Int × MV)} {j : Int} {v : MV} : (putI l j v).length ≤ l.length + 1 := by
  unfold putI; split <;> simp
theorem K6 : ∀ (l : List Int), intsOf (l.map .int) = some l
  | [] => rfl
  | i :: l => by
    have := K6 l
    unfold intsOf at this ⊢
    rw [List.map_cons, List.mapM_cons, this]; rfl
theorem K0 (l : List Int) : (sortI l).length = l.length := by unfold sortI; exact List.length_mergeSort ..
theorem Cd {fz : List Addr} {Q : MQ} {μ : MH} {v : MV} (l : List MV) (ns : List Int) (h0 : isStrV v = false) (h1 : items μ v = some l) (h2 : intsOf l = some ns) (h3 : l.length < 64) (hq : ∀ c, μ c = none → c ∉ fz → Q (.ref c) (upd μ c (.list ((sortI ns).reverse.map .int)))) : biM fz .sortedR [v] Q μ := by
  exact ⟨l, ns, h0, h1, h2, h3, hq⟩
theorem bi_sorted {fz : List Addr} {Q : MQ} {μ : MH} {v : MV} (l : List MV) (ns : List Int) (h0 : isStrV v = false) (h1 : items μ v = some l) (h2 : intsOf l = some ns) (h3 : l.length < 64) (hq : ∀ c, μ c = none → c ∉ fz → Q (.ref c) (upd μ c (.list ((sortI ns).map .int)))) : biM fz .sorted [v] Q μ := by
  exact ⟨l, ns, h0, h1, h2, h3, hq⟩
structure CV (b u f : Addr) (n : Int) (V : MVars) : Prop where
  v0 : V 0 = some (.ref b)
  v1 : V 1 = some (.int n)
  v2 : V 2 = some (.ref u)
  v3 : V 3 = some (.ref f)
theorem CV.set {b u f : Addr} {n : Int} {V : MVars} (x : CV b u f n V) {i : Nat} (h : 4 ≤ i) (v : MV) : CV b u f n (setv V i v) :=
  ⟨(Xd (by first | exact nei h rfl | decide)).trans x.v0, (Xd (by first | exact nei h rfl | decide)).trans x.v1, (Xd (by first | exact nei h rfl | decide)).trans x.v2, (Xd (by first | exact nei h rfl | decide)).trans x.v3⟩
theorem U6 {Φ : CallSpec} {b u f : Addr} {n : Int} {kvs : List (Int × MV)} {fz : List Addr} {μ₁ : MH} {R : MFlow → MVars → MH → Prop} (hnd : (kvs.map (·.1)).Nodup) (hent : ∀ p ∈ kvs, EntOk p.2) (hb : μ₁ b = some (.idict kvs)) (hu : μ₁ u = none) (hf : μ₁ f = none) (huf : u ≠ f) (hu' : u ∉ fz) (hf' : f ∉ fz) :
    ∀ (ks : List Int) (V : MVars) (μ : MH) (ul : List (Int × MV)) (us fl : List Int), (∀ k ∈ ks, k ∈ kvs.map (·.1)) → CV b u f n V → Ext μ₁ μ → μ u = some (.idict ul) → (∀ k, (lookI ul k).isSome = decide (k ∈ us)) → μ f = some (.list (fl.map .int)) → ul.length + ks.length ≤ 100 → fl.length + ks.length ≤ 100 →
      (∀ V' μ', CV b u f n V' → Ext μ₁ μ' → μ' f = some (.list ((fl ++ cntF kvs n ks us).map .int)) → R .next V' μ') →
      loopM (.one 4) (fun vs F μ => exs G Φ X0 [Ok] fz vs F μ) R (ks.map .int) V μ
  | [] => fun V μ ul us fl _ x hx h1 h2 h3 _ _ h => by
    simp only [List.map_nil, Z5, Z6]
    exact h V μ x hx (by simpa [cntF] using h3)
  | k :: ks => fun V μ ul us fl hk x hx h1 h2 h3 hl1 hl2 h => by
    simp only [List.map_cons, Z5, Z6]
    refine ⟨_, rfl, ?_⟩
    simp only [List.length_cons] at hl1 hl2
    replace x := x.set (i := 4) (by decide) (.int k)
    have v4 : setv V 4 (.int k) 4 = some (.int k) := Xn
    generalize setv V 4 (.int k) = V at x v4 ⊢
    have hks : ∀ k ∈ ks, k ∈ kvs.map (·.1) := fun k hk' => hk k (.tail _ hk')
    obtain ⟨p, hp, hpk⟩ := List.mem_map.mp (hk k (.head _))
    have hlook : lookI kvs k = some p.2 := by rw [← hpk]; exact Bw hnd hp
    have hund : undoAt kvs k = undoOf p.2 := by unfold undoAt; rw [hlook]; rfl
    refine seq (Je ?_)
    generalize hF : (fun (t : Bool) (μ' : MH) => if t = true then exs G Φ X0 [Jc, N0] fz V _ μ' else exs G Φ X0 [] fz V _ μ') = F
    have hN : ¬(k ≤ n ∧ k ∉ us) → F false μ := fun q => by
      subst hF
      simp only [Bool.false_eq_true, if_false, exs]
      refine U6 hnd hent hb hu hf huf hu' hf' ks V μ ul us fl hks x hx h1 h2 h3 (by first|exact dn hd rfl|exact dl hd rfl|exact Nat.le_of_lt (by assumption)) (by first|exact dn hd rfl|exact dl hd rfl|exact Nat.le_of_lt (by assumption)) fun V' μ' x' hx' hm' => h V' μ' x' hx' ?_
      rw [hm', cntF, if_neg q]
    have hT : k ≤ n ∧ k ∉ us → F true μ := fun q => by
      subst hF
      simp only [if_true]
      refine seq ?_
      ((try dsimp only [Jc,Qx,Qu,Qn,Qv,Qg,Qf,Qz,X9,X8,X4,Xi,X2,Xa,X1,Qd,Qt,Qc,Qe,Ql,Xg,Q6,Qp,Qq,Qk,Qb,Qa,Q1,Qh,Q7,Q4,Q0,Q9,Q8,Q3,Q5,Qo,Qy,Qr,X5,X6,Qs,args0,X3,Xb,Xj,Xk,Xl,Xm,Qm,X7,Qi,Qj,Qw,Q2,zgz,zgs,zlc,zln,Nat.reduceAdd,kr0,kr1,kl0,kl1,kz0,x.v3,v4]); (try simp (discharger := decide) only [Jc,Qx,Qu,Qn,Qv,Qg,Qf,Qz,X9,X8,X4,Xi,X2,Xa,X1,Qd,Qt,Qc,Qe,Ql,Xg,Q6,Qp,Qq,Qk,Qb,Qa,Q1,Qh,Q7,Q4,Q0,Q9,Q8,Q3,Q5,Qo,Qy,Qr,X5,X6,Qs,args0,X3,Xb,Xf,Xh,Xc,Xe,Xj,Xk,Xl,Xm,Xv,Xu,Qm,X7,Xn,Xd,Qi,Qj,Qw,Q2,Xr,zoi,zel,zta,zat,zgz,zgs,zlc,zln,Nat.reduceAdd,zza,znt,zcn,MV.int.injEq,kr0,kr1,kl0,kl1,kz0,x.v3,v4]))
      refine ⟨V7 h3, _, h3, hf', fit (by simp; lia), ?_⟩
      have hx2 : Ext μ₁ (upd μ f (.list (fl.map .int ++ [.int k]))) := fun c o e => by rw [Yk (Yi e hf)]; exact hx c o e
      have hb2 := hx2 _ _ hb
      have hu2 : upd μ f (.list (fl.map .int ++ [.int k])) u = some (.idict ul) := by rw [Yk huf]; exact h1
      have hf2 : upd μ f (.list (fl.map .int ++ [.int k])) f = some (.list ((fl ++ [k]).map .int)) := by rw [Yh]; simp
      generalize upd μ f (.list (fl.map .int ++ [.int k])) = μ₂ at hx2 hb2 hu2 hf2 ⊢
      refine seq (Je (Z7 ?_))
      ((try dsimp only [Qx,Qu,Qn,Qv,Qg,Qf,Qz,X9,X8,X4,Xi,X2,Xa,X1,Qd,Qt,Qc,Qe,Ql,Xg,Q6,Qp,Qq,Qk,Qb,Qa,Q1,Qh,Q7,Q4,Q0,Q9,Q8,Q3,Q5,Qo,Qy,Qr,X5,X6,Qs,args0,X3,Xb,Xj,Xk,Xl,Xm,Qm,X7,Qi,Qj,Qw,Q2,zgz,zgs,zlc,zln,Nat.reduceAdd,kr0,kr1,kl0,kl1,kz0,x.v0,x.v1,x.v2,x.v3,v4]); (try simp (discharger := decide) only [Qx,Qu,Qn,Qv,Qg,Qf,Qz,X9,X8,X4,Xi,X2,Xa,X1,Qd,Qt,Qc,Qe,Ql,Xg,Q6,Qp,Qq,Qk,Qb,Qa,Q1,Qh,Q7,Q4,Q0,Q9,Q8,Q3,Q5,Qo,Qy,Qr,X5,X6,Qs,args0,X3,Xb,Xf,Xh,Xc,Xe,Xj,Xk,Xl,Xm,Xv,Xu,Qm,X7,Xn,Xd,Qi,Qj,Qw,Q2,Xr,zoi,zel,zta,zat,zgz,zgs,zlc,zln,Nat.reduceAdd,zza,znt,zcn,MV.int.injEq,kr0,kr1,kl0,kl1,kz0,x.v0,x.v1,x.v2,x.v3,v4]))
      refine ⟨p.2, by rw [N8 hb2]; exact hlook, ?_⟩
      rcases hent p hp with ⟨j, hj⟩ | ⟨s, rest, hs, hne, hok, hrl, _⟩
      · have hu3 : undoOf p.2 = some j := by rw [hj]; exact EntOk.undo
        refine ⟨.str (S "undo"), by rw [hj, Do (by simp)]; rfl, ?_⟩
        rw [Jd Ul Ul]
        refine ⟨_, rfl, ?_⟩
        simp only [beq_self_eq_true, if_true]
        refine seq ?_
        ((try dsimp only [Jy,Qx,Qu,Qn,Qv,Qg,Qf,Qz,X9,X8,X4,Xi,X2,Xa,X1,Qd,Qt,Qc,Qe,Ql,Xg,Q6,Qp,Qq,Qk,Qb,Qa,Q1,Qh,Q7,Q4,Q0,Q9,Q8,Q3,Q5,Qo,Qy,Qr,X5,X6,Qs,args0,X3,Xb,Xj,Xk,Xl,Xm,Qm,X7,Qi,Qj,Qw,Q2,zgz,zgs,zlc,zln,Nat.reduceAdd,kr0,kr1,kl0,kl1,kz0,x.v0,x.v2,v4]); (try simp (discharger := decide) only [Jy,Qx,Qu,Qn,Qv,Qg,Qf,Qz,X9,X8,X4,Xi,X2,Xa,X1,Qd,Qt,Qc,Qe,Ql,Xg,Q6,Qp,Qq,Qk,Qb,Qa,Q1,Qh,Q7,Q4,Q0,Q9,Q8,Q3,Q5,Qo,Qy,Qr,X5,X6,Qs,args0,X3,Xb,Xf,Xh,Xc,Xe,Xj,Xk,Xl,Xm,Xv,Xu,Qm,X7,Xn,Xd,Qi,Qj,Qw,Q2,Xr,zoi,zel,zta,zat,zgz,zgs,zlc,zln,Nat.reduceAdd,zza,znt,zcn,MV.int.injEq,kr0,kr1,kl0,kl1,kz0,x.v0,x.v2,v4]))
        refine ⟨p.2, by rw [N8 hb2]; exact hlook, .int j, by rw [hj, Do (by simp)]; rfl, ?_⟩
        refine set_dict hu2 hu' (fit (by first|exact dn hd rfl|exact dl hd rfl|lia)) ?_
        simp only [exs]
        refine U6 hnd hent hb hu hf huf hu' hf' ks V _ (putI ul j (.bool true)) (j :: us) (fl ++ [k]) hks x ?_ Yh ?_ ?_ ?_ ?_ fun V' μ' x' hx' hm' => h V' μ' x' hx' ?_
        · intro c o e; rw [Yk (Yi e hu)]; exact hx2 c o e
        · intro k'; rw [look_put, h2]; simp [List.mem_cons]
        · rw [Yk (Ne.symm huf)]; exact hf2
        · have := put_len (l := ul) (j := j) (v := .bool true); lia
        · simp; lia
        · rw [hm', cntF, if_pos q, hund, hu3]; simp
      · have hu3 : undoOf p.2 = none := by rw [hs]; exact EntOk.other hne
        refine ⟨.str s, by rw [hs, Do (by simp; exact Nat.le_trans (by assumption) (by decide))]; rfl, ?_⟩
        rw [Jd hok Ul]
        refine ⟨_, rfl, ?_⟩
        have : (s == S "undo") = false := by rw [beq_eq_false_iff_ne]; exact hne
        simp only [this, Bool.false_eq_true, if_false, exs]
        refine U6 hnd hent hb hu hf huf hu' hf' ks V _ ul us (fl ++ [k]) hks x hx2 hu2 h2 hf2 (by first|exact dn hd rfl|exact dl hd rfl|exact Nat.le_of_lt (by assumption)) (by simp; lia) fun V' μ' x' hx' hm' => h V' μ' x' hx' ?_
        rw [hm', cntF, if_pos q, hund, hu3]; simp
    clear hF
    refine Ur (Z7 ?_)
    ((try dsimp only [Qx,Qu,Qn,Qv,Qg,Qf,Qz,X9,X8,X4,Xi,X2,Xa,X1,Qd,Qt,Qc,Qe,Ql,Xg,Q6,Qp,Qq,Qk,Qb,Qa,Q1,Qh,Q7,Q4,Q0,Q9,Q8,Q3,Q5,Qo,Qy,Qr,X5,X6,Qs,args0,X3,Xb,Xj,Xk,Xl,Xm,Qm,X7,Qi,Qj,Qw,Q2,zgz,zgs,zlc,zln,Nat.reduceAdd,kr0,kr1,kl0,kl1,kz0,x.v0,x.v1,x.v2,x.v3,v4]); (try simp (discharger := decide) only [Qx,Qu,Qn,Qv,Qg,Qf,Qz,X9,X8,X4,Xi,X2,Xa,X1,Qd,Qt,Qc,Qe,Ql,Xg,Q6,Qp,Qq,Qk,Qb,Qa,Q1,Qh,Q7,Q4,Q0,Q9,Q8,Q3,Q5,Qo,Qy,Qr,X5,X6,Qs,args0,X3,Xb,Xf,Xh,Xc,Xe,Xj,Xk,Xl,Xm,Xv,Xu,Qm,X7,Xn,Xd,Qi,Qj,Qw,Q2,Xr,zoi,zel,zta,zat,zgz,zgs,zlc,zln,Nat.reduceAdd,zza,znt,zcn,MV.int.injEq,kr0,kr1,kl0,kl1,kz0,x.v0,x.v1,x.v2,x.v3,v4]))
    by_cases q1 : k ≤ n
    · simp only [q1, decide_true, if_true]
      refine Ol (Z7 ?_)
      ((try dsimp only [Qx,Qu,Qn,Qv,Qg,Qf,Qz,X9,X8,X4,Xi,X2,Xa,X1,Qd,Qt,Qc,Qe,Ql,Xg,Q6,Qp,Qq,Qk,Qb,Qa,Q1,Qh,Q7,Q4,Q0,Q9,Q8,Q3,Q5,Qo,Qy,Qr,X5,X6,Qs,args0,X3,Xb,Xj,Xk,Xl,Xm,Qm,X7,Qi,Qj,Qw,Q2,zgz,zgs,zlc,zln,Nat.reduceAdd,kr0,kr1,kl0,kl1,kz0,x.v0,x.v1,x.v2,x.v3,v4]); (try simp (discharger := decide) only [Qx,Qu,Qn,Qv,Qg,Qf,Qz,X9,X8,X4,Xi,X2,Xa,X1,Qd,Qt,Qc,Qe,Ql,Xg,Q6,Qp,Qq,Qk,Qb,Qa,Q1,Qh,Q7,Q4,Q0,Q9,Q8,Q3,Q5,Qo,Qy,Qr,X5,X6,Qs,args0,X3,Xb,Xf,Xh,Xc,Xe,Xj,Xk,Xl,Xm,Xv,Xu,Qm,X7,Xn,Xd,Qi,Qj,Qw,Q2,Xr,zoi,zel,zta,zat,zgz,zgs,zlc,zln,Nat.reduceAdd,zza,znt,zcn,MV.int.injEq,kr0,kr1,kl0,kl1,kz0,x.v0,x.v1,x.v2,x.v3,v4]))
      refine ⟨!decide (k ∈ us), by rw [show cmpM .notin μ (.int k) (.ref u) = (inM μ (.int k) (.ref u)).map (!·) from rfl, in_dict h1, h2]; rfl, ?_⟩
      by_cases q2 : k ∈ us
      · simp only [q2, decide_true, Bool.not_true]; exact hN (by simp [q2])
      · simp only [q2, decide_false, Bool.not_false]; exact hT ⟨q1, q2⟩
    · simp only [q1, decide_false, Bool.false_eq_true, if_false]
      exact hN (by simp [q1])
noncomputable def cntOf (kvs : List (Int × MV)) (n : Int) : List Int := sortI (cntF kvs n (sortI (kvs.map (·.1))).reverse [])
theorem Om {kvs : List (Int × MV)} {n : Int} : ∀ (ks us : List Int), (cntF kvs n ks us).length ≤ ks.length
  | [] => fun _ => Nat.le_refl _
  | k :: ks => fun us => by
    unfold cntF
    split
    · simp only [List.length_cons]; exact Nat.succ_le_succ (Om ks _)
    · exact Nat.le_succ_of_le (Om ks us)
theorem Vq {d : Nat} {b : Addr} {n : Int} {kvs : List (Int × MV)} {fz : List Addr} {Q : MQ} {μ : MH} (hΓ : Γ "counting" = some Jz) (hd : 1 ≤ d) (hnd : (kvs.map (·.1)).Nodup) (hlen : kvs.length < 64) (hent : ∀ p ∈ kvs, EntOk p.2) (hb : μ b = some (.idict kvs))
    (h : ∀ (c : Addr) (μ' : MH), Ext μ μ' → μ c = none → c ∉ fz → μ' c = some (.list ((cntOf kvs n).map .int)) → Q (.ref c) μ') : calls G Γ d "counting" [.ref b, .int n] fz Q X0 μ := by
  refine Z2 hΓ rfl hd (seq ?_)
  ((try dsimp only [Nx,Qx,Qu,Qn,Qv,Qg,Qf,Qz,X9,X8,X4,Xi,X2,Xa,X1,Qd,Qt,Qc,Qe,Ql,Xg,Q6,Qp,Qq,Qk,Qb,Qa,Q1,Qh,Q7,Q4,Q0,Q9,Q8,Q3,Q5,Qo,Qy,Qr,X5,X6,Qs,args0,X3,Xb,Xj,Xk,Xl,Xm,Qm,X7,Qi,Qj,Qw,Q2,zgz,zgs,zlc,zln,Nat.reduceAdd,kr0,kr1,kl0,kl1,kz0]); (try simp (discharger := decide) only [Nx,Qx,Qu,Qn,Qv,Qg,Qf,Qz,X9,X8,X4,Xi,X2,Xa,X1,Qd,Qt,Qc,Qe,Ql,Xg,Q6,Qp,Qq,Qk,Qb,Qa,Q1,Qh,Q7,Q4,Q0,Q9,Q8,Q3,Q5,Qo,Qy,Qr,X5,X6,Qs,args0,X3,Xb,Xf,Xh,Xc,Xe,Xj,Xk,Xl,Xm,Xv,Xu,Qm,X7,Xn,Xd,Qi,Qj,Qw,Q2,Xr,zoi,zel,zta,zat,zgz,zgs,zlc,zln,Nat.reduceAdd,zza,znt,zcn,MV.int.injEq,kr0,kr1,kl0,kl1,kz0]))
  intro u hu huz
  simp only [Bool.false_eq_true, if_false]
  refine seq ?_
  ((try dsimp only [Nw,Qx,Qu,Qn,Qv,Qg,Qf,Qz,X9,X8,X4,Xi,X2,Xa,X1,Qd,Qt,Qc,Qe,Ql,Xg,Q6,Qp,Qq,Qk,Qb,Qa,Q1,Qh,Q7,Q4,Q0,Q9,Q8,Q3,Q5,Qo,Qy,Qr,X5,X6,Qs,args0,X3,Xb,Xj,Xk,Xl,Xm,Qm,X7,Qi,Qj,Qw,Q2,zgz,zgs,zlc,zln,Nat.reduceAdd,kr0,kr1,kl0,kl1,kz0]); (try simp (discharger := decide) only [Nw,Qx,Qu,Qn,Qv,Qg,Qf,Qz,X9,X8,X4,Xi,X2,Xa,X1,Qd,Qt,Qc,Qe,Ql,Xg,Q6,Qp,Qq,Qk,Qb,Qa,Q1,Qh,Q7,Q4,Q0,Q9,Q8,Q3,Q5,Qo,Qy,Qr,X5,X6,Qs,args0,X3,Xb,Xf,Xh,Xc,Xe,Xj,Xk,Xl,Xm,Xv,Xu,Qm,X7,Xn,Xd,Qi,Qj,Qw,Q2,Xr,zoi,zel,zta,zat,zgz,zgs,zlc,zln,Nat.reduceAdd,zza,znt,zcn,MV.int.injEq,kr0,kr1,kl0,kl1,kz0]))
  intro f hf hfz
  refine seq ?_
  ((try dsimp only [Nv,Qx,Qu,Qn,Qv,Qg,Qf,Qz,X9,X8,X4,Xi,X2,Xa,X1,Qd,Qt,Qc,Qe,Ql,Xg,Q6,Qp,Qq,Qk,Qb,Qa,Q1,Qh,Q7,Q4,Q0,Q9,Q8,Q3,Q5,Qo,Qy,Qr,X5,X6,Qs,args0,X3,Xb,Xj,Xk,Xl,Xm,Qm,X7,Qi,Qj,Qw,Q2,zgz,zgs,zlc,zln,Nat.reduceAdd,kr0,kr1,kl0,kl1,kz0]); (try simp (discharger := decide) only [Nv,Qx,Qu,Qn,Qv,Qg,Qf,Qz,X9,X8,X4,Xi,X2,Xa,X1,Qd,Qt,Qc,Qe,Ql,Xg,Q6,Qp,Qq,Qk,Qb,Qa,Q1,Qh,Q7,Q4,Q0,Q9,Q8,Q3,Q5,Qo,Qy,Qr,X5,X6,Qs,args0,X3,Xb,Xf,Xh,Xc,Xe,Xj,Xk,Xl,Xm,Xv,Xu,Qm,X7,Xn,Xd,Qi,Qj,Qw,Q2,Xr,zoi,zel,zta,zat,zgz,zgs,zlc,zln,Nat.reduceAdd,zza,znt,zcn,MV.int.injEq,kr0,kr1,kl0,kl1,kz0]))
  have hf0 : μ f = none := by
    cases q : μ f with
    | none => rfl
    | some o => rw [Ext.upd hu _ _ q] at hf; cases hf
  have huf : u ≠ f := Yi (o := .idict []) Yh hf
  have hbu : b ≠ u := Yi hb hu
  have hbf : b ≠ f := Yi hb hf0
  have hb2 : upd (upd μ u (.idict [])) f (.list []) b = some (.idict kvs) := by rw [Yk hbf, Yk hbu]; exact hb
  refine ⟨Ua hb2, Ua hb2, ?_⟩
  refine Cd (kvs.map fun kv => .int kv.1) (kvs.map (·.1)) rfl (by simp only [items, itemsO, keysO, valsO, hb2]) (by have := K6 (kvs.map (·.1)); rwa [List.map_map] at this) (by simpa using hlen) fun c hc hcz => ?_
  have hc0 : μ c = none := by
    cases q : μ c with
    | none => rfl
    | some o => rw [Ext.upd hf _ _ (Ext.upd hu _ _ q)] at hc; cases hc
  refine ⟨.val (.ref c), ((sortI (kvs.map (·.1))).reverse.map MV.int), rfl, by simp [Src.items, items, itemsO, keysO, valsO, Yh], fit (by simp [K0]; lia), ?_⟩
  have hcu : u ≠ c := Yi (o := .idict []) (by rw [Yk huf, Yh]) hc
  have hcf : f ≠ c := Yi (o := .list []) Yh hc
  have hsl := K0 (kvs.map (·.1))
  simp only [List.length_map] at hsl
  refine U6 (μ₁ := upd μ c (.list ((sortI (kvs.map (·.1))).reverse.map .int))) hnd hent (by rw [Yk (Yi hb hc0)]; exact hb) (by rw [Yk hcu]; exact hu) (by rw [Yk hcf]; exact hf0) huf (by simp [Src.held, hcu, huz]) (by simp [Src.held, hcf, hfz]) _ _ _ [] [] [] ?_ ⟨rfl, rfl, rfl, rfl⟩ ?_ ?_ ?_ ?_ ?_ ?_ fun V μ₂ x hx hm => ?_
  · intro k hk
    rw [List.mem_reverse] at hk
    unfold sortI at hk
    exact List.mem_mergeSort.mp hk
  · intro a o e
    by_cases q : a = c
    · subst q; rw [Yh] at e ⊢; exact e
    · rw [Yk q] at e ⊢
      exact Ext.upd hf _ _ (Ext.upd hu _ _ e)
  · rw [Yk hcu, Yk huf, Yh]
  · intro k; simp [lookI]
  · rw [Yk hcf, Yh]; rfl
  · simp; lia
  · simp; lia
  · refine seq ?_
    ((try dsimp only [Nu,Qx,Qu,Qn,Qv,Qg,Qf,Qz,X9,X8,X4,Xi,X2,Xa,X1,Qd,Qt,Qc,Qe,Ql,Xg,Q6,Qp,Qq,Qk,Qb,Qa,Q1,Qh,Q7,Q4,Q0,Q9,Q8,Q3,Q5,Qo,Qy,Qr,X5,X6,Qs,args0,X3,Xb,Xj,Xk,Xl,Xm,Qm,X7,Qi,Qj,Qw,Q2,zgz,zgs,zlc,zln,Nat.reduceAdd,kr0,kr1,kl0,kl1,kz0,x.v3]); (try simp (discharger := decide) only [Nu,Qx,Qu,Qn,Qv,Qg,Qf,Qz,X9,X8,X4,Xi,X2,Xa,X1,Qd,Qt,Qc,Qe,Ql,Xg,Q6,Qp,Qq,Qk,Qb,Qa,Q1,Qh,Q7,Q4,Q0,Q9,Q8,Q3,Q5,Qo,Qy,Qr,X5,X6,Qs,args0,X3,Xb,Xf,Xh,Xc,Xe,Xj,Xk,Xl,Xm,Xv,Xu,Qm,X7,Xn,Xd,Qi,Qj,Qw,Q2,Xr,zoi,zel,zta,zat,zgz,zgs,zlc,zln,Nat.reduceAdd,zza,znt,zcn,MV.int.injEq,kr0,kr1,kl0,kl1,kz0,x.v3]))
    have hfl := Om (kvs := kvs) (n := n) (sortI (kvs.map (·.1))).reverse []
    rw [List.length_reverse, hsl] at hfl
    rw [List.nil_append] at hm
    refine bi_sorted _ (cntF kvs n (sortI (kvs.map (·.1))).reverse []) rfl (by simp only [items, itemsO, keysO, valsO, hm]) (K6 _) (by simp; lia) fun c' hc' hcz' => ?_
    have xx : Ext μ μ₂ := (Ext.upd hc0).trans hx
    refine h c' _ (xx.trans (Ext.upd hc')) ?_ hcz' Yh
    cases q : μ c' with
    | none => rfl
    | some o => rw [xx _ _ q] at hc'; cases hc'
end Mine
end
section
namespace Mine
open PySem
variable {G : String → Option MV} {Γ : String → Option MFun}
theorem Z3 (l : List Int) : (sortI l).Perm l := List.mergeSort_perm ..
theorem Jg (l : List Int) : (sortI l).Pairwise (· ≤ ·) := by
  have := List.pairwise_mergeSort (le := fun (a b : Int) => decide (a ≤ b)) (by intro a b c; simp; solve_by_elim (maxDepth := 3) only [*, Int.le_trans, Int.lt_of_lt_of_le, Int.lt_of_le_of_lt, Int.le_of_lt]) (by intro a b; simp; lia) l
  exact this.imp (by simp)
theorem Uu {a b : List Int} (ha : a.Pairwise (· ≤ ·)) (hb : b.Pairwise (· ≤ ·)) (h : a.Perm b) : a = b :=
  h.eq_of_pairwise (fun a b _ _ x y => by lia) ha hb
theorem sortI_of {a b : List Int} (h : a.Perm b) : sortI a = sortI b :=
  Uu (Jg a) (Jg b) ((Z3 a).trans (h.trans (Z3 b).symm))
theorem sortI_lt {l : List Int} (h : l.Nodup) : (sortI l).Pairwise (· < ·) := by
  have h1 := Jg l
  have h2 : (sortI l).Nodup := (Z3 l).nodup_iff.mpr h
  have := h1.and h2
  exact this.imp fun {a b} ⟨x, y⟩ => by have : a ≠ b := y; lia
theorem eqv_self {μ : MH} : ∀ (n : Nat) {v : MV} {d : PyData}, deep μ n v = some d → PyData.eqv d d = true := by
  have hall : ∀ (n : Nat), (∀ {v : MV} {d : PyData}, deep μ n v = some d → PyData.eqv d d = true) → ∀ {l : List MV} {ds : List PyData}, l.mapM (deep μ n) = some ds → PyData.eqvAll ds ds = true := by
    intro n ih l
    induction l with
    | nil => intro ds h; simp at h; subst h; rfl
    | cons v l il =>
      intro ds h
      rw [List.mapM_cons] at h
      cases h1 : deep μ n v with
      | none => rw [h1] at h; cases h
      | some d =>
        cases h2 : l.mapM (deep μ n) with
        | none => rw [h1, h2] at h; cases h
        | some es =>
          rw [h1, h2] at h
          cases h
          simp only [PyData.eqvAll, ih h1, il h2, Bool.and_self]
  intro n
  induction n with
  | zero => 
    intro v d h
    cases v <;> simp [deep] at h
    all_goals first | (subst h; simp [PyData.eqv]; done) | (obtain ⟨_, rfl⟩ := h; simp [PyData.eqv])
  | succ n ih =>
    intro v d h
    cases v with
    | tup l =>
      simp only [deep, Option.map_eq_some_iff] at h
      obtain ⟨ds, h, rfl⟩ := h
      simpa [PyData.eqv] using hall n ih h
    | ref a =>
      simp only [deep] at h
      split at h
      · simp only [Option.map_eq_some_iff] at h
        obtain ⟨ds, h, rfl⟩ := h
        simpa [PyData.eqv] using hall n ih h
      · cases h
    | none => simp [deep] at h; subst h; simp [PyData.eqv]
    | bool b => simp [deep] at h; subst h; simp [PyData.eqv]
    | int b => simp [deep] at h; subst h; simp [PyData.eqv]
    | str b => simp [deep] at h; obtain ⟨_, rfl⟩ := h; simp [PyData.eqv]
    | keys b => simp [deep] at h
    | vals b => simp [deep] at h
theorem eqD_self {μ : MH} {v : MV} (h : ∃ d, deep μ 9 v = some d) : eqD μ v v = some true := by
  obtain ⟨d, h⟩ := h
  simp only [eqD, h, eqv_self 9 h]
theorem EntOk.deep {μ : MH} {e : MV} (h : EntOk e) : ∃ d, deep μ 9 e = some d := by
  rcases h with ⟨j, rfl⟩ | ⟨s, rest, rfl, hs, ho, _, ha⟩
  · exact ⟨.tuple [.str (S "undo"), .int j], by simp [Mine.deep, List.mapM_cons, List.mapM_nil, Ul]⟩
  · obtain ⟨ds, hds⟩ := Pm (μ := μ) (n := 8) ha
    exact ⟨.tuple (.str s :: ds), by simp only [Mine.deep, List.mapM_cons, ho, hds]; rfl⟩
theorem Dl {α : Type} {f : α → Option Bool} : ∀ {l : List α}, (∀ x ∈ l, f x = some true) → l.mapM f = some (l.map fun _ => true)
  | [] => fun _ => rfl
  | x :: l => fun h => by rw [List.mapM_cons, h x (.head _), Dl fun y hy => h y (.tail _ hy)]; rfl
theorem eq_dict {μ : MH} {b e : Addr} {kvs : List (Int × MV)} (hb : μ b = some (.idict kvs)) (he : μ e = some (.idict kvs)) (hnd : (kvs.map (·.1)).Nodup) (h : ∀ p ∈ kvs, ∃ d, deep μ 9 p.2 = some d) : eqM μ (.ref b) (.ref e) = some true := by
  simp only [eqM, hb, he, eqDicts, if_true]
  rw [Dl]
  · simp [List.all_map]
  · intro p hp
    rw [Bw hnd hp]; exact eqD_self (h p hp)
theorem Ow {μ : MH} {n : Nat} : ∀ (l : List Int), (l.map MV.int).mapM (deep μ n) = some (l.map PyData.int)
  | [] => rfl
  | i :: l => by rw [List.map_cons, List.mapM_cons, Ow l]; cases n <;> rfl
theorem eq_ints {μ : MH} {b e : Addr} {l : List Int} (hb : μ b = some (.list (l.map .int))) (he : μ e = some (.list (l.map .int))) : eqM μ (.ref b) (.ref e) = some true := by
  have hd1 : deep μ 9 (.ref b) = some (.list (l.map PyData.int)) := by simp only [deep, K5 hb, Ow]; rfl
  have hd2 : deep μ 9 (.ref e) = some (.list (l.map PyData.int)) := by simp only [deep, K5 he, Ow]; rfl
  simp only [eqM, hb, he, eqD, hd1, hd2, eqv_self 9 hd1]
theorem book_facts {ns : List Int} {many : Int} {kvs : List (Int × MV)} (h : BookOk ns many kvs) (hm : 0 ≤ many ∧ many ≤ 14) : (kvs.map (·.1)).Nodup ∧ kvs.length ≤ 14 ∧ (∀ p ∈ kvs, EntOk p.2) ∧ ∀ k ∈ kvs.map (·.1), 1 ≤ k ∧ k ≤ 40 := by
  obtain ⟨names, rows, cut, h3, hg, hk, he, hc, rfl, _⟩ := h
  have gp := Fp ns
  have hp : (rows.drop cut ++ rows.take cut).Perm rows := by
    have := List.perm_append_comm (l₁ := rows.drop cut) (l₂ := rows.take cut)
    rwa [List.take_append_drop] at this
  have hl : rows.length ≤ 14 := by
    have := congrArg List.length hk
    simp at this; unfold manyOf at this; omega
  refine ⟨?_, ?_, fun p q => (he p (hp.mem_iff.mp q)).ent hg, ?_⟩
  · refine (hp.map (·.1)).nodup_iff.mpr ?_
    rw [hk]
    refine List.Pairwise.map _ ?_ List.nodup_range
    intro x y hxy e
    have : ((x : Int) - y) * gapOf ns = 0 := by rw [Int.sub_mul]; lia
    rcases Int.mul_eq_zero.mp this with q | q
    · exact hxy (by first|exact dn hd rfl|exact dl hd rfl|lia)
    · lia
  · rw [hp.length_eq]; exact hl
  · intro k q
    have q := (hp.map (·.1)).mem_iff.mp q
    rw [hk] at q
    obtain ⟨i, hi, rfl⟩ := List.mem_map.mp q
    have hi := List.mem_range.mp hi
    have : manyOf ns many ≤ 14 := by unfold manyOf; omega
    have h1 : 0 ≤ (i : Int) * gapOf ns := Int.mul_nonneg (by first|exact dn hd rfl|exact dl hd rfl|exact Int.natCast_nonneg _) (by first|exact dn hd rfl|exact dl hd rfl|lia)
    have h2 : (i : Int) * gapOf ns ≤ 13 * gapOf ns := Int.mul_le_mul_of_nonneg_right (by first|exact dn hd rfl|exact dl hd rfl|lia) (by first|exact dn hd rfl|exact dl hd rfl|lia)
    lia
theorem Dr : ∀ (l : List Int) (x : Int), (1 ≤ x ∧ x ≤ 40) → (∀ k ∈ l, 1 ≤ k ∧ k ≤ 40) → 1 ≤ l.foldl max x ∧ l.foldl max x ≤ 40
  | [] => fun x hx _ => hx
  | y :: l => fun x hx h => by
    have := h y (.head _)
    exact Dr l (max x y) (by first|exact dn hd rfl|exact dl hd rfl|omega) fun k hk => h k (.tail _ hk)
theorem maxI_rng {l : List Int} (h : ∀ k ∈ l, 1 ≤ k ∧ k ≤ 40) : 0 ≤ (maxI l).getD 0 ∧ (maxI l).getD 0 ≤ 40 := by
  cases l with
  | nil => simp [maxI]
  | cons x l =>
    have := Dr l x (h x (.head _)) fun k hk => h k (.tail _ hk)
    simp only [maxI, Option.getD_some]; lia
theorem A5 (kvs : List (Int × MV)) (n : Int) : (cntOf kvs n).length ≤ kvs.length := by
  unfold cntOf
  rw [K0]
  refine Nat.le_trans (Om _ _) ?_
  rw [List.length_reverse, K0, List.length_map]; exact Nat.le_refl _
end Mine
end
section
namespace Mine
open PySem
noncomputable def Zd : MS := .ret (.and [(.cmp (.idx (.var 0) (.cint 0)) [.ne] [(.cstr "undo")]), (.cmp (.idx (.var 0) (.cint 1)) [.eq] [(.var 1)]), (.cmp (.idx (.var 0) (.cint 2)) [.le, .le] [(.var 2), (.idx (.var 0) (.cint 3))])])
noncomputable def Ja : MFun := ⟨3, [Zd]⟩
noncomputable def K9 : MS := .assign 5 (.idx (.var 0) (.var 4))
noncomputable def Js : MS := .ret (.idx (.var 5) (.cint 4))
noncomputable def Za : MS := .ite (.cmp (.idx (.var 5) (.cint 0)) [.eq] [(.cstr "tell")]) [Js] []
noncomputable def Jr : MS := .ret .cnone
noncomputable def Zo : MS := .ite (.cmp (.idx (.var 5) (.cint 0)) [.eq] [(.cstr "clear")]) [Jr] []
noncomputable def Kr : MS := .assign 2 (.idx (.var 5) (.cint 4))
noncomputable def O9 : MS := .ite (.call "is_about" [(.var 5), (.var 2), (.var 3)]) [Za, Zo, Kr] []
noncomputable def Uo : MS := .for (.one 4) .rev [(.var 1)] [K9, O9]
noncomputable def K8 : MS := .ret .cnone
noncomputable def Jt : MFun := ⟨4, [Uo, K8]⟩
noncomputable def N9 : MS := .ret (.call "worth_by" [(.var 0), (.call "counting" [(.var 0), (.var 1)]), (.var 2), (.var 3)])
noncomputable def Pf : MFun := ⟨4, [N9]⟩
noncomputable def Kz : MS := .assign 2 (.list [])
noncomputable def Ky : MS := .assign 3 (.list [])
noncomputable def Zj : MS := .expr (.meth .append (.var 3) [(.var 4)])
noncomputable def Zv : MS := .expr (.meth .append (.var 2) [(.idx (.idx (.var 0) (.var 4)) (.cint 1))])
noncomputable def Ue : MS := .ite (.cmp (.idx (.idx (.var 0) (.var 4)) (.cint 0)) [.eq] [(.cstr "undo")]) [Zv] []
noncomputable def V4 : MS := .ite (.and [(.cmp (.var 4) [.le] [(.var 1)]), (.cmp (.var 4) [.notin] [(.var 2)])]) [Zj, Ue] []
noncomputable def Kx : MS := .for (.one 4) .plain [(.bi .sortedR [(.var 0)])] [V4]
noncomputable def Kw : MS := .ret (.slice (.var 3) .cnone .cnone (.neg (.cint 1)))
noncomputable def Zq : MFun := ⟨2, [Kz, Ky, Kx, Kw]⟩
noncomputable def Nc : MS := .assign 3 (.dict0 true)
noncomputable def Kb : MS := .assign 5 (.idx (.var 0) (.var 4))
noncomputable def Ju : MS := .setidx (.var 3) (.idx (.var 5) (.cint 1)) (.idx (.var 5) (.cint 4))
noncomputable def J1 : MS := .setidx (.var 3) (.idx (.var 5) (.cint 1)) .cnone
noncomputable def Zu : MS := .setidx (.var 3) (.idx (.var 5) (.cint 1)) (.meth .get2 (.var 3) [(.idx (.var 5) (.cint 4)), .cnone])
noncomputable def Zc : MS := .ite (.cmp (.idx (.var 5) (.cint 0)) [.eq] [(.cstr "clear")]) [J1] [Zu]
noncomputable def Zb : MS := .ite (.cmp (.idx (.var 5) (.cint 0)) [.eq] [(.cstr "tell")]) [Ju] [Zc]
noncomputable def Od : MS := .ite (.and [(.cmp (.idx (.var 5) (.cint 0)) [.ne] [(.cstr "undo")]), (.cmp (.idx (.var 5) (.cint 2)) [.le, .le] [(.var 2), (.idx (.var 5) (.cint 3))])]) [Zb] []
noncomputable def Nb : MS := .for (.one 4) .plain [(.call "_law_counting" [(.var 0), (.var 1)])] [Kb, Od]
noncomputable def Na : MS := .ret (.var 3)
noncomputable def Uz : MFun := ⟨3, [Nc, Nb, Na]⟩
end Mine
end
section
namespace Mine
open PySem
variable {G : String → Option MV} {Γ : String → Option MFun}
section
variable {μ : MH} {a b c d e : MV}
theorem Yz : idxM μ (.tup [a, b]) (.int 0) = some a := by simp [idxM, intO, atI]
theorem Ys : idxM μ (.tup [a, b]) (.int 1) = some b := by simp [idxM, intO, atI]
theorem Yv : idxM μ (.tup [a, b, c]) (.int 0) = some a := by simp [idxM, intO, atI]
theorem Yy : idxM μ (.tup [a, b, c]) (.int 1) = some b := by simp [idxM, intO, atI]
theorem Yo : idxM μ (.tup [a, b, c]) (.int 2) = some c := by simp [idxM, intO, atI]
theorem Yx : idxM μ (.tup [a, b, c, d]) (.int 0) = some a := by simp [idxM, intO, atI]
theorem Yw : idxM μ (.tup [a, b, c, d]) (.int 1) = some b := by simp [idxM, intO, atI]
theorem Yr : idxM μ (.tup [a, b, c, d]) (.int 2) = some c := by simp [idxM, intO, atI]
theorem Yq : idxM μ (.tup [a, b, c, d]) (.int 3) = some d := by simp [idxM, intO, atI]
theorem Yu : idxM μ (.tup [a, b, c, d, e]) (.int 0) = some a := by simp [idxM, intO, atI]
theorem Yt : idxM μ (.tup [a, b, c, d, e]) (.int 1) = some b := by simp [idxM, intO, atI]
theorem Yn : idxM μ (.tup [a, b, c, d, e]) (.int 2) = some c := by simp [idxM, intO, atI]
theorem Ym : idxM μ (.tup [a, b, c, d, e]) (.int 3) = some d := by simp [idxM, intO, atI]
theorem Z1 : idxM μ (.tup [a, b, c, d, e]) (.int 4) = some e := by simp [idxM, intO, atI]
theorem N6 : PyData.strOk (S "undo") = true := by decide +kernel
theorem U9 : PyData.strOk (S "clear") = true := by decide +kernel
theorem B7 : PyData.strOk (S "like") = true := by decide +kernel
theorem V6 : PyData.strOk (S "tell") = true := by decide +kernel
theorem Y5 : cmpM .eq μ (.str (S "undo")) (.str (S "undo")) = some true := by rw [Jd N6 N6]; simp
theorem Yb : cmpM .ne μ (.str (S "undo")) (.str (S "undo")) = some false := by
  have h : eqM μ (.str (S "undo")) (.str (S "undo")) = some true := Y5
  simp only [cmpM, h]; rfl
theorem Y8 : cmpM .eq μ (.str (S "undo")) (.str (S "tell")) = some false := by rw [Jd N6 V6]; exact congrArg some (beq_eq_false_iff_ne.mpr (by decide +kernel))
theorem Ye : cmpM .ne μ (.str (S "undo")) (.str (S "tell")) = some true := by
  have h : eqM μ (.str (S "undo")) (.str (S "tell")) = some false := Y8
  simp only [cmpM, h]; rfl
theorem Xw : cmpM .eq μ (.str (S "undo")) (.str (S "clear")) = some false := by rw [Jd N6 U9]; exact congrArg some (beq_eq_false_iff_ne.mpr (by decide +kernel))
theorem Y1 : cmpM .ne μ (.str (S "undo")) (.str (S "clear")) = some true := by
  have h : eqM μ (.str (S "undo")) (.str (S "clear")) = some false := Xw
  simp only [cmpM, h]; rfl
theorem Xq : cmpM .eq μ (.str (S "clear")) (.str (S "undo")) = some false := by rw [Jd U9 N6]; exact congrArg some (beq_eq_false_iff_ne.mpr (by decide +kernel))
theorem Y0 : cmpM .ne μ (.str (S "clear")) (.str (S "undo")) = some true := by
  have h : eqM μ (.str (S "clear")) (.str (S "undo")) = some false := Xq
  simp only [cmpM, h]; rfl
theorem Xz : cmpM .eq μ (.str (S "clear")) (.str (S "tell")) = some false := by rw [Jd U9 V6]; exact congrArg some (beq_eq_false_iff_ne.mpr (by decide +kernel))
theorem Y4 : cmpM .ne μ (.str (S "clear")) (.str (S "tell")) = some true := by
  have h : eqM μ (.str (S "clear")) (.str (S "tell")) = some false := Xz
  simp only [cmpM, h]; rfl
theorem Xo : cmpM .eq μ (.str (S "clear")) (.str (S "clear")) = some true := by rw [Jd U9 U9]; simp
theorem Xp : cmpM .ne μ (.str (S "clear")) (.str (S "clear")) = some false := by
  have h : eqM μ (.str (S "clear")) (.str (S "clear")) = some true := Xo
  simp only [cmpM, h]; rfl
theorem Y7 : cmpM .eq μ (.str (S "like")) (.str (S "undo")) = some false := by rw [Jd B7 N6]; exact congrArg some (beq_eq_false_iff_ne.mpr (by decide +kernel))
theorem Yd : cmpM .ne μ (.str (S "like")) (.str (S "undo")) = some true := by
  have h : eqM μ (.str (S "like")) (.str (S "undo")) = some false := Y7
  simp only [cmpM, h]; rfl
theorem Ya : cmpM .eq μ (.str (S "like")) (.str (S "tell")) = some false := by rw [Jd B7 V6]; exact congrArg some (beq_eq_false_iff_ne.mpr (by decide +kernel))
theorem Yg : cmpM .ne μ (.str (S "like")) (.str (S "tell")) = some true := by
  have h : eqM μ (.str (S "like")) (.str (S "tell")) = some false := Ya
  simp only [cmpM, h]; rfl
theorem Xy : cmpM .eq μ (.str (S "like")) (.str (S "clear")) = some false := by rw [Jd B7 U9]; exact congrArg some (beq_eq_false_iff_ne.mpr (by decide +kernel))
theorem Y3 : cmpM .ne μ (.str (S "like")) (.str (S "clear")) = some true := by
  have h : eqM μ (.str (S "like")) (.str (S "clear")) = some false := Xy
  simp only [cmpM, h]; rfl
theorem Y6 : cmpM .eq μ (.str (S "tell")) (.str (S "undo")) = some false := by rw [Jd V6 N6]; exact congrArg some (beq_eq_false_iff_ne.mpr (by decide +kernel))
theorem Yc : cmpM .ne μ (.str (S "tell")) (.str (S "undo")) = some true := by
  have h : eqM μ (.str (S "tell")) (.str (S "undo")) = some false := Y6
  simp only [cmpM, h]; rfl
theorem Y9 : cmpM .eq μ (.str (S "tell")) (.str (S "tell")) = some true := by rw [Jd V6 V6]; simp
theorem Yf : cmpM .ne μ (.str (S "tell")) (.str (S "tell")) = some false := by
  have h : eqM μ (.str (S "tell")) (.str (S "tell")) = some true := Y9
  simp only [cmpM, h]; rfl
theorem Xx : cmpM .eq μ (.str (S "tell")) (.str (S "clear")) = some false := by rw [Jd V6 U9]; exact congrArg some (beq_eq_false_iff_ne.mpr (by decide +kernel))
theorem Y2 : cmpM .ne μ (.str (S "tell")) (.str (S "clear")) = some true := by
  have h : eqM μ (.str (S "tell")) (.str (S "clear")) = some false := Xx
  simp only [cmpM, h]; rfl
end
inductive Ent where
  | undo (j : Int)
  | clear (nm : Str) (lo hi : Int)
  | like (nm : Str) (lo hi : Int) (nm' : Str)
  | tell (nm : Str) (lo hi v : Int)
noncomputable def Ent.mv : Ent → MV
  | .undo j => .tup [.str (S "undo"), .int j]
  | .clear nm lo hi => .tup [.str (S "clear"), .str nm, .int lo, .int hi]
  | .like nm lo hi nm' => .tup [.str (S "like"), .str nm, .int lo, .int hi, .str nm']
  | .tell nm lo hi v => .tup [.str (S "tell"), .str nm, .int lo, .int hi, .int v]
noncomputable def Ent.ok : Ent → Prop
  | .undo _ => True
  | .clear nm _ _ => PyData.strOk nm = true
  | .like nm _ _ nm' => PyData.strOk nm = true ∧ PyData.strOk nm' = true
  | .tell nm _ _ _ => PyData.strOk nm = true
noncomputable def Ent.good (names : List Str) (k : Int) : Ent → Prop
  | .undo j => 1 ≤ j ∧ j < k
  | .clear nm lo hi => nm ∈ names ∧ 0 ≤ lo ∧ lo ≤ hi ∧ hi ≤ 1000000
  | .like nm lo hi nm' => nm ∈ names ∧ nm' ∈ names ∧ 0 ≤ lo ∧ lo ≤ hi ∧ hi ≤ 1000000
  | .tell nm lo hi v => nm ∈ names ∧ 0 ≤ lo ∧ lo ≤ hi ∧ hi ≤ 1000000 ∧ -1000000000 ≤ v ∧ v ≤ 1000000000
theorem Ent.good.ok {names : List Str} {k : Int} {e : Ent} (hn : ∀ nm ∈ names, GoodN nm) (h : e.good names k) : e.ok := by
  cases e with
  | undo j => trivial
  | clear nm lo hi => exact (hn _ h.1).ok
  | like nm lo hi nm' => exact ⟨(hn _ h.1).ok, (hn _ h.2.1).ok⟩
  | tell nm lo hi v => exact (hn _ h.1).ok
theorem Ent.ok.ent {e : Ent} (h : e.ok) : EntOk e.mv := by
  have a1 : S "clear" ≠ S "undo" := by decide +kernel
  have a2 : S "like" ≠ S "undo" := by decide +kernel
  have a3 : S "tell" ≠ S "undo" := by decide +kernel
  have hi : ∀ i, Atom (.int i) := fun i => .inl ⟨i, rfl⟩
  cases e with
  | undo j => exact .inl ⟨j, rfl⟩
  | clear nm lo hi' => exact .inr ⟨_, _, rfl, a1, U9, by simp, by simpa [hi] using .inr ⟨_, rfl, h⟩⟩
  | like nm lo hi' nm' =>
    have h1 : Atom (.str nm) := .inr ⟨_, rfl, h.1⟩
    have h2 : Atom (.str nm') := .inr ⟨_, rfl, h.2⟩
    exact .inr ⟨_, _, rfl, a2, B7, by simp, by simp [hi, h1, h2]⟩
  | tell nm lo hi' v => exact .inr ⟨_, _, rfl, a3, V6, by simp, by simpa [hi] using .inr ⟨_, rfl, h⟩⟩
theorem GoodE.to {names : List Str} {k : Int} {v : MV} (h : GoodE names k v) : ∃ e : Ent, v = e.mv ∧ e.good names k := by
  rcases h with ⟨j, rfl, h⟩ | ⟨nm, lo, hi, rfl, h⟩ | ⟨nm, lo, hi, nm', rfl, h⟩ | ⟨nm, lo, hi, v, rfl, h⟩
  · exact ⟨.undo j, rfl, h⟩
  · exact ⟨.clear nm lo hi, rfl, h⟩
  · exact ⟨.like nm lo hi nm', rfl, h⟩
  · exact ⟨.tell nm lo hi v, rfl, h⟩
abbrev Book := List (Int × Ent)
noncomputable def Book.mv (B : Book) : List (Int × MV) := B.map fun p => (p.1, p.2.mv)
noncomputable def Book.keys (B : Book) : List Int := B.map (·.1)
noncomputable def Book.at (B : Book) (k : Int) : Option Ent := (B.find? fun p => p.1 = k).map (·.2)
theorem Book.mv_keys (B : Book) : (Book.mv B).map (·.1) = B.keys := by simp [Book.mv, Book.keys, List.map_map, Function.comp_def]
theorem Book.mv_len (B : Book) : (Book.mv B).length = B.length := by simp [Book.mv]
theorem Book.look (B : Book) (k : Int) : lookI (Book.mv B) k = (Book.at B k).map Ent.mv := by
  unfold lookI Book.mv Book.at
  induction B with
  | nil => rfl
  | cons p B ih =>
    simp only [List.map_cons, List.find?_cons]
    by_cases h : p.1 = k
    · simp [h]
    · simpa [h] using ih
theorem Book.at_mem {B : Book} (hn : B.keys.Nodup) {p : Int × Ent} (hp : p ∈ B) : Book.at B p.1 = some p.2 := by
  induction B with
  | nil => cases hp
  | cons q l ih =>
    simp only [Book.keys, List.map_cons, List.nodup_cons] at hn
    unfold Book.at
    rw [List.find?_cons]
    rcases List.mem_cons.mp hp with rfl | hp'
    · simp
    · have : q.1 ≠ p.1 := fun e => hn.1 (e ▸ List.mem_map_of_mem hp')
      simp only [this, decide_false]
      exact ih hn.2 hp'
theorem Book.at_some {B : Book} {k : Int} {e : Ent} (h : Book.at B k = some e) : (k, e) ∈ B := by
  unfold Book.at at h
  rw [Option.map_eq_some_iff] at h
  obtain ⟨p, hp, rfl⟩ := h
  have h1 := List.find?_some hp
  have h2 := List.mem_of_find?_eq_some hp
  simp only [decide_eq_true_eq] at h1
  rw [← h1]; exact h2
theorem Book.at_key {B : Book} {k : Int} (h : k ∈ B.keys) : ∃ e, Book.at B k = some e := by
  unfold Book.keys at h
  obtain ⟨p, hp, rfl⟩ := List.mem_map.mp h
  cases q : Book.at B p.1 with
  | some e => exact ⟨e, rfl⟩
  | none =>
    unfold Book.at at q
    rw [Option.map_eq_none_iff, List.find?_eq_none] at q
    exact absurd (by simp) (q p hp)
structure BOk (B : Book) : Prop where
  nodup : B.keys.Nodup
  ok : ∀ p ∈ B, p.2.ok
  len : B.length ≤ 40
theorem BOk.nodup' {B : Book} (h : BOk B) : ((Book.mv B).map (·.1)).Nodup := by rw [Book.mv_keys]; exact h.nodup
theorem BOk.ent {B : Book} (h : BOk B) : ∀ p ∈ Book.mv B, EntOk p.2 := by
  intro p hp
  obtain ⟨q, hq, rfl⟩ := List.mem_map.mp hp
  exact (h.ok q hq).ent
theorem good_all {names : List Str} : ∀ {kvs : List (Int × MV)}, (∀ p ∈ kvs, GoodE names p.1 p.2) → ∃ B : Book, kvs = Book.mv B ∧ ∀ p ∈ B, p.2.good names p.1
  | [] => fun _ => ⟨[], rfl, by simp⟩
  | p :: kvs => fun h => by
    obtain ⟨B, rfl, hB⟩ := good_all fun p hp => h p (.tail _ hp)
    obtain ⟨e, he, hg⟩ := (h p (.head _)).to
    refine ⟨(p.1, e) :: B, ?_, ?_⟩
    · simp [Book.mv, ← he]
    · intro q hq
      rcases List.mem_cons.mp hq with rfl | hq
      · exact hg
      · exact hB q hq
theorem book_at {ns : List Int} {many : Int} {kvs : List (Int × MV)} (h : BookOk ns many kvs) (hm : 0 ≤ many ∧ many ≤ 14) : ∃ (names : List Str) (B : Book), names = namesF (at0 ns 1) ∧ names.length = 3 ∧ (∀ nm ∈ names, GoodN nm) ∧ kvs = Book.mv B ∧ BOk B ∧ B.length ≤ 14 ∧ (∀ p ∈ B, p.2.good names p.1) ∧ ∀ k ∈ B.keys, 1 ≤ k ∧ k ≤ 40 := by
  have hf := book_facts h hm
  obtain ⟨names, rows, cut, h3, hg, hk, he, hc, rfl, hnF⟩ := h
  have hp : (rows.drop cut ++ rows.take cut).Perm rows := by
    have := List.perm_append_comm (l₁ := rows.drop cut) (l₂ := rows.take cut)
    rwa [List.take_append_drop] at this
  obtain ⟨B, hB, hgB⟩ := good_all (names := names) (kvs := rows.drop cut ++ rows.take cut) fun p q => he p (hp.mem_iff.mp q)
  rw [hB] at hf
  rw [Book.mv_keys, Book.mv_len] at hf
  exact ⟨names, B, hnF, h3, hg, hB, ⟨hf.1, fun p hp => (hgB p hp).ok hg, by omega⟩, hf.2.1, hgB, hf.2.2.2⟩
theorem book_of {ns : List Int} {many : Int} {kvs : List (Int × MV)} (h : BookOk ns many kvs) (hm : 0 ≤ many ∧ many ≤ 14) : ∃ (names : List Str) (B : Book), names.length = 3 ∧ (∀ nm ∈ names, GoodN nm) ∧ kvs = Book.mv B ∧ BOk B ∧ B.length ≤ 14 ∧ (∀ p ∈ B, p.2.good names p.1) ∧ ∀ k ∈ B.keys, 1 ≤ k ∧ k ≤ 40 := by
  obtain ⟨names, B, _, r⟩ := book_at h hm
  exact ⟨names, B, r⟩
end Mine
end
section
namespace Mine
open PySem
variable {G : String → Option MV} {Γ : String → Option MFun}
noncomputable def Ent.sp : Ent → Option (Str × Int × Int)
  | .undo _ => none
  | .clear nm lo hi => some (nm, lo, hi)
  | .like nm lo hi _ => some (nm, lo, hi)
  | .tell nm lo hi _ => some (nm, lo, hi)
noncomputable def about (e : Ent) (x : Str) (day : Int) : Bool := match e.sp with
  | none => false
  | some (nm, lo, hi) => nm == x && (decide (lo ≤ day) && decide (day ≤ hi))
theorem Cr {d : Nat} {e : Ent} {x : Str} {day : Int} {fz : List Addr} {Q : MQ} {μ : MH} (hΓ : Γ "is_about" = some Ja) (hd : 1 ≤ d) (he : e.ok) (hx : PyData.strOk x = true) (h : Q (.bool (about e x day)) μ) : calls G Γ d "is_about" [e.mv, .str x, .int day] fz Q X0 μ := by
  refine Z2 hΓ rfl hd (seq ?_)
  have key : ∀ {nm : Str} {lo hi : Int} {b : Bool}, b = (nm == x && (decide (lo ≤ day) && decide (day ≤ hi))) → Q (.bool b) μ → (if (nm == x) = true then (if decide (lo ≤ day) = true then Q (.bool (decide (day ≤ hi))) μ else Q (.bool false) μ) else Q (.bool (nm == x)) μ) := by
    intro nm lo hi b hb hq
    subst hb
    cases q1 : (nm == x) <;> cases q2 : decide (lo ≤ day) <;> simp_all
  cases e with
  | undo j =>
    ((try dsimp only [Zd,Qx,Qu,Qn,Qv,Qg,Qf,Qz,X9,X8,X4,Xi,X2,Xa,X1,Qd,Qt,Qc,Qe,Ql,Xg,Q6,Qp,Qq,Qk,Qb,Qa,Q1,Qh,Q7,Q4,Q0,Q9,Q8,Q3,Q5,Qo,Qy,Qr,X5,X6,Qs,args0,X3,Xb,Xj,Xk,Xl,Xm,Qm,X7,Qi,Qj,Qw,Q2,zgz,zgs,zlc,zln,Nat.reduceAdd,kr0,kr1,kl0,kl1,kz0,Ent.mv,Yz,Ys,Yv,Yy,Yo,Yx,Yw,Yr,Yq,Yu,Yt,Yn,Ym,Z1,Y5,Yb,Y8,Ye,Xw,Y1,Xq,Y0,Xz,Y4,Xo,Xp,Y7,Yd,Ya,Yg,Xy,Y3,Y6,Yc,Y9,Yf,Xx,Y2]); (try simp (discharger := decide) only [Zd,Qx,Qu,Qn,Qv,Qg,Qf,Qz,X9,X8,X4,Xi,X2,Xa,X1,Qd,Qt,Qc,Qe,Ql,Xg,Q6,Qp,Qq,Qk,Qb,Qa,Q1,Qh,Q7,Q4,Q0,Q9,Q8,Q3,Q5,Qo,Qy,Qr,X5,X6,Qs,args0,X3,Xb,Xf,Xh,Xc,Xe,Xj,Xk,Xl,Xm,Xv,Xu,Qm,X7,Xn,Xd,Qi,Qj,Qw,Q2,Xr,zoi,zel,zta,zat,zgz,zgs,zlc,zln,Nat.reduceAdd,zza,znt,zcn,MV.int.injEq,kr0,kr1,kl0,kl1,kz0,Ent.mv,Yz,Ys,Yv,Yy,Yo,Yx,Yw,Yr,Yq,Yu,Yt,Yn,Ym,Z1,Y5,Yb,Y8,Ye,Xw,Y1,Xq,Y0,Xz,Y4,Xo,Xp,Y7,Yd,Ya,Yg,Xy,Y3,Y6,Yc,Y9,Yf,Xx,Y2]))
    have e : about (.undo j) x day = false := rfl
    rw [e] at h
    simpa using h
  | clear nm lo hi =>
    ((try dsimp only [Zd,Qx,Qu,Qn,Qv,Qg,Qf,Qz,X9,X8,X4,Xi,X2,Xa,X1,Qd,Qt,Qc,Qe,Ql,Xg,Q6,Qp,Qq,Qk,Qb,Qa,Q1,Qh,Q7,Q4,Q0,Q9,Q8,Q3,Q5,Qo,Qy,Qr,X5,X6,Qs,args0,X3,Xb,Xj,Xk,Xl,Xm,Qm,X7,Qi,Qj,Qw,Q2,zgz,zgs,zlc,zln,Nat.reduceAdd,kr0,kr1,kl0,kl1,kz0,Ent.mv,Yz,Ys,Yv,Yy,Yo,Yx,Yw,Yr,Yq,Yu,Yt,Yn,Ym,Z1,Y5,Yb,Y8,Ye,Xw,Y1,Xq,Y0,Xz,Y4,Xo,Xp,Y7,Yd,Ya,Yg,Xy,Y3,Y6,Yc,Y9,Yf,Xx,Y2,Jd he hx]); (try simp (discharger := decide) only [Zd,Qx,Qu,Qn,Qv,Qg,Qf,Qz,X9,X8,X4,Xi,X2,Xa,X1,Qd,Qt,Qc,Qe,Ql,Xg,Q6,Qp,Qq,Qk,Qb,Qa,Q1,Qh,Q7,Q4,Q0,Q9,Q8,Q3,Q5,Qo,Qy,Qr,X5,X6,Qs,args0,X3,Xb,Xf,Xh,Xc,Xe,Xj,Xk,Xl,Xm,Xv,Xu,Qm,X7,Xn,Xd,Qi,Qj,Qw,Q2,Xr,zoi,zel,zta,zat,zgz,zgs,zlc,zln,Nat.reduceAdd,zza,znt,zcn,MV.int.injEq,kr0,kr1,kl0,kl1,kz0,Ent.mv,Yz,Ys,Yv,Yy,Yo,Yx,Yw,Yr,Yq,Yu,Yt,Yn,Ym,Z1,Y5,Yb,Y8,Ye,Xw,Y1,Xq,Y0,Xz,Y4,Xo,Xp,Y7,Yd,Ya,Yg,Xy,Y3,Y6,Yc,Y9,Yf,Xx,Y2,Jd he hx]))
    simp only [if_true]
    exact key rfl h
  | like nm lo hi nm' =>
    ((try dsimp only [Zd,Qx,Qu,Qn,Qv,Qg,Qf,Qz,X9,X8,X4,Xi,X2,Xa,X1,Qd,Qt,Qc,Qe,Ql,Xg,Q6,Qp,Qq,Qk,Qb,Qa,Q1,Qh,Q7,Q4,Q0,Q9,Q8,Q3,Q5,Qo,Qy,Qr,X5,X6,Qs,args0,X3,Xb,Xj,Xk,Xl,Xm,Qm,X7,Qi,Qj,Qw,Q2,zgz,zgs,zlc,zln,Nat.reduceAdd,kr0,kr1,kl0,kl1,kz0,Ent.mv,Yz,Ys,Yv,Yy,Yo,Yx,Yw,Yr,Yq,Yu,Yt,Yn,Ym,Z1,Y5,Yb,Y8,Ye,Xw,Y1,Xq,Y0,Xz,Y4,Xo,Xp,Y7,Yd,Ya,Yg,Xy,Y3,Y6,Yc,Y9,Yf,Xx,Y2,Jd he.1 hx]); (try simp (discharger := decide) only [Zd,Qx,Qu,Qn,Qv,Qg,Qf,Qz,X9,X8,X4,Xi,X2,Xa,X1,Qd,Qt,Qc,Qe,Ql,Xg,Q6,Qp,Qq,Qk,Qb,Qa,Q1,Qh,Q7,Q4,Q0,Q9,Q8,Q3,Q5,Qo,Qy,Qr,X5,X6,Qs,args0,X3,Xb,Xf,Xh,Xc,Xe,Xj,Xk,Xl,Xm,Xv,Xu,Qm,X7,Xn,Xd,Qi,Qj,Qw,Q2,Xr,zoi,zel,zta,zat,zgz,zgs,zlc,zln,Nat.reduceAdd,zza,znt,zcn,MV.int.injEq,kr0,kr1,kl0,kl1,kz0,Ent.mv,Yz,Ys,Yv,Yy,Yo,Yx,Yw,Yr,Yq,Yu,Yt,Yn,Ym,Z1,Y5,Yb,Y8,Ye,Xw,Y1,Xq,Y0,Xz,Y4,Xo,Xp,Y7,Yd,Ya,Yg,Xy,Y3,Y6,Yc,Y9,Yf,Xx,Y2,Jd he.1 hx]))
    simp only [if_true]
    exact key rfl h
  | tell nm lo hi v =>
    ((try dsimp only [Zd,Qx,Qu,Qn,Qv,Qg,Qf,Qz,X9,X8,X4,Xi,X2,Xa,X1,Qd,Qt,Qc,Qe,Ql,Xg,Q6,Qp,Qq,Qk,Qb,Qa,Q1,Qh,Q7,Q4,Q0,Q9,Q8,Q3,Q5,Qo,Qy,Qr,X5,X6,Qs,args0,X3,Xb,Xj,Xk,Xl,Xm,Qm,X7,Qi,Qj,Qw,Q2,zgz,zgs,zlc,zln,Nat.reduceAdd,kr0,kr1,kl0,kl1,kz0,Ent.mv,Yz,Ys,Yv,Yy,Yo,Yx,Yw,Yr,Yq,Yu,Yt,Yn,Ym,Z1,Y5,Yb,Y8,Ye,Xw,Y1,Xq,Y0,Xz,Y4,Xo,Xp,Y7,Yd,Ya,Yg,Xy,Y3,Y6,Yc,Y9,Yf,Xx,Y2,Jd he hx]); (try simp (discharger := decide) only [Zd,Qx,Qu,Qn,Qv,Qg,Qf,Qz,X9,X8,X4,Xi,X2,Xa,X1,Qd,Qt,Qc,Qe,Ql,Xg,Q6,Qp,Qq,Qk,Qb,Qa,Q1,Qh,Q7,Q4,Q0,Q9,Q8,Q3,Q5,Qo,Qy,Qr,X5,X6,Qs,args0,X3,Xb,Xf,Xh,Xc,Xe,Xj,Xk,Xl,Xm,Xv,Xu,Qm,X7,Xn,Xd,Qi,Qj,Qw,Q2,Xr,zoi,zel,zta,zat,zgz,zgs,zlc,zln,Nat.reduceAdd,zza,znt,zcn,MV.int.injEq,kr0,kr1,kl0,kl1,kz0,Ent.mv,Yz,Ys,Yv,Yy,Yo,Yx,Yw,Yr,Yq,Yu,Yt,Yn,Ym,Z1,Y5,Yb,Y8,Ye,Xw,Y1,Xq,Y0,Xz,Y4,Xo,Xp,Y7,Yd,Ya,Yg,Xy,Y3,Y6,Yc,Y9,Yf,Xx,Y2,Jd he hx]))
    simp only [if_true]
    exact key rfl h
noncomputable def wF (B : Book) (day : Int) : List Int → Str → MV
  | [], _ => .none
  | k :: r, x => match Book.at B k with
    | none => .none
    | some e => if about e x day then (match e with
        | .tell _ _ _ v => .int v
        | .clear _ _ _ => .none
        | .like _ _ _ nm' => wF B day r nm'
        | .undo _ => .none) else wF B day r x
theorem P0 {d : Nat} {B : Book} {b p : Addr} {l : List Int} {x : Str} {day : Int} {fz : List Addr} {Q : MQ} {μ : MH} (hΓ₁ : Γ "is_about" = some Ja) (hΓ : Γ "worth_by" = some Jt) (hd : 2 ≤ d) (hB : BOk B) (hb : μ b = some (.idict (Book.mv B))) (hp : μ p = some (.list (l.map .int))) (hl : ∀ k ∈ l, k ∈ B.keys) (hlen : l.length ≤ 1000) (hx : PyData.strOk x = true)
    (h : Q (wF B day l.reverse x) μ) : calls G Γ d "worth_by" [.ref b, .ref p, .str x, .int day] fz Q X0 μ := by
  refine Z2 hΓ rfl (by first|exact dn hd rfl|exact dl hd rfl|omega) ?_
  show exs G (calls G Γ (d - 1)) X0 [Uo, K8] _ _ _ _
  generalize hR : (kz Q) = R
  have hRr : ∀ v V, Q v μ → R (.ret v) V μ := by subst hR; intro v V h; exact h
  clear hR
  refine seq ?_
  ((try dsimp only [Uo,Qx,Qu,Qn,Qv,Qg,Qf,Qz,X9,X8,X4,Xi,X2,Xa,X1,Qd,Qt,Qc,Qe,Ql,Xg,Q6,Qp,Qq,Qk,Qb,Qa,Q1,Qh,Q7,Q4,Q0,Q9,Q8,Q3,Q5,Qo,Qy,Qr,X5,X6,Qs,args0,X3,Xb,Xj,Xk,Xl,Xm,Qm,X7,Qi,Qj,Qw,Q2,zgz,zgs,zlc,zln,Nat.reduceAdd,kr0,kr1,kl0,kl1,kz0]); (try simp (discharger := decide) only [Uo,Qx,Qu,Qn,Qv,Qg,Qf,Qz,X9,X8,X4,Xi,X2,Xa,X1,Qd,Qt,Qc,Qe,Ql,Xg,Q6,Qp,Qq,Qk,Qb,Qa,Q1,Qh,Q7,Q4,Q0,Q9,Q8,Q3,Q5,Qo,Qy,Qr,X5,X6,Qs,args0,X3,Xb,Xf,Xh,Xc,Xe,Xj,Xk,Xl,Xm,Xv,Xu,Qm,X7,Xn,Xd,Qi,Qj,Qw,Q2,Xr,zoi,zel,zta,zat,zgz,zgs,zlc,zln,Nat.reduceAdd,zza,znt,zcn,MV.int.injEq,kr0,kr1,kl0,kl1,kz0]))
  refine ⟨.rev (.ref p), (l.reverse).map .int, rfl, by simp [Src.items, K5 hp], fit (by simp; exact Nat.le_trans (by assumption) (by decide)), ?_⟩
  have hl' : ∀ k ∈ l.reverse, k ∈ B.keys := fun k hk => hl k (List.mem_reverse.mp hk)
  generalize l.reverse = r at h hl' ⊢
  have loop : ∀ (r : List Int) (x : Str) (V : MVars), (∀ k ∈ r, k ∈ B.keys) → PyData.strOk x = true → Q (wF B day r x) μ → V 0 = some (.ref b) → V 2 = some (.str x) → V 3 = some (.int day) →
      loopM (.one 4) (fun vs F μ => exs G (calls G Γ (d - 1)) X0 [K9, O9] ((Src.rev (.ref p)).held ++ fz) vs F μ) (kr G (calls G Γ (d - 1)) X0 [K8] fz R) (r.map .int) V μ := by
    intro r
    induction r with
    | nil =>
      intro x V _ hx h v0 v2 v3
      simp only [List.map_nil, Z5, Z6]
      refine seq ?_
      ((try dsimp only [K8,Qx,Qu,Qn,Qv,Qg,Qf,Qz,X9,X8,X4,Xi,X2,Xa,X1,Qd,Qt,Qc,Qe,Ql,Xg,Q6,Qp,Qq,Qk,Qb,Qa,Q1,Qh,Q7,Q4,Q0,Q9,Q8,Q3,Q5,Qo,Qy,Qr,X5,X6,Qs,args0,X3,Xb,Xj,Xk,Xl,Xm,Qm,X7,Qi,Qj,Qw,Q2,zgz,zgs,zlc,zln,Nat.reduceAdd,kr0,kr1,kl0,kl1,kz0]); (try simp (discharger := decide) only [K8,Qx,Qu,Qn,Qv,Qg,Qf,Qz,X9,X8,X4,Xi,X2,Xa,X1,Qd,Qt,Qc,Qe,Ql,Xg,Q6,Qp,Qq,Qk,Qb,Qa,Q1,Qh,Q7,Q4,Q0,Q9,Q8,Q3,Q5,Qo,Qy,Qr,X5,X6,Qs,args0,X3,Xb,Xf,Xh,Xc,Xe,Xj,Xk,Xl,Xm,Xv,Xu,Qm,X7,Xn,Xd,Qi,Qj,Qw,Q2,Xr,zoi,zel,zta,zat,zgz,zgs,zlc,zln,Nat.reduceAdd,zza,znt,zcn,MV.int.injEq,kr0,kr1,kl0,kl1,kz0]))
      exact hRr _ _ h
    | cons k r ih =>
      intro x V hk hx h v0 v2 v3
      simp only [List.map_cons, Z5, Z6]
      refine ⟨_, rfl, ?_⟩
      have hkr : ∀ k ∈ r, k ∈ B.keys := fun k hk' => hk k (.tail _ hk')
      obtain ⟨e, he⟩ := Book.at_key (hk k (.head _))
      have heo := hB.ok _ (Book.at_some he)
      have w0 : setv V 4 (.int k) 0 = some (.ref b) := (Xd (by first | exact nei h rfl | decide)).trans v0
      have w2 : setv V 4 (.int k) 2 = some (.str x) := (Xd (by first | exact nei h rfl | decide)).trans v2
      have w3 : setv V 4 (.int k) 3 = some (.int day) := (Xd (by first | exact nei h rfl | decide)).trans v3
      have w4 : setv V 4 (.int k) 4 = some (.int k) := Xn
      generalize setv V 4 (.int k) = V at w0 w2 w3 w4 ⊢
      generalize hL : loopM (.one 4) _ _ (r.map .int) = L at ih ⊢
      refine seq ?_
      ((try dsimp only [K9,Qx,Qu,Qn,Qv,Qg,Qf,Qz,X9,X8,X4,Xi,X2,Xa,X1,Qd,Qt,Qc,Qe,Ql,Xg,Q6,Qp,Qq,Qk,Qb,Qa,Q1,Qh,Q7,Q4,Q0,Q9,Q8,Q3,Q5,Qo,Qy,Qr,X5,X6,Qs,args0,X3,Xb,Xj,Xk,Xl,Xm,Qm,X7,Qi,Qj,Qw,Q2,zgz,zgs,zlc,zln,Nat.reduceAdd,kr0,kr1,kl0,kl1,kz0,w0,w4]); (try simp (discharger := decide) only [K9,Qx,Qu,Qn,Qv,Qg,Qf,Qz,X9,X8,X4,Xi,X2,Xa,X1,Qd,Qt,Qc,Qe,Ql,Xg,Q6,Qp,Qq,Qk,Qb,Qa,Q1,Qh,Q7,Q4,Q0,Q9,Q8,Q3,Q5,Qo,Qy,Qr,X5,X6,Qs,args0,X3,Xb,Xf,Xh,Xc,Xe,Xj,Xk,Xl,Xm,Xv,Xu,Qm,X7,Xn,Xd,Qi,Qj,Qw,Q2,Xr,zoi,zel,zta,zat,zgz,zgs,zlc,zln,Nat.reduceAdd,zza,znt,zcn,MV.int.injEq,kr0,kr1,kl0,kl1,kz0,w0,w4]))
      refine ⟨e.mv, by rw [N8 hb, Book.look, he]; rfl, ?_⟩
      replace w0 : setv V 5 e.mv 0 = some (.ref b) := (Xd (by first | exact nei h rfl | decide)).trans w0
      replace w2 : setv V 5 e.mv 2 = some (.str x) := (Xd (by first | exact nei h rfl | decide)).trans w2
      replace w3 : setv V 5 e.mv 3 = some (.int day) := (Xd (by first | exact nei h rfl | decide)).trans w3
      have w5 : setv V 5 e.mv 5 = some e.mv := Xn
      generalize setv V 5 e.mv = V at w0 w2 w3 w5 ⊢
      refine seq (Je (evB_call ?_))
      ((try dsimp only [Qx,Qu,Qn,Qv,Qg,Qf,Qz,X9,X8,X4,Xi,X2,Xa,X1,Qd,Qt,Qc,Qe,Ql,Xg,Q6,Qp,Qq,Qk,Qb,Qa,Q1,Qh,Q7,Q4,Q0,Q9,Q8,Q3,Q5,Qo,Qy,Qr,X5,X6,Qs,args0,X3,Xb,Xj,Xk,Xl,Xm,Qm,X7,Qi,Qj,Qw,Q2,zgz,zgs,zlc,zln,Nat.reduceAdd,kr0,kr1,kl0,kl1,kz0,w0,w2,w3,w5]); (try simp (discharger := decide) only [Qx,Qu,Qn,Qv,Qg,Qf,Qz,X9,X8,X4,Xi,X2,Xa,X1,Qd,Qt,Qc,Qe,Ql,Xg,Q6,Qp,Qq,Qk,Qb,Qa,Q1,Qh,Q7,Q4,Q0,Q9,Q8,Q3,Q5,Qo,Qy,Qr,X5,X6,Qs,args0,X3,Xb,Xf,Xh,Xc,Xe,Xj,Xk,Xl,Xm,Xv,Xu,Qm,X7,Xn,Xd,Qi,Qj,Qw,Q2,Xr,zoi,zel,zta,zat,zgz,zgs,zlc,zln,Nat.reduceAdd,zza,znt,zcn,MV.int.injEq,kr0,kr1,kl0,kl1,kz0,w0,w2,w3,w5]))
      refine Cr hΓ₁ (by first|exact dn hd rfl|exact dl hd rfl|omega) heo hx ?_
      ((try dsimp only [Qx,Qu,Qn,Qv,Qg,Qf,Qz,X9,X8,X4,Xi,X2,Xa,X1,Qd,Qt,Qc,Qe,Ql,Xg,Q6,Qp,Qq,Qk,Qb,Qa,Q1,Qh,Q7,Q4,Q0,Q9,Q8,Q3,Q5,Qo,Qy,Qr,X5,X6,Qs,args0,X3,Xb,Xj,Xk,Xl,Xm,Qm,X7,Qi,Qj,Qw,Q2,zgz,zgs,zlc,zln,Nat.reduceAdd,kr0,kr1,kl0,kl1,kz0]); (try simp (discharger := decide) only [Qx,Qu,Qn,Qv,Qg,Qf,Qz,X9,X8,X4,Xi,X2,Xa,X1,Qd,Qt,Qc,Qe,Ql,Xg,Q6,Qp,Qq,Qk,Qb,Qa,Q1,Qh,Q7,Q4,Q0,Q9,Q8,Q3,Q5,Qo,Qy,Qr,X5,X6,Qs,args0,X3,Xb,Xf,Xh,Xc,Xe,Xj,Xk,Xl,Xm,Xv,Xu,Qm,X7,Xn,Xd,Qi,Qj,Qw,Q2,Xr,zoi,zel,zta,zat,zgz,zgs,zlc,zln,Nat.reduceAdd,zza,znt,zcn,MV.int.injEq,kr0,kr1,kl0,kl1,kz0]))
      unfold wF at h
      rw [he] at h
      simp only at h
      cases q : about e x day with
      | false =>
        rw [q] at h
        simp only [Bool.false_eq_true, if_false] at h ⊢
        (try dsimp only [kr0])
        refine Zm (K3 ?_)
        exact ih x V hkr hx h w0 w2 w3
      | true =>
        rw [q] at h
        simp only [if_true] at h ⊢
        cases e with
        | undo j => simp [about, Ent.sp] at q
        | tell nm lo hi v =>
          refine seq ?_
          ((try dsimp only [Za,Qx,Qu,Qn,Qv,Qg,Qf,Qz,X9,X8,X4,Xi,X2,Xa,X1,Qd,Qt,Qc,Qe,Ql,Xg,Q6,Qp,Qq,Qk,Qb,Qa,Q1,Qh,Q7,Q4,Q0,Q9,Q8,Q3,Q5,Qo,Qy,Qr,X5,X6,Qs,args0,X3,Xb,Xj,Xk,Xl,Xm,Qm,X7,Qi,Qj,Qw,Q2,zgz,zgs,zlc,zln,Nat.reduceAdd,kr0,kr1,kl0,kl1,kz0,w5,Ent.mv,Yz,Ys,Yv,Yy,Yo,Yx,Yw,Yr,Yq,Yu,Yt,Yn,Ym,Z1,Y5,Yb,Y8,Ye,Xw,Y1,Xq,Y0,Xz,Y4,Xo,Xp,Y7,Yd,Ya,Yg,Xy,Y3,Y6,Yc,Y9,Yf,Xx,Y2]); (try simp (discharger := decide) only [Za,Qx,Qu,Qn,Qv,Qg,Qf,Qz,X9,X8,X4,Xi,X2,Xa,X1,Qd,Qt,Qc,Qe,Ql,Xg,Q6,Qp,Qq,Qk,Qb,Qa,Q1,Qh,Q7,Q4,Q0,Q9,Q8,Q3,Q5,Qo,Qy,Qr,X5,X6,Qs,args0,X3,Xb,Xf,Xh,Xc,Xe,Xj,Xk,Xl,Xm,Xv,Xu,Qm,X7,Xn,Xd,Qi,Qj,Qw,Q2,Xr,zoi,zel,zta,zat,zgz,zgs,zlc,zln,Nat.reduceAdd,zza,znt,zcn,MV.int.injEq,kr0,kr1,kl0,kl1,kz0,w5,Ent.mv,Yz,Ys,Yv,Yy,Yo,Yx,Yw,Yr,Yq,Yu,Yt,Yn,Ym,Z1,Y5,Yb,Y8,Ye,Xw,Y1,Xq,Y0,Xz,Y4,Xo,Xp,Y7,Yd,Ya,Yg,Xy,Y3,Y6,Yc,Y9,Yf,Xx,Y2]))
          simp only [if_true]
          refine seq ?_
          ((try dsimp only [Js,Qx,Qu,Qn,Qv,Qg,Qf,Qz,X9,X8,X4,Xi,X2,Xa,X1,Qd,Qt,Qc,Qe,Ql,Xg,Q6,Qp,Qq,Qk,Qb,Qa,Q1,Qh,Q7,Q4,Q0,Q9,Q8,Q3,Q5,Qo,Qy,Qr,X5,X6,Qs,args0,X3,Xb,Xj,Xk,Xl,Xm,Qm,X7,Qi,Qj,Qw,Q2,zgz,zgs,zlc,zln,Nat.reduceAdd,kr0,kr1,kl0,kl1,kz0,w5,Ent.mv,Yz,Ys,Yv,Yy,Yo,Yx,Yw,Yr,Yq,Yu,Yt,Yn,Ym,Z1,Y5,Yb,Y8,Ye,Xw,Y1,Xq,Y0,Xz,Y4,Xo,Xp,Y7,Yd,Ya,Yg,Xy,Y3,Y6,Yc,Y9,Yf,Xx,Y2]); (try simp (discharger := decide) only [Js,Qx,Qu,Qn,Qv,Qg,Qf,Qz,X9,X8,X4,Xi,X2,Xa,X1,Qd,Qt,Qc,Qe,Ql,Xg,Q6,Qp,Qq,Qk,Qb,Qa,Q1,Qh,Q7,Q4,Q0,Q9,Q8,Q3,Q5,Qo,Qy,Qr,X5,X6,Qs,args0,X3,Xb,Xf,Xh,Xc,Xe,Xj,Xk,Xl,Xm,Xv,Xu,Qm,X7,Xn,Xd,Qi,Qj,Qw,Q2,Xr,zoi,zel,zta,zat,zgz,zgs,zlc,zln,Nat.reduceAdd,zza,znt,zcn,MV.int.injEq,kr0,kr1,kl0,kl1,kz0,w5,Ent.mv,Yz,Ys,Yv,Yy,Yo,Yx,Yw,Yr,Yq,Yu,Yt,Yn,Ym,Z1,Y5,Yb,Y8,Ye,Xw,Y1,Xq,Y0,Xz,Y4,Xo,Xp,Y7,Yd,Ya,Yg,Xy,Y3,Y6,Yc,Y9,Yf,Xx,Y2]))
          exact hRr _ _ h
        | clear nm lo hi =>
          refine seq ?_
          ((try dsimp only [Za,Qx,Qu,Qn,Qv,Qg,Qf,Qz,X9,X8,X4,Xi,X2,Xa,X1,Qd,Qt,Qc,Qe,Ql,Xg,Q6,Qp,Qq,Qk,Qb,Qa,Q1,Qh,Q7,Q4,Q0,Q9,Q8,Q3,Q5,Qo,Qy,Qr,X5,X6,Qs,args0,X3,Xb,Xj,Xk,Xl,Xm,Qm,X7,Qi,Qj,Qw,Q2,zgz,zgs,zlc,zln,Nat.reduceAdd,kr0,kr1,kl0,kl1,kz0,w5,Ent.mv,Yz,Ys,Yv,Yy,Yo,Yx,Yw,Yr,Yq,Yu,Yt,Yn,Ym,Z1,Y5,Yb,Y8,Ye,Xw,Y1,Xq,Y0,Xz,Y4,Xo,Xp,Y7,Yd,Ya,Yg,Xy,Y3,Y6,Yc,Y9,Yf,Xx,Y2]); (try simp (discharger := decide) only [Za,Qx,Qu,Qn,Qv,Qg,Qf,Qz,X9,X8,X4,Xi,X2,Xa,X1,Qd,Qt,Qc,Qe,Ql,Xg,Q6,Qp,Qq,Qk,Qb,Qa,Q1,Qh,Q7,Q4,Q0,Q9,Q8,Q3,Q5,Qo,Qy,Qr,X5,X6,Qs,args0,X3,Xb,Xf,Xh,Xc,Xe,Xj,Xk,Xl,Xm,Xv,Xu,Qm,X7,Xn,Xd,Qi,Qj,Qw,Q2,Xr,zoi,zel,zta,zat,zgz,zgs,zlc,zln,Nat.reduceAdd,zza,znt,zcn,MV.int.injEq,kr0,kr1,kl0,kl1,kz0,w5,Ent.mv,Yz,Ys,Yv,Yy,Yo,Yx,Yw,Yr,Yq,Yu,Yt,Yn,Ym,Z1,Y5,Yb,Y8,Ye,Xw,Y1,Xq,Y0,Xz,Y4,Xo,Xp,Y7,Yd,Ya,Yg,Xy,Y3,Y6,Yc,Y9,Yf,Xx,Y2]))
          simp only [Bool.false_eq_true, if_false]
          (try dsimp only [kr0])
          refine Zm (seq ?_)
          ((try dsimp only [Zo,Qx,Qu,Qn,Qv,Qg,Qf,Qz,X9,X8,X4,Xi,X2,Xa,X1,Qd,Qt,Qc,Qe,Ql,Xg,Q6,Qp,Qq,Qk,Qb,Qa,Q1,Qh,Q7,Q4,Q0,Q9,Q8,Q3,Q5,Qo,Qy,Qr,X5,X6,Qs,args0,X3,Xb,Xj,Xk,Xl,Xm,Qm,X7,Qi,Qj,Qw,Q2,zgz,zgs,zlc,zln,Nat.reduceAdd,kr0,kr1,kl0,kl1,kz0,w5,Ent.mv,Yz,Ys,Yv,Yy,Yo,Yx,Yw,Yr,Yq,Yu,Yt,Yn,Ym,Z1,Y5,Yb,Y8,Ye,Xw,Y1,Xq,Y0,Xz,Y4,Xo,Xp,Y7,Yd,Ya,Yg,Xy,Y3,Y6,Yc,Y9,Yf,Xx,Y2]); (try simp (discharger := decide) only [Zo,Qx,Qu,Qn,Qv,Qg,Qf,Qz,X9,X8,X4,Xi,X2,Xa,X1,Qd,Qt,Qc,Qe,Ql,Xg,Q6,Qp,Qq,Qk,Qb,Qa,Q1,Qh,Q7,Q4,Q0,Q9,Q8,Q3,Q5,Qo,Qy,Qr,X5,X6,Qs,args0,X3,Xb,Xf,Xh,Xc,Xe,Xj,Xk,Xl,Xm,Xv,Xu,Qm,X7,Xn,Xd,Qi,Qj,Qw,Q2,Xr,zoi,zel,zta,zat,zgz,zgs,zlc,zln,Nat.reduceAdd,zza,znt,zcn,MV.int.injEq,kr0,kr1,kl0,kl1,kz0,w5,Ent.mv,Yz,Ys,Yv,Yy,Yo,Yx,Yw,Yr,Yq,Yu,Yt,Yn,Ym,Z1,Y5,Yb,Y8,Ye,Xw,Y1,Xq,Y0,Xz,Y4,Xo,Xp,Y7,Yd,Ya,Yg,Xy,Y3,Y6,Yc,Y9,Yf,Xx,Y2]))
          simp only [if_true]
          refine seq ?_
          ((try dsimp only [Jr,Qx,Qu,Qn,Qv,Qg,Qf,Qz,X9,X8,X4,Xi,X2,Xa,X1,Qd,Qt,Qc,Qe,Ql,Xg,Q6,Qp,Qq,Qk,Qb,Qa,Q1,Qh,Q7,Q4,Q0,Q9,Q8,Q3,Q5,Qo,Qy,Qr,X5,X6,Qs,args0,X3,Xb,Xj,Xk,Xl,Xm,Qm,X7,Qi,Qj,Qw,Q2,zgz,zgs,zlc,zln,Nat.reduceAdd,kr0,kr1,kl0,kl1,kz0,w5,Ent.mv,Yz,Ys,Yv,Yy,Yo,Yx,Yw,Yr,Yq,Yu,Yt,Yn,Ym,Z1,Y5,Yb,Y8,Ye,Xw,Y1,Xq,Y0,Xz,Y4,Xo,Xp,Y7,Yd,Ya,Yg,Xy,Y3,Y6,Yc,Y9,Yf,Xx,Y2]); (try simp (discharger := decide) only [Jr,Qx,Qu,Qn,Qv,Qg,Qf,Qz,X9,X8,X4,Xi,X2,Xa,X1,Qd,Qt,Qc,Qe,Ql,Xg,Q6,Qp,Qq,Qk,Qb,Qa,Q1,Qh,Q7,Q4,Q0,Q9,Q8,Q3,Q5,Qo,Qy,Qr,X5,X6,Qs,args0,X3,Xb,Xf,Xh,Xc,Xe,Xj,Xk,Xl,Xm,Xv,Xu,Qm,X7,Xn,Xd,Qi,Qj,Qw,Q2,Xr,zoi,zel,zta,zat,zgz,zgs,zlc,zln,Nat.reduceAdd,zza,znt,zcn,MV.int.injEq,kr0,kr1,kl0,kl1,kz0,w5,Ent.mv,Yz,Ys,Yv,Yy,Yo,Yx,Yw,Yr,Yq,Yu,Yt,Yn,Ym,Z1,Y5,Yb,Y8,Ye,Xw,Y1,Xq,Y0,Xz,Y4,Xo,Xp,Y7,Yd,Ya,Yg,Xy,Y3,Y6,Yc,Y9,Yf,Xx,Y2]))
          exact hRr _ _ h
        | like nm lo hi nm' =>
          refine seq ?_
          ((try dsimp only [Za,Qx,Qu,Qn,Qv,Qg,Qf,Qz,X9,X8,X4,Xi,X2,Xa,X1,Qd,Qt,Qc,Qe,Ql,Xg,Q6,Qp,Qq,Qk,Qb,Qa,Q1,Qh,Q7,Q4,Q0,Q9,Q8,Q3,Q5,Qo,Qy,Qr,X5,X6,Qs,args0,X3,Xb,Xj,Xk,Xl,Xm,Qm,X7,Qi,Qj,Qw,Q2,zgz,zgs,zlc,zln,Nat.reduceAdd,kr0,kr1,kl0,kl1,kz0,w5,Ent.mv,Yz,Ys,Yv,Yy,Yo,Yx,Yw,Yr,Yq,Yu,Yt,Yn,Ym,Z1,Y5,Yb,Y8,Ye,Xw,Y1,Xq,Y0,Xz,Y4,Xo,Xp,Y7,Yd,Ya,Yg,Xy,Y3,Y6,Yc,Y9,Yf,Xx,Y2]); (try simp (discharger := decide) only [Za,Qx,Qu,Qn,Qv,Qg,Qf,Qz,X9,X8,X4,Xi,X2,Xa,X1,Qd,Qt,Qc,Qe,Ql,Xg,Q6,Qp,Qq,Qk,Qb,Qa,Q1,Qh,Q7,Q4,Q0,Q9,Q8,Q3,Q5,Qo,Qy,Qr,X5,X6,Qs,args0,X3,Xb,Xf,Xh,Xc,Xe,Xj,Xk,Xl,Xm,Xv,Xu,Qm,X7,Xn,Xd,Qi,Qj,Qw,Q2,Xr,zoi,zel,zta,zat,zgz,zgs,zlc,zln,Nat.reduceAdd,zza,znt,zcn,MV.int.injEq,kr0,kr1,kl0,kl1,kz0,w5,Ent.mv,Yz,Ys,Yv,Yy,Yo,Yx,Yw,Yr,Yq,Yu,Yt,Yn,Ym,Z1,Y5,Yb,Y8,Ye,Xw,Y1,Xq,Y0,Xz,Y4,Xo,Xp,Y7,Yd,Ya,Yg,Xy,Y3,Y6,Yc,Y9,Yf,Xx,Y2]))
          simp only [Bool.false_eq_true, if_false]
          (try dsimp only [kr0])
          refine Zm (seq ?_)
          ((try dsimp only [Zo,Qx,Qu,Qn,Qv,Qg,Qf,Qz,X9,X8,X4,Xi,X2,Xa,X1,Qd,Qt,Qc,Qe,Ql,Xg,Q6,Qp,Qq,Qk,Qb,Qa,Q1,Qh,Q7,Q4,Q0,Q9,Q8,Q3,Q5,Qo,Qy,Qr,X5,X6,Qs,args0,X3,Xb,Xj,Xk,Xl,Xm,Qm,X7,Qi,Qj,Qw,Q2,zgz,zgs,zlc,zln,Nat.reduceAdd,kr0,kr1,kl0,kl1,kz0,w5,Ent.mv,Yz,Ys,Yv,Yy,Yo,Yx,Yw,Yr,Yq,Yu,Yt,Yn,Ym,Z1,Y5,Yb,Y8,Ye,Xw,Y1,Xq,Y0,Xz,Y4,Xo,Xp,Y7,Yd,Ya,Yg,Xy,Y3,Y6,Yc,Y9,Yf,Xx,Y2]); (try simp (discharger := decide) only [Zo,Qx,Qu,Qn,Qv,Qg,Qf,Qz,X9,X8,X4,Xi,X2,Xa,X1,Qd,Qt,Qc,Qe,Ql,Xg,Q6,Qp,Qq,Qk,Qb,Qa,Q1,Qh,Q7,Q4,Q0,Q9,Q8,Q3,Q5,Qo,Qy,Qr,X5,X6,Qs,args0,X3,Xb,Xf,Xh,Xc,Xe,Xj,Xk,Xl,Xm,Xv,Xu,Qm,X7,Xn,Xd,Qi,Qj,Qw,Q2,Xr,zoi,zel,zta,zat,zgz,zgs,zlc,zln,Nat.reduceAdd,zza,znt,zcn,MV.int.injEq,kr0,kr1,kl0,kl1,kz0,w5,Ent.mv,Yz,Ys,Yv,Yy,Yo,Yx,Yw,Yr,Yq,Yu,Yt,Yn,Ym,Z1,Y5,Yb,Y8,Ye,Xw,Y1,Xq,Y0,Xz,Y4,Xo,Xp,Y7,Yd,Ya,Yg,Xy,Y3,Y6,Yc,Y9,Yf,Xx,Y2]))
          simp only [Bool.false_eq_true, if_false]
          (try dsimp only [kr0])
          refine Zm (seq ?_)
          ((try dsimp only [Kr,Qx,Qu,Qn,Qv,Qg,Qf,Qz,X9,X8,X4,Xi,X2,Xa,X1,Qd,Qt,Qc,Qe,Ql,Xg,Q6,Qp,Qq,Qk,Qb,Qa,Q1,Qh,Q7,Q4,Q0,Q9,Q8,Q3,Q5,Qo,Qy,Qr,X5,X6,Qs,args0,X3,Xb,Xj,Xk,Xl,Xm,Qm,X7,Qi,Qj,Qw,Q2,zgz,zgs,zlc,zln,Nat.reduceAdd,kr0,kr1,kl0,kl1,kz0,w5,Ent.mv,Yz,Ys,Yv,Yy,Yo,Yx,Yw,Yr,Yq,Yu,Yt,Yn,Ym,Z1,Y5,Yb,Y8,Ye,Xw,Y1,Xq,Y0,Xz,Y4,Xo,Xp,Y7,Yd,Ya,Yg,Xy,Y3,Y6,Yc,Y9,Yf,Xx,Y2]); (try simp (discharger := decide) only [Kr,Qx,Qu,Qn,Qv,Qg,Qf,Qz,X9,X8,X4,Xi,X2,Xa,X1,Qd,Qt,Qc,Qe,Ql,Xg,Q6,Qp,Qq,Qk,Qb,Qa,Q1,Qh,Q7,Q4,Q0,Q9,Q8,Q3,Q5,Qo,Qy,Qr,X5,X6,Qs,args0,X3,Xb,Xf,Xh,Xc,Xe,Xj,Xk,Xl,Xm,Xv,Xu,Qm,X7,Xn,Xd,Qi,Qj,Qw,Q2,Xr,zoi,zel,zta,zat,zgz,zgs,zlc,zln,Nat.reduceAdd,zza,znt,zcn,MV.int.injEq,kr0,kr1,kl0,kl1,kz0,w5,Ent.mv,Yz,Ys,Yv,Yy,Yo,Yx,Yw,Yr,Yq,Yu,Yt,Yn,Ym,Z1,Y5,Yb,Y8,Ye,Xw,Y1,Xq,Y0,Xz,Y4,Xo,Xp,Y7,Yd,Ya,Yg,Xy,Y3,Y6,Yc,Y9,Yf,Xx,Y2]))
          (try dsimp only [kr0])
          refine Zm (K3 ?_)
          refine ih nm' _ hkr heo.2 h ?_ Xn ?_
          · rw [Xd (by decide)]; exact w0
          · rw [Xd (by decide)]; exact w3
  exact loop r x _ hl' hx h rfl rfl rfl
end Mine
end
section
namespace Mine
open PySem
variable {G : String → Option MV} {Γ : String → Option MFun}
theorem in_ints {μ : MH} {u : Addr} {ul : List Int} {k : Int} (h : μ u = some (.list (ul.map .int))) : inM μ (.int k) (.ref u) = some (decide (k ∈ ul)) := by
  have hd1 : deep μ 9 (.ref u) = some (.list (ul.map PyData.int)) := by simp only [deep, K5 h, Ow]; rfl
  have hd2 : deep μ 9 (.int k) = some (.int k) := by simp [deep]
  rw [in_list h hd1 hd2, List.any_map]
  congr 1
  rw [Bool.eq_iff_iff]
  simp [PyData.eqv]
theorem Po {kvs : List (Int × MV)} {n : Int} : ∀ (ks us us' : List Int), (∀ k, k ∈ us ↔ k ∈ us') → cntF kvs n ks us = cntF kvs n ks us'
  | [] => fun _ _ _ => rfl
  | k :: ks => fun us us' h => by
    unfold cntF
    have e : (k ≤ n ∧ k ∉ us) ↔ (k ≤ n ∧ k ∉ us') := by rw [h]
    by_cases q : k ≤ n ∧ k ∉ us
    · rw [if_pos q, if_pos (e.mp q)]
      congr 1
      refine Po ks _ _ ?_
      cases undoAt kvs k with
      | none => exact h
      | some j => intro i; simp [h]
    · rw [if_neg q, if_neg fun x => q (e.mpr x)]
      exact Po ks us us' h
theorem J3 {Φ : CallSpec} {b u f : Addr} {n : Int} {kvs : List (Int × MV)} {fz : List Addr} {μ₁ : MH} {R : MFlow → MVars → MH → Prop} (hnd : (kvs.map (·.1)).Nodup) (hent : ∀ p ∈ kvs, EntOk p.2) (hb : μ₁ b = some (.idict kvs)) (hu : μ₁ u = none) (hf : μ₁ f = none) (huf : u ≠ f) (hu' : u ∉ fz) (hf' : f ∉ fz) :
    ∀ (ks : List Int) (V : MVars) (μ : MH) (ul fl : List Int), (∀ k ∈ ks, k ∈ kvs.map (·.1)) → CV b u f n V → Ext μ₁ μ → μ u = some (.list (ul.map .int)) → μ f = some (.list (fl.map .int)) → ul.length + ks.length ≤ 100 → fl.length + ks.length ≤ 100 →
      (∀ V' μ', CV b u f n V' → Ext μ₁ μ' → μ' f = some (.list ((fl ++ cntF kvs n ks ul).map .int)) → R .next V' μ') →
      loopM (.one 4) (fun vs F μ => exs G Φ X0 [V4] fz vs F μ) R (ks.map .int) V μ
  | [] => fun V μ ul fl _ x hx h1 h3 _ _ h => by
    simp only [List.map_nil, Z5, Z6]
    exact h V μ x hx (by simpa [cntF] using h3)
  | k :: ks => fun V μ ul fl hk x hx h1 h3 hl1 hl2 h => by
    simp only [List.map_cons, Z5, Z6]
    refine ⟨_, rfl, ?_⟩
    simp only [List.length_cons] at hl1 hl2
    replace x := x.set (i := 4) (by decide) (.int k)
    have v4 : setv V 4 (.int k) 4 = some (.int k) := Xn
    generalize setv V 4 (.int k) = V at x v4 ⊢
    have hks : ∀ k ∈ ks, k ∈ kvs.map (·.1) := fun k hk' => hk k (.tail _ hk')
    obtain ⟨p, hp, hpk⟩ := List.mem_map.mp (hk k (.head _))
    have hlook : lookI kvs k = some p.2 := by rw [← hpk]; exact Bw hnd hp
    have hund : undoAt kvs k = undoOf p.2 := by unfold undoAt; rw [hlook]; rfl
    refine seq (Je ?_)
    generalize hF : (fun (t : Bool) (μ' : MH) => if t = true then exs G Φ X0 [Zj, Ue] fz V _ μ' else exs G Φ X0 [] fz V _ μ') = F
    have hN : ¬(k ≤ n ∧ k ∉ ul) → F false μ := fun q => by
      subst hF
      simp only [Bool.false_eq_true, if_false, exs]
      refine J3 hnd hent hb hu hf huf hu' hf' ks V μ ul fl hks x hx h1 h3 (by first|exact dn hd rfl|exact dl hd rfl|exact Nat.le_of_lt (by assumption)) (by first|exact dn hd rfl|exact dl hd rfl|exact Nat.le_of_lt (by assumption)) fun V' μ' x' hx' hm' => h V' μ' x' hx' ?_
      rw [hm', cntF, if_neg q]
    have hT : k ≤ n ∧ k ∉ ul → F true μ := fun q => by
      subst hF
      simp only [if_true]
      refine seq ?_
      ((try dsimp only [Zj,Qx,Qu,Qn,Qv,Qg,Qf,Qz,X9,X8,X4,Xi,X2,Xa,X1,Qd,Qt,Qc,Qe,Ql,Xg,Q6,Qp,Qq,Qk,Qb,Qa,Q1,Qh,Q7,Q4,Q0,Q9,Q8,Q3,Q5,Qo,Qy,Qr,X5,X6,Qs,args0,X3,Xb,Xj,Xk,Xl,Xm,Qm,X7,Qi,Qj,Qw,Q2,zgz,zgs,zlc,zln,Nat.reduceAdd,kr0,kr1,kl0,kl1,kz0,x.v3,v4]); (try simp (discharger := decide) only [Zj,Qx,Qu,Qn,Qv,Qg,Qf,Qz,X9,X8,X4,Xi,X2,Xa,X1,Qd,Qt,Qc,Qe,Ql,Xg,Q6,Qp,Qq,Qk,Qb,Qa,Q1,Qh,Q7,Q4,Q0,Q9,Q8,Q3,Q5,Qo,Qy,Qr,X5,X6,Qs,args0,X3,Xb,Xf,Xh,Xc,Xe,Xj,Xk,Xl,Xm,Xv,Xu,Qm,X7,Xn,Xd,Qi,Qj,Qw,Q2,Xr,zoi,zel,zta,zat,zgz,zgs,zlc,zln,Nat.reduceAdd,zza,znt,zcn,MV.int.injEq,kr0,kr1,kl0,kl1,kz0,x.v3,v4]))
      refine ⟨V7 h3, _, h3, hf', fit (by simp; lia), ?_⟩
      have hx2 : Ext μ₁ (upd μ f (.list (fl.map .int ++ [.int k]))) := fun c o e => by rw [Yk (Yi e hf)]; exact hx c o e
      have hb2 := hx2 _ _ hb
      have hu2 : upd μ f (.list (fl.map .int ++ [.int k])) u = some (.list (ul.map .int)) := by rw [Yk huf]; exact h1
      have hf2 : upd μ f (.list (fl.map .int ++ [.int k])) f = some (.list ((fl ++ [k]).map .int)) := by rw [Yh]; simp
      generalize upd μ f (.list (fl.map .int ++ [.int k])) = μ₂ at hx2 hb2 hu2 hf2 ⊢
      refine seq (Je (Z7 ?_))
      ((try dsimp only [Qx,Qu,Qn,Qv,Qg,Qf,Qz,X9,X8,X4,Xi,X2,Xa,X1,Qd,Qt,Qc,Qe,Ql,Xg,Q6,Qp,Qq,Qk,Qb,Qa,Q1,Qh,Q7,Q4,Q0,Q9,Q8,Q3,Q5,Qo,Qy,Qr,X5,X6,Qs,args0,X3,Xb,Xj,Xk,Xl,Xm,Qm,X7,Qi,Qj,Qw,Q2,zgz,zgs,zlc,zln,Nat.reduceAdd,kr0,kr1,kl0,kl1,kz0,x.v0,x.v1,x.v2,x.v3,v4]); (try simp (discharger := decide) only [Qx,Qu,Qn,Qv,Qg,Qf,Qz,X9,X8,X4,Xi,X2,Xa,X1,Qd,Qt,Qc,Qe,Ql,Xg,Q6,Qp,Qq,Qk,Qb,Qa,Q1,Qh,Q7,Q4,Q0,Q9,Q8,Q3,Q5,Qo,Qy,Qr,X5,X6,Qs,args0,X3,Xb,Xf,Xh,Xc,Xe,Xj,Xk,Xl,Xm,Xv,Xu,Qm,X7,Xn,Xd,Qi,Qj,Qw,Q2,Xr,zoi,zel,zta,zat,zgz,zgs,zlc,zln,Nat.reduceAdd,zza,znt,zcn,MV.int.injEq,kr0,kr1,kl0,kl1,kz0,x.v0,x.v1,x.v2,x.v3,v4]))
      refine ⟨p.2, by rw [N8 hb2]; exact hlook, ?_⟩
      rcases hent p hp with ⟨j, hj⟩ | ⟨s, rest, hs, hne, hok, hrl, _⟩
      · have hu3 : undoOf p.2 = some j := by rw [hj]; exact EntOk.undo
        refine ⟨.str (S "undo"), by rw [hj, Do (by simp)]; rfl, ?_⟩
        rw [Jd Ul Ul]
        refine ⟨_, rfl, ?_⟩
        simp only [beq_self_eq_true, if_true]
        refine seq ?_
        ((try dsimp only [Zv,Qx,Qu,Qn,Qv,Qg,Qf,Qz,X9,X8,X4,Xi,X2,Xa,X1,Qd,Qt,Qc,Qe,Ql,Xg,Q6,Qp,Qq,Qk,Qb,Qa,Q1,Qh,Q7,Q4,Q0,Q9,Q8,Q3,Q5,Qo,Qy,Qr,X5,X6,Qs,args0,X3,Xb,Xj,Xk,Xl,Xm,Qm,X7,Qi,Qj,Qw,Q2,zgz,zgs,zlc,zln,Nat.reduceAdd,kr0,kr1,kl0,kl1,kz0,x.v0,x.v2,v4]); (try simp (discharger := decide) only [Zv,Qx,Qu,Qn,Qv,Qg,Qf,Qz,X9,X8,X4,Xi,X2,Xa,X1,Qd,Qt,Qc,Qe,Ql,Xg,Q6,Qp,Qq,Qk,Qb,Qa,Q1,Qh,Q7,Q4,Q0,Q9,Q8,Q3,Q5,Qo,Qy,Qr,X5,X6,Qs,args0,X3,Xb,Xf,Xh,Xc,Xe,Xj,Xk,Xl,Xm,Xv,Xu,Qm,X7,Xn,Xd,Qi,Qj,Qw,Q2,Xr,zoi,zel,zta,zat,zgz,zgs,zlc,zln,Nat.reduceAdd,zza,znt,zcn,MV.int.injEq,kr0,kr1,kl0,kl1,kz0,x.v0,x.v2,v4]))
        refine ⟨V7 hu2, p.2, by rw [N8 hb2]; exact hlook, .int j, by rw [hj, Do (by simp)]; rfl, ?_⟩
        refine ⟨_, hu2, hu', fit (by simp; lia), ?_⟩
        simp only [exs]
        refine J3 hnd hent hb hu hf huf hu' hf' ks V _ (ul ++ [j]) (fl ++ [k]) hks x ?_ (by rw [Yh]; simp) ?_ ?_ ?_ fun V' μ' x' hx' hm' => h V' μ' x' hx' ?_
        · intro c o e; rw [Yk (Yi e hu)]; exact hx2 c o e
        · rw [Yk (Ne.symm huf)]; exact hf2
        · simp; lia
        · simp; lia
        · rw [hm', cntF, if_pos q, hund, hu3, Po ks (ul ++ [j]) (j :: ul) (by intro k; simp [or_comm])]; simp
      · have hu3 : undoOf p.2 = none := by rw [hs]; exact EntOk.other hne
        refine ⟨.str s, by rw [hs, Do (by simp; exact Nat.le_trans (by assumption) (by decide))]; rfl, ?_⟩
        rw [Jd hok Ul]
        refine ⟨_, rfl, ?_⟩
        have : (s == S "undo") = false := by rw [beq_eq_false_iff_ne]; exact hne
        simp only [this, Bool.false_eq_true, if_false, exs]
        refine J3 hnd hent hb hu hf huf hu' hf' ks V _ ul (fl ++ [k]) hks x hx2 hu2 hf2 (by first|exact dn hd rfl|exact dl hd rfl|exact Nat.le_of_lt (by assumption)) (by simp; lia) fun V' μ' x' hx' hm' => h V' μ' x' hx' ?_
        rw [hm', cntF, if_pos q, hund, hu3]; simp
    clear hF
    refine Ur (Z7 ?_)
    ((try dsimp only [Qx,Qu,Qn,Qv,Qg,Qf,Qz,X9,X8,X4,Xi,X2,Xa,X1,Qd,Qt,Qc,Qe,Ql,Xg,Q6,Qp,Qq,Qk,Qb,Qa,Q1,Qh,Q7,Q4,Q0,Q9,Q8,Q3,Q5,Qo,Qy,Qr,X5,X6,Qs,args0,X3,Xb,Xj,Xk,Xl,Xm,Qm,X7,Qi,Qj,Qw,Q2,zgz,zgs,zlc,zln,Nat.reduceAdd,kr0,kr1,kl0,kl1,kz0,x.v0,x.v1,x.v2,x.v3,v4]); (try simp (discharger := decide) only [Qx,Qu,Qn,Qv,Qg,Qf,Qz,X9,X8,X4,Xi,X2,Xa,X1,Qd,Qt,Qc,Qe,Ql,Xg,Q6,Qp,Qq,Qk,Qb,Qa,Q1,Qh,Q7,Q4,Q0,Q9,Q8,Q3,Q5,Qo,Qy,Qr,X5,X6,Qs,args0,X3,Xb,Xf,Xh,Xc,Xe,Xj,Xk,Xl,Xm,Xv,Xu,Qm,X7,Xn,Xd,Qi,Qj,Qw,Q2,Xr,zoi,zel,zta,zat,zgz,zgs,zlc,zln,Nat.reduceAdd,zza,znt,zcn,MV.int.injEq,kr0,kr1,kl0,kl1,kz0,x.v0,x.v1,x.v2,x.v3,v4]))
    by_cases q1 : k ≤ n
    · simp only [q1, decide_true, if_true]
      refine Ol (Z7 ?_)
      ((try dsimp only [Qx,Qu,Qn,Qv,Qg,Qf,Qz,X9,X8,X4,Xi,X2,Xa,X1,Qd,Qt,Qc,Qe,Ql,Xg,Q6,Qp,Qq,Qk,Qb,Qa,Q1,Qh,Q7,Q4,Q0,Q9,Q8,Q3,Q5,Qo,Qy,Qr,X5,X6,Qs,args0,X3,Xb,Xj,Xk,Xl,Xm,Qm,X7,Qi,Qj,Qw,Q2,zgz,zgs,zlc,zln,Nat.reduceAdd,kr0,kr1,kl0,kl1,kz0,x.v0,x.v1,x.v2,x.v3,v4]); (try simp (discharger := decide) only [Qx,Qu,Qn,Qv,Qg,Qf,Qz,X9,X8,X4,Xi,X2,Xa,X1,Qd,Qt,Qc,Qe,Ql,Xg,Q6,Qp,Qq,Qk,Qb,Qa,Q1,Qh,Q7,Q4,Q0,Q9,Q8,Q3,Q5,Qo,Qy,Qr,X5,X6,Qs,args0,X3,Xb,Xf,Xh,Xc,Xe,Xj,Xk,Xl,Xm,Xv,Xu,Qm,X7,Xn,Xd,Qi,Qj,Qw,Q2,Xr,zoi,zel,zta,zat,zgz,zgs,zlc,zln,Nat.reduceAdd,zza,znt,zcn,MV.int.injEq,kr0,kr1,kl0,kl1,kz0,x.v0,x.v1,x.v2,x.v3,v4]))
      refine ⟨!decide (k ∈ ul), by simp only [cmpM, in_ints h1]; rfl, ?_⟩
      by_cases q2 : k ∈ ul
      · simp only [q2, decide_true, Bool.not_true]; exact hN (by simp [q2])
      · simp only [q2, decide_false, Bool.not_false]; exact hT ⟨q1, q2⟩
    · simp only [q1, decide_false, Bool.false_eq_true, if_false]
      exact hN (by simp [q1])
theorem V5 {kvs : List (Int × MV)} {n : Int} : ∀ (ks us : List Int), (cntF kvs n ks us).Sublist ks
  | [] => fun _ => List.Sublist.refl _
  | k :: ks => fun us => by
    unfold cntF
    split
    · exact (V5 ks _).cons_cons k
    · exact (V5 ks us).cons k
theorem F1 (kvs : List (Int × MV)) (n : Int) : cntOf kvs n = (cntF kvs n (sortI (kvs.map (·.1))).reverse []).reverse := by
  unfold cntOf
  refine Uu (Jg _) ?_ ((Z3 _).trans (List.reverse_perm _).symm)
  rw [List.pairwise_reverse]
  refine List.Pairwise.sublist (V5 _ _) ?_
  rw [List.pairwise_reverse]
  exact Jg _
theorem F0 (kvs : List (Int × MV)) (n : Int) : (cntOf kvs n).Sublist (sortI (kvs.map (·.1))) := by
  rw [F1]
  have := (V5 (kvs := kvs) (n := n) (sortI (kvs.map (·.1))).reverse []).reverse
  simpa using this
theorem Pv {d : Nat} {b : Addr} {n : Int} {kvs : List (Int × MV)} {fz : List Addr} {Q : MQ} {μ : MH} (hΓ : Γ "_law_counting" = some Zq) (hd : 1 ≤ d) (hnd : (kvs.map (·.1)).Nodup) (hlen : kvs.length < 64) (hent : ∀ p ∈ kvs, EntOk p.2) (hb : μ b = some (.idict kvs))
    (h : ∀ (c : Addr) (μ' : MH), Ext μ μ' → μ c = none → c ∉ fz → μ' c = some (.list ((cntOf kvs n).map .int)) → Q (.ref c) μ') : calls G Γ d "_law_counting" [.ref b, .int n] fz Q X0 μ := by
  refine Z2 hΓ rfl hd (seq ?_)
  ((try dsimp only [Kz,Qx,Qu,Qn,Qv,Qg,Qf,Qz,X9,X8,X4,Xi,X2,Xa,X1,Qd,Qt,Qc,Qe,Ql,Xg,Q6,Qp,Qq,Qk,Qb,Qa,Q1,Qh,Q7,Q4,Q0,Q9,Q8,Q3,Q5,Qo,Qy,Qr,X5,X6,Qs,args0,X3,Xb,Xj,Xk,Xl,Xm,Qm,X7,Qi,Qj,Qw,Q2,zgz,zgs,zlc,zln,Nat.reduceAdd,kr0,kr1,kl0,kl1,kz0]); (try simp (discharger := decide) only [Kz,Qx,Qu,Qn,Qv,Qg,Qf,Qz,X9,X8,X4,Xi,X2,Xa,X1,Qd,Qt,Qc,Qe,Ql,Xg,Q6,Qp,Qq,Qk,Qb,Qa,Q1,Qh,Q7,Q4,Q0,Q9,Q8,Q3,Q5,Qo,Qy,Qr,X5,X6,Qs,args0,X3,Xb,Xf,Xh,Xc,Xe,Xj,Xk,Xl,Xm,Xv,Xu,Qm,X7,Xn,Xd,Qi,Qj,Qw,Q2,Xr,zoi,zel,zta,zat,zgz,zgs,zlc,zln,Nat.reduceAdd,zza,znt,zcn,MV.int.injEq,kr0,kr1,kl0,kl1,kz0]))
  intro u hu huz
  refine seq ?_
  ((try dsimp only [Ky,Qx,Qu,Qn,Qv,Qg,Qf,Qz,X9,X8,X4,Xi,X2,Xa,X1,Qd,Qt,Qc,Qe,Ql,Xg,Q6,Qp,Qq,Qk,Qb,Qa,Q1,Qh,Q7,Q4,Q0,Q9,Q8,Q3,Q5,Qo,Qy,Qr,X5,X6,Qs,args0,X3,Xb,Xj,Xk,Xl,Xm,Qm,X7,Qi,Qj,Qw,Q2,zgz,zgs,zlc,zln,Nat.reduceAdd,kr0,kr1,kl0,kl1,kz0]); (try simp (discharger := decide) only [Ky,Qx,Qu,Qn,Qv,Qg,Qf,Qz,X9,X8,X4,Xi,X2,Xa,X1,Qd,Qt,Qc,Qe,Ql,Xg,Q6,Qp,Qq,Qk,Qb,Qa,Q1,Qh,Q7,Q4,Q0,Q9,Q8,Q3,Q5,Qo,Qy,Qr,X5,X6,Qs,args0,X3,Xb,Xf,Xh,Xc,Xe,Xj,Xk,Xl,Xm,Xv,Xu,Qm,X7,Xn,Xd,Qi,Qj,Qw,Q2,Xr,zoi,zel,zta,zat,zgz,zgs,zlc,zln,Nat.reduceAdd,zza,znt,zcn,MV.int.injEq,kr0,kr1,kl0,kl1,kz0]))
  intro f hf hfz
  refine seq ?_
  ((try dsimp only [Kx,Qx,Qu,Qn,Qv,Qg,Qf,Qz,X9,X8,X4,Xi,X2,Xa,X1,Qd,Qt,Qc,Qe,Ql,Xg,Q6,Qp,Qq,Qk,Qb,Qa,Q1,Qh,Q7,Q4,Q0,Q9,Q8,Q3,Q5,Qo,Qy,Qr,X5,X6,Qs,args0,X3,Xb,Xj,Xk,Xl,Xm,Qm,X7,Qi,Qj,Qw,Q2,zgz,zgs,zlc,zln,Nat.reduceAdd,kr0,kr1,kl0,kl1,kz0]); (try simp (discharger := decide) only [Kx,Qx,Qu,Qn,Qv,Qg,Qf,Qz,X9,X8,X4,Xi,X2,Xa,X1,Qd,Qt,Qc,Qe,Ql,Xg,Q6,Qp,Qq,Qk,Qb,Qa,Q1,Qh,Q7,Q4,Q0,Q9,Q8,Q3,Q5,Qo,Qy,Qr,X5,X6,Qs,args0,X3,Xb,Xf,Xh,Xc,Xe,Xj,Xk,Xl,Xm,Xv,Xu,Qm,X7,Xn,Xd,Qi,Qj,Qw,Q2,Xr,zoi,zel,zta,zat,zgz,zgs,zlc,zln,Nat.reduceAdd,zza,znt,zcn,MV.int.injEq,kr0,kr1,kl0,kl1,kz0]))
  have hf0 : μ f = none := by
    cases q : μ f with
    | none => rfl
    | some o => rw [Ext.upd hu _ _ q] at hf; cases hf
  have huf : u ≠ f := Yi (o := .list []) Yh hf
  have hbu : b ≠ u := Yi hb hu
  have hbf : b ≠ f := Yi hb hf0
  have hb2 : upd (upd μ u (.list [])) f (.list []) b = some (.idict kvs) := by rw [Yk hbf, Yk hbu]; exact hb
  refine Cd (kvs.map fun kv => .int kv.1) (kvs.map (·.1)) rfl (by simp only [items, itemsO, keysO, valsO, hb2]) (by have := K6 (kvs.map (·.1)); rwa [List.map_map] at this) (by simpa using hlen) fun c hc hcz => ?_
  have hc0 : μ c = none := by
    cases q : μ c with
    | none => rfl
    | some o => rw [Ext.upd hf _ _ (Ext.upd hu _ _ q)] at hc; cases hc
  refine ⟨.val (.ref c), ((sortI (kvs.map (·.1))).reverse.map MV.int), rfl, by simp [Src.items, items, itemsO, keysO, valsO, Yh], fit (by simp [K0]; lia), ?_⟩
  have hcu : u ≠ c := Yi (o := .list []) (by rw [Yk huf, Yh]) hc
  have hcf : f ≠ c := Yi (o := .list []) Yh hc
  have hsl := K0 (kvs.map (·.1))
  simp only [List.length_map] at hsl
  refine J3 (μ₁ := upd μ c (.list ((sortI (kvs.map (·.1))).reverse.map .int))) hnd hent (by rw [Yk (Yi hb hc0)]; exact hb) (by rw [Yk hcu]; exact hu) (by rw [Yk hcf]; exact hf0) huf (by simp [Src.held, hcu, huz]) (by simp [Src.held, hcf, hfz]) _ _ _ [] [] ?_ ⟨rfl, rfl, rfl, rfl⟩ ?_ ?_ ?_ ?_ ?_ fun V μ₂ x hx hm => ?_
  · intro k hk
    rw [List.mem_reverse] at hk
    unfold sortI at hk
    exact List.mem_mergeSort.mp hk
  · intro a o e
    by_cases q : a = c
    · subst q; rw [Yh] at e ⊢; exact e
    · rw [Yk q] at e ⊢
      exact Ext.upd hf _ _ (Ext.upd hu _ _ e)
  · rw [Yk hcu, Yk huf, Yh]; rfl
  · rw [Yk hcf, Yh]; rfl
  · simp; lia
  · simp; lia
  · refine seq ?_
    ((try dsimp only [Kw,Qx,Qu,Qn,Qv,Qg,Qf,Qz,X9,X8,X4,Xi,X2,Xa,X1,Qd,Qt,Qc,Qe,Ql,Xg,Q6,Qp,Qq,Qk,Qb,Qa,Q1,Qh,Q7,Q4,Q0,Q9,Q8,Q3,Q5,Qo,Qy,Qr,X5,X6,Qs,args0,X3,Xb,Xj,Xk,Xl,Xm,Qm,X7,Qi,Qj,Qw,Q2,zgz,zgs,zlc,zln,Nat.reduceAdd,kr0,kr1,kl0,kl1,kz0,x.v3]); (try simp (discharger := decide) only [Kw,Qx,Qu,Qn,Qv,Qg,Qf,Qz,X9,X8,X4,Xi,X2,Xa,X1,Qd,Qt,Qc,Qe,Ql,Xg,Q6,Qp,Qq,Qk,Qb,Qa,Q1,Qh,Q7,Q4,Q0,Q9,Q8,Q3,Q5,Qo,Qy,Qr,X5,X6,Qs,args0,X3,Xb,Xf,Xh,Xc,Xe,Xj,Xk,Xl,Xm,Xv,Xu,Qm,X7,Xn,Xd,Qi,Qj,Qw,Q2,Xr,zoi,zel,zta,zat,zgz,zgs,zlc,zln,Nat.reduceAdd,zza,znt,zcn,MV.int.injEq,kr0,kr1,kl0,kl1,kz0,x.v3]))
    have hfl := Om (kvs := kvs) (n := n) (sortI (kvs.map (·.1))).reverse []
    rw [List.length_reverse, hsl] at hfl
    rw [List.nil_append] at hm
    refine Op (s := some (-1)) rfl rfl rfl (by simp) hm (fit (by simp; lia)) fun c' hc' hcz' => ?_
    rw [Bq, ← List.map_reverse, ← F1]
    have xx : Ext μ μ₂ := (Ext.upd hc0).trans hx
    refine h c' _ (xx.trans (Ext.upd hc')) ?_ hcz' Yh
    cases q : μ c' with
    | none => rfl
    | some o => rw [xx _ _ q] at hc'; cases hc'
end Mine
end
section
namespace Mine
open PySem
variable {G : String → Option MV} {Γ : String → Option MFun}
noncomputable def sayE (day : Int) (T : Str → MV) (e : Ent) : Str → MV := match e with
  | .undo _ => T
  | .clear nm lo hi => if lo ≤ day ∧ day ≤ hi then fun x => if x = nm then .none else T x else T
  | .like nm lo hi nm' => if lo ≤ day ∧ day ≤ hi then fun x => if x = nm then T nm' else T x else T
  | .tell nm lo hi v => if lo ≤ day ∧ day ≤ hi then fun x => if x = nm then .int v else T x else T
noncomputable def sayF (B : Book) (day : Int) (T : Str → MV) (k : Int) : Str → MV := match Book.at B k with
  | none => T
  | some e => sayE day T e
noncomputable def T0 : Str → MV := fun _ => .none
noncomputable def saidOf (B : Book) (n day : Int) : Str → MV := (cntOf (Book.mv B) n).foldl (sayF B day) T0
theorem wF_said {B : Book} {day : Int} : ∀ (r : List Int) (x : Str), (∀ k ∈ r, k ∈ B.keys) → wF B day r x = (r.reverse.foldl (sayF B day) T0) x
  | [] => fun x _ => rfl
  | k :: r => fun x hk => by
    obtain ⟨e, he⟩ := Book.at_key (hk k (.head _))
    have ih := fun x => wF_said (B := B) (day := day) r x fun k hk' => hk k (.tail _ hk')
    rw [List.reverse_cons, List.foldl_append, List.foldl_cons, List.foldl_nil]
    generalize r.reverse.foldl (sayF B day) T0 = T at ih ⊢
    unfold wF sayF
    rw [he]
    simp only
    cases e with
    | undo j => simp [about, Ent.sp, sayE, ih]
    | clear nm lo hi =>
      simp only [about, Ent.sp, sayE]
      by_cases q : lo ≤ day ∧ day ≤ hi
      · rw [if_pos q]
        by_cases q2 : x = nm
        · subst q2; simp [q]
        · have : (nm == x) = false := beq_eq_false_iff_ne.mpr (Ne.symm q2)
          simp [this, q2, ih]
      · rw [if_neg q]
        have : (decide (lo ≤ day) && decide (day ≤ hi)) = false := by simpa using q
        simp [this, ih]
    | like nm lo hi nm' =>
      simp only [about, Ent.sp, sayE]
      by_cases q : lo ≤ day ∧ day ≤ hi
      · rw [if_pos q]
        by_cases q2 : x = nm
        · subst q2; simp [q, ih]
        · have : (nm == x) = false := beq_eq_false_iff_ne.mpr (Ne.symm q2)
          simp [this, q2, ih]
      · rw [if_neg q]
        have : (decide (lo ≤ day) && decide (day ≤ hi)) = false := by simpa using q
        simp [this, ih]
    | tell nm lo hi v =>
      simp only [about, Ent.sp, sayE]
      by_cases q : lo ≤ day ∧ day ≤ hi
      · rw [if_pos q]
        by_cases q2 : x = nm
        · subst q2; simp [q]
        · have : (nm == x) = false := beq_eq_false_iff_ne.mpr (Ne.symm q2)
          simp [this, q2, ih]
      · rw [if_neg q]
        have : (decide (lo ≤ day) && decide (day ≤ hi)) = false := by simpa using q
        simp [this, ih]
theorem Uf {B : Book} {n : Int} {k : Int} (h : k ∈ cntOf (Book.mv B) n) : k ∈ B.keys := by
  have := (F0 _ _).subset h
  rw [Book.mv_keys] at this
  exact (Z3 _).mem_iff.mp this
theorem wF_cnt {B : Book} {n day : Int} {x : Str} : wF B day (cntOf (Book.mv B) n).reverse x = saidOf B n day x := by
  rw [wF_said _ _ fun k hk => Uf (List.mem_reverse.mp hk), List.reverse_reverse]; rfl
noncomputable def Wth (v : MV) : Prop := v = .none ∨ ∃ i, v = .int i
theorem sayE_wth {day : Int} {T : Str → MV} {e : Ent} (h : ∀ x, Wth (T x)) (x : Str) : Wth (sayE day T e x) := by
  cases e <;> simp only [sayE]
  · exact h x
  · split
    · dsimp only
      split
      · exact .inl rfl
      · exact h x
    · exact h x
  · split
    · dsimp only
      split
      · exact h _
      · exact h x
    · exact h x
  · split
    · dsimp only
      split
      · exact .inr ⟨_, rfl⟩
      · exact h x
    · exact h x
theorem sayF_wth {B : Book} {day : Int} : ∀ (l : List Int) (T : Str → MV), (∀ x, Wth (T x)) → ∀ x, Wth (l.foldl (sayF B day) T x)
  | [] => fun _ h => h
  | k :: l => fun T h => sayF_wth l _ fun x => by
    unfold sayF
    cases Book.at B k with
    | none => exact h x
    | some e => exact sayE_wth h x
theorem said_wth {B : Book} {n day : Int} (x : Str) : Wth (saidOf B n day x) := sayF_wth _ _ (fun _ => .inl rfl) x
theorem look_putS {K : Type} [DecidableEq K] {l : List (K × MV)} {j k : K} {v : MV} : lookI (putI l j v) k = if k = j then some v else lookI l k := by
  unfold lookI putI
  split
  · rename_i h
    induction l with
    | nil => simp at h
    | cons p l ih =>
      rw [List.map_cons, List.find?_cons, List.find?_cons]
      by_cases q : p.1 = j
      · rw [if_pos q]
        by_cases q2 : k = j
        · subst q2; simp [q]
        · have : p.1 ≠ k := fun e => q2 (e.symm.trans q)
          simp only [this, decide_false, q2, if_false]
          by_cases a : (l.any fun kv => decide (kv.1 = j)) = true
          · have := ih a
            rw [if_neg q2] at this; exact this
          · rw [List.map_congr_left (g := id), List.map_id]
            intro r hr
            simp only [List.any_eq_true, not_exists, not_and, decide_eq_true_eq] at a
            rw [if_neg (a r hr)]; rfl
      · rw [if_neg q]
        simp only [List.any_cons, q, decide_false, Bool.false_or] at h
        by_cases q3 : p.1 = k
        · have : k ≠ j := fun e => q (q3.trans e)
          simp [q3, this]
        · simp only [q3, decide_false]; exact ih h
  · rename_i h
    rw [List.find?_append]
    by_cases q : k = j
    · subst q
      have : l.find? (fun kv => decide (kv.1 = k)) = none := by
        rw [List.find?_eq_none]
        simp only [List.any_eq_true, not_exists, not_and, decide_eq_true_eq] at h
        intro x hx; simpa using h x hx
      simp [this]
    · have : ¬(j = k) := fun e => q e.symm
      simp [q, this]
structure SV (b t : Addr) (n day : Int) (V : MVars) : Prop where
  v0 : V 0 = some (.ref b)
  v1 : V 1 = some (.int n)
  v2 : V 2 = some (.int day)
  v3 : V 3 = some (.ref t)
theorem SV.set {b t : Addr} {n day : Int} {V : MVars} (x : SV b t n day V) {i : Nat} (h : 4 ≤ i) (v : MV) : SV b t n day (setv V i v) :=
  ⟨(Xd (by first | exact nei h rfl | decide)).trans x.v0, (Xd (by first | exact nei h rfl | decide)).trans x.v1, (Xd (by first | exact nei h rfl | decide)).trans x.v2, (Xd (by first | exact nei h rfl | decide)).trans x.v3⟩
theorem Ac {μ : MH} {fz : List Addr} {a : Addr} {l : List (Str × MV)} {k : Str} {v : MV} {Q : MH → Prop} (h : μ a = some (.sdict l)) (hf : a ∉ fz) (hl : fits l.length) (hq : Q (upd μ a (.sdict (putI l k v)))) : setM fz (.ref a) (.str k) v Q μ := by
  refine ⟨hf, ?_⟩
  rw [h]
  exact ⟨hl, hq⟩
theorem put_lenS {l : List (Str × MV)} {j : Str} {v : MV} : (putI l j v).length ≤ l.length + 1 := by
  unfold putI; split <;> simp
theorem Ab {Φ : CallSpec} {fz : List Addr} {V : MVars} {μ : MH} {A B : MH → Prop} {m : MV} {day lo hi : Int} (v5 : V 5 = some m) (v2 : V 2 = some (.int day)) (i2 : ∀ μ', idxM μ' m (.int 2) = some (.int lo)) (i3 : ∀ μ', idxM μ' m (.int 3) = some (.int hi))
    (hT : lo ≤ day ∧ day ≤ hi → A μ) (hN : ¬(lo ≤ day ∧ day ≤ hi) → B μ) : evB G Φ (.and [(.cmp (.idx (.var 5) (.cint 2)) [.le, .le] [(.var 2), (.idx (.var 5) (.cint 3))])]) fz V (fun t μ' => if t then A μ' else B μ') μ := by
  refine Ol (evB_cmp2 ?_)
  ((try dsimp only [Qx,Qu,Qn,Qv,Qg,Qf,Qz,X9,X8,X4,Xi,X2,Xa,X1,Qd,Qt,Qc,Qe,Ql,Xg,Q6,Qp,Qq,Qk,Qb,Qa,Q1,Qh,Q7,Q4,Q0,Q9,Q8,Q3,Q5,Qo,Qy,Qr,X5,X6,Qs,args0,X3,Xb,Xj,Xk,Xl,Xm,Qm,X7,Qi,Qj,Qw,Q2,zgz,zgs,zlc,zln,Nat.reduceAdd,kr0,kr1,kl0,kl1,kz0,v5,v2,i2,i3]); (try simp (discharger := decide) only [Qx,Qu,Qn,Qv,Qg,Qf,Qz,X9,X8,X4,Xi,X2,Xa,X1,Qd,Qt,Qc,Qe,Ql,Xg,Q6,Qp,Qq,Qk,Qb,Qa,Q1,Qh,Q7,Q4,Q0,Q9,Q8,Q3,Q5,Qo,Qy,Qr,X5,X6,Qs,args0,X3,Xb,Xf,Xh,Xc,Xe,Xj,Xk,Xl,Xm,Xv,Xu,Qm,X7,Xn,Xd,Qi,Qj,Qw,Q2,Xr,zoi,zel,zta,zat,zgz,zgs,zlc,zln,Nat.reduceAdd,zza,znt,zcn,MV.int.injEq,kr0,kr1,kl0,kl1,kz0,v5,v2,i2,i3]))
  by_cases q1 : lo ≤ day
  · by_cases q2 : day ≤ hi
    · simp only [q1, q2, decide_true, if_true]; exact hT ⟨q1, q2⟩
    · simp only [q1, q2, decide_true, decide_false, Bool.false_eq_true, if_true, if_false]; exact hN fun q => q2 q.2
  · simp only [q1, decide_false, Bool.false_eq_true, if_false]; exact hN fun q => q1 q.1
theorem D6 {Φ : CallSpec} {B : Book} {b t : Addr} {n day : Int} {fz : List Addr} {μ₁ : MH} {R : MFlow → MVars → MH → Prop} (hB : BOk B) (hb : μ₁ b = some (.idict (Book.mv B))) (ht : μ₁ t = none) (ht' : t ∉ fz) :
    ∀ (ks : List Int) (V : MVars) (μ : MH) (tl : List (Str × MV)) (T : Str → MV), (∀ k ∈ ks, k ∈ B.keys) → SV b t n day V → Ext μ₁ μ → μ t = some (.sdict tl) → (∀ x, (lookI tl x).getD .none = T x) → tl.length + ks.length ≤ 100 →
      (∀ V' μ' tl', SV b t n day V' → Ext μ₁ μ' → μ' t = some (.sdict tl') → (∀ x, (lookI tl' x).getD .none = ks.foldl (sayF B day) T x) → R .next V' μ') →
      loopM (.one 4) (fun vs F μ => exs G Φ X0 [Kb, Od] fz vs F μ) R (ks.map .int) V μ
  | [] => fun V μ tl T _ x hx h1 h2 _ h => by
    simp only [List.map_nil, Z5, Z6]
    exact h V μ tl x hx h1 h2
  | k :: ks => fun V μ tl T hk x hx h1 h2 hl h => by
    simp only [List.map_cons, Z5, Z6]
    refine ⟨_, rfl, ?_⟩
    simp only [List.length_cons] at hl
    replace x := x.set (i := 4) (by decide) (.int k)
    have v4 : setv V 4 (.int k) 4 = some (.int k) := Xn
    generalize setv V 4 (.int k) = V at x v4 ⊢
    have hks : ∀ k ∈ ks, k ∈ B.keys := fun k hk' => hk k (.tail _ hk')
    obtain ⟨e, he⟩ := Book.at_key (hk k (.head _))
    have heo := hB.ok _ (Book.at_some he)
    have hb1 := hx _ _ hb
    have go : ∀ (V : MVars) (μ : MH) (tl : List (Str × MV)), SV b t n day V → Ext μ₁ μ → μ t = some (.sdict tl) → (∀ x, (lookI tl x).getD .none = sayF B day T k x) → tl.length + ks.length ≤ 100 → _ :=
      fun V μ tl x hx h1 h2 hl => D6 (Φ := Φ) hB hb ht ht' ks V μ tl (sayF B day T k) hks x hx h1 h2 hl (R := R) (by simpa using h)
    generalize loopM (.one 4) _ R (ks.map .int) = L at go ⊢
    clear h
    unfold sayF at go
    rw [he] at go
    simp only at go
    refine seq ?_
    ((try dsimp only [Kb,Qx,Qu,Qn,Qv,Qg,Qf,Qz,X9,X8,X4,Xi,X2,Xa,X1,Qd,Qt,Qc,Qe,Ql,Xg,Q6,Qp,Qq,Qk,Qb,Qa,Q1,Qh,Q7,Q4,Q0,Q9,Q8,Q3,Q5,Qo,Qy,Qr,X5,X6,Qs,args0,X3,Xb,Xj,Xk,Xl,Xm,Qm,X7,Qi,Qj,Qw,Q2,zgz,zgs,zlc,zln,Nat.reduceAdd,kr0,kr1,kl0,kl1,kz0,x.v0,v4]); (try simp (discharger := decide) only [Kb,Qx,Qu,Qn,Qv,Qg,Qf,Qz,X9,X8,X4,Xi,X2,Xa,X1,Qd,Qt,Qc,Qe,Ql,Xg,Q6,Qp,Qq,Qk,Qb,Qa,Q1,Qh,Q7,Q4,Q0,Q9,Q8,Q3,Q5,Qo,Qy,Qr,X5,X6,Qs,args0,X3,Xb,Xf,Xh,Xc,Xe,Xj,Xk,Xl,Xm,Xv,Xu,Qm,X7,Xn,Xd,Qi,Qj,Qw,Q2,Xr,zoi,zel,zta,zat,zgz,zgs,zlc,zln,Nat.reduceAdd,zza,znt,zcn,MV.int.injEq,kr0,kr1,kl0,kl1,kz0,x.v0,v4]))
    refine ⟨e.mv, by rw [N8 hb1, Book.look, he]; rfl, ?_⟩
    replace x := x.set (i := 5) (by decide) e.mv
    have v5 : setv V 5 e.mv 5 = some e.mv := Xn
    generalize setv V 5 e.mv = V at x v5 ⊢
    have ex1 : ∀ {tl' : List (Str × MV)}, Ext μ₁ (upd μ t (.sdict tl')) := fun c o e => by rw [Yk (Yi e ht)]; exact hx c o e
    have hpl : ∀ {j : Str} {v : MV}, (putI tl j v).length + ks.length ≤ 100 := fun {j v} => by have := put_lenS (l := tl) (j := j) (v := v); lia
    have hlk : ∀ {nm : Str} {w : MV} (y : Str), (lookI (putI tl nm w) y).getD .none = if y = nm then w else T y := fun {nm w} y => by
      rw [look_putS]
      split
      · rfl
      · exact h2 y
    refine seq (Je ?_)
    cases e with
    | undo j =>
      refine Ur (Z7 ?_)
      ((try dsimp only [Qx,Qu,Qn,Qv,Qg,Qf,Qz,X9,X8,X4,Xi,X2,Xa,X1,Qd,Qt,Qc,Qe,Ql,Xg,Q6,Qp,Qq,Qk,Qb,Qa,Q1,Qh,Q7,Q4,Q0,Q9,Q8,Q3,Q5,Qo,Qy,Qr,X5,X6,Qs,args0,X3,Xb,Xj,Xk,Xl,Xm,Qm,X7,Qi,Qj,Qw,Q2,zgz,zgs,zlc,zln,Nat.reduceAdd,kr0,kr1,kl0,kl1,kz0,v5,Ent.mv,Yz,Ys,Yv,Yy,Yo,Yx,Yw,Yr,Yq,Yu,Yt,Yn,Ym,Z1,Y5,Yb,Y8,Ye,Xw,Y1,Xq,Y0,Xz,Y4,Xo,Xp,Y7,Yd,Ya,Yg,Xy,Y3,Y6,Yc,Y9,Yf,Xx,Y2]); (try simp (discharger := decide) only [Qx,Qu,Qn,Qv,Qg,Qf,Qz,X9,X8,X4,Xi,X2,Xa,X1,Qd,Qt,Qc,Qe,Ql,Xg,Q6,Qp,Qq,Qk,Qb,Qa,Q1,Qh,Q7,Q4,Q0,Q9,Q8,Q3,Q5,Qo,Qy,Qr,X5,X6,Qs,args0,X3,Xb,Xf,Xh,Xc,Xe,Xj,Xk,Xl,Xm,Xv,Xu,Qm,X7,Xn,Xd,Qi,Qj,Qw,Q2,Xr,zoi,zel,zta,zat,zgz,zgs,zlc,zln,Nat.reduceAdd,zza,znt,zcn,MV.int.injEq,kr0,kr1,kl0,kl1,kz0,v5,Ent.mv,Yz,Ys,Yv,Yy,Yo,Yx,Yw,Yr,Yq,Yu,Yt,Yn,Ym,Z1,Y5,Yb,Y8,Ye,Xw,Y1,Xq,Y0,Xz,Y4,Xo,Xp,Y7,Yd,Ya,Yg,Xy,Y3,Y6,Yc,Y9,Yf,Xx,Y2]))
      simp only [Bool.false_eq_true, if_false]
      exact Zm (K3 (go V μ tl x hx h1 h2 (by first|exact dn hd rfl|exact dl hd rfl|exact Nat.le_of_lt (by assumption))))
    | clear nm lo hi =>
      refine Ur (Z7 ?_)
      ((try dsimp only [Qx,Qu,Qn,Qv,Qg,Qf,Qz,X9,X8,X4,Xi,X2,Xa,X1,Qd,Qt,Qc,Qe,Ql,Xg,Q6,Qp,Qq,Qk,Qb,Qa,Q1,Qh,Q7,Q4,Q0,Q9,Q8,Q3,Q5,Qo,Qy,Qr,X5,X6,Qs,args0,X3,Xb,Xj,Xk,Xl,Xm,Qm,X7,Qi,Qj,Qw,Q2,zgz,zgs,zlc,zln,Nat.reduceAdd,kr0,kr1,kl0,kl1,kz0,v5,Ent.mv,Yz,Ys,Yv,Yy,Yo,Yx,Yw,Yr,Yq,Yu,Yt,Yn,Ym,Z1,Y5,Yb,Y8,Ye,Xw,Y1,Xq,Y0,Xz,Y4,Xo,Xp,Y7,Yd,Ya,Yg,Xy,Y3,Y6,Yc,Y9,Yf,Xx,Y2]); (try simp (discharger := decide) only [Qx,Qu,Qn,Qv,Qg,Qf,Qz,X9,X8,X4,Xi,X2,Xa,X1,Qd,Qt,Qc,Qe,Ql,Xg,Q6,Qp,Qq,Qk,Qb,Qa,Q1,Qh,Q7,Q4,Q0,Q9,Q8,Q3,Q5,Qo,Qy,Qr,X5,X6,Qs,args0,X3,Xb,Xf,Xh,Xc,Xe,Xj,Xk,Xl,Xm,Xv,Xu,Qm,X7,Xn,Xd,Qi,Qj,Qw,Q2,Xr,zoi,zel,zta,zat,zgz,zgs,zlc,zln,Nat.reduceAdd,zza,znt,zcn,MV.int.injEq,kr0,kr1,kl0,kl1,kz0,v5,Ent.mv,Yz,Ys,Yv,Yy,Yo,Yx,Yw,Yr,Yq,Yu,Yt,Yn,Ym,Z1,Y5,Yb,Y8,Ye,Xw,Y1,Xq,Y0,Xz,Y4,Xo,Xp,Y7,Yd,Ya,Yg,Xy,Y3,Y6,Yc,Y9,Yf,Xx,Y2]))
      simp only [if_true]
      refine Ab v5 x.v2 (fun _ => Yr) (fun _ => Yq) (fun q => ?_) fun q => Zm (K3 (go V μ tl x hx h1 (by simp only [sayE, if_neg q]; exact h2) (by first|exact dn hd rfl|exact dl hd rfl|exact Nat.le_of_lt (by assumption))))
      refine seq ?_
      ((try dsimp only [Zb,Qx,Qu,Qn,Qv,Qg,Qf,Qz,X9,X8,X4,Xi,X2,Xa,X1,Qd,Qt,Qc,Qe,Ql,Xg,Q6,Qp,Qq,Qk,Qb,Qa,Q1,Qh,Q7,Q4,Q0,Q9,Q8,Q3,Q5,Qo,Qy,Qr,X5,X6,Qs,args0,X3,Xb,Xj,Xk,Xl,Xm,Qm,X7,Qi,Qj,Qw,Q2,zgz,zgs,zlc,zln,Nat.reduceAdd,kr0,kr1,kl0,kl1,kz0,v5,Ent.mv,Yz,Ys,Yv,Yy,Yo,Yx,Yw,Yr,Yq,Yu,Yt,Yn,Ym,Z1,Y5,Yb,Y8,Ye,Xw,Y1,Xq,Y0,Xz,Y4,Xo,Xp,Y7,Yd,Ya,Yg,Xy,Y3,Y6,Yc,Y9,Yf,Xx,Y2]); (try simp (discharger := decide) only [Zb,Qx,Qu,Qn,Qv,Qg,Qf,Qz,X9,X8,X4,Xi,X2,Xa,X1,Qd,Qt,Qc,Qe,Ql,Xg,Q6,Qp,Qq,Qk,Qb,Qa,Q1,Qh,Q7,Q4,Q0,Q9,Q8,Q3,Q5,Qo,Qy,Qr,X5,X6,Qs,args0,X3,Xb,Xf,Xh,Xc,Xe,Xj,Xk,Xl,Xm,Xv,Xu,Qm,X7,Xn,Xd,Qi,Qj,Qw,Q2,Xr,zoi,zel,zta,zat,zgz,zgs,zlc,zln,Nat.reduceAdd,zza,znt,zcn,MV.int.injEq,kr0,kr1,kl0,kl1,kz0,v5,Ent.mv,Yz,Ys,Yv,Yy,Yo,Yx,Yw,Yr,Yq,Yu,Yt,Yn,Ym,Z1,Y5,Yb,Y8,Ye,Xw,Y1,Xq,Y0,Xz,Y4,Xo,Xp,Y7,Yd,Ya,Yg,Xy,Y3,Y6,Yc,Y9,Yf,Xx,Y2]))
      simp only [Bool.false_eq_true, if_false]
      refine seq ?_
      ((try dsimp only [Zc,Qx,Qu,Qn,Qv,Qg,Qf,Qz,X9,X8,X4,Xi,X2,Xa,X1,Qd,Qt,Qc,Qe,Ql,Xg,Q6,Qp,Qq,Qk,Qb,Qa,Q1,Qh,Q7,Q4,Q0,Q9,Q8,Q3,Q5,Qo,Qy,Qr,X5,X6,Qs,args0,X3,Xb,Xj,Xk,Xl,Xm,Qm,X7,Qi,Qj,Qw,Q2,zgz,zgs,zlc,zln,Nat.reduceAdd,kr0,kr1,kl0,kl1,kz0,v5,Ent.mv,Yz,Ys,Yv,Yy,Yo,Yx,Yw,Yr,Yq,Yu,Yt,Yn,Ym,Z1,Y5,Yb,Y8,Ye,Xw,Y1,Xq,Y0,Xz,Y4,Xo,Xp,Y7,Yd,Ya,Yg,Xy,Y3,Y6,Yc,Y9,Yf,Xx,Y2]); (try simp (discharger := decide) only [Zc,Qx,Qu,Qn,Qv,Qg,Qf,Qz,X9,X8,X4,Xi,X2,Xa,X1,Qd,Qt,Qc,Qe,Ql,Xg,Q6,Qp,Qq,Qk,Qb,Qa,Q1,Qh,Q7,Q4,Q0,Q9,Q8,Q3,Q5,Qo,Qy,Qr,X5,X6,Qs,args0,X3,Xb,Xf,Xh,Xc,Xe,Xj,Xk,Xl,Xm,Xv,Xu,Qm,X7,Xn,Xd,Qi,Qj,Qw,Q2,Xr,zoi,zel,zta,zat,zgz,zgs,zlc,zln,Nat.reduceAdd,zza,znt,zcn,MV.int.injEq,kr0,kr1,kl0,kl1,kz0,v5,Ent.mv,Yz,Ys,Yv,Yy,Yo,Yx,Yw,Yr,Yq,Yu,Yt,Yn,Ym,Z1,Y5,Yb,Y8,Ye,Xw,Y1,Xq,Y0,Xz,Y4,Xo,Xp,Y7,Yd,Ya,Yg,Xy,Y3,Y6,Yc,Y9,Yf,Xx,Y2]))
      simp only [if_true]
      refine seq ?_
      ((try dsimp only [J1,Qx,Qu,Qn,Qv,Qg,Qf,Qz,X9,X8,X4,Xi,X2,Xa,X1,Qd,Qt,Qc,Qe,Ql,Xg,Q6,Qp,Qq,Qk,Qb,Qa,Q1,Qh,Q7,Q4,Q0,Q9,Q8,Q3,Q5,Qo,Qy,Qr,X5,X6,Qs,args0,X3,Xb,Xj,Xk,Xl,Xm,Qm,X7,Qi,Qj,Qw,Q2,zgz,zgs,zlc,zln,Nat.reduceAdd,kr0,kr1,kl0,kl1,kz0,v5,x.v3,Ent.mv,Yz,Ys,Yv,Yy,Yo,Yx,Yw,Yr,Yq,Yu,Yt,Yn,Ym,Z1,Y5,Yb,Y8,Ye,Xw,Y1,Xq,Y0,Xz,Y4,Xo,Xp,Y7,Yd,Ya,Yg,Xy,Y3,Y6,Yc,Y9,Yf,Xx,Y2]); (try simp (discharger := decide) only [J1,Qx,Qu,Qn,Qv,Qg,Qf,Qz,X9,X8,X4,Xi,X2,Xa,X1,Qd,Qt,Qc,Qe,Ql,Xg,Q6,Qp,Qq,Qk,Qb,Qa,Q1,Qh,Q7,Q4,Q0,Q9,Q8,Q3,Q5,Qo,Qy,Qr,X5,X6,Qs,args0,X3,Xb,Xf,Xh,Xc,Xe,Xj,Xk,Xl,Xm,Xv,Xu,Qm,X7,Xn,Xd,Qi,Qj,Qw,Q2,Xr,zoi,zel,zta,zat,zgz,zgs,zlc,zln,Nat.reduceAdd,zza,znt,zcn,MV.int.injEq,kr0,kr1,kl0,kl1,kz0,v5,x.v3,Ent.mv,Yz,Ys,Yv,Yy,Yo,Yx,Yw,Yr,Yq,Yu,Yt,Yn,Ym,Z1,Y5,Yb,Y8,Ye,Xw,Y1,Xq,Y0,Xz,Y4,Xo,Xp,Y7,Yd,Ya,Yg,Xy,Y3,Y6,Yc,Y9,Yf,Xx,Y2]))
      refine Ac h1 ht' (fit (by first|exact dn hd rfl|exact dl hd rfl|lia)) ?_
      (try dsimp only [kr0])
      refine Zm (K3 (K3 (K3 ?_)))
      refine go V _ _ x ex1 Yh (fun y => ?_) hpl
      simp only [sayE, if_pos q]; exact hlk y
    | like nm lo hi nm' =>
      refine Ur (Z7 ?_)
      ((try dsimp only [Qx,Qu,Qn,Qv,Qg,Qf,Qz,X9,X8,X4,Xi,X2,Xa,X1,Qd,Qt,Qc,Qe,Ql,Xg,Q6,Qp,Qq,Qk,Qb,Qa,Q1,Qh,Q7,Q4,Q0,Q9,Q8,Q3,Q5,Qo,Qy,Qr,X5,X6,Qs,args0,X3,Xb,Xj,Xk,Xl,Xm,Qm,X7,Qi,Qj,Qw,Q2,zgz,zgs,zlc,zln,Nat.reduceAdd,kr0,kr1,kl0,kl1,kz0,v5,Ent.mv,Yz,Ys,Yv,Yy,Yo,Yx,Yw,Yr,Yq,Yu,Yt,Yn,Ym,Z1,Y5,Yb,Y8,Ye,Xw,Y1,Xq,Y0,Xz,Y4,Xo,Xp,Y7,Yd,Ya,Yg,Xy,Y3,Y6,Yc,Y9,Yf,Xx,Y2]); (try simp (discharger := decide) only [Qx,Qu,Qn,Qv,Qg,Qf,Qz,X9,X8,X4,Xi,X2,Xa,X1,Qd,Qt,Qc,Qe,Ql,Xg,Q6,Qp,Qq,Qk,Qb,Qa,Q1,Qh,Q7,Q4,Q0,Q9,Q8,Q3,Q5,Qo,Qy,Qr,X5,X6,Qs,args0,X3,Xb,Xf,Xh,Xc,Xe,Xj,Xk,Xl,Xm,Xv,Xu,Qm,X7,Xn,Xd,Qi,Qj,Qw,Q2,Xr,zoi,zel,zta,zat,zgz,zgs,zlc,zln,Nat.reduceAdd,zza,znt,zcn,MV.int.injEq,kr0,kr1,kl0,kl1,kz0,v5,Ent.mv,Yz,Ys,Yv,Yy,Yo,Yx,Yw,Yr,Yq,Yu,Yt,Yn,Ym,Z1,Y5,Yb,Y8,Ye,Xw,Y1,Xq,Y0,Xz,Y4,Xo,Xp,Y7,Yd,Ya,Yg,Xy,Y3,Y6,Yc,Y9,Yf,Xx,Y2]))
      simp only [if_true]
      refine Ab v5 x.v2 (fun _ => Yn) (fun _ => Ym) (fun q => ?_) fun q => Zm (K3 (go V μ tl x hx h1 (by simp only [sayE, if_neg q]; exact h2) (by first|exact dn hd rfl|exact dl hd rfl|exact Nat.le_of_lt (by assumption))))
      refine seq ?_
      ((try dsimp only [Zb,Qx,Qu,Qn,Qv,Qg,Qf,Qz,X9,X8,X4,Xi,X2,Xa,X1,Qd,Qt,Qc,Qe,Ql,Xg,Q6,Qp,Qq,Qk,Qb,Qa,Q1,Qh,Q7,Q4,Q0,Q9,Q8,Q3,Q5,Qo,Qy,Qr,X5,X6,Qs,args0,X3,Xb,Xj,Xk,Xl,Xm,Qm,X7,Qi,Qj,Qw,Q2,zgz,zgs,zlc,zln,Nat.reduceAdd,kr0,kr1,kl0,kl1,kz0,v5,Ent.mv,Yz,Ys,Yv,Yy,Yo,Yx,Yw,Yr,Yq,Yu,Yt,Yn,Ym,Z1,Y5,Yb,Y8,Ye,Xw,Y1,Xq,Y0,Xz,Y4,Xo,Xp,Y7,Yd,Ya,Yg,Xy,Y3,Y6,Yc,Y9,Yf,Xx,Y2]); (try simp (discharger := decide) only [Zb,Qx,Qu,Qn,Qv,Qg,Qf,Qz,X9,X8,X4,Xi,X2,Xa,X1,Qd,Qt,Qc,Qe,Ql,Xg,Q6,Qp,Qq,Qk,Qb,Qa,Q1,Qh,Q7,Q4,Q0,Q9,Q8,Q3,Q5,Qo,Qy,Qr,X5,X6,Qs,args0,X3,Xb,Xf,Xh,Xc,Xe,Xj,Xk,Xl,Xm,Xv,Xu,Qm,X7,Xn,Xd,Qi,Qj,Qw,Q2,Xr,zoi,zel,zta,zat,zgz,zgs,zlc,zln,Nat.reduceAdd,zza,znt,zcn,MV.int.injEq,kr0,kr1,kl0,kl1,kz0,v5,Ent.mv,Yz,Ys,Yv,Yy,Yo,Yx,Yw,Yr,Yq,Yu,Yt,Yn,Ym,Z1,Y5,Yb,Y8,Ye,Xw,Y1,Xq,Y0,Xz,Y4,Xo,Xp,Y7,Yd,Ya,Yg,Xy,Y3,Y6,Yc,Y9,Yf,Xx,Y2]))
      simp only [Bool.false_eq_true, if_false]
      refine seq ?_
      ((try dsimp only [Zc,Qx,Qu,Qn,Qv,Qg,Qf,Qz,X9,X8,X4,Xi,X2,Xa,X1,Qd,Qt,Qc,Qe,Ql,Xg,Q6,Qp,Qq,Qk,Qb,Qa,Q1,Qh,Q7,Q4,Q0,Q9,Q8,Q3,Q5,Qo,Qy,Qr,X5,X6,Qs,args0,X3,Xb,Xj,Xk,Xl,Xm,Qm,X7,Qi,Qj,Qw,Q2,zgz,zgs,zlc,zln,Nat.reduceAdd,kr0,kr1,kl0,kl1,kz0,v5,Ent.mv,Yz,Ys,Yv,Yy,Yo,Yx,Yw,Yr,Yq,Yu,Yt,Yn,Ym,Z1,Y5,Yb,Y8,Ye,Xw,Y1,Xq,Y0,Xz,Y4,Xo,Xp,Y7,Yd,Ya,Yg,Xy,Y3,Y6,Yc,Y9,Yf,Xx,Y2]); (try simp (discharger := decide) only [Zc,Qx,Qu,Qn,Qv,Qg,Qf,Qz,X9,X8,X4,Xi,X2,Xa,X1,Qd,Qt,Qc,Qe,Ql,Xg,Q6,Qp,Qq,Qk,Qb,Qa,Q1,Qh,Q7,Q4,Q0,Q9,Q8,Q3,Q5,Qo,Qy,Qr,X5,X6,Qs,args0,X3,Xb,Xf,Xh,Xc,Xe,Xj,Xk,Xl,Xm,Xv,Xu,Qm,X7,Xn,Xd,Qi,Qj,Qw,Q2,Xr,zoi,zel,zta,zat,zgz,zgs,zlc,zln,Nat.reduceAdd,zza,znt,zcn,MV.int.injEq,kr0,kr1,kl0,kl1,kz0,v5,Ent.mv,Yz,Ys,Yv,Yy,Yo,Yx,Yw,Yr,Yq,Yu,Yt,Yn,Ym,Z1,Y5,Yb,Y8,Ye,Xw,Y1,Xq,Y0,Xz,Y4,Xo,Xp,Y7,Yd,Ya,Yg,Xy,Y3,Y6,Yc,Y9,Yf,Xx,Y2]))
      simp only [Bool.false_eq_true, if_false]
      refine seq ?_
      ((try dsimp only [Zu,Qx,Qu,Qn,Qv,Qg,Qf,Qz,X9,X8,X4,Xi,X2,Xa,X1,Qd,Qt,Qc,Qe,Ql,Xg,Q6,Qp,Qq,Qk,Qb,Qa,Q1,Qh,Q7,Q4,Q0,Q9,Q8,Q3,Q5,Qo,Qy,Qr,X5,X6,Qs,args0,X3,Xb,Xj,Xk,Xl,Xm,Qm,X7,Qi,Qj,Qw,Q2,zgz,zgs,zlc,zln,Nat.reduceAdd,kr0,kr1,kl0,kl1,kz0,v5,x.v3,Ent.mv,Yz,Ys,Yv,Yy,Yo,Yx,Yw,Yr,Yq,Yu,Yt,Yn,Ym,Z1,Y5,Yb,Y8,Ye,Xw,Y1,Xq,Y0,Xz,Y4,Xo,Xp,Y7,Yd,Ya,Yg,Xy,Y3,Y6,Yc,Y9,Yf,Xx,Y2]); (try simp (discharger := decide) only [Zu,Qx,Qu,Qn,Qv,Qg,Qf,Qz,X9,X8,X4,Xi,X2,Xa,X1,Qd,Qt,Qc,Qe,Ql,Xg,Q6,Qp,Qq,Qk,Qb,Qa,Q1,Qh,Q7,Q4,Q0,Q9,Q8,Q3,Q5,Qo,Qy,Qr,X5,X6,Qs,args0,X3,Xb,Xf,Xh,Xc,Xe,Xj,Xk,Xl,Xm,Xv,Xu,Qm,X7,Xn,Xd,Qi,Qj,Qw,Q2,Xr,zoi,zel,zta,zat,zgz,zgs,zlc,zln,Nat.reduceAdd,zza,znt,zcn,MV.int.injEq,kr0,kr1,kl0,kl1,kz0,v5,x.v3,Ent.mv,Yz,Ys,Yv,Yy,Yo,Yx,Yw,Yr,Yq,Yu,Yt,Yn,Ym,Z1,Y5,Yb,Y8,Ye,Xw,Y1,Xq,Y0,Xz,Y4,Xo,Xp,Y7,Yd,Ya,Yg,Xy,Y3,Y6,Yc,Y9,Yf,Xx,Y2]))
      refine ⟨Bs h1, get_s h1 ?_⟩
      refine Ac h1 ht' (fit (by first|exact dn hd rfl|exact dl hd rfl|lia)) ?_
      (try dsimp only [kr0])
      refine Zm (K3 (K3 (K3 ?_)))
      refine go V _ _ x ex1 Yh (fun y => ?_) hpl
      simp only [sayE, if_pos q]; rw [hlk y, h2]
    | tell nm lo hi v =>
      refine Ur (Z7 ?_)
      ((try dsimp only [Qx,Qu,Qn,Qv,Qg,Qf,Qz,X9,X8,X4,Xi,X2,Xa,X1,Qd,Qt,Qc,Qe,Ql,Xg,Q6,Qp,Qq,Qk,Qb,Qa,Q1,Qh,Q7,Q4,Q0,Q9,Q8,Q3,Q5,Qo,Qy,Qr,X5,X6,Qs,args0,X3,Xb,Xj,Xk,Xl,Xm,Qm,X7,Qi,Qj,Qw,Q2,zgz,zgs,zlc,zln,Nat.reduceAdd,kr0,kr1,kl0,kl1,kz0,v5,Ent.mv,Yz,Ys,Yv,Yy,Yo,Yx,Yw,Yr,Yq,Yu,Yt,Yn,Ym,Z1,Y5,Yb,Y8,Ye,Xw,Y1,Xq,Y0,Xz,Y4,Xo,Xp,Y7,Yd,Ya,Yg,Xy,Y3,Y6,Yc,Y9,Yf,Xx,Y2]); (try simp (discharger := decide) only [Qx,Qu,Qn,Qv,Qg,Qf,Qz,X9,X8,X4,Xi,X2,Xa,X1,Qd,Qt,Qc,Qe,Ql,Xg,Q6,Qp,Qq,Qk,Qb,Qa,Q1,Qh,Q7,Q4,Q0,Q9,Q8,Q3,Q5,Qo,Qy,Qr,X5,X6,Qs,args0,X3,Xb,Xf,Xh,Xc,Xe,Xj,Xk,Xl,Xm,Xv,Xu,Qm,X7,Xn,Xd,Qi,Qj,Qw,Q2,Xr,zoi,zel,zta,zat,zgz,zgs,zlc,zln,Nat.reduceAdd,zza,znt,zcn,MV.int.injEq,kr0,kr1,kl0,kl1,kz0,v5,Ent.mv,Yz,Ys,Yv,Yy,Yo,Yx,Yw,Yr,Yq,Yu,Yt,Yn,Ym,Z1,Y5,Yb,Y8,Ye,Xw,Y1,Xq,Y0,Xz,Y4,Xo,Xp,Y7,Yd,Ya,Yg,Xy,Y3,Y6,Yc,Y9,Yf,Xx,Y2]))
      simp only [if_true]
      refine Ab v5 x.v2 (fun _ => Yn) (fun _ => Ym) (fun q => ?_) fun q => Zm (K3 (go V μ tl x hx h1 (by simp only [sayE, if_neg q]; exact h2) (by first|exact dn hd rfl|exact dl hd rfl|exact Nat.le_of_lt (by assumption))))
      refine seq ?_
      ((try dsimp only [Zb,Qx,Qu,Qn,Qv,Qg,Qf,Qz,X9,X8,X4,Xi,X2,Xa,X1,Qd,Qt,Qc,Qe,Ql,Xg,Q6,Qp,Qq,Qk,Qb,Qa,Q1,Qh,Q7,Q4,Q0,Q9,Q8,Q3,Q5,Qo,Qy,Qr,X5,X6,Qs,args0,X3,Xb,Xj,Xk,Xl,Xm,Qm,X7,Qi,Qj,Qw,Q2,zgz,zgs,zlc,zln,Nat.reduceAdd,kr0,kr1,kl0,kl1,kz0,v5,Ent.mv,Yz,Ys,Yv,Yy,Yo,Yx,Yw,Yr,Yq,Yu,Yt,Yn,Ym,Z1,Y5,Yb,Y8,Ye,Xw,Y1,Xq,Y0,Xz,Y4,Xo,Xp,Y7,Yd,Ya,Yg,Xy,Y3,Y6,Yc,Y9,Yf,Xx,Y2]); (try simp (discharger := decide) only [Zb,Qx,Qu,Qn,Qv,Qg,Qf,Qz,X9,X8,X4,Xi,X2,Xa,X1,Qd,Qt,Qc,Qe,Ql,Xg,Q6,Qp,Qq,Qk,Qb,Qa,Q1,Qh,Q7,Q4,Q0,Q9,Q8,Q3,Q5,Qo,Qy,Qr,X5,X6,Qs,args0,X3,Xb,Xf,Xh,Xc,Xe,Xj,Xk,Xl,Xm,Xv,Xu,Qm,X7,Xn,Xd,Qi,Qj,Qw,Q2,Xr,zoi,zel,zta,zat,zgz,zgs,zlc,zln,Nat.reduceAdd,zza,znt,zcn,MV.int.injEq,kr0,kr1,kl0,kl1,kz0,v5,Ent.mv,Yz,Ys,Yv,Yy,Yo,Yx,Yw,Yr,Yq,Yu,Yt,Yn,Ym,Z1,Y5,Yb,Y8,Ye,Xw,Y1,Xq,Y0,Xz,Y4,Xo,Xp,Y7,Yd,Ya,Yg,Xy,Y3,Y6,Yc,Y9,Yf,Xx,Y2]))
      simp only [if_true]
      refine seq ?_
      ((try dsimp only [Ju,Qx,Qu,Qn,Qv,Qg,Qf,Qz,X9,X8,X4,Xi,X2,Xa,X1,Qd,Qt,Qc,Qe,Ql,Xg,Q6,Qp,Qq,Qk,Qb,Qa,Q1,Qh,Q7,Q4,Q0,Q9,Q8,Q3,Q5,Qo,Qy,Qr,X5,X6,Qs,args0,X3,Xb,Xj,Xk,Xl,Xm,Qm,X7,Qi,Qj,Qw,Q2,zgz,zgs,zlc,zln,Nat.reduceAdd,kr0,kr1,kl0,kl1,kz0,v5,x.v3,Ent.mv,Yz,Ys,Yv,Yy,Yo,Yx,Yw,Yr,Yq,Yu,Yt,Yn,Ym,Z1,Y5,Yb,Y8,Ye,Xw,Y1,Xq,Y0,Xz,Y4,Xo,Xp,Y7,Yd,Ya,Yg,Xy,Y3,Y6,Yc,Y9,Yf,Xx,Y2]); (try simp (discharger := decide) only [Ju,Qx,Qu,Qn,Qv,Qg,Qf,Qz,X9,X8,X4,Xi,X2,Xa,X1,Qd,Qt,Qc,Qe,Ql,Xg,Q6,Qp,Qq,Qk,Qb,Qa,Q1,Qh,Q7,Q4,Q0,Q9,Q8,Q3,Q5,Qo,Qy,Qr,X5,X6,Qs,args0,X3,Xb,Xf,Xh,Xc,Xe,Xj,Xk,Xl,Xm,Xv,Xu,Qm,X7,Xn,Xd,Qi,Qj,Qw,Q2,Xr,zoi,zel,zta,zat,zgz,zgs,zlc,zln,Nat.reduceAdd,zza,znt,zcn,MV.int.injEq,kr0,kr1,kl0,kl1,kz0,v5,x.v3,Ent.mv,Yz,Ys,Yv,Yy,Yo,Yx,Yw,Yr,Yq,Yu,Yt,Yn,Ym,Z1,Y5,Yb,Y8,Ye,Xw,Y1,Xq,Y0,Xz,Y4,Xo,Xp,Y7,Yd,Ya,Yg,Xy,Y3,Y6,Yc,Y9,Yf,Xx,Y2]))
      refine Ac h1 ht' (fit (by first|exact dn hd rfl|exact dl hd rfl|lia)) ?_
      (try dsimp only [kr0])
      refine Zm (K3 (K3 ?_))
      refine go V _ _ x ex1 Yh (fun y => ?_) hpl
      simp only [sayE, if_pos q]; exact hlk y
theorem P3 {d : Nat} {B : Book} {b : Addr} {n day : Int} {fz : List Addr} {Q : MQ} {μ : MH} (hΓ₁ : Γ "_law_counting" = some Zq) (hΓ : Γ "_law_said" = some Uz) (hd : 2 ≤ d) (hB : BOk B) (hb : μ b = some (.idict (Book.mv B)))
    (h : ∀ (c : Addr) (μ' : MH) (tl : List (Str × MV)), Ext μ μ' → μ c = none → c ∉ fz → μ' c = some (.sdict tl) → (∀ x, (lookI tl x).getD .none = saidOf B n day x) → Q (.ref c) μ') : calls G Γ d "_law_said" [.ref b, .int n, .int day] fz Q X0 μ := by
  refine Z2 hΓ rfl (by first|exact dn hd rfl|exact dl hd rfl|omega) (seq ?_)
  ((try dsimp only [Nc,Qx,Qu,Qn,Qv,Qg,Qf,Qz,X9,X8,X4,Xi,X2,Xa,X1,Qd,Qt,Qc,Qe,Ql,Xg,Q6,Qp,Qq,Qk,Qb,Qa,Q1,Qh,Q7,Q4,Q0,Q9,Q8,Q3,Q5,Qo,Qy,Qr,X5,X6,Qs,args0,X3,Xb,Xj,Xk,Xl,Xm,Qm,X7,Qi,Qj,Qw,Q2,zgz,zgs,zlc,zln,Nat.reduceAdd,kr0,kr1,kl0,kl1,kz0]); (try simp (discharger := decide) only [Nc,Qx,Qu,Qn,Qv,Qg,Qf,Qz,X9,X8,X4,Xi,X2,Xa,X1,Qd,Qt,Qc,Qe,Ql,Xg,Q6,Qp,Qq,Qk,Qb,Qa,Q1,Qh,Q7,Q4,Q0,Q9,Q8,Q3,Q5,Qo,Qy,Qr,X5,X6,Qs,args0,X3,Xb,Xf,Xh,Xc,Xe,Xj,Xk,Xl,Xm,Xv,Xu,Qm,X7,Xn,Xd,Qi,Qj,Qw,Q2,Xr,zoi,zel,zta,zat,zgz,zgs,zlc,zln,Nat.reduceAdd,zza,znt,zcn,MV.int.injEq,kr0,kr1,kl0,kl1,kz0]))
  intro t ht htz
  simp only [if_true]
  refine seq ?_
  ((try dsimp only [Nb,Qx,Qu,Qn,Qv,Qg,Qf,Qz,X9,X8,X4,Xi,X2,Xa,X1,Qd,Qt,Qc,Qe,Ql,Xg,Q6,Qp,Qq,Qk,Qb,Qa,Q1,Qh,Q7,Q4,Q0,Q9,Q8,Q3,Q5,Qo,Qy,Qr,X5,X6,Qs,args0,X3,Xb,Xj,Xk,Xl,Xm,Qm,X7,Qi,Qj,Qw,Q2,zgz,zgs,zlc,zln,Nat.reduceAdd,kr0,kr1,kl0,kl1,kz0]); (try simp (discharger := decide) only [Nb,Qx,Qu,Qn,Qv,Qg,Qf,Qz,X9,X8,X4,Xi,X2,Xa,X1,Qd,Qt,Qc,Qe,Ql,Xg,Q6,Qp,Qq,Qk,Qb,Qa,Q1,Qh,Q7,Q4,Q0,Q9,Q8,Q3,Q5,Qo,Qy,Qr,X5,X6,Qs,args0,X3,Xb,Xf,Xh,Xc,Xe,Xj,Xk,Xl,Xm,Xv,Xu,Qm,X7,Xn,Xd,Qi,Qj,Qw,Q2,Xr,zoi,zel,zta,zat,zgz,zgs,zlc,zln,Nat.reduceAdd,zza,znt,zcn,MV.int.injEq,kr0,kr1,kl0,kl1,kz0]))
  refine Pv hΓ₁ (by first|exact dn hd rfl|exact dl hd rfl|omega) hB.nodup' (by rw [Book.mv_len]; have := hB.len; exact Nat.lt_of_le_of_lt (by assumption) (by decide)) hB.ent (Ext.upd ht _ _ hb) fun c μ₁ x₁ hc hcz hm => ?_
  have hlen := A5 (Book.mv B) n
  rw [Book.mv_len] at hlen
  have := hB.len
  refine ⟨.val (.ref c), (cntOf (Book.mv B) n).map .int, rfl, by simp [Src.items, items, itemsO, keysO, valsO, hm], fit (by simp; lia), ?_⟩
  have htc : t ≠ c := Yi (o := .sdict []) Yh hc
  refine D6 (μ₁ := μ) hB hb ht (by simp [Src.held, htc, htz]) _ _ _ [] T0 (fun k hk => Uf hk) ⟨rfl, rfl, rfl, rfl⟩ ((Ext.upd ht).trans x₁) (x₁ _ _ Yh) (fun x => rfl) (by simp; lia) fun V' μ' tl' x' hx' ht' hl' => ?_
  refine seq ?_
  ((try dsimp only [Na,Qx,Qu,Qn,Qv,Qg,Qf,Qz,X9,X8,X4,Xi,X2,Xa,X1,Qd,Qt,Qc,Qe,Ql,Xg,Q6,Qp,Qq,Qk,Qb,Qa,Q1,Qh,Q7,Q4,Q0,Q9,Q8,Q3,Q5,Qo,Qy,Qr,X5,X6,Qs,args0,X3,Xb,Xj,Xk,Xl,Xm,Qm,X7,Qi,Qj,Qw,Q2,zgz,zgs,zlc,zln,Nat.reduceAdd,kr0,kr1,kl0,kl1,kz0,x'.v3]); (try simp (discharger := decide) only [Na,Qx,Qu,Qn,Qv,Qg,Qf,Qz,X9,X8,X4,Xi,X2,Xa,X1,Qd,Qt,Qc,Qe,Ql,Xg,Q6,Qp,Qq,Qk,Qb,Qa,Q1,Qh,Q7,Q4,Q0,Q9,Q8,Q3,Q5,Qo,Qy,Qr,X5,X6,Qs,args0,X3,Xb,Xf,Xh,Xc,Xe,Xj,Xk,Xl,Xm,Xv,Xu,Qm,X7,Xn,Xd,Qi,Qj,Qw,Q2,Xr,zoi,zel,zta,zat,zgz,zgs,zlc,zln,Nat.reduceAdd,zza,znt,zcn,MV.int.injEq,kr0,kr1,kl0,kl1,kz0,x'.v3]))
  exact h t μ' tl' hx' ht htz ht' hl'
end Mine
end
section
namespace Mine
open PySem
variable {G : String → Option MV} {Γ : String → Option MFun}
theorem Cj {d : Nat} {B : Book} {b : Addr} {x : Str} {n day : Int} {fz : List Addr} {Q : MQ} {μ : MH} (hΓ₁ : Γ "is_about" = some Ja) (hΓ₂ : Γ "worth_by" = some Jt) (hΓ₃ : Γ "counting" = some Jz) (hΓ : Γ "worth_of" = some Pf) (hd : 3 ≤ d) (hB : BOk B) (hb : μ b = some (.idict (Book.mv B))) (hx : PyData.strOk x = true)
    (h : ∀ μ', Ext μ μ' → Q (saidOf B n day x) μ') : calls G Γ d "worth_of" [.ref b, .int n, .str x, .int day] fz Q X0 μ := by
  refine Z2 hΓ rfl (by first|exact dn hd rfl|exact dl hd rfl|omega) (seq ?_)
  ((try dsimp only [N9,Qx,Qu,Qn,Qv,Qg,Qf,Qz,X9,X8,X4,Xi,X2,Xa,X1,Qd,Qt,Qc,Qe,Ql,Xg,Q6,Qp,Qq,Qk,Qb,Qa,Q1,Qh,Q7,Q4,Q0,Q9,Q8,Q3,Q5,Qo,Qy,Qr,X5,X6,Qs,args0,X3,Xb,Xj,Xk,Xl,Xm,Qm,X7,Qi,Qj,Qw,Q2,zgz,zgs,zlc,zln,Nat.reduceAdd,kr0,kr1,kl0,kl1,kz0]); (try simp (discharger := decide) only [N9,Qx,Qu,Qn,Qv,Qg,Qf,Qz,X9,X8,X4,Xi,X2,Xa,X1,Qd,Qt,Qc,Qe,Ql,Xg,Q6,Qp,Qq,Qk,Qb,Qa,Q1,Qh,Q7,Q4,Q0,Q9,Q8,Q3,Q5,Qo,Qy,Qr,X5,X6,Qs,args0,X3,Xb,Xf,Xh,Xc,Xe,Xj,Xk,Xl,Xm,Xv,Xu,Qm,X7,Xn,Xd,Qi,Qj,Qw,Q2,Xr,zoi,zel,zta,zat,zgz,zgs,zlc,zln,Nat.reduceAdd,zza,znt,zcn,MV.int.injEq,kr0,kr1,kl0,kl1,kz0]))
  have hl := hB.len
  have hcl := A5 (Book.mv B) n
  rw [Book.mv_len] at hcl
  refine Vq hΓ₃ (by first|exact dn hd rfl|exact dl hd rfl|omega) hB.nodup' (by rw [Book.mv_len]; exact Nat.lt_of_le_of_lt (by assumption) (by decide)) hB.ent hb fun c μ₁ x₁ hc hcz hm => ?_
  ((try dsimp only [Qx,Qu,Qn,Qv,Qg,Qf,Qz,X9,X8,X4,Xi,X2,Xa,X1,Qd,Qt,Qc,Qe,Ql,Xg,Q6,Qp,Qq,Qk,Qb,Qa,Q1,Qh,Q7,Q4,Q0,Q9,Q8,Q3,Q5,Qo,Qy,Qr,X5,X6,Qs,args0,X3,Xb,Xj,Xk,Xl,Xm,Qm,X7,Qi,Qj,Qw,Q2,zgz,zgs,zlc,zln,Nat.reduceAdd,kr0,kr1,kl0,kl1,kz0]); (try simp (discharger := decide) only [Qx,Qu,Qn,Qv,Qg,Qf,Qz,X9,X8,X4,Xi,X2,Xa,X1,Qd,Qt,Qc,Qe,Ql,Xg,Q6,Qp,Qq,Qk,Qb,Qa,Q1,Qh,Q7,Q4,Q0,Q9,Q8,Q3,Q5,Qo,Qy,Qr,X5,X6,Qs,args0,X3,Xb,Xf,Xh,Xc,Xe,Xj,Xk,Xl,Xm,Xv,Xu,Qm,X7,Xn,Xd,Qi,Qj,Qw,Q2,Xr,zoi,zel,zta,zat,zgz,zgs,zlc,zln,Nat.reduceAdd,zza,znt,zcn,MV.int.injEq,kr0,kr1,kl0,kl1,kz0]))
  refine P0 hΓ₁ hΓ₂ (by first|exact dn hd rfl|exact dl hd rfl|omega) hB (x₁ _ _ hb) hm (fun k hk => Uf hk) (by first|exact dn hd rfl|exact dl hd rfl|lia) hx ?_
  rw [wF_cnt]
  exact h _ x₁
theorem Wth.deep {μ : MH} {v : MV} (h : Wth v) : ∃ d, deep μ 9 v = some d := by
  rcases h with rfl | ⟨i, rfl⟩
  · exact ⟨.none, by simp [Mine.deep]⟩
  · exact ⟨.int i, by simp [Mine.deep]⟩
theorem eqM_wth {μ : MH} {v : MV} (h : Wth v) : eqM μ v v = some true := by
  have := eqD_self h.deep (μ := μ)
  rcases h with rfl | ⟨i, rfl⟩ <;> exact this
end Mine
end
section
namespace Mine
open PySem
variable {G : String → Option MV} {Γ : String → Option MFun}
noncomputable def weq : MV → MV → Bool
  | .none, .none => true
  | .int i, .int j => i == j
  | _, _ => false
theorem eqM_wth2 {μ : MH} {v u : MV} (hv : Wth v) (hu : Wth u) : eqM μ v u = some (weq v u) := by
  rcases hv with rfl | ⟨i, rfl⟩ <;> rcases hu with rfl | ⟨j, rfl⟩ <;> simp [eqM, eqD, deep, PyData.eqv, weq]
theorem Pw {μ : MH} {c : Addr} {pre : List MV} {v : MV} (h : μ c = some (.list (pre ++ [v]))) (hl : pre.length ≤ 10000) : idxM μ (.ref c) (.int (-1)) = some v := by
  rw [Ux h (by simp; exact Nat.le_trans (by assumption) (by decide))]
  unfold atI
  rw [if_neg (by decide), if_pos (by simp; lia), show ((-1 : Int) + ((pre ++ [v]).length : Nat)).toNat = pre.length by simp; lia]
  simp
theorem N1 {fz : List Addr} {t : MT} {vars : MVars} {T : MVars → (Bool → MH → Prop) → MH → Prop} {Bd : MVars → MQ → MH → Prop} {Q : MQ} {μ : MH} (p : MV → Bool) (g : MV → MV) : ∀ (all acc : List MV),
    (∀ v ∈ all, ∃ vars', bindT t v vars = some vars' ∧ (∀ F : Bool → MH → Prop, F (p v) μ → T vars' F μ) ∧ ∀ F : MQ, F (g v) μ → Bd vars' F μ) →
    (∀ c, μ c = none → c ∉ fz → Q (.ref c) (upd μ c (.list (acc ++ (all.filter p).map g)))) → compM fz t vars T Bd Q all acc μ
  | [] => fun acc _ h => by
    simp only [compM]
    intro c hc hcz
    have := h c hc hcz
    simpa using this
  | v :: all => fun acc hv h => by
    obtain ⟨vars', hb, hT, hB⟩ := hv v (.head _)
    refine ⟨vars', hb, hT _ ?_⟩
    cases q : p v with
    | false =>
      simp only [Bool.false_eq_true, if_false]
      exact N1 p g all acc (fun u hu => hv u (.tail _ hu)) (by simpa [List.filter_cons, q] using h)
    | true =>
      simp only [if_true]
      exact hB _ (N1 p g all (acc ++ [g v]) (fun u hu => hv u (.tail _ hu)) (by simpa [List.filter_cons, q] using h))
theorem K1 {α β : Type} {f g : β → α → β} : ∀ (l : List α) (b : β), (∀ a ∈ l, ∀ b, f b a = g b a) → l.foldl f b = l.foldl g b
  | [] => fun _ _ => rfl
  | a :: l => fun b h => by rw [List.foldl_cons, List.foldl_cons, h a (.head _), K1 l _ fun a ha => h a (.tail _ ha)]
end Mine
end
section
namespace Mine
open PySem
structure Seg (W : Type) where
  s : Int
  e : Int
  w : W
section
variable {W : Type} [DecidableEq W]
noncomputable def stR (R : List (Seg W)) (x : Seg W) : List (Seg W) := match R with
  | [] => [x]
  | y :: r => if y.w = x.w then ⟨y.s, x.e, x.w⟩ :: r else x :: y :: r
inductive Part (f : Int → W) (lo : Int) : Int → List (Seg W) → Prop
  | nil : Part f lo lo []
  | cons {s e : Int} {w : W} {r : List (Seg W)} : s ≤ e → (∀ d, s ≤ d → d ≤ e → f d = w) → (∀ y r', r = y :: r' → y.w ≠ w) → Part f lo s r → Part f lo (e + 1) (⟨s, e, w⟩ :: r)
theorem De {f : Int → W} {lo hi : Int} {R : List (Seg W)} (h : Part f lo hi R) {e : Int} {w : W} (he : hi ≤ e) (hc : ∀ d, hi ≤ d → d ≤ e → f d = w) : Part f lo (e + 1) (stR R ⟨hi, e, w⟩) := by
  cases h with
  | nil => exact .cons he hc (by intro y r e; cases e) .nil
  | @cons s e' w' r h2 h3 h4 h5 =>
    show Part f lo (e + 1) (if w' = w then ⟨s, e, w⟩ :: r else ⟨e' + 1, e, w⟩ :: ⟨s, e', w'⟩ :: r)
    by_cases q : w' = w
    · rw [if_pos q]
      refine .cons (Int.le_trans h2 (Int.le_of_lt he)) (fun d d1 d2 => ?_) (q ▸ h4) h5
      rcases Int.lt_or_le e' d with c | c
      · exact hc d c d2
      · exact (h3 d d1 c).trans q
    · rw [if_neg q]
      exact .cons he hc (fun z r e => by cases e; exact q) (.cons h2 h3 h4 h5)
noncomputable def stretch (hi : Int) : List (Int × W) → List (Seg W) → List (Seg W)
  | [], R => R
  | [(b, w)], R => stR R ⟨b, hi, w⟩
  | (b, w) :: (b', w') :: r, R => stretch hi ((b', w') :: r) (stR R ⟨b, b' - 1, w⟩)
theorem F8 {f : Int → W} {lo hi : Int} {bs : List Int} : ∀ {b : Int} {R : List (Seg W)}, Part f lo b R → (b :: bs).Pairwise (· < ·) → (∀ c ∈ b :: bs, c ≤ hi) → (∀ c ∈ b :: bs, ∀ d, c ≤ d → d ≤ hi → (∀ c' ∈ b :: bs, c' ≤ c ∨ d < c') → f d = f c) →
    Part f lo (hi + 1) (stretch hi ((b :: bs).map fun c => (c, f c)) R) := by
  induction bs with
  | nil => exact fun {b R} h hp hh hc => De h (hh b (.head _)) fun d h1 h2 => hc b (.head _) d h1 h2 fun c' hc' => .inl (by rw [List.mem_singleton.mp hc']; exact Int.le_refl _)
  | cons b' bs ih =>
    intro b R h hp hh hc
    have h2 := (List.pairwise_cons.mp hp).2
    have hbb := (List.pairwise_cons.mp hp).1 b' (.head _)
    have hle : ∀ c ∈ b' :: bs, b' ≤ c := fun c hcm => by
      rcases List.mem_cons.mp hcm with rfl | hcm
      · exact Int.le_refl _
      · exact Int.le_of_lt ((List.pairwise_cons.mp h2).1 c hcm)
    refine ih ?_ h2 (fun c hcm => hh c (.tail _ hcm)) fun c hcm d d1 d2 hno => hc c (.tail _ hcm) d d1 d2 fun c' hc' => ?_
    · refine cast (congrArg (fun a => Part f lo a (stR R ⟨b, b' - 1, f b⟩)) (Int.sub_add_cancel b' 1)) (De h (Int.le_sub_one_of_lt hbb) fun d d1 d2 => ?_)
      have d3 := Int.lt_of_le_sub_one d2
      refine hc b (.head _) d d1 (Int.le_trans (Int.le_of_lt d3) (hh b' (.tail _ (.head _)))) fun c' hc' => ?_
      rcases List.mem_cons.mp hc' with rfl | hc'
      · exact .inl (Int.le_refl _)
      · exact .inr (Int.lt_of_lt_of_le d3 (hle c' hc'))
    · rcases List.mem_cons.mp hc' with rfl | hc'
      · exact .inl (Int.le_of_lt (Int.lt_of_lt_of_le hbb (hle c hcm)))
      · exact hno c' hc'
noncomputable def dayR (keep : W → Bool) (f : Int → W) (R : List (Seg W)) (d : Int) : List (Seg W) :=
  if keep (f d) then (match R with
    | [] => [⟨d, d, f d⟩]
    | y :: r => if y.e = d - 1 ∧ y.w = f d then ⟨y.s, d, f d⟩ :: r else ⟨d, d, f d⟩ :: y :: r) else R
noncomputable def days (lo : Int) (n : Nat) : List Int := (List.range n).map fun (k : Nat) => lo + k
theorem Am (lo : Int) (n : Nat) : days lo (n + 1) = days lo n ++ [lo + n] := by unfold days; rw [List.range_succ, List.map_append]; rfl
theorem days_add (lo : Int) (n m : Nat) : days lo (n + m) = days lo n ++ days (lo + n) m := by
  unfold days
  rw [List.range_add, List.map_append, List.map_map]
  exact congrArg _ (List.map_congr_left fun k _ => (Int.add_assoc lo n k).symm)
variable {keep : W → Bool}
theorem cut1 {a b : Int} (h : a + 1 = b + 1) : a = b := by
  rw [← Int.add_sub_cancel a 1, h, Int.add_sub_cancel]
theorem subl (a b : Int) : a + b - a = b := Int.sub_eq_iff_eq_add'.mpr rfl
theorem Py {k : Int} (h0 : 0 ≤ k) (h1 : k ≤ 1000001) : in62 k = true := Bool.and_eq_true_iff.mpr ⟨decide_eq_true (Int.le_trans (by decide) h0), decide_eq_true (Int.lt_of_le_of_lt h1 (by decide))⟩
theorem range_days {lo hi : Int} {k : Nat} (h : hi = lo + k) : rangeL lo hi 1 = days lo k := by
  unfold rangeL days
  rw [h, Int.ediv_one, Int.add_sub_cancel, subl, Int.toNat_natCast]
  exact List.map_congr_left fun j _ => by rw [Int.one_mul]
theorem days_len (lo : Int) (k : Nat) : (days lo k).length = k := by unfold days; rw [List.length_map, List.length_range]
structure HiOk (low high : Int) : Prop where
  ge : low ≤ high
  le : high ≤ 1000000
  gap : high - low ≤ 17
theorem nxt (lo : Int) (n : Nat) : lo + n < lo + (n + 1 : Nat) := Int.le_of_eq (Int.add_assoc lo n 1)
theorem lon (lo : Int) (n : Nat) : lo ≤ lo + n := Int.le_add_of_nonneg_right (Int.natCast_nonneg n)
theorem days_none {f : Int → W} {R : List (Seg W)} {lo : Int} {n : Nat} (h : ∀ d, lo ≤ d → d < lo + n → keep (f d) = false) : (days lo n).foldl (dayR keep f) R = R := by
  induction n with
  | zero => rfl
  | succ n ih =>
    rw [Am, List.foldl_append, ih fun d h1 h2 => h d h1 (Int.lt_trans h2 (nxt lo n))]
    exact if_neg (by rw [h (lo + n) (lon lo n) (nxt lo n)]; exact Bool.false_ne_true)
theorem days_some {f : Int → W} {R : List (Seg W)} {lo : Int} {w : W} {n : Nat} (hk : keep w = true) (hR : ∀ y r, R = y :: r → ¬ (y.e = lo - 1 ∧ y.w = w)) (h : ∀ d, lo ≤ d → d < lo + (n + 1 : Nat) → f d = w) : (days lo (n + 1)).foldl (dayR keep f) R = ⟨lo, lo + n, w⟩ :: R := by
  induction n with
  | zero =>
    rw [Am, List.foldl_append]
    show dayR keep f R (lo + ((0 : Nat) : Int)) = _
    rw [show lo + ((0 : Nat) : Int) = lo from Int.add_zero lo]
    unfold dayR
    rw [h lo (Int.le_refl lo) (Int.lt_add_one_of_le (Int.le_refl lo)), if_pos hk]
    cases R with
    | nil => rfl
    | cons y r => exact if_neg (hR y r rfl)
  | succ n ih =>
    rw [Am, List.foldl_append, ih fun d h1 h2 => h d h1 (Int.lt_trans h2 (nxt lo (n + 1)))]
    show dayR keep f (⟨lo, lo + n, w⟩ :: R) (lo + ((n + 1 : Nat) : Int)) = _
    unfold dayR
    rw [h _ (lon lo (n + 1)) (nxt lo (n + 1)), if_pos hk]
    exact if_pos (c := lo + (n : Int) = lo + ((n + 1 : Nat) : Int) - 1 ∧ w = w) ⟨(Int.add_sub_assoc lo (n + 1) 1 ▸ congrArg (lo + ·) (Int.add_sub_cancel (n : Int) 1).symm), rfl⟩
theorem part_ge {f : Int → W} {lo hi : Int} {R : List (Seg W)} (h : Part f lo hi R) : lo ≤ hi := by
  induction h with
  | nil => exact Int.le_refl _
  | cons h2 _ _ _ ih => exact Int.le_trans ih (Int.le_add_one h2)
theorem part_head {f : Int → W} {lo hi : Int} {R : List (Seg W)} {y : Seg W} {r : List (Seg W)} (h : Part f lo hi R) (q : R.filter (fun x => keep x.w) = y :: r) : y.e < hi ∧ (y.e + 1 = hi → ∃ r', R = y :: r') := by
  induction h with
  | nil => cases q
  | @cons s e w R h2 _ _ h5 ih =>
    rw [List.filter_cons] at q
    split at q
    · cases q
      exact ⟨Int.le_refl _, fun _ => ⟨_, rfl⟩⟩
    · have := Int.lt_of_lt_of_le (ih q).1 h2
      exact ⟨Int.le_add_one this, fun c => absurd (cut1 c ▸ this) (Int.lt_irrefl _)⟩
theorem Ae {f : Int → W} {lo hi : Int} {R : List (Seg W)} (h : Part f lo hi R) : ∃ n : Nat, hi = lo + n ∧ (days lo n).foldl (dayR keep f) [] = R.filter fun x => keep x.w := by
  induction h with
  | nil => exact ⟨0, (Int.add_zero lo).symm, rfl⟩
  | @cons s e w R h2 h3 h4 h5 ih =>
    obtain ⟨m, rfl, ih⟩ := ih
    obtain ⟨n, rfl⟩ := Int.le.dest h2
    refine ⟨m + (n + 1), (Int.add_assoc (lo + m) n 1).trans (Int.add_assoc lo m (n + 1)), ?_⟩
    have hd : ∀ d, d < lo + m + ((n + 1 : Nat) : Int) → d ≤ lo + m + n := fun d q => Int.le_of_lt_add_one ((Int.add_assoc (lo + m) n 1).symm ▸ q)
    rw [days_add, List.foldl_append, ih, List.filter_cons]
    cases hk : keep w with
    | false =>
      rw [if_neg Bool.false_ne_true]
      exact days_none fun d d1 d2 => by rw [h3 d d1 (hd d d2)]; exact hk
    | true =>
      rw [if_pos rfl]
      refine days_some hk (fun y r hy hc => ?_) fun d d1 d2 => h3 d d1 (hd d d2)
      obtain ⟨r', e⟩ := (part_head h5 hy).2 (hc.1 ▸ Int.sub_add_cancel _ 1)
      exact h4 _ _ e hc.2
structure SegOk (f : Int → W) (lo hi : Int) (x : Seg W) : Prop where
  le : x.s ≤ x.e
  glo : lo ≤ x.s
  ghi : x.e < hi
  eq : ∀ d, x.s ≤ d → d ≤ x.e → f d = x.w
  pre : lo < x.s → f (x.s - 1) ≠ x.w
  post : x.e + 1 < hi → f (x.e + 1) ≠ x.w
theorem part_seg {f : Int → W} {lo hi : Int} {R : List (Seg W)} (h : Part f lo hi R) {x : Seg W} (hx : x ∈ R) : SegOk f lo hi x := by
  induction h with
  | nil => cases hx
  | cons h2 h3 h4 h5 ih =>
    cases hx with
    | head =>
      refine ⟨h2, part_ge h5, Int.le_refl _, h3, fun q => ?_, fun q => absurd q (Int.lt_irrefl _)⟩
      cases h5 with
      | nil => exact absurd q (Int.lt_irrefl _)
      | @cons _ e' _ _ y2 y3 =>
        show f (e' + 1 - 1) ≠ _
        rw [Int.add_sub_cancel, y3 e' y2 (Int.le_refl _)]; exact h4 _ _ rfl
    | tail _ hx =>
      have ik := ih hx
      clear ih
      refine ⟨ik.le, ik.glo, Int.lt_trans ik.ghi (Int.lt_add_one_of_le h2), ik.eq, ik.pre, fun q => ?_⟩
      rcases Int.lt_or_le (x.e + 1) _ with c | c
      · exact ik.post c
      · have c := Int.le_antisymm ik.ghi c
        rw [c, h3 _ (Int.le_refl _) h2]
        cases h5 with
        | nil => cases hx
        | cons y2 y3 =>
          exact fun e => h4 _ _ rfl ((y3 _ y2 (Int.le_refl _)).symm.trans ((congrArg f (cut1 c).symm).trans ((ik.eq _ ik.le (Int.le_refl _)).trans e.symm)))
theorem part_cover {f : Int → W} {lo hi d : Int} {R : List (Seg W)} (h : Part f lo hi R) (h1 : lo ≤ d) (hh : d < hi) : ∃ x ∈ R, x.s ≤ d ∧ d ≤ x.e := by
  induction h with
  | nil => exact absurd (Int.lt_of_le_of_lt h1 hh) (Int.lt_irrefl _)
  | @cons s e w R _ _ _ _ ih =>
    rcases Int.lt_or_le d s with c | c
    · obtain ⟨y, hy, z⟩ := ih c
      exact ⟨y, .tail _ hy, z⟩
    · exact ⟨_, .head _, c, Int.le_of_lt_add_one hh⟩
end
end Mine
end
section
namespace Mine
open PySem
noncomputable def Vp : MS := .assign 3 (.list [(.var 1)])
noncomputable def Jo : MS := .assign 5 (.idx (.var 0) (.var 4))
noncomputable def Kh : MS := .expr (.meth .extend (.var 3) [(.comp (.var 6) (.one 6) .plain [(.tuple [(.idx (.var 5) (.cint 2)), (.bin .add (.idx (.var 5) (.cint 3)) (.cint 1))])] [(.cmp (.var 1) [.lt, .le] [(.var 6), (.var 2)])])])
noncomputable def O0 : MS := .ite (.cmp (.idx (.var 5) (.cint 0)) [.ne] [(.cstr "undo")]) [Kh] []
noncomputable def Vo : MS := .for (.one 4) .plain [(.var 0)] [Jo, O0]
noncomputable def Vn : MS := .ret (.bi .sortedSet [(.var 3)])
noncomputable def K2 : MFun := ⟨3, [Vp, Vo, Vn]⟩
noncomputable def Ku : MS := .assign 3 (.list [])
noncomputable def Zt : MS := .assign 5 (.var 1)
noncomputable def J7 : MS := .assign 5 (.bin .sub (.idx (.var 0) (.bin .add (.var 4) (.cint 1))) (.cint 1))
noncomputable def Uy : MS := .ite (.cmp (.bin .add (.var 4) (.cint 1)) [.lt] [(.bi .len [(.var 0)])]) [J7] []
noncomputable def J6 : MS := .setidx (.var 3) (.neg (.cint 1)) (.tuple [(.idx (.idx (.var 3) (.neg (.cint 1))) (.cint 0)), (.var 5), (.idx (.var 2) (.var 4))])
noncomputable def Zf : MS := .expr (.meth .append (.var 3) [(.tuple [(.idx (.var 0) (.var 4)), (.var 5), (.idx (.var 2) (.var 4))])])
noncomputable def Zs : MS := .ite (.and [(.cmp (.bi .len [(.var 3)]) [.gt] [(.cint 0)]), (.cmp (.idx (.idx (.var 3) (.neg (.cint 1))) (.cint 2)) [.eq] [(.idx (.var 2) (.var 4))])]) [J6] [Zf]
noncomputable def Kt : MS := .for (.one 4) .range [(.bi .len [(.var 0)])] [Zt, Uy, Zs]
noncomputable def Ks : MS := .ret (.var 3)
noncomputable def Zp : MFun := ⟨3, [Ku, Kt, Ks]⟩
noncomputable def Oc : MS := .assign 5 (.call "begins_of" [(.var 0), (.var 3), (.var 4)])
noncomputable def Ob : MS := .assign 6 (.call "counting" [(.var 0), (.var 1)])
noncomputable def Ay : MS := .assign 7 (.comp (.call "worth_by" [(.var 0), (.var 6), (.var 2), (.var 8)]) (.one 8) .plain [(.var 5)] [])
noncomputable def Ax : MS := .ret (.comp (.var 9) (.one 9) .plain [(.call "stretches_of" [(.var 5), (.var 4), (.var 7)])] [(.cmp (.idx (.var 9) (.cint 2)) [.isnot] [.cnone])])
noncomputable def Vz : MFun := ⟨5, [Oc, Ob, Ay, Ax]⟩
end Mine
end
section
namespace Mine
open PySem
variable {G : String → Option MV} {Γ : String → Option MFun}
noncomputable def ofI : MV → Int
  | .int k => k
  | _ => 0
noncomputable def brk (low high : Int) (e : Ent) : List Int := match e.sp with
  | some (_, lo, hi) => [lo, hi + 1].filter fun d => decide (low < d) && decide (d ≤ high)
  | none => []
theorem brk_len (low high : Int) (e : Ent) : (brk low high e).length ≤ 2 := by
  unfold brk
  split
  · exact List.length_filter_le ..
  · exact Nat.zero_le _
noncomputable def foundOf (B : Book) (low high : Int) : List Int := low :: B.flatMap fun p => brk low high p.2
theorem Dq (B : Book) (low high : Int) : (foundOf B low high).length ≤ 1 + 2 * B.length := by
  unfold foundOf
  rw [List.length_cons]
  have : ∀ l : Book, (l.flatMap fun p => brk low high p.2).length ≤ 2 * l.length := fun l => by
    induction l with
    | nil => exact Nat.le_refl _
    | cons p l ih =>
      rw [List.flatMap_cons, List.length_append, List.length_cons]
      have := brk_len low high p.2
      lia
  have := this B
  lia
structure GV (b : Addr) (low high : Int) (c : Addr) (V : MVars) : Prop where
  v0 : V 0 = some (.ref b)
  v1 : V 1 = some (.int low)
  v2 : V 2 = some (.int high)
  v3 : V 3 = some (.ref c)
theorem GV.set {b : Addr} {low high : Int} {c : Addr} {V : MVars} (y : GV b low high c V) {i : Nat} (h : 4 ≤ i) (v : MV) : GV b low high c (setv V i v) :=
  ⟨(Xd (by first | exact nei h rfl | decide)).trans y.v0, (Xd (by first | exact nei h rfl | decide)).trans y.v1, (Xd (by first | exact nei h rfl | decide)).trans y.v2, (Xd (by first | exact nei h rfl | decide)).trans y.v3⟩
theorem B3 {Φ : CallSpec} {B : Book} {b c : Addr} {low high : Int} {fz : List Addr} {μ₁ : MH} {R : MFlow → MVars → MH → Prop} (hB : BOk B) (hb : μ₁ b = some (.idict (Book.mv B))) (hc : μ₁ c = none) (hcz : c ∉ fz) :
    ∀ (ps : Book) (V : MVars) (μ : MH) (acc : List Int), (∀ p ∈ ps, p ∈ B) → GV b low high c V → Ext μ₁ μ → μ c = some (.list (acc.map .int)) → acc.length + 2 * ps.length ≤ 1000 →
      (∀ V' μ', GV b low high c V' → Ext μ₁ μ' → μ' c = some (.list ((acc ++ ps.flatMap fun p => brk low high p.2).map .int)) → R .next V' μ') →
      loopM (.one 4) (fun vs F μ => exs G Φ X0 [Jo, O0] fz vs F μ) R (ps.map fun p => .int p.1) V μ
  | [] => fun V μ acc _ y hx hm _ h => by
    simp only [List.map_nil, Z5, Z6]
    exact h V μ y hx (by simpa using hm)
  | p :: ps => fun V μ acc hp y hx hm hl h => by
    simp only [List.map_cons, Z5, Z6]
    refine ⟨_, rfl, ?_⟩
    simp only [List.length_cons] at hl
    replace y := y.set (i := 4) (by decide) (.int p.1)
    have v4 : setv V 4 (.int p.1) 4 = some (.int p.1) := Xn
    generalize setv V 4 (.int p.1) = V at y v4 ⊢
    have go : ∀ (V : MVars) (μ : MH) (acc : List Int), GV b low high c V → Ext μ₁ μ → μ c = some (.list (acc.map .int)) → acc.length + 2 * ps.length ≤ 1000 → (∀ V' μ', GV b low high c V' → Ext μ₁ μ' → μ' c = some (.list ((acc ++ ps.flatMap fun p => brk low high p.2).map .int)) → R .next V' μ') → _ := fun V μ acc => B3 (Φ := Φ) hB hb hc hcz ps V μ acc fun p hp' => hp p (.tail _ hp')
    generalize loopM (.one 4) _ R (ps.map fun p => .int p.1) = L at go ⊢
    have hlook : lookI (Book.mv B) p.1 = some p.2.mv := by rw [Book.look, Book.at_mem hB.nodup (hp p (.head _))]; rfl
    refine seq ?_
    ((try dsimp only [Jo,Qx,Qu,Qn,Qv,Qg,Qf,Qz,X9,X8,X4,Xi,X2,Xa,X1,Qd,Qt,Qc,Qe,Ql,Xg,Q6,Qp,Qq,Qk,Qb,Qa,Q1,Qh,Q7,Q4,Q0,Q9,Q8,Q3,Q5,Qo,Qy,Qr,X5,X6,Qs,args0,X3,Xb,Xj,Xk,Xl,Xm,Qm,X7,Qi,Qj,Qw,Q2,zgz,zgs,zlc,zln,Nat.reduceAdd,kr0,kr1,kl0,kl1,kz0,y.v0,v4]); (try simp (discharger := decide) only [Jo,Qx,Qu,Qn,Qv,Qg,Qf,Qz,X9,X8,X4,Xi,X2,Xa,X1,Qd,Qt,Qc,Qe,Ql,Xg,Q6,Qp,Qq,Qk,Qb,Qa,Q1,Qh,Q7,Q4,Q0,Q9,Q8,Q3,Q5,Qo,Qy,Qr,X5,X6,Qs,args0,X3,Xb,Xf,Xh,Xc,Xe,Xj,Xk,Xl,Xm,Xv,Xu,Qm,X7,Xn,Xd,Qi,Qj,Qw,Q2,Xr,zoi,zel,zta,zat,zgz,zgs,zlc,zln,Nat.reduceAdd,zza,znt,zcn,MV.int.injEq,kr0,kr1,kl0,kl1,kz0,y.v0,v4]))
    refine ⟨p.2.mv, by rw [N8 (hx _ _ hb)]; exact hlook, ?_⟩
    replace y := y.set (i := 5) (by decide) p.2.mv
    have v5 : setv V 5 p.2.mv 5 = some p.2.mv := Xn
    generalize setv V 5 p.2.mv = V at y v5 ⊢
    (try simp only [kr0, kr1, kl0, kl1, kz0])
    have fin : ∀ e : Ent, e = p.2 → acc ++ (p :: ps).flatMap (fun p => brk low high p.2) = (acc ++ brk low high e) ++ ps.flatMap (fun p => brk low high p.2) := fun e he => by rw [List.flatMap_cons, he, List.append_assoc]
    have main : ∀ (lo hi : Int), brk low high p.2 = [lo, hi + 1].filter (fun d => decide (low < d) && decide (d ≤ high)) → (∀ μ', idxM μ' p.2.mv (.int 2) = some (.int lo)) → (∀ μ', idxM μ' p.2.mv (.int 3) = some (.int hi)) →
        exs G Φ X0 [Kh] fz V (kr G Φ X0 [] fz (kl L R)) μ := by
      intro lo hi hbr i2 i3
      refine seq ?_
      rw [Kh, Qo, Qp]
      refine Pl y.v3 ⟨V7 hm, ?_⟩
      refine Fr (Ki ?_)
      ((try dsimp only [Qc,Qb,Qk,X1,Qz,Qx,Qn,v5,i2,i3,X3,zlc,zln,Nat.reduceAdd]); (try simp (discharger := decide) only [Qc,Qb,Qk,X1,Qz,Qx,Qn,v5,i2,i3,X3,Xr,zlc,zln,Nat.reduceAdd,zza,zta,zoi,zel]))
      refine ⟨.val (.tup [.int lo, .int (hi + 1)]), [.int lo, .int (hi + 1)], rfl, rfl, fit (show 2 ≤ 100000 by decide), ?_⟩
      refine N1 (fun v => decide (low < ofI v) && decide (ofI v ≤ high)) id _ _ (fun v hv => ?_) fun c2 hc2 hcz2 => ?_
      · obtain ⟨k, rfl⟩ : ∃ k, v = .int k := by
          simp only [List.mem_cons, List.not_mem_nil, or_false] at hv
          rcases hv with rfl | rfl <;> exact ⟨_, rfl⟩
        have w6 : setv V 6 (.int k) 6 = some (.int k) := Xn
        refine ⟨_, rfl, fun F hF => ?_, fun F hF => ⟨_, w6, hF⟩⟩
        ((try dsimp only [Qx,Qu,Qn,Qv,Qg,Qf,Qz,X9,X8,X4,Xi,X2,Xa,X1,Qd,Qt,Qc,Qe,Ql,Xg,Q6,Qp,Qq,Qk,Qb,Qa,Q1,Qh,Q7,Q4,Q0,Q9,Q8,Q3,Q5,Qo,Qy,Qr,X5,X6,Qs,args0,X3,Xb,Xj,Xk,Xl,Xm,Qm,X7,Qi,Qj,Qw,Q2,zgz,zgs,zlc,zln,Nat.reduceAdd,kr0,kr1,kl0,kl1,kz0,w6,y.v1,y.v2]); (try simp (discharger := decide) only [Qx,Qu,Qn,Qv,Qg,Qf,Qz,X9,X8,X4,Xi,X2,Xa,X1,Qd,Qt,Qc,Qe,Ql,Xg,Q6,Qp,Qq,Qk,Qb,Qa,Q1,Qh,Q7,Q4,Q0,Q9,Q8,Q3,Q5,Qo,Qy,Qr,X5,X6,Qs,args0,X3,Xb,Xf,Xh,Xc,Xe,Xj,Xk,Xl,Xm,Xv,Xu,Qm,X7,Xn,Xd,Qi,Qj,Qw,Q2,Xr,zoi,zel,zta,zat,zgz,zgs,zlc,zln,Nat.reduceAdd,zza,znt,zcn,MV.int.injEq,kr0,kr1,kl0,kl1,kz0,w6,y.v1,y.v2]))
        by_cases q : low < k
        · simp only [q, decide_true, if_true]
          have : F (decide (low < k) && decide (k ≤ high)) μ := hF
          simpa only [q, decide_true, Bool.true_and] using this
        · simp only [q, decide_false, Bool.false_eq_true, if_false]
          have : F (decide (low < k) && decide (k ≤ high)) μ := hF
          simpa only [q, decide_false, Bool.false_and] using this
      · have hcc : c ≠ c2 := Yi hm hc2
        have hl2 : ([] ++ ([MV.int lo, .int (hi + 1)].filter fun v => decide (low < ofI v) && decide (ofI v ≤ high)).map id) = (brk low high p.2).map MV.int := by
          rw [hbr, List.nil_append, List.map_id]
          rw [show [MV.int lo, MV.int (hi + 1)] = [lo, hi + 1].map MV.int from rfl, List.filter_map]
          rfl
        rw [hl2]
        have hbl := brk_len low high p.2
        refine ⟨acc.map .int, (brk low high p.2).map .int, Ext.upd hc2 _ _ hm, hcz, K5 Yh, hcc, fit (by simp; lia), ?_⟩
        (try dsimp only [kr0])
        refine Zm (K3 ?_)
        refine go V _ (acc ++ brk low high p.2) y (fun b' o e => by rw [Yk (Yi e hc)]; exact Ext.upd hc2 _ _ (hx _ _ e)) (by rw [Yh, List.map_append]) (by rw [List.length_append]; lia) fun V' μ' y' x' hm' => h V' μ' y' x' ?_
        rw [hm', fin p.2 rfl]
    refine seq (Je (Z7 ?_))
    cases he : p.2 with
    | undo j =>
      rw [he] at v5
      ((try dsimp only [Qx,Qu,Qn,Qv,Qg,Qf,Qz,X9,X8,X4,Xi,X2,Xa,X1,Qd,Qt,Qc,Qe,Ql,Xg,Q6,Qp,Qq,Qk,Qb,Qa,Q1,Qh,Q7,Q4,Q0,Q9,Q8,Q3,Q5,Qo,Qy,Qr,X5,X6,Qs,args0,X3,Xb,Xj,Xk,Xl,Xm,Qm,X7,Qi,Qj,Qw,Q2,zgz,zgs,zlc,zln,Nat.reduceAdd,kr0,kr1,kl0,kl1,kz0,v5,Ent.mv,Yz,Ys,Yv,Yy,Yo,Yx,Yw,Yr,Yq,Yu,Yt,Yn,Ym,Z1,Y5,Yb,Y8,Ye,Xw,Y1,Xq,Y0,Xz,Y4,Xo,Xp,Y7,Yd,Ya,Yg,Xy,Y3,Y6,Yc,Y9,Yf,Xx,Y2]); (try simp (discharger := decide) only [Qx,Qu,Qn,Qv,Qg,Qf,Qz,X9,X8,X4,Xi,X2,Xa,X1,Qd,Qt,Qc,Qe,Ql,Xg,Q6,Qp,Qq,Qk,Qb,Qa,Q1,Qh,Q7,Q4,Q0,Q9,Q8,Q3,Q5,Qo,Qy,Qr,X5,X6,Qs,args0,X3,Xb,Xf,Xh,Xc,Xe,Xj,Xk,Xl,Xm,Xv,Xu,Qm,X7,Xn,Xd,Qi,Qj,Qw,Q2,Xr,zoi,zel,zta,zat,zgz,zgs,zlc,zln,Nat.reduceAdd,zza,znt,zcn,MV.int.injEq,kr0,kr1,kl0,kl1,kz0,v5,Ent.mv,Yz,Ys,Yv,Yy,Yo,Yx,Yw,Yr,Yq,Yu,Yt,Yn,Ym,Z1,Y5,Yb,Y8,Ye,Xw,Y1,Xq,Y0,Xz,Y4,Xo,Xp,Y7,Yd,Ya,Yg,Xy,Y3,Y6,Yc,Y9,Yf,Xx,Y2]))
      simp only [Bool.false_eq_true, if_false]
      (try dsimp only [kr0])
      refine Zm (K3 (go V μ acc y hx hm (by first|exact dn hd rfl|exact dl hd rfl|lia) fun V' μ' y' x' hm' => h V' μ' y' x' ?_))
      rw [hm', fin p.2 rfl, he]
      show some (MO.list ((acc ++ _).map .int)) = some (MO.list (((acc ++ []) ++ _).map .int))
      rw [List.append_nil]
    | clear s lo hi =>
      have v5' := v5
      rw [he] at v5'
      rw [he] at main
      ((try dsimp only [Qx,Qu,Qn,Qv,Qg,Qf,Qz,X9,X8,X4,Xi,X2,Xa,X1,Qd,Qt,Qc,Qe,Ql,Xg,Q6,Qp,Qq,Qk,Qb,Qa,Q1,Qh,Q7,Q4,Q0,Q9,Q8,Q3,Q5,Qo,Qy,Qr,X5,X6,Qs,args0,X3,Xb,Xj,Xk,Xl,Xm,Qm,X7,Qi,Qj,Qw,Q2,zgz,zgs,zlc,zln,Nat.reduceAdd,kr0,kr1,kl0,kl1,kz0,v5',Ent.mv,Yz,Ys,Yv,Yy,Yo,Yx,Yw,Yr,Yq,Yu,Yt,Yn,Ym,Z1,Y5,Yb,Y8,Ye,Xw,Y1,Xq,Y0,Xz,Y4,Xo,Xp,Y7,Yd,Ya,Yg,Xy,Y3,Y6,Yc,Y9,Yf,Xx,Y2]); (try simp (discharger := decide) only [Qx,Qu,Qn,Qv,Qg,Qf,Qz,X9,X8,X4,Xi,X2,Xa,X1,Qd,Qt,Qc,Qe,Ql,Xg,Q6,Qp,Qq,Qk,Qb,Qa,Q1,Qh,Q7,Q4,Q0,Q9,Q8,Q3,Q5,Qo,Qy,Qr,X5,X6,Qs,args0,X3,Xb,Xf,Xh,Xc,Xe,Xj,Xk,Xl,Xm,Xv,Xu,Qm,X7,Xn,Xd,Qi,Qj,Qw,Q2,Xr,zoi,zel,zta,zat,zgz,zgs,zlc,zln,Nat.reduceAdd,zza,znt,zcn,MV.int.injEq,kr0,kr1,kl0,kl1,kz0,v5',Ent.mv,Yz,Ys,Yv,Yy,Yo,Yx,Yw,Yr,Yq,Yu,Yt,Yn,Ym,Z1,Y5,Yb,Y8,Ye,Xw,Y1,Xq,Y0,Xz,Y4,Xo,Xp,Y7,Yd,Ya,Yg,Xy,Y3,Y6,Yc,Y9,Yf,Xx,Y2]))
      simp only [if_true]
      exact main lo hi rfl (fun _ => Yr) (fun _ => Yq)
    | like s lo hi s' =>
      have v5' := v5
      rw [he] at v5'
      rw [he] at main
      ((try dsimp only [Qx,Qu,Qn,Qv,Qg,Qf,Qz,X9,X8,X4,Xi,X2,Xa,X1,Qd,Qt,Qc,Qe,Ql,Xg,Q6,Qp,Qq,Qk,Qb,Qa,Q1,Qh,Q7,Q4,Q0,Q9,Q8,Q3,Q5,Qo,Qy,Qr,X5,X6,Qs,args0,X3,Xb,Xj,Xk,Xl,Xm,Qm,X7,Qi,Qj,Qw,Q2,zgz,zgs,zlc,zln,Nat.reduceAdd,kr0,kr1,kl0,kl1,kz0,v5',Ent.mv,Yz,Ys,Yv,Yy,Yo,Yx,Yw,Yr,Yq,Yu,Yt,Yn,Ym,Z1,Y5,Yb,Y8,Ye,Xw,Y1,Xq,Y0,Xz,Y4,Xo,Xp,Y7,Yd,Ya,Yg,Xy,Y3,Y6,Yc,Y9,Yf,Xx,Y2]); (try simp (discharger := decide) only [Qx,Qu,Qn,Qv,Qg,Qf,Qz,X9,X8,X4,Xi,X2,Xa,X1,Qd,Qt,Qc,Qe,Ql,Xg,Q6,Qp,Qq,Qk,Qb,Qa,Q1,Qh,Q7,Q4,Q0,Q9,Q8,Q3,Q5,Qo,Qy,Qr,X5,X6,Qs,args0,X3,Xb,Xf,Xh,Xc,Xe,Xj,Xk,Xl,Xm,Xv,Xu,Qm,X7,Xn,Xd,Qi,Qj,Qw,Q2,Xr,zoi,zel,zta,zat,zgz,zgs,zlc,zln,Nat.reduceAdd,zza,znt,zcn,MV.int.injEq,kr0,kr1,kl0,kl1,kz0,v5',Ent.mv,Yz,Ys,Yv,Yy,Yo,Yx,Yw,Yr,Yq,Yu,Yt,Yn,Ym,Z1,Y5,Yb,Y8,Ye,Xw,Y1,Xq,Y0,Xz,Y4,Xo,Xp,Y7,Yd,Ya,Yg,Xy,Y3,Y6,Yc,Y9,Yf,Xx,Y2]))
      simp only [if_true]
      exact main lo hi rfl (fun _ => Yn) (fun _ => Ym)
    | tell s lo hi w =>
      have v5' := v5
      rw [he] at v5'
      rw [he] at main
      ((try dsimp only [Qx,Qu,Qn,Qv,Qg,Qf,Qz,X9,X8,X4,Xi,X2,Xa,X1,Qd,Qt,Qc,Qe,Ql,Xg,Q6,Qp,Qq,Qk,Qb,Qa,Q1,Qh,Q7,Q4,Q0,Q9,Q8,Q3,Q5,Qo,Qy,Qr,X5,X6,Qs,args0,X3,Xb,Xj,Xk,Xl,Xm,Qm,X7,Qi,Qj,Qw,Q2,zgz,zgs,zlc,zln,Nat.reduceAdd,kr0,kr1,kl0,kl1,kz0,v5',Ent.mv,Yz,Ys,Yv,Yy,Yo,Yx,Yw,Yr,Yq,Yu,Yt,Yn,Ym,Z1,Y5,Yb,Y8,Ye,Xw,Y1,Xq,Y0,Xz,Y4,Xo,Xp,Y7,Yd,Ya,Yg,Xy,Y3,Y6,Yc,Y9,Yf,Xx,Y2]); (try simp (discharger := decide) only [Qx,Qu,Qn,Qv,Qg,Qf,Qz,X9,X8,X4,Xi,X2,Xa,X1,Qd,Qt,Qc,Qe,Ql,Xg,Q6,Qp,Qq,Qk,Qb,Qa,Q1,Qh,Q7,Q4,Q0,Q9,Q8,Q3,Q5,Qo,Qy,Qr,X5,X6,Qs,args0,X3,Xb,Xf,Xh,Xc,Xe,Xj,Xk,Xl,Xm,Xv,Xu,Qm,X7,Xn,Xd,Qi,Qj,Qw,Q2,Xr,zoi,zel,zta,zat,zgz,zgs,zlc,zln,Nat.reduceAdd,zza,znt,zcn,MV.int.injEq,kr0,kr1,kl0,kl1,kz0,v5',Ent.mv,Yz,Ys,Yv,Yy,Yo,Yx,Yw,Yr,Yq,Yu,Yt,Yn,Ym,Z1,Y5,Yb,Y8,Ye,Xw,Y1,Xq,Y0,Xz,Y4,Xo,Xp,Y7,Yd,Ya,Yg,Xy,Y3,Y6,Yc,Y9,Yf,Xx,Y2]))
      simp only [if_true]
      exact main lo hi rfl (fun _ => Yn) (fun _ => Ym)
theorem Ce {d : Nat} {B : Book} {b : Addr} {low high : Int} {fz : List Addr} {Q : MQ} {μ : MH} (hΓ : Γ "begins_of" = some K2) (hd : 1 ≤ d) (hB : BOk B) (hl : B.length ≤ 30) (hb : μ b = some (.idict (Book.mv B)))
    (h : ∀ (c : Addr) (μ' : MH), Ext μ μ' → μ c = none → c ∉ fz → μ' c = some (.list ((sortI (ddup (foundOf B low high))).map .int)) → Q (.ref c) μ') : calls G Γ d "begins_of" [.ref b, .int low, .int high] fz Q X0 μ := by
  refine Z2 hΓ rfl hd (seq ?_)
  ((try dsimp only [Vp,Qx,Qu,Qn,Qv,Qg,Qf,Qz,X9,X8,X4,Xi,X2,Xa,X1,Qd,Qt,Qc,Qe,Ql,Xg,Q6,Qp,Qq,Qk,Qb,Qa,Q1,Qh,Q7,Q4,Q0,Q9,Q8,Q3,Q5,Qo,Qy,Qr,X5,X6,Qs,args0,X3,Xb,Xj,Xk,Xl,Xm,Qm,X7,Qi,Qj,Qw,Q2,zgz,zgs,zlc,zln,Nat.reduceAdd,kr0,kr1,kl0,kl1,kz0]); (try simp (discharger := decide) only [Vp,Qx,Qu,Qn,Qv,Qg,Qf,Qz,X9,X8,X4,Xi,X2,Xa,X1,Qd,Qt,Qc,Qe,Ql,Xg,Q6,Qp,Qq,Qk,Qb,Qa,Q1,Qh,Q7,Q4,Q0,Q9,Q8,Q3,Q5,Qo,Qy,Qr,X5,X6,Qs,args0,X3,Xb,Xf,Xh,Xc,Xe,Xj,Xk,Xl,Xm,Xv,Xu,Qm,X7,Xn,Xd,Qi,Qj,Qw,Q2,Xr,zoi,zel,zta,zat,zgz,zgs,zlc,zln,Nat.reduceAdd,zza,znt,zcn,MV.int.injEq,kr0,kr1,kl0,kl1,kz0]))
  intro c hc hcz
  have y : GV b low high c (setv (args0 [.ref b, .int low, .int high]) 3 (.ref c)) := ⟨rfl, rfl, rfl, rfl⟩
  generalize setv (args0 [.ref b, .int low, .int high]) 3 (.ref c) = V at y ⊢
  have x₁ : Ext μ (upd μ c (.list [.int low])) := Ext.upd hc
  have hm : upd μ c (.list [.int low]) c = some (.list ([low].map .int)) := Yh
  generalize upd μ c (.list [.int low]) = μ₁ at x₁ hm ⊢
  refine seq ?_
  ((try dsimp only [Vo,Qx,Qu,Qn,Qv,Qg,Qf,Qz,X9,X8,X4,Xi,X2,Xa,X1,Qd,Qt,Qc,Qe,Ql,Xg,Q6,Qp,Qq,Qk,Qb,Qa,Q1,Qh,Q7,Q4,Q0,Q9,Q8,Q3,Q5,Qo,Qy,Qr,X5,X6,Qs,args0,X3,Xb,Xj,Xk,Xl,Xm,Qm,X7,Qi,Qj,Qw,Q2,zgz,zgs,zlc,zln,Nat.reduceAdd,kr0,kr1,kl0,kl1,kz0,y.v0]); (try simp (discharger := decide) only [Vo,Qx,Qu,Qn,Qv,Qg,Qf,Qz,X9,X8,X4,Xi,X2,Xa,X1,Qd,Qt,Qc,Qe,Ql,Xg,Q6,Qp,Qq,Qk,Qb,Qa,Q1,Qh,Q7,Q4,Q0,Q9,Q8,Q3,Q5,Qo,Qy,Qr,X5,X6,Qs,args0,X3,Xb,Xf,Xh,Xc,Xe,Xj,Xk,Xl,Xm,Xv,Xu,Qm,X7,Xn,Xd,Qi,Qj,Qw,Q2,Xr,zoi,zel,zta,zat,zgz,zgs,zlc,zln,Nat.reduceAdd,zza,znt,zcn,MV.int.injEq,kr0,kr1,kl0,kl1,kz0,y.v0]))
  have hit : (Book.mv B).map (fun kv => MV.int kv.1) = B.map fun p => .int p.1 := by unfold Book.mv; rw [List.map_map]; rfl
  refine ⟨.val (.ref b), B.map fun p => .int p.1, rfl, by simp only [Src.items, items, itemsO, keysO, valsO, x₁ _ _ hb, hit], fit (by simp; exact Nat.le_trans (by assumption) (by decide)), ?_⟩
  have hcb : c ≠ b := Ne.symm (Yi hb hc)
  refine B3 (μ₁ := μ) hB hb hc ?_ B V μ₁ [low] (fun p hp => hp) y x₁ hm (by simp; lia) fun V' μ' y' x' hm' => ?_
  · simp only [Src.held, List.cons_append, List.nil_append, List.mem_cons, not_or]; exact ⟨hcb, hcz⟩
  (try simp only [kr0, kr1, kl0, kl1, kz0])
  refine seq ?_
  ((try dsimp only [Vn,Qx,Qu,Qn,Qv,Qg,Qf,Qz,X9,X8,X4,Xi,X2,Xa,X1,Qd,Qt,Qc,Qe,Ql,Xg,Q6,Qp,Qq,Qk,Qb,Qa,Q1,Qh,Q7,Q4,Q0,Q9,Q8,Q3,Q5,Qo,Qy,Qr,X5,X6,Qs,args0,X3,Xb,Xj,Xk,Xl,Xm,Qm,X7,Qi,Qj,Qw,Q2,zgz,zgs,zlc,zln,Nat.reduceAdd,kr0,kr1,kl0,kl1,kz0,y'.v3]); (try simp (discharger := decide) only [Vn,Qx,Qu,Qn,Qv,Qg,Qf,Qz,X9,X8,X4,Xi,X2,Xa,X1,Qd,Qt,Qc,Qe,Ql,Xg,Q6,Qp,Qq,Qk,Qb,Qa,Q1,Qh,Q7,Q4,Q0,Q9,Q8,Q3,Q5,Qo,Qy,Qr,X5,X6,Qs,args0,X3,Xb,Xf,Xh,Xc,Xe,Xj,Xk,Xl,Xm,Xv,Xu,Qm,X7,Xn,Xd,Qi,Qj,Qw,Q2,Xr,zoi,zel,zta,zat,zgz,zgs,zlc,zln,Nat.reduceAdd,zza,znt,zcn,MV.int.injEq,kr0,kr1,kl0,kl1,kz0,y'.v3]))
  have hfl := Dq B low high
  refine ⟨_, foundOf B low high, K5 hm', K6 _, by rw [List.length_map]; exact Nat.lt_of_le_of_lt hfl (by first|exact dn hd rfl|exact dl hd rfl|lia), fun c2 hc2 hcz2 => ?_⟩
  refine h c2 _ (x'.trans (Ext.upd hc2)) ?_ hcz2 Yh
  cases q : μ c2 with
  | none => rfl
  | some o => rw [x' _ _ q] at hc2; cases hc2
end Mine
end
section
namespace Mine
open PySem
variable {G : String → Option MV} {Γ : String → Option MFun}
theorem set_last {μ : MH} {fz : List Addr} {c : Addr} {pre : List MV} {u v : MV} {Q : MH → Prop} (h : μ c = some (.list (pre ++ [u]))) (hf : c ∉ fz) (hl : pre.length ≤ 1000) (hq : Q (upd μ c (.list (pre ++ [v])))) : setM fz (.ref c) (.int (-1)) v Q μ := by
  refine ⟨hf, ?_⟩
  rw [h]
  refine ⟨fit (by simp; exact Nat.le_trans (by assumption) (by decide)), _, ?_, hq⟩
  unfold setAt
  rw [if_neg (by decide), if_pos (by simp; lia), show ((-1 : Int) + ((pre ++ [u]).length : Nat)).toNat = pre.length by simp; lia]
  simp
noncomputable def segMV {W : Type} (enc : W → MV) (x : Seg W) : MV := .tup [.int x.s, .int x.e, enc x.w]
structure TV (p q c : Addr) (high : Int) (V : MVars) : Prop where
  v0 : V 0 = some (.ref p)
  v1 : V 1 = some (.int high)
  v2 : V 2 = some (.ref q)
  v3 : V 3 = some (.ref c)
theorem TV.set {p q c : Addr} {high : Int} {V : MVars} (y : TV p q c high V) {i : Nat} (h : 4 ≤ i) (v : MV) : TV p q c high (setv V i v) :=
  ⟨(Xd (by first | exact nei h rfl | decide)).trans y.v0, (Xd (by first | exact nei h rfl | decide)).trans y.v1, (Xd (by first | exact nei h rfl | decide)).trans y.v2, (Xd (by first | exact nei h rfl | decide)).trans y.v3⟩
theorem Fa {W : Type} [DecidableEq W] (R : List (Seg W)) (x : Seg W) : (stR R x).length ≤ R.length + 1 := by
  cases R with
  | nil => exact Nat.le_refl _
  | cons y r =>
    show (if y.w = x.w then ({ s := y.s, e := x.e, w := x.w } : Seg W) :: r else x :: y :: r).length ≤ _
    split <;> simp
theorem F9 {Φ : CallSpec} {W : Type} [DecidableEq W] {enc : W → MV} (heq : ∀ μ a b, cmpM .eq μ (enc a) (enc b) = some (decide (a = b))) {p q c : Addr} {high last b : Int} {w : W} {k : Nat} {bs : List Int} {ws : List W} {fz : List Addr} {V : MVars} {μ : MH} {R : List (Seg W)} {Q : MFlow → MVars → MH → Prop}
    (y : TV p q c high V) (v4 : V 4 = some (.int k)) (v5 : V 5 = some (.int last)) (hp : μ p = some (.list (bs.map .int))) (hq : μ q = some (.list (ws.map enc))) (hc : μ c = some (.list (R.reverse.map (segMV enc)))) (hcz : c ∉ fz) (hbl : bs.length ≤ 1000) (hwl : ws.length ≤ 1000) (hRl : R.length ≤ 999) (hb : bs[k]? = some b) (hw : ws[k]? = some w)
    (h : ∀ μ', (∀ a, a ≠ c → μ' a = μ a) → μ' c = some (.list ((stR R ⟨b, last, w⟩).reverse.map (segMV enc))) → Q .next V μ') : exs G Φ X0 [Zs] fz V Q μ := by
  have ib : idxM μ (.ref p) (.int k) = some (.int b) := by rw [Ux hp (by rw [List.length_map]; exact Nat.le_trans (by assumption) (by decide)), Ny (by first|exact dn hd rfl|exact dl hd rfl|exact Int.natCast_nonneg _), Int.toNat_natCast, List.getElem?_map, hb]; rfl
  have iw : idxM μ (.ref q) (.int k) = some (enc w) := by rw [Ux hq (by rw [List.length_map]; exact Nat.le_trans (by assumption) (by decide)), Ny (by first|exact dn hd rfl|exact dl hd rfl|exact Int.natCast_nonneg _), Int.toNat_natCast, List.getElem?_map, hw]; rfl
  have app : stR R ⟨b, last, w⟩ = ⟨b, last, w⟩ :: R → exs G Φ X0 [Zf] fz V (kr G Φ X0 [] fz Q) μ := fun e => by
    refine seq ?_
    ((try dsimp only [Zf,Qx,Qu,Qn,Qv,Qg,Qf,Qz,X9,X8,X4,Xi,X2,Xa,X1,Qd,Qt,Qc,Qe,Ql,Xg,Q6,Qp,Qq,Qk,Qb,Qa,Q1,Qh,Q7,Q4,Q0,Q9,Q8,Q3,Q5,Qo,Qy,Qr,X5,X6,Qs,args0,X3,Xb,Xj,Xk,Xl,Xm,Qm,X7,Qi,Qj,Qw,Q2,zgz,zgs,zlc,zln,Nat.reduceAdd,kr0,kr1,kl0,kl1,kz0,y.v0,y.v2,y.v3,v4,v5,ib,iw]); (try simp (discharger := decide) only [Zf,Qx,Qu,Qn,Qv,Qg,Qf,Qz,X9,X8,X4,Xi,X2,Xa,X1,Qd,Qt,Qc,Qe,Ql,Xg,Q6,Qp,Qq,Qk,Qb,Qa,Q1,Qh,Q7,Q4,Q0,Q9,Q8,Q3,Q5,Qo,Qy,Qr,X5,X6,Qs,args0,X3,Xb,Xf,Xh,Xc,Xe,Xj,Xk,Xl,Xm,Xv,Xu,Qm,X7,Xn,Xd,Qi,Qj,Qw,Q2,Xr,zoi,zel,zta,zat,zgz,zgs,zlc,zln,Nat.reduceAdd,zza,znt,zcn,MV.int.injEq,kr0,kr1,kl0,kl1,kz0,y.v0,y.v2,y.v3,v4,v5,ib,iw]))
    refine ⟨V7 hc, _, hc, hcz, fit (by simp; exact Nat.le_trans (by assumption) (by decide)), ?_⟩
    (try dsimp only [kr0])
    refine Zm (K3 (h _ (fun a ha => Yk ha) ?_))
    rw [Yh, e, List.reverse_cons, List.map_append]; rfl
  refine seq (Je (Ur (Z7 ?_)))
  ((try dsimp only [Qx,Qu,Qn,Qv,Qg,Qf,Qz,X9,X8,X4,Xi,X2,Xa,X1,Qd,Qt,Qc,Qe,Ql,Xg,Q6,Qp,Qq,Qk,Qb,Qa,Q1,Qh,Q7,Q4,Q0,Q9,Q8,Q3,Q5,Qo,Qy,Qr,X5,X6,Qs,args0,X3,Xb,Xj,Xk,Xl,Xm,Qm,X7,Qi,Qj,Qw,Q2,zgz,zgs,zlc,zln,Nat.reduceAdd,kr0,kr1,kl0,kl1,kz0,y.v3]); (try simp (discharger := decide) only [Qx,Qu,Qn,Qv,Qg,Qf,Qz,X9,X8,X4,Xi,X2,Xa,X1,Qd,Qt,Qc,Qe,Ql,Xg,Q6,Qp,Qq,Qk,Qb,Qa,Q1,Qh,Q7,Q4,Q0,Q9,Q8,Q3,Q5,Qo,Qy,Qr,X5,X6,Qs,args0,X3,Xb,Xf,Xh,Xc,Xe,Xj,Xk,Xl,Xm,Xv,Xu,Qm,X7,Xn,Xd,Qi,Qj,Qw,Q2,Xr,zoi,zel,zta,zat,zgz,zgs,zlc,zln,Nat.reduceAdd,zza,znt,zcn,MV.int.injEq,kr0,kr1,kl0,kl1,kz0,y.v3]))
  refine Zk hc (fit (by simp; exact Nat.le_trans (by assumption) (by decide))) ?_
  ((try dsimp only [Qx,Qu,Qn,Qv,Qg,Qf,Qz,X9,X8,X4,Xi,X2,Xa,X1,Qd,Qt,Qc,Qe,Ql,Xg,Q6,Qp,Qq,Qk,Qb,Qa,Q1,Qh,Q7,Q4,Q0,Q9,Q8,Q3,Q5,Qo,Qy,Qr,X5,X6,Qs,args0,X3,Xb,Xj,Xk,Xl,Xm,Qm,X7,Qi,Qj,Qw,Q2,zgz,zgs,zlc,zln,Nat.reduceAdd,kr0,kr1,kl0,kl1,kz0]); (try simp (discharger := decide) only [Qx,Qu,Qn,Qv,Qg,Qf,Qz,X9,X8,X4,Xi,X2,Xa,X1,Qd,Qt,Qc,Qe,Ql,Xg,Q6,Qp,Qq,Qk,Qb,Qa,Q1,Qh,Q7,Q4,Q0,Q9,Q8,Q3,Q5,Qo,Qy,Qr,X5,X6,Qs,args0,X3,Xb,Xf,Xh,Xc,Xe,Xj,Xk,Xl,Xm,Xv,Xu,Qm,X7,Xn,Xd,Qi,Qj,Qw,Q2,Xr,zoi,zel,zta,zat,zgz,zgs,zlc,zln,Nat.reduceAdd,zza,znt,zcn,MV.int.injEq,kr0,kr1,kl0,kl1,kz0]))
  cases R with
  | nil =>
    simp only [List.reverse_nil, List.map_nil, List.length_nil]
    exact app rfl
  | cons z r =>
    have hc' : μ c = some (.list (r.reverse.map (segMV enc) ++ [segMV enc z])) := by rw [hc, List.reverse_cons, List.map_append]; rfl
    have hl2 : (r.reverse.map (segMV enc)).length ≤ 1000 := by simp at hRl ⊢; exact Nat.le_trans (by assumption) (by decide)
    have hgt : decide ((((z :: r).reverse.map (segMV enc)).length : Int) > 0) = true := by simp
    rw [hgt]
    simp only [if_true]
    refine Ol (Z7 ?_)
    ((try dsimp only [Qx,Qu,Qn,Qv,Qg,Qf,Qz,X9,X8,X4,Xi,X2,Xa,X1,Qd,Qt,Qc,Qe,Ql,Xg,Q6,Qp,Qq,Qk,Qb,Qa,Q1,Qh,Q7,Q4,Q0,Q9,Q8,Q3,Q5,Qo,Qy,Qr,X5,X6,Qs,args0,X3,Xb,Xj,Xk,Xl,Xm,Qm,X7,Qi,Qj,Qw,Q2,zgz,zgs,zlc,zln,Nat.reduceAdd,kr0,kr1,kl0,kl1,kz0,y.v2,y.v3,v4]); (try simp (discharger := decide) only [Qx,Qu,Qn,Qv,Qg,Qf,Qz,X9,X8,X4,Xi,X2,Xa,X1,Qd,Qt,Qc,Qe,Ql,Xg,Q6,Qp,Qq,Qk,Qb,Qa,Q1,Qh,Q7,Q4,Q0,Q9,Q8,Q3,Q5,Qo,Qy,Qr,X5,X6,Qs,args0,X3,Xb,Xf,Xh,Xc,Xe,Xj,Xk,Xl,Xm,Xv,Xu,Qm,X7,Xn,Xd,Qi,Qj,Qw,Q2,Xr,zoi,zel,zta,zat,zgz,zgs,zlc,zln,Nat.reduceAdd,zza,znt,zcn,MV.int.injEq,kr0,kr1,kl0,kl1,kz0,y.v2,y.v3,v4]))
    refine ⟨_, Pw hc' (by first|exact dn hd rfl|exact dl hd rfl|exact Nat.le_trans (by assumption) (by decide)), _, Yo, _, iw, _, heq _ _ _, ?_⟩
    by_cases e : z.w = w
    · simp only [e, decide_true, if_true]
      refine seq ?_
      ((try dsimp only [J6,Qx,Qu,Qn,Qv,Qg,Qf,Qz,X9,X8,X4,Xi,X2,Xa,X1,Qd,Qt,Qc,Qe,Ql,Xg,Q6,Qp,Qq,Qk,Qb,Qa,Q1,Qh,Q7,Q4,Q0,Q9,Q8,Q3,Q5,Qo,Qy,Qr,X5,X6,Qs,args0,X3,Xb,Xj,Xk,Xl,Xm,Qm,X7,Qi,Qj,Qw,Q2,zgz,zgs,zlc,zln,Nat.reduceAdd,kr0,kr1,kl0,kl1,kz0,y.v2,y.v3,v4,v5]); (try simp (discharger := decide) only [J6,Qx,Qu,Qn,Qv,Qg,Qf,Qz,X9,X8,X4,Xi,X2,Xa,X1,Qd,Qt,Qc,Qe,Ql,Xg,Q6,Qp,Qq,Qk,Qb,Qa,Q1,Qh,Q7,Q4,Q0,Q9,Q8,Q3,Q5,Qo,Qy,Qr,X5,X6,Qs,args0,X3,Xb,Xf,Xh,Xc,Xe,Xj,Xk,Xl,Xm,Xv,Xu,Qm,X7,Xn,Xd,Qi,Qj,Qw,Q2,Xr,zoi,zel,zta,zat,zgz,zgs,zlc,zln,Nat.reduceAdd,zza,znt,zcn,MV.int.injEq,kr0,kr1,kl0,kl1,kz0,y.v2,y.v3,v4,v5]))
      refine ⟨_, Pw hc' (by first|exact dn hd rfl|exact dl hd rfl|exact Nat.le_trans (by assumption) (by decide)), _, Yv, _, iw, ?_⟩
      ((try dsimp only [Qx,Qu,Qn,Qv,Qg,Qf,Qz,X9,X8,X4,Xi,X2,Xa,X1,Qd,Qt,Qc,Qe,Ql,Xg,Q6,Qp,Qq,Qk,Qb,Qa,Q1,Qh,Q7,Q4,Q0,Q9,Q8,Q3,Q5,Qo,Qy,Qr,X5,X6,Qs,args0,X3,Xb,Xj,Xk,Xl,Xm,Qm,X7,Qi,Qj,Qw,Q2,zgz,zgs,zlc,zln,Nat.reduceAdd,kr0,kr1,kl0,kl1,kz0,y.v3]); (try simp (discharger := decide) only [Qx,Qu,Qn,Qv,Qg,Qf,Qz,X9,X8,X4,Xi,X2,Xa,X1,Qd,Qt,Qc,Qe,Ql,Xg,Q6,Qp,Qq,Qk,Qb,Qa,Q1,Qh,Q7,Q4,Q0,Q9,Q8,Q3,Q5,Qo,Qy,Qr,X5,X6,Qs,args0,X3,Xb,Xf,Xh,Xc,Xe,Xj,Xk,Xl,Xm,Xv,Xu,Qm,X7,Xn,Xd,Qi,Qj,Qw,Q2,Xr,zoi,zel,zta,zat,zgz,zgs,zlc,zln,Nat.reduceAdd,zza,znt,zcn,MV.int.injEq,kr0,kr1,kl0,kl1,kz0,y.v3]))
      refine set_last hc' hcz hl2 ?_
      (try dsimp only [kr0])
      refine Zm (K3 (h _ (fun a ha => Yk ha) ?_))
      rw [Yh]
      show _ = some (MO.list ((if z.w = w then ({ s := z.s, e := last, w := w } : Seg W) :: r else ⟨b, last, w⟩ :: z :: r).reverse.map (segMV enc)))
      rw [if_pos e, List.reverse_cons, List.map_append]; rfl
    · simp only [e, decide_false, Bool.false_eq_true, if_false]
      exact app (by
        show (if z.w = w then ({ s := z.s, e := last, w := w } : Seg W) :: r else ⟨b, last, w⟩ :: z :: r) = _
        rw [if_neg e])
theorem O2 {Φ : CallSpec} {W : Type} [DecidableEq W] {enc : W → MV} (heq : ∀ μ a b, cmpM .eq μ (enc a) (enc b) = some (decide (a = b))) {p q c : Addr} {high : Int} {bs : List Int} {ws : List W} {fz : List Addr} {μ₁ : MH} {Q : MFlow → MVars → MH → Prop}
    (hp : μ₁ p = some (.list (bs.map .int))) (hq : μ₁ q = some (.list (ws.map enc))) (hc0 : μ₁ c = none) (hcz : c ∉ fz) (hbl : bs.length ≤ 900) (hwl : ws.length = bs.length) :
    ∀ (m k : Nat) (V : MVars) (μ : MH) (R : List (Seg W)), k + m = bs.length → TV p q c high V → Ext μ₁ μ → μ c = some (.list (R.reverse.map (segMV enc))) → R.length ≤ k →
      (∀ V' μ', TV p q c high V' → Ext μ₁ μ' → μ' c = some (.list ((stretch high ((bs.zip ws).drop k) R).reverse.map (segMV enc))) → Q .next V' μ') →
      loopM (.one 4) (fun vs F μ => exs G Φ X0 [Zt, Uy, Zs] fz vs F μ) Q ((List.range' k m).map fun (k : Nat) => MV.int k) V μ
  | 0 => fun k V μ R hk y hx hm hR h => by
    simp only [List.range'_zero, List.map_nil, Z5, Z6]
    refine h V μ y hx ?_
    rw [List.drop_eq_nil_of_le (by rw [List.length_zip]; lia)]
    exact hm
  | m + 1 => fun k V μ R hk y hx hm hR h => by
    rw [List.range'_succ, List.map_cons]
    refine ⟨_, rfl, ?_⟩
    replace y := y.set (i := 4) (by decide) (.int k)
    have v4 : setv V 4 (.int k) 4 = some (.int k) := Xn
    generalize setv V 4 (.int k) = V at y v4 ⊢
    have go : ∀ (V : MVars) (μ : MH) (R : List (Seg W)), TV p q c high V → Ext μ₁ μ → μ c = some (.list (R.reverse.map (segMV enc))) → R.length ≤ k + 1 → (∀ V' μ', TV p q c high V' → Ext μ₁ μ' → μ' c = some (.list ((stretch high ((bs.zip ws).drop (k + 1)) R).reverse.map (segMV enc))) → Q .next V' μ') → _ := fun V μ R => O2 (Φ := Φ) heq hp hq hc0 hcz hbl hwl m (k + 1) V μ R (by first|exact dn hd rfl|exact dl hd rfl|lia)
    generalize loopM (.one 4) _ Q ((List.range' (k + 1) m).map fun (k : Nat) => MV.int k) = L at go ⊢
    have hkb : k < bs.length := by lia
    have hkw : k < ws.length := by simp [*]
    have hb : bs[k]? = some bs[k] := List.getElem?_eq_getElem hkb
    have hw : ws[k]? = some ws[k] := List.getElem?_eq_getElem hkw
    have hd : (bs.zip ws).drop k = (bs[k], ws[k]) :: (bs.zip ws).drop (k + 1) := by
      rw [List.drop_eq_getElem_cons (by rw [List.length_zip]; simp [*]), List.getElem_zip]
    have body : ∀ (last : Int) (V : MVars), TV p q c high V → V 4 = some (.int k) → V 5 = some (.int last) → stretch high ((bs.zip ws).drop k) R = stretch high ((bs.zip ws).drop (k + 1)) (stR R ⟨bs[k], last, ws[k]⟩) →
        exs G Φ X0 [Zs] fz V (kl L Q) μ := fun last V y v4 v5 e => by
      refine F9 heq y v4 v5 (hx _ _ hp) (hx _ _ hq) hm hcz (by first|exact dn hd rfl|exact dl hd rfl|exact Nat.le_trans (by assumption) (by decide)) (by first|exact dn hd rfl|exact dl hd rfl|lia) (by first|exact dn hd rfl|exact dl hd rfl|lia) hb hw fun μ' hk' hm' => ?_
      refine go V μ' _ y (fun a o e' => by rw [hk' a (Yi e' hc0)]; exact hx _ _ e') hm' (Nat.le_trans (Fa _ _) (by first|exact dn hd rfl|exact dl hd rfl|exact Nat.succ_le_succ (by assumption))) fun V' μ'' y' x' hm'' => h V' μ'' y' x' ?_
      rw [hm'', e]
    clear go
    refine seq ?_
    ((try dsimp only [Zt,Qx,Qu,Qn,Qv,Qg,Qf,Qz,X9,X8,X4,Xi,X2,Xa,X1,Qd,Qt,Qc,Qe,Ql,Xg,Q6,Qp,Qq,Qk,Qb,Qa,Q1,Qh,Q7,Q4,Q0,Q9,Q8,Q3,Q5,Qo,Qy,Qr,X5,X6,Qs,args0,X3,Xb,Xj,Xk,Xl,Xm,Qm,X7,Qi,Qj,Qw,Q2,zgz,zgs,zlc,zln,Nat.reduceAdd,kr0,kr1,kl0,kl1,kz0,y.v1]); (try simp (discharger := decide) only [Zt,Qx,Qu,Qn,Qv,Qg,Qf,Qz,X9,X8,X4,Xi,X2,Xa,X1,Qd,Qt,Qc,Qe,Ql,Xg,Q6,Qp,Qq,Qk,Qb,Qa,Q1,Qh,Q7,Q4,Q0,Q9,Q8,Q3,Q5,Qo,Qy,Qr,X5,X6,Qs,args0,X3,Xb,Xf,Xh,Xc,Xe,Xj,Xk,Xl,Xm,Xv,Xu,Qm,X7,Xn,Xd,Qi,Qj,Qw,Q2,Xr,zoi,zel,zta,zat,zgz,zgs,zlc,zln,Nat.reduceAdd,zza,znt,zcn,MV.int.injEq,kr0,kr1,kl0,kl1,kz0,y.v1]))
    have y5 := y.set (i := 5) (by decide) (.int high)
    have w4 : setv V 5 (.int high) 4 = some (.int k) := (Xd (by first | exact nei h rfl | decide)).trans v4
    have w5 : setv V 5 (.int high) 5 = some (.int high) := Xn
    generalize setv V 5 (.int high) = V at y5 w4 w5 ⊢
    refine seq (Je (Z7 ?_))
    ((try dsimp only [Qx,Qu,Qn,Qv,Qg,Qf,Qz,X9,X8,X4,Xi,X2,Xa,X1,Qd,Qt,Qc,Qe,Ql,Xg,Q6,Qp,Qq,Qk,Qb,Qa,Q1,Qh,Q7,Q4,Q0,Q9,Q8,Q3,Q5,Qo,Qy,Qr,X5,X6,Qs,args0,X3,Xb,Xj,Xk,Xl,Xm,Qm,X7,Qi,Qj,Qw,Q2,zgz,zgs,zlc,zln,Nat.reduceAdd,kr0,kr1,kl0,kl1,kz0,y5.v0,w4]); (try simp (discharger := decide) only [Qx,Qu,Qn,Qv,Qg,Qf,Qz,X9,X8,X4,Xi,X2,Xa,X1,Qd,Qt,Qc,Qe,Ql,Xg,Q6,Qp,Qq,Qk,Qb,Qa,Q1,Qh,Q7,Q4,Q0,Q9,Q8,Q3,Q5,Qo,Qy,Qr,X5,X6,Qs,args0,X3,Xb,Xf,Xh,Xc,Xe,Xj,Xk,Xl,Xm,Xv,Xu,Qm,X7,Xn,Xd,Qi,Qj,Qw,Q2,Xr,zoi,zel,zta,zat,zgz,zgs,zlc,zln,Nat.reduceAdd,zza,znt,zcn,MV.int.injEq,kr0,kr1,kl0,kl1,kz0,y5.v0,w4]))
    refine Zk (hx _ _ hp) (fit (by rw [List.length_map]; exact Nat.le_trans (by assumption) (by decide))) ?_
    rw [List.length_map]
    ((try dsimp only [Qx,Qu,Qn,Qv,Qg,Qf,Qz,X9,X8,X4,Xi,X2,Xa,X1,Qd,Qt,Qc,Qe,Ql,Xg,Q6,Qp,Qq,Qk,Qb,Qa,Q1,Qh,Q7,Q4,Q0,Q9,Q8,Q3,Q5,Qo,Qy,Qr,X5,X6,Qs,args0,X3,Xb,Xj,Xk,Xl,Xm,Qm,X7,Qi,Qj,Qw,Q2,zgz,zgs,zlc,zln,Nat.reduceAdd,kr0,kr1,kl0,kl1,kz0]); (try simp (discharger := decide) only [Qx,Qu,Qn,Qv,Qg,Qf,Qz,X9,X8,X4,Xi,X2,Xa,X1,Qd,Qt,Qc,Qe,Ql,Xg,Q6,Qp,Qq,Qk,Qb,Qa,Q1,Qh,Q7,Q4,Q0,Q9,Q8,Q3,Q5,Qo,Qy,Qr,X5,X6,Qs,args0,X3,Xb,Xf,Xh,Xc,Xe,Xj,Xk,Xl,Xm,Xv,Xu,Qm,X7,Xn,Xd,Qi,Qj,Qw,Q2,Xr,zoi,zel,zta,zat,zgz,zgs,zlc,zln,Nat.reduceAdd,zza,znt,zcn,MV.int.injEq,kr0,kr1,kl0,kl1,kz0]))
    by_cases hlt : k + 1 < bs.length
    · have ht : decide ((k : Int) + 1 < (bs.length : Int)) = true := decide_eq_true (by first|exact dn hd rfl|exact dl hd rfl|exact Int.ofNat_lt.mpr (by assumption))
      rw [ht]
      simp only [if_true]
      have hb1 : bs[k + 1]? = some bs[k + 1] := List.getElem?_eq_getElem hlt
      have ib : idxM μ (.ref p) (.int ((k : Int) + 1)) = some (.int bs[k + 1]) := by
        rw [Ux (hx _ _ hp) (by rw [List.length_map]; exact Nat.le_trans (by assumption) (by decide)), Ny (by first|exact dn hd rfl|exact dl hd rfl|exact Int.natCast_nonneg _), show ((k : Int) + 1).toNat = k + 1 by rfl, List.getElem?_map, hb1]; rfl
      refine seq ?_
      ((try dsimp only [J7,Qx,Qu,Qn,Qv,Qg,Qf,Qz,X9,X8,X4,Xi,X2,Xa,X1,Qd,Qt,Qc,Qe,Ql,Xg,Q6,Qp,Qq,Qk,Qb,Qa,Q1,Qh,Q7,Q4,Q0,Q9,Q8,Q3,Q5,Qo,Qy,Qr,X5,X6,Qs,args0,X3,Xb,Xj,Xk,Xl,Xm,Qm,X7,Qi,Qj,Qw,Q2,zgz,zgs,zlc,zln,Nat.reduceAdd,kr0,kr1,kl0,kl1,kz0,y5.v0,w4,ib]); (try simp (discharger := decide) only [J7,Qx,Qu,Qn,Qv,Qg,Qf,Qz,X9,X8,X4,Xi,X2,Xa,X1,Qd,Qt,Qc,Qe,Ql,Xg,Q6,Qp,Qq,Qk,Qb,Qa,Q1,Qh,Q7,Q4,Q0,Q9,Q8,Q3,Q5,Qo,Qy,Qr,X5,X6,Qs,args0,X3,Xb,Xf,Xh,Xc,Xe,Xj,Xk,Xl,Xm,Xv,Xu,Qm,X7,Xn,Xd,Qi,Qj,Qw,Q2,Xr,zoi,zel,zta,zat,zgz,zgs,zlc,zln,Nat.reduceAdd,zza,znt,zcn,MV.int.injEq,kr0,kr1,kl0,kl1,kz0,y5.v0,w4,ib]))
      (try dsimp only [kr0])
      refine Zm (body (bs[k + 1] - 1) _ (y5.set (by decide) _) ((Xd (by first | exact nei h rfl | decide)).trans w4) Xn ?_)
      rw [hd, List.drop_eq_getElem_cons (by rw [List.length_zip]; simp [*]), List.getElem_zip]
      rfl
    · have ht : decide ((k : Int) + 1 < (bs.length : Int)) = false := decide_eq_false (by first|exact dn hd rfl|exact dl hd rfl|lia)
      rw [ht]
      simp only [Bool.false_eq_true, if_false]
      (try dsimp only [kr0])
      refine Zm (body high V y5 w4 w5 ?_)
      rw [hd, List.drop_eq_nil_of_le (by rw [List.length_zip]; lia)]
      rfl
theorem Pq {d : Nat} {W : Type} [DecidableEq W] {enc : W → MV} (heq : ∀ μ a b, cmpM .eq μ (enc a) (enc b) = some (decide (a = b))) {p q : Addr} {high : Int} {bs : List Int} {ws : List W} {fz : List Addr} {Q : MQ} {μ : MH} (hΓ : Γ "stretches_of" = some Zp) (hd : 1 ≤ d)
    (hp : μ p = some (.list (bs.map .int))) (hq : μ q = some (.list (ws.map enc))) (hbl : bs.length ≤ 900) (hwl : ws.length = bs.length)
    (h : ∀ (c : Addr) (μ' : MH), Ext μ μ' → μ c = none → c ∉ fz → μ' c = some (.list ((stretch high (bs.zip ws) []).reverse.map (segMV enc))) → Q (.ref c) μ') : calls G Γ d "stretches_of" [.ref p, .int high, .ref q] fz Q X0 μ := by
  refine Z2 hΓ rfl hd (seq ?_)
  ((try dsimp only [Ku,Qx,Qu,Qn,Qv,Qg,Qf,Qz,X9,X8,X4,Xi,X2,Xa,X1,Qd,Qt,Qc,Qe,Ql,Xg,Q6,Qp,Qq,Qk,Qb,Qa,Q1,Qh,Q7,Q4,Q0,Q9,Q8,Q3,Q5,Qo,Qy,Qr,X5,X6,Qs,args0,X3,Xb,Xj,Xk,Xl,Xm,Qm,X7,Qi,Qj,Qw,Q2,zgz,zgs,zlc,zln,Nat.reduceAdd,kr0,kr1,kl0,kl1,kz0]); (try simp (discharger := decide) only [Ku,Qx,Qu,Qn,Qv,Qg,Qf,Qz,X9,X8,X4,Xi,X2,Xa,X1,Qd,Qt,Qc,Qe,Ql,Xg,Q6,Qp,Qq,Qk,Qb,Qa,Q1,Qh,Q7,Q4,Q0,Q9,Q8,Q3,Q5,Qo,Qy,Qr,X5,X6,Qs,args0,X3,Xb,Xf,Xh,Xc,Xe,Xj,Xk,Xl,Xm,Xv,Xu,Qm,X7,Xn,Xd,Qi,Qj,Qw,Q2,Xr,zoi,zel,zta,zat,zgz,zgs,zlc,zln,Nat.reduceAdd,zza,znt,zcn,MV.int.injEq,kr0,kr1,kl0,kl1,kz0]))
  intro c hc hcz
  have y : TV p q c high (setv (args0 [.ref p, .int high, .ref q]) 3 (.ref c)) := ⟨rfl, rfl, rfl, rfl⟩
  generalize setv (args0 [.ref p, .int high, .ref q]) 3 (.ref c) = V at y ⊢
  have x₁ : Ext μ (upd μ c (.list [])) := Ext.upd hc
  have hm : upd μ c (.list []) c = some (.list []) := Yh
  generalize upd μ c (.list []) = μ₁ at x₁ hm ⊢
  refine seq ?_
  ((try dsimp only [Kt,Qx,Qu,Qn,Qv,Qg,Qf,Qz,X9,X8,X4,Xi,X2,Xa,X1,Qd,Qt,Qc,Qe,Ql,Xg,Q6,Qp,Qq,Qk,Qb,Qa,Q1,Qh,Q7,Q4,Q0,Q9,Q8,Q3,Q5,Qo,Qy,Qr,X5,X6,Qs,args0,X3,Xb,Xj,Xk,Xl,Xm,Qm,X7,Qi,Qj,Qw,Q2,zgz,zgs,zlc,zln,Nat.reduceAdd,kr0,kr1,kl0,kl1,kz0,y.v0]); (try simp (discharger := decide) only [Kt,Qx,Qu,Qn,Qv,Qg,Qf,Qz,X9,X8,X4,Xi,X2,Xa,X1,Qd,Qt,Qc,Qe,Ql,Xg,Q6,Qp,Qq,Qk,Qb,Qa,Q1,Qh,Q7,Q4,Q0,Q9,Q8,Q3,Q5,Qo,Qy,Qr,X5,X6,Qs,args0,X3,Xb,Xf,Xh,Xc,Xe,Xj,Xk,Xl,Xm,Xv,Xu,Qm,X7,Xn,Xd,Qi,Qj,Qw,Q2,Xr,zoi,zel,zta,zat,zgz,zgs,zlc,zln,Nat.reduceAdd,zza,znt,zcn,MV.int.injEq,kr0,kr1,kl0,kl1,kz0,y.v0]))
  refine Zk (x₁ _ _ hp) (fit (by rw [List.length_map]; exact Nat.le_trans (by assumption) (by decide))) ?_
  rw [List.length_map]
  have hin : in62 (bs.length : Int) = true := by unfold in62; simp; lia
  refine ⟨.ints (rangeL 0 bs.length 1), (rangeL 0 bs.length 1).map .int, by simp [mkSrc, rangeM, hin], rfl, fit (by rw [List.length_map, Zy]; simp; exact Nat.le_trans (by assumption) (by decide)), ?_⟩
  rw [Pa, Int.toNat_natCast]
  refine O2 (μ₁ := μ) (enc := enc) heq hp hq hc hcz hbl hwl bs.length 0 V μ₁ [] (Nat.zero_add _) y x₁ hm (Nat.le_refl _) fun V' μ' y' x' hm' => ?_
  (try simp only [kr0, kr1, kl0, kl1, kz0])
  refine seq ?_
  ((try dsimp only [Ks,Qx,Qu,Qn,Qv,Qg,Qf,Qz,X9,X8,X4,Xi,X2,Xa,X1,Qd,Qt,Qc,Qe,Ql,Xg,Q6,Qp,Qq,Qk,Qb,Qa,Q1,Qh,Q7,Q4,Q0,Q9,Q8,Q3,Q5,Qo,Qy,Qr,X5,X6,Qs,args0,X3,Xb,Xj,Xk,Xl,Xm,Qm,X7,Qi,Qj,Qw,Q2,zgz,zgs,zlc,zln,Nat.reduceAdd,kr0,kr1,kl0,kl1,kz0,y'.v3]); (try simp (discharger := decide) only [Ks,Qx,Qu,Qn,Qv,Qg,Qf,Qz,X9,X8,X4,Xi,X2,Xa,X1,Qd,Qt,Qc,Qe,Ql,Xg,Q6,Qp,Qq,Qk,Qb,Qa,Q1,Qh,Q7,Q4,Q0,Q9,Q8,Q3,Q5,Qo,Qy,Qr,X5,X6,Qs,args0,X3,Xb,Xf,Xh,Xc,Xe,Xj,Xk,Xl,Xm,Xv,Xu,Qm,X7,Xn,Xd,Qi,Qj,Qw,Q2,Xr,zoi,zel,zta,zat,zgz,zgs,zlc,zln,Nat.reduceAdd,zza,znt,zcn,MV.int.injEq,kr0,kr1,kl0,kl1,kz0,y'.v3]))
  rw [List.drop_zero] at hm'
  exact h c μ' x' hc hcz hm'
end Mine
end
section
namespace Mine
open PySem
variable {G : String → Option MV} {Γ : String → Option MFun}
noncomputable def encO : Option Int → MV
  | none => .none
  | some i => .int i
noncomputable def sO (B : Book) (n day : Int) (x : Str) : Option Int := match saidOf B n day x with
  | .int i => some i
  | _ => none
theorem Pr {B : Book} {n day : Int} {x : Str} : saidOf B n day x = encO (sO B n day x) := by
  unfold sO
  rcases said_wth (B := B) (n := n) (day := day) x with e | ⟨i, e⟩ <;> rw [e] <;> rfl
theorem encO_wth (o : Option Int) : Wth (encO o) := by
  cases o with
  | none => exact .inl rfl
  | some i => exact .inr ⟨i, rfl⟩
theorem weq_enc (a b : Option Int) : weq (encO a) (encO b) = decide (a = b) := by
  rw [Bool.eq_iff_iff]
  cases a <;> cases b <;> simp [encO, weq]
theorem eqM_encO {μ : MH} {a b : Option Int} : eqM μ (encO a) (encO b) = some (decide (a = b)) := by rw [eqM_wth2 (encO_wth a) (encO_wth b), weq_enc]
theorem heqO (μ : MH) (a b : Option Int) : cmpM .eq μ (encO a) (encO b) = some (decide (a = b)) := eqM_encO
noncomputable def bsOf (B : Book) (low high : Int) : List Int := sortI (ddup (foundOf B low high))
theorem A7 {B : Book} {low high c : Int} : c ∈ bsOf B low high ↔ c ∈ foundOf B low high := by
  unfold bsOf
  rw [(Z3 _).mem_iff, ddup_mem]
theorem bsOf_len (B : Book) (low high : Int) : (bsOf B low high).length ≤ 1 + 2 * B.length := by
  unfold bsOf
  rw [K0]
  exact Nat.le_trans (A4 _) (Dq B low high)
theorem Dp {B : Book} {low high c : Int} (hl : low ≤ high) (h : c ∈ foundOf B low high) : low ≤ c ∧ c ≤ high := by
  rcases List.mem_cons.mp h with rfl | h
  · exact ⟨Int.le_refl _, hl⟩
  · obtain ⟨p, _, hp⟩ := List.mem_flatMap.mp h
    unfold brk at hp
    split at hp
    · have := (List.mem_filter.mp hp).2
      simp only [Bool.and_eq_true, decide_eq_true_eq] at this
      lia
    · cases hp
theorem bsOf_head {B : Book} {low high : Int} (hl : low ≤ high) : ∃ bs, bsOf B low high = low :: bs ∧ (low :: bs).Pairwise (· < ·) ∧ ∀ c ∈ low :: bs, c ≤ high := by
  have hp : (bsOf B low high).Pairwise (· < ·) := sortI_lt (C5 _)
  have hm : low ∈ bsOf B low high := A7.mpr (.head _)
  cases e : bsOf B low high with
  | nil => rw [e] at hm; cases hm
  | cons b bs =>
    rw [e] at hp hm
    have hb : b ∈ bsOf B low high := by rw [e]; exact .head _
    have := (Dp hl (A7.mp hb)).1
    obtain rfl : b = low := by
      rcases List.mem_cons.mp hm with q | q
      · exact q.symm
      · have := (List.pairwise_cons.mp hp).1 low q; lia
    exact ⟨bs, rfl, hp, fun c hc => (Dp hl (A7.mp (by rw [e]; exact hc))).2⟩
theorem brk_mem {B : Book} {low high c : Int} {k : Int} {e : Ent} {nm : Str} {lo hi : Int} (hk : Book.at B k = some e) (he : e.sp = some (nm, lo, hi)) (hc : c = lo ∨ c = hi + 1) (h1 : low < c) (h2 : c ≤ high) : c ∈ foundOf B low high := by
  refine .tail _ (List.mem_flatMap.mpr ⟨(k, e), Book.at_some hk, ?_⟩)
  show c ∈ brk low high e
  unfold brk
  rw [he]
  refine List.mem_filter.mpr ⟨?_, by simp [h1, h2]⟩
  rcases hc with rfl | rfl
  · exact .head _
  · exact .tail _ (.head _)
theorem said_const {B : Book} {low high n b d : Int} (h1 : low ≤ b) (h2 : b ≤ d) (h3 : d ≤ high) (hno : ∀ c ∈ bsOf B low high, c ≤ b ∨ d < c) : saidOf B n d = saidOf B n b := by
  unfold saidOf
  refine K1 _ _ fun k _ T => ?_
  unfold sayF
  cases hk : Book.at B k with
  | none => rfl
  | some e =>
    have key : ∀ (nm : Str) (lo hi : Int), e.sp = some (nm, lo, hi) → ((lo ≤ d ∧ d ≤ hi) ↔ (lo ≤ b ∧ b ≤ hi)) := fun nm lo hi he => by
      have side : ∀ c, c = lo ∨ c = hi + 1 → c ≤ b ∨ d < c := fun c hc => by
        by_cases q1 : low < c
        · by_cases q2 : c ≤ high
          · exact hno c (A7.mpr (brk_mem hk he hc q1 q2))
          · exact .inr (by first|exact dn hd rfl|exact dl hd rfl|lia)
        · exact .inl (by first|exact dn hd rfl|exact dl hd rfl|lia)
      have s1 := side lo (.inl rfl)
      have s2 := side (hi + 1) (.inr rfl)
      lia
    show sayE d T e = sayE b T e
    cases e with
    | undo j => rfl
    | clear nm lo hi => simp only [sayE, key nm lo hi rfl]
    | like nm lo hi nm' => simp only [sayE, key nm lo hi rfl]
    | tell nm lo hi v => simp only [sayE, key nm lo hi rfl]
noncomputable def Rof (B : Book) (n : Int) (x : Str) (low high : Int) : List (Seg (Option Int)) := stretch high ((bsOf B low high).map fun c => (c, sO B n c x)) []
theorem N2 {B : Book} {n : Int} {x : Str} {low high : Int} (hl : low ≤ high) : Part (fun d => sO B n d x) low (high + 1) (Rof B n x low high) := by
  obtain ⟨bs, e, hp, hh⟩ := bsOf_head (B := B) hl
  unfold Rof
  rw [e]
  refine F8 (f := fun d => sO B n d x) Part.nil hp hh fun c hc d d1 d2 hno => ?_
  have hc' : low ≤ c := by
    rcases List.mem_cons.mp hc with rfl | hc
    · exact Int.le_refl _
    · exact Int.le_of_lt ((List.pairwise_cons.mp hp).1 c hc)
  show sO B n d x = sO B n c x
  unfold sO
  rw [said_const hc' d1 d2 fun c' hc'' => hno c' (by rw [← e]; exact hc'')]
theorem Ar {W : Type} [DecidableEq W] {hi : Int} : ∀ (l : List (Int × W)) (R : List (Seg W)), (stretch hi l R).length ≤ l.length + R.length
  | [] => fun R => by simp [stretch]
  | [(b, w)] => fun R => by have := Fa R ⟨b, hi, w⟩; simp only [stretch, List.length_cons, List.length_nil]; lia
  | (b, w) :: (b', w') :: r => fun R => by
    have h1 := Fa R ⟨b, b' - 1, w⟩
    have h2 := Ar ((b', w') :: r) (stR R ⟨b, b' - 1, w⟩) (hi := hi)
    simp only [stretch, List.length_cons] at h2 ⊢
    omega
theorem Rof_len (B : Book) (n : Int) (x : Str) (low high : Int) : (Rof B n x low high).length ≤ 1 + 2 * B.length := by
  unfold Rof
  refine Nat.le_trans (Ar _ _) ?_
  rw [List.length_map, List.length_nil]
  exact bsOf_len B low high
noncomputable def runsL (B : Book) (n : Int) (x : Str) (low high : Int) : List MV := ((Rof B n x low high).filter fun z => z.w.isSome).reverse.map (segMV encO)
theorem Ps {d : Nat} {B : Book} {b : Addr} {x : Str} {n low high : Int} {fz : List Addr} {Q : MQ} {μ : MH} (hΓ₁ : Γ "is_about" = some Ja) (hΓ₂ : Γ "worth_by" = some Jt) (hΓ₃ : Γ "counting" = some Jz) (hΓ₄ : Γ "begins_of" = some K2) (hΓ₅ : Γ "stretches_of" = some Zp) (hΓ : Γ "runs_of" = some Vz) (hd : 4 ≤ d) (hB : BOk B) (hl : B.length ≤ 30) (hb : μ b = some (.idict (Book.mv B))) (hx : PyData.strOk x = true)
    (h : ∀ (c : Addr) (μ' : MH), Ext μ μ' → μ c = none → c ∉ fz → μ' c = some (.list (runsL B n x low high)) → Q (.ref c) μ') : calls G Γ d "runs_of" [.ref b, .int n, .str x, .int low, .int high] fz Q X0 μ := by
  refine Z2 hΓ rfl (by first|exact dn hd rfl|exact dl hd rfl|omega) (seq ?_)
  ((try dsimp only [Oc,Qx,Qu,Qn,Qv,Qg,Qf,Qz,X9,X8,X4,Xi,X2,Xa,X1,Qd,Qt,Qc,Qe,Ql,Xg,Q6,Qp,Qq,Qk,Qb,Qa,Q1,Qh,Q7,Q4,Q0,Q9,Q8,Q3,Q5,Qo,Qy,Qr,X5,X6,Qs,args0,X3,Xb,Xj,Xk,Xl,Xm,Qm,X7,Qi,Qj,Qw,Q2,zgz,zgs,zlc,zln,Nat.reduceAdd,kr0,kr1,kl0,kl1,kz0]); (try simp (discharger := decide) only [Oc,Qx,Qu,Qn,Qv,Qg,Qf,Qz,X9,X8,X4,Xi,X2,Xa,X1,Qd,Qt,Qc,Qe,Ql,Xg,Q6,Qp,Qq,Qk,Qb,Qa,Q1,Qh,Q7,Q4,Q0,Q9,Q8,Q3,Q5,Qo,Qy,Qr,X5,X6,Qs,args0,X3,Xb,Xf,Xh,Xc,Xe,Xj,Xk,Xl,Xm,Xv,Xu,Qm,X7,Xn,Xd,Qi,Qj,Qw,Q2,Xr,zoi,zel,zta,zat,zgz,zgs,zlc,zln,Nat.reduceAdd,zza,znt,zcn,MV.int.injEq,kr0,kr1,kl0,kl1,kz0]))
  refine Ce hΓ₄ (by first|exact dn hd rfl|exact dl hd rfl|omega) hB hl hb fun c₁ μ₁ x₁ hc₁ _ hm₁ => ?_
  have hbl := bsOf_len B low high
  replace hm₁ : μ₁ c₁ = some (.list ((bsOf B low high).map .int)) := hm₁
  refine seq ?_
  ((try dsimp only [Ob,Qx,Qu,Qn,Qv,Qg,Qf,Qz,X9,X8,X4,Xi,X2,Xa,X1,Qd,Qt,Qc,Qe,Ql,Xg,Q6,Qp,Qq,Qk,Qb,Qa,Q1,Qh,Q7,Q4,Q0,Q9,Q8,Q3,Q5,Qo,Qy,Qr,X5,X6,Qs,args0,X3,Xb,Xj,Xk,Xl,Xm,Qm,X7,Qi,Qj,Qw,Q2,zgz,zgs,zlc,zln,Nat.reduceAdd,kr0,kr1,kl0,kl1,kz0]); (try simp (discharger := decide) only [Ob,Qx,Qu,Qn,Qv,Qg,Qf,Qz,X9,X8,X4,Xi,X2,Xa,X1,Qd,Qt,Qc,Qe,Ql,Xg,Q6,Qp,Qq,Qk,Qb,Qa,Q1,Qh,Q7,Q4,Q0,Q9,Q8,Q3,Q5,Qo,Qy,Qr,X5,X6,Qs,args0,X3,Xb,Xf,Xh,Xc,Xe,Xj,Xk,Xl,Xm,Xv,Xu,Qm,X7,Xn,Xd,Qi,Qj,Qw,Q2,Xr,zoi,zel,zta,zat,zgz,zgs,zlc,zln,Nat.reduceAdd,zza,znt,zcn,MV.int.injEq,kr0,kr1,kl0,kl1,kz0]))
  have hcl := A5 (Book.mv B) n
  rw [Book.mv_len] at hcl
  refine Vq hΓ₃ (by first|exact dn hd rfl|exact dl hd rfl|omega) hB.nodup' (by rw [Book.mv_len]; exact Nat.lt_of_le_of_lt (by assumption) (by decide)) hB.ent (x₁ _ _ hb) fun c₂ μ₂ x₂ _ _ hm₂ => ?_
  refine seq ?_
  rw [Ay, Q3]
  refine Ki (Pl (v := .ref c₁) rfl ⟨.val (.ref c₁), (bsOf B low high).map .int, rfl, by simp only [Src.items, items, itemsO, keysO, valsO, x₂ _ _ hm₁], fit (by rw [List.length_map]; lia), ?_⟩)
  have hb₂ := x₂ _ _ (x₁ _ _ hb)
  refine N1 (fun _ => true) (fun v => encO (sO B n (ofI v) x)) _ _ (fun v hv => ?_) fun c₃ hc₃ _ => ?_
  · obtain ⟨k, hk, rfl⟩ := List.mem_map.mp hv
    refine ⟨_, rfl, fun F hF => hF, fun F hF => ?_⟩
    ((try dsimp only [Qx,Qu,Qn,Qv,Qg,Qf,Qz,X9,X8,X4,Xi,X2,Xa,X1,Qd,Qt,Qc,Qe,Ql,Xg,Q6,Qp,Qq,Qk,Qb,Qa,Q1,Qh,Q7,Q4,Q0,Q9,Q8,Q3,Q5,Qo,Qy,Qr,X5,X6,Qs,args0,X3,Xb,Xj,Xk,Xl,Xm,Qm,X7,Qi,Qj,Qw,Q2,zgz,zgs,zlc,zln,Nat.reduceAdd,kr0,kr1,kl0,kl1,kz0]); (try simp (discharger := decide) only [Qx,Qu,Qn,Qv,Qg,Qf,Qz,X9,X8,X4,Xi,X2,Xa,X1,Qd,Qt,Qc,Qe,Ql,Xg,Q6,Qp,Qq,Qk,Qb,Qa,Q1,Qh,Q7,Q4,Q0,Q9,Q8,Q3,Q5,Qo,Qy,Qr,X5,X6,Qs,args0,X3,Xb,Xf,Xh,Xc,Xe,Xj,Xk,Xl,Xm,Xv,Xu,Qm,X7,Xn,Xd,Qi,Qj,Qw,Q2,Xr,zoi,zel,zta,zat,zgz,zgs,zlc,zln,Nat.reduceAdd,zza,znt,zcn,MV.int.injEq,kr0,kr1,kl0,kl1,kz0]))
    refine P0 hΓ₁ hΓ₂ (by first|exact dn hd rfl|exact dl hd rfl|omega) hB hb₂ hm₂ (fun k hk => Uf hk) (by first|exact dn hd rfl|exact dl hd rfl|lia) hx ?_
    rw [wF_cnt, Pr]
    exact hF
  have hws : ([] ++ (((bsOf B low high).map MV.int).filter fun _ => true).map fun v => encO (sO B n (ofI v) x)) = ((bsOf B low high).map fun c => sO B n c x).map encO := by
    rw [List.nil_append, List.filter_eq_self.mpr (fun _ _ => rfl), List.map_map, List.map_map]; rfl
  rw [hws]
  have x₃ := Ext.upd (o := .list (((bsOf B low high).map fun c => sO B n c x).map encO)) hc₃
  have hm₃ : upd μ₂ c₃ (.list (((bsOf B low high).map fun c => sO B n c x).map encO)) c₃ = some (.list (((bsOf B low high).map fun c => sO B n c x).map encO)) := Yh
  generalize upd μ₂ c₃ (.list (((bsOf B low high).map fun c => sO B n c x).map encO)) = μ₃ at x₃ hm₃ ⊢
  (try simp only [kr0, kr1, kl0, kl1, kz0])
  refine seq ?_
  rw [Ax, Qy]
  refine Ki ?_
  ((try dsimp only [Ql,Qb,Qk,Qx]); (try simp (discharger := decide) only [Ql,Qb,Qk,Qx,Xn,Xd,zoi,zel]))
  refine ⟨.int high, rfl, ?_⟩
  refine Pq heqO hΓ₅ (by first|exact dn hd rfl|exact dl hd rfl|omega) (x₃ _ _ (x₂ _ _ hm₁)) hm₃ (by first|exact dn hd rfl|exact dl hd rfl|lia) (by rw [List.length_map]) fun c₄ μ₄ x₄ _ _ hm₄ => ?_
  have hz : (bsOf B low high).zip ((bsOf B low high).map fun c => sO B n c x) = (bsOf B low high).map fun c => (c, sO B n c x) := by
    have : ∀ l : List Int, l.zip (l.map fun c => sO B n c x) = l.map fun c => (c, sO B n c x) := fun l => by
      induction l with
      | nil => rfl
      | cons a l ih => simp only [List.map_cons, List.zip_cons_cons, ih]
    exact this _
  rw [hz] at hm₄
  replace hm₄ : μ₄ c₄ = some (.list ((Rof B n x low high).reverse.map (segMV encO))) := hm₄
  have hRl := Rof_len B n x low high
  refine ⟨.val (.ref c₄), (Rof B n x low high).reverse.map (segMV encO), rfl, by simp only [Src.items, items, itemsO, keysO, valsO, hm₄], fit (by simp; lia), ?_⟩
  refine N1 (fun v => match v with | .tup [_, _, .none] => false | _ => true) id _ _ (fun v hv => ?_) fun c₅ hc₅ hcz₅ => ?_
  · obtain ⟨z, _, rfl⟩ := List.mem_map.mp hv
    refine ⟨_, rfl, fun F hF => ?_, fun F hF => ⟨_, Xn, hF⟩⟩
    ((try dsimp only [Qx,Qu,Qn,Qv,Qg,Qf,Qz,X9,X8,X4,Xi,X2,Xa,X1,Qd,Qt,Qc,Qe,Ql,Xg,Q6,Qp,Qq,Qk,Qb,Qa,Q1,Qh,Q7,Q4,Q0,Q9,Q8,Q3,Q5,Qo,Qy,Qr,X5,X6,Qs,args0,X3,Xb,Xj,Xk,Xl,Xm,Qm,X7,Qi,Qj,Qw,Q2,zgz,zgs,zlc,zln,Nat.reduceAdd,kr0,kr1,kl0,kl1,kz0,segMV,Yo]); (try simp (discharger := decide) only [Qx,Qu,Qn,Qv,Qg,Qf,Qz,X9,X8,X4,Xi,X2,Xa,X1,Qd,Qt,Qc,Qe,Ql,Xg,Q6,Qp,Qq,Qk,Qb,Qa,Q1,Qh,Q7,Q4,Q0,Q9,Q8,Q3,Q5,Qo,Qy,Qr,X5,X6,Qs,args0,X3,Xb,Xf,Xh,Xc,Xe,Xj,Xk,Xl,Xm,Xv,Xu,Qm,X7,Xn,Xd,Qi,Qj,Qw,Q2,Xr,zoi,zel,zta,zat,zgz,zgs,zlc,zln,Nat.reduceAdd,zza,znt,zcn,MV.int.injEq,kr0,kr1,kl0,kl1,kz0,segMV,Yo]))
    obtain ⟨zs, ze, zw⟩ := z
    cases zw with
    | none => exact ⟨false, rfl, hF⟩
    | some i => exact ⟨true, rfl, hF⟩
  have hres : ([] ++ (((Rof B n x low high).reverse.map (segMV encO)).filter fun v => match v with | .tup [_, _, .none] => false | _ => true).map id) = runsL B n x low high := by
    rw [List.nil_append, List.map_id, List.filter_map, List.filter_reverse]
    unfold runsL
    congr 2
    refine List.filter_congr fun z _ => ?_
    obtain ⟨zs, ze, zw⟩ := z
    cases zw <;> rfl
  rw [hres]
  have xx := x₁.trans (x₂.trans (x₃.trans x₄))
  refine h c₅ _ (xx.trans (Ext.upd hc₅)) ?_ hcz₅ Yh
  cases q : μ c₅ with
  | none => rfl
  | some o => rw [xx _ _ q] at hc₅; cases hc₅
end Mine
end
section
namespace Mine
open PySem
variable {G : String → Option MV} {Γ : String → Option MFun}
noncomputable def Sub (B : Book) (ks : List Int) : Book := ks.filterMap fun k => (Book.at B k).map fun e => (k, e)
theorem sub_cons {B : Book} {k : Int} {ks : List Int} {e : Ent} (h : Book.at B k = some e) : Sub B (k :: ks) = (k, e) :: Sub B ks := by
  unfold Sub
  rw [List.filterMap_cons, h]; rfl
theorem Vs {B : Book} {ks : List Int} (h : ∀ k ∈ ks, k ∈ B.keys) : (Sub B ks).keys = ks := by
  induction ks with
  | nil => rfl
  | cons k ks ih =>
    obtain ⟨e, he⟩ := Book.at_key (h k (.head _))
    rw [sub_cons he]
    exact congrArg (k :: ·) (ih fun k hk => h k (.tail _ hk))
theorem F7 {B : Book} {ks : List Int} {p : Int × Ent} (h : p ∈ Sub B ks) : p ∈ B := by
  obtain ⟨k, _, e⟩ := List.mem_filterMap.mp h
  obtain ⟨x, hx, rfl⟩ := Option.map_eq_some_iff.mp e
  exact Book.at_some hx
theorem B4 (B : Book) (ks : List Int) : (Sub B ks).length ≤ ks.length := List.length_filterMap_le ..
theorem sub_ok {B : Book} {ks : List Int} (hB : BOk B) (hn : ks.Nodup) (h : ∀ k ∈ ks, k ∈ B.keys) (hl : ks.length ≤ 40) : BOk (Sub B ks) :=
  ⟨by rw [Vs h]; exact hn, fun p hp => hB.ok p (F7 hp), Nat.le_trans (B4 B ks) hl⟩
theorem sub_at {B : Book} {ks : List Int} {k : Int} (hB : BOk B) (hn : ks.Nodup) (h : ∀ k ∈ ks, k ∈ B.keys) (hk : k ∈ ks) : Book.at (Sub B ks) k = Book.at B k := by
  obtain ⟨e, he⟩ := Book.at_key (B := Sub B ks) (by rw [Vs h]; exact hk)
  rw [he]
  exact (Book.at_mem hB.nodup (F7 (Book.at_some he))).symm
theorem cntF_filter {kvs : List (Int × MV)} {n : Int} {ks : List Int} : ∀ {u : List Int}, cntF kvs n ks u = cntF kvs n (ks.filter fun k => decide (k ≤ n)) u := by
  induction ks with
  | nil => exact rfl
  | cons k ks ih =>
    intro u
    by_cases q : k ≤ n
    · rw [List.filter_cons_of_pos (by simpa using q)]
      unfold cntF
      rw [ih, ih]
    · rw [List.filter_cons_of_neg (by simpa using q), ← ih]
      exact if_neg fun c => q c.1
theorem C9 {kvs kvs' : List (Int × MV)} {n : Int} {ks : List Int} : ∀ {u : List Int}, (∀ k ∈ ks, undoAt kvs k = undoAt kvs' k) → cntF kvs n ks u = cntF kvs' n ks u := by
  induction ks with
  | nil => exact fun _ => rfl
  | cons k ks ih =>
    intro u h
    unfold cntF
    rw [h k (.head _), ih fun k hk => h k (.tail _ hk), ih fun k hk => h k (.tail _ hk)]
noncomputable def upTo (B : Book) (n : Int) : List Int := sortI (B.keys.filter fun k => decide (k ≤ n))
theorem O4 {l : List Int} (h : l.Pairwise (· < ·)) : l.Nodup := List.Pairwise.imp (fun {a b} (q : a < b) (e : a = b) => Int.lt_irrefl b (e ▸ q)) h
noncomputable def Agree (B B' : Book) (n : Int) (x : Str) (low high : Int) : Prop := ∀ d, low ≤ d → d ≤ high → sO B' n d x = sO B n d x
noncomputable def segs (B : Book) (n : Int) (x : Str) (low high : Int) : List (Seg (Option Int)) := ((Rof B n x low high).filter fun z => z.w.isSome).reverse
theorem day_mem {lo hi d : Int} {k : Nat} (hk : hi + 1 = lo + k) (h : d ∈ days lo k) : lo ≤ d ∧ d ≤ hi := by
  obtain ⟨j, hj, rfl⟩ := List.mem_map.mp h
  exact ⟨lon lo j, Int.le_of_lt_add_one (hk ▸ Int.add_lt_add_left (Int.ofNat_lt.mpr (List.mem_range.mp hj)) lo)⟩
theorem dayR_congr {W : Type} [DecidableEq W] {keep : W → Bool} {f g : Int → W} {R : List (Seg W)} {d : Int} (h : f d = g d) : dayR keep f R d = dayR keep g R d := by
  unfold dayR
  rw [h]
theorem Bl {B B' : Book} {n : Int} {x : Str} {low high : Int} (hl : low ≤ high) (h : Agree B B' n x low high) : segs B' n x low high = segs B n x low high := by
  obtain ⟨k, hk, e⟩ := Ae (keep := Option.isSome) (N2 (B := B) (n := n) (x := x) hl)
  obtain ⟨k', hk', e'⟩ := Ae (keep := Option.isSome) (N2 (B := B') (n := n) (x := x) hl)
  obtain rfl : k = k' := Int.ofNat.inj (Int.add_left_cancel (hk.symm.trans hk'))
  unfold segs
  rw [← e, ← e']
  refine congrArg _ (K1 _ _ fun d hd R => ?_)
  have := day_mem hk hd
  exact dayR_congr (f := fun d => sO B' n d x) (g := fun d => sO B n d x) (h d this.1 this.2)
theorem F5 {B B' : Book} {n d v : Int} {x : Str} {low high : Int} (hl : low ≤ high) (h : segs B' n x low high = segs B n x low high) (h1 : low ≤ d) (h2 : d ≤ high) (e : sO B n d x = some v) : sO B' n d x = some v := by
  obtain ⟨z, hz, z1, z2⟩ := part_cover (N2 (B := B) (n := n) (x := x) hl) h1 (Int.lt_add_one_of_le h2)
  have hw := (part_seg (N2 (B := B) (n := n) (x := x) hl) hz).eq d z1 z2
  have hm : z ∈ segs B n x low high := List.mem_reverse.mpr (List.mem_filter.mpr ⟨hz, by rw [← hw]; show (sO B n d x).isSome = true; rw [e]; rfl⟩)
  rw [← h] at hm
  have hm' := (List.mem_filter.mp (List.mem_reverse.mp hm)).1
  exact ((part_seg (N2 (B := B') (n := n) (x := x) hl) hm').eq d z1 z2).trans (hw.symm.trans e)
theorem agree_segs {B B' : Book} {n : Int} {x : Str} {low high : Int} (hl : low ≤ high) (h : segs B' n x low high = segs B n x low high) : Agree B B' n x low high := fun d h1 h2 => by
  cases e : sO B n d x with
  | some v => exact F5 hl h h1 h2 e
  | none =>
    cases e' : sO B' n d x with
    | none => rfl
    | some v => rw [F5 hl h.symm h1 h2 e'] at e; cases e
section
variable {tst : List Int → Bool}
noncomputable def rm1 (tst : List Int → Bool) (L : List Int) (k : Int) : List Int := if tst (L.filter fun j => decide (j ≠ k)) then L.filter fun j => decide (j ≠ k) else L
theorem rm1_sub {L : List Int} {k : Int} : (rm1 tst L k).Sublist L := by
  unfold rm1
  split
  · exact List.filter_sublist
  · exact .refl _
theorem rm1_tst {L : List Int} {k : Int} (h : tst L = true) : tst (rm1 tst L k) = true := by
  unfold rm1
  split
  · assumption
  · exact h
theorem Vx {ks : List Int} : ∀ {L : List Int}, (ks.foldl (rm1 tst) L).Sublist L := by
  induction ks with
  | nil => exact .refl _
  | cons k ks ih => exact ih.trans rm1_sub
theorem fold_tst {ks : List Int} : ∀ {L : List Int}, tst L = true → tst (ks.foldl (rm1 tst) L) = true := by
  induction ks with
  | nil => exact fun h => h
  | cons k ks ih => exact fun h => ih (rm1_tst h)
theorem fold_min {ks : List Int} : ∀ {L : List Int}, ks.foldl (rm1 tst) L = L → ∀ k ∈ ks, k ∈ L → tst (L.filter fun j => decide (j ≠ k)) = false := by
  induction ks with
  | nil => exact fun _ k hk => by cases hk
  | cons k ks ih =>
    intro L h j hj hL
    replace h : ks.foldl (rm1 tst) (rm1 tst L k) = L := h
    have hs := Vx (tst := tst) (ks := ks) (L := rm1 tst L k)
    rw [h] at hs
    have e : rm1 tst L k = L := rm1_sub.eq_of_length_le hs.length_le
    rw [e] at h
    rcases List.mem_cons.mp hj with rfl | hj
    · cases q : tst (L.filter fun i => decide (i ≠ j)) with
      | false => rfl
      | true =>
        unfold rm1 at e
        rw [if_pos q] at e
        have := (List.mem_filter.mp (e.symm ▸ hL)).2
        simp at this
    · exact ih h j hj hL
noncomputable def fixL (tst : List Int → Bool) : Nat → List Int → List Int
  | 0, L => L
  | m + 1, L => if (L.foldl (rm1 tst) L).length < L.length then fixL tst m (L.foldl (rm1 tst) L) else L.foldl (rm1 tst) L
theorem fix_sub {m : Nat} : ∀ {L : List Int}, (fixL tst m L).Sublist L := by
  induction m with
  | zero => exact .refl _
  | succ m ih =>
    intro L
    unfold fixL
    split
    · exact ih.trans Vx
    · exact Vx
theorem fix_tst {m : Nat} : ∀ {L : List Int}, tst L = true → tst (fixL tst m L) = true := by
  induction m with
  | zero => exact fun h => h
  | succ m ih =>
    intro L h
    unfold fixL
    split
    · exact ih (fold_tst h)
    · exact fold_tst h
theorem fix_min {m : Nat} : ∀ {L : List Int}, L.length ≤ m → ∀ k ∈ fixL tst m L, tst ((fixL tst m L).filter fun j => decide (j ≠ k)) = false := by
  induction m with
  | zero =>
    intro L h k hk
    obtain rfl := List.length_eq_zero_iff.mp (Nat.le_zero.mp h)
    cases hk
  | succ m ih =>
    intro L h k hk
    unfold fixL at hk ⊢
    split at hk
    · rename_i q
      rw [if_pos q]
      exact ih (Nat.le_of_lt_succ (Nat.lt_of_lt_of_le q h)) k hk
    · rename_i q
      rw [if_neg q]
      have e : L.foldl (rm1 tst) L = L := Vx.eq_of_length (Nat.le_antisymm Vx.length_le (Nat.le_of_not_lt q))
      rw [e] at hk ⊢
      exact fold_min e k hk hk
end
end Mine
end
section
namespace Mine
open PySem
noncomputable def Az : MS := .ret (.bi .dict [(.comp (.tuple [(.var 2), (.idx (.var 0) (.var 2))]) (.one 2) .plain [(.var 1)] [])])
noncomputable def Ov : MFun := ⟨2, [Az]⟩
noncomputable def Pz : MS := .ret (.comp (.call "runs_of" [(.var 0), (.var 2), (.var 3), (.cint 0), (.glob "MOST_DAY")]) (.one 3) .plain [(.var 1)] [])
noncomputable def Pg : MFun := ⟨3, [Pz]⟩
noncomputable def Vd : MS := .assign 1 (.bi .max1 [(.bin .add (.list [(.cint 0)]) (.bi .list [(.meth .keys (.var 0) [])]))])
noncomputable def P6 : MS := .assign 2 (.bi .sortedSetS [(.comp (.idx (.idx (.var 0) (.var 8)) (.cint 1)) (.one 8) .plain [(.var 0)] [(.cmp (.idx (.idx (.var 0) (.var 8)) (.cint 0)) [.ne] [(.cstr "undo")])])])
noncomputable def U2 : MS := .assign 3 (.call "state_of" [(.var 0), (.var 2), (.var 1)])
noncomputable def Vc : MS := .assign 4 (.comp (.var 9) (.one 9) .plain [(.call "counting" [(.var 0), (.var 1)])] [(.cmp (.idx (.idx (.var 0) (.var 9)) (.cint 0)) [.ne] [(.cstr "undo")])])
noncomputable def Ji : MS := .assign 5 (.bin .add (.bi .len [(.var 4)]) (.cint 1))
noncomputable def Jl : MS := .assign 5 (.bi .len [(.var 4)])
noncomputable def Ka : MS := .assign 7 (.comp (.var 10) (.one 10) .plain [(.var 4)] [(.cmp (.var 10) [.ne] [(.var 6)])])
noncomputable def Jf : MS := .assign 4 (.var 7)
noncomputable def V9 : MS := .ite (.cmp (.call "state_of" [(.call "book_of" [(.var 0), (.var 7)]), (.var 2), (.var 1)]) [.eq] [(.var 3)]) [Jf] []
noncomputable def Jk : MS := .for (.one 6) .plain [(.bi .list [(.var 4)])] [Ka, V9]
noncomputable def U1 : MS := .while (.cmp (.bi .len [(.var 4)]) [.lt] [(.var 5)]) [Jl, Jk]
noncomputable def Zz : MS := .ret (.call "book_of" [(.var 0), (.var 4)])
noncomputable def Oa : MFun := ⟨1, [Vd, P6, U2, Vc, Ji, U1, Zz]⟩
end Mine
end
section
namespace Mine
open PySem
variable {G : String → Option MV} {Γ : String → Option MFun}
structure Coded {Z : Type} (enc : Z → MV) (dd : Z → PyData) : Prop where
  deep : ∀ μ n z, deep μ (n + 2) (enc z) = some (dd z)
  eqv : ∀ a b, PyData.eqv (dd a) (dd b) = true ↔ a = b
section
variable {Z : Type} {enc : Z → MV} {dd : Z → PyData}
theorem Coded.list (C : Coded enc dd) {μ : MH} {p : Addr} {xs : List Z} {n : Nat} (h : μ p = some (.list (xs.map enc))) : Mine.deep μ (n + 3) (.ref p) = some (.list (xs.map dd)) := by
  have e : (xs.map enc).mapM (Mine.deep μ (n + 2)) = some (xs.map dd) := by
    clear h
    induction xs with
    | nil => rfl
    | cons x xs ih => rw [List.map_cons, List.mapM_cons, C.deep, ih]; rfl
  show (match lst μ p with | some l => (l.mapM (Mine.deep μ (n + 2))).map PyData.list | none => none) = _
  rw [K5 h]
  show ((xs.map enc).mapM (Mine.deep μ (n + 2))).map PyData.list = _
  rw [e]; rfl
noncomputable def same (dd : Z → PyData) (xs ys : List Z) : Bool := PyData.eqvAll (xs.map dd) (ys.map dd)
theorem Coded.eqM (C : Coded enc dd) {μ : MH} {p q : Addr} {xs ys : List Z} (hp : μ p = some (.list (xs.map enc))) (hq : μ q = some (.list (ys.map enc))) : eqM μ (.ref p) (.ref q) = some (same dd xs ys) := by
  have h3 : Mine.eqM μ (.ref p) (.ref q) = eqD μ (.ref p) (.ref q) := by simp only [Mine.eqM, hp, hq]
  rw [h3]
  unfold eqD
  rw [C.list hp, C.list hq]; rfl
theorem same_iff {dd : Z → PyData} (C : ∀ a b, PyData.eqv (dd a) (dd b) = true ↔ a = b) {xs : List Z} : ∀ {ys : List Z}, same dd xs ys = true ↔ xs = ys := by
  induction xs with
  | nil =>
    intro ys
    cases ys with
    | nil => exact ⟨fun _ => rfl, fun _ => rfl⟩
    | cons y ys => exact Iff.intro (fun h => nomatch h) (fun h => nomatch h)
  | cons x xs ih =>
    intro ys
    cases ys with
    | nil => exact Iff.intro (fun h => nomatch h) (fun h => nomatch h)
    | cons y ys =>
      show (PyData.eqv (dd x) (dd y) && Mine.same dd xs ys) = true ↔ _
      rw [Bool.and_eq_true, C, ih, List.cons.injEq]
theorem Coded.same (C : Coded enc dd) {xs ys : List Z} : Mine.same dd xs ys = true ↔ xs = ys := same_iff C.eqv
theorem Coded.refl (C : Coded enc dd) (xs : List Z) : Mine.same dd xs xs = true := C.same.mpr rfl
end
noncomputable def dO : Option Int → PyData
  | none => .none
  | some i => .int i
theorem codeO : Coded encO dO := ⟨fun μ n o => by cases o <;> rfl, fun a b => by
  cases a with
  | none => cases b with
    | none => exact ⟨fun _ => rfl, fun _ => rfl⟩
    | some j => exact Iff.intro (fun h => nomatch h) (fun h => nomatch h)
  | some i => cases b with
    | none => exact Iff.intro (fun h => nomatch h) (fun h => nomatch h)
    | some j =>
      show (i == j) = true ↔ _
      rw [beq_iff_eq, Option.some.injEq]⟩
noncomputable def dS (z : Seg (Option Int)) : PyData := .tuple [.int z.s, .int z.e, dO z.w]
theorem codeS : Coded (segMV encO) dS := ⟨fun μ n z => by
  show ([MV.int z.s, MV.int z.e, encO z.w].mapM (Mine.deep μ (n + 1))).map PyData.tuple = _
  have e : Mine.deep μ (n + 1) (encO z.w) = some (dO z.w) := by cases z.w <;> rfl
  rw [List.mapM_cons, List.mapM_cons, List.mapM_cons, e]; rfl, fun a b => by
  show ((a.s == b.s) && ((a.e == b.e) && (PyData.eqv (dO a.w) (dO b.w) && true))) = true ↔ _
  rw [Bool.and_true, Bool.and_eq_true, Bool.and_eq_true, codeO.eqv, beq_iff_eq, beq_iff_eq]
  obtain ⟨s, e, w⟩ := a
  obtain ⟨s', e', w'⟩ := b
  constructor
  · rintro ⟨h1, h2, h3⟩
    obtain rfl : s = s' := h1
    obtain rfl : e = e' := h2
    obtain rfl : w = w' := h3
    rfl
  · intro h; cases h; exact ⟨rfl, rfl, rfl⟩⟩
theorem sub_rows {B : Book} {ks : List Int} (h : ∀ k ∈ ks, k ∈ B.keys) : ks.map (fun k => rowV (k, (lookI (Book.mv B) k).getD .none)) = (Book.mv (Sub B ks)).map rowV := by
  induction ks with
  | nil => rfl
  | cons k ks ih =>
    obtain ⟨e, he⟩ := Book.at_key (h k (.head _))
    rw [List.map_cons, ih fun k hk => h k (.tail _ hk), sub_cons he, Book.look, he]; rfl
theorem Fj {μ μ₁ : MH} {la : Addr} (x : Ext μ μ₁) (hn : μ₁ la = none) : μ la = none := by
  cases q : μ la with
  | none => rfl
  | some o => rw [x _ _ q] at hn; cases hn
theorem sub_new {d : Nat} {nm : String} {B : Book} {ks : List Int} {b f : Addr} {fz : List Addr} {Q : MQ} {μ : MH} (hΓ : Γ nm = some Ov) (hd : 1 ≤ d) (hk : ∀ k ∈ ks, k ∈ B.keys) (hn : ks.Nodup) (hl : ks.length ≤ 1000) (hb : μ b = some (.idict (Book.mv B))) (hf : μ f = some (.list (ks.map .int)))
    (h : ∀ (c : Addr) (μ' : MH), Ext μ μ' → μ c = none → c ∉ fz → μ' c = some (.idict (Book.mv (Sub B ks))) → Q (.ref c) μ') : calls G Γ d nm [.ref b, .ref f] fz Q X0 μ := by
  refine Z2 hΓ rfl hd (seq ?_)
  rw [Az, Qy, Xg]
  refine Fr (Ki (Pl (v := .ref f) rfl ⟨.val (.ref f), ks.map .int, rfl, by simp only [Src.items, items, itemsO, keysO, valsO, hf], fit (by rw [List.length_map]; exact Nat.le_trans hl (by decide)), ?_⟩))
  refine Ox MV.int (fun _ => true) (fun k => rowV (k, (lookI (Book.mv B) k).getD .none)) (fun k hk' => ?_) fun c₁ hc₁ _ => ?_
  · obtain ⟨e, he⟩ := Book.at_key (hk k hk')
    have hlk : lookI (Book.mv B) k = some e.mv := by rw [Book.look, he]; rfl
    refine ⟨_, rfl, fun F hF => hF, fun F hF => ?_⟩
    ((try dsimp only [Qx,Qu,Qn,Qv,Qg,Qf,Qz,X9,X8,X4,Xi,X2,Xa,X1,Qd,Qt,Qc,Qe,Ql,Xg,Q6,Qp,Qq,Qk,Qb,Qa,Q1,Qh,Q7,Q4,Q0,Q9,Q8,Q3,Q5,Qo,Qy,Qr,X5,X6,Qs,args0,X3,Xb,Xj,Xk,Xl,Xm,Qm,X7,Qi,Qj,Qw,Q2,zgz,zgs,zlc,zln,Nat.reduceAdd,kr0,kr1,kl0,kl1,kz0]); (try simp (discharger := decide) only [Qx,Qu,Qn,Qv,Qg,Qf,Qz,X9,X8,X4,Xi,X2,Xa,X1,Qd,Qt,Qc,Qe,Ql,Xg,Q6,Qp,Qq,Qk,Qb,Qa,Q1,Qh,Q7,Q4,Q0,Q9,Q8,Q3,Q5,Qo,Qy,Qr,X5,X6,Qs,args0,X3,Xb,Xf,Xh,Xc,Xe,Xj,Xk,Xl,Xm,Xv,Xu,Qm,X7,Xn,Xd,Qi,Qj,Qw,Q2,Xr,zoi,zel,zta,zat,zgz,zgs,zlc,zln,Nat.reduceAdd,zza,znt,zcn,MV.int.injEq,kr0,kr1,kl0,kl1,kz0]))
    refine ⟨e.mv, by rw [N8 hb]; exact hlk, ?_⟩
    rw [hlk] at hF
    exact hF
  rw [List.nil_append, List.filter_eq_self.mpr fun _ _ => rfl, sub_rows hk]
  have hnd : ((Book.mv (Sub B ks)).map (·.1)).Nodup := by rw [Book.mv_keys, Vs hk]; exact hn
  refine F4 Yh ⟨_, Pc _, fit (by rw [List.length_map, Book.mv_len]; exact Nat.le_trans (B4 B ks) (Nat.le_trans hl (by decide))), fun c₂ hc₂ hz₂ => ?_⟩
  rw [B6 (by rw [List.nil_append]; exact hnd), List.nil_append]
  exact h c₂ _ ((Ext.upd hc₁).trans (Ext.upd hc₂)) (Fj (Ext.upd hc₁) hc₂) hz₂ Yh
theorem nek {j k : Int} : decide (j ≠ k) = !(j == k) := by
  rw [Bool.eq_iff_iff, decide_eq_true_eq, Bool.not_eq_true', beq_eq_false_iff_ne]
theorem sub_spec {d : Nat} {nm : String} {B : Book} {ks : List Int} {b f : Addr} {fz : List Addr} {Q : MQ} {μ : MH} (hΓ : Γ nm = some Ov) (hd : 1 ≤ d) (hk : ∀ k ∈ ks, k ∈ B.keys) (hn : ks.Nodup) (hl : ks.length ≤ 1000) (hb : μ b = some (.idict (Book.mv B))) (hf : μ f = some (.list (ks.map .int)))
    (h : ∀ (c : Addr) (μ' : MH), Ext μ μ' → μ' c = some (.idict (Book.mv (Sub B ks))) → Q (.ref c) μ') : calls G Γ d nm [.ref b, .ref f] fz Q X0 μ :=
  sub_new hΓ hd hk hn hl hb hf fun c μ' x _ _ => h c μ' x
structure New (fz : List Addr) (μ μ' : MH) (la : Addr) (A : List Int) : Prop where
  new : μ la = none
  free : la ∉ fz
  is : μ' la = some (.list (A.map .int))
theorem New.ext {fz : List Addr} {μ μ₁ μ₂ : MH} {la : Addr} {A : List Int} (h : New fz μ μ₁ la A) (x : Ext μ₁ μ₂) : New fz μ μ₂ la A := ⟨h.new, h.free, x _ _ h.is⟩
theorem New.of {fz : List Addr} {μ μ₁ : MH} {la : Addr} {A : List Int} (x : Ext μ μ₁) (hn : μ₁ la = none) (hz : la ∉ fz) : New fz μ (upd μ₁ la (.list (A.map .int))) la A := ⟨Fj x hn, hz, Yh⟩
end Mine
end
section
namespace Mine
open PySem
variable {G : String → Option MV} {Γ : String → Option MFun}
noncomputable def Ent.nu : Ent → Bool
  | .undo _ => false
  | _ => true
noncomputable def nuAt (B : Book) (k : Int) : Bool := match Book.at B k with
  | some e => e.nu
  | none => true
noncomputable def left0 (B : Book) (n : Int) : List Int := (cntOf (Book.mv B) n).filter (nuAt B)
theorem cnt_lt {B : Book} {n : Int} (hB : BOk B) : (cntOf (Book.mv B) n).Pairwise (· < ·) := by
  have := F0 (Book.mv B) n
  rw [Book.mv_keys] at this
  exact (sortI_lt hB.nodup).sublist this
theorem cnt_le {B : Book} {n k : Int} (h : k ∈ cntOf (Book.mv B) n) : k ≤ n := by
  unfold cntOf at h
  have h := (Z3 _).mem_iff.mp h
  rw [cntF_filter] at h
  exact of_decide_eq_true (List.mem_filter.mp ((V5 _ _).subset h)).2
theorem O5 {B : Book} {n : Int} (hB : BOk B) : (left0 B n).Pairwise (· < ·) := (cnt_lt hB).sublist List.filter_sublist
theorem Kn {B : Book} {n k : Int} (h : k ∈ left0 B n) : k ∈ B.keys ∧ k ≤ n ∧ nuAt B k = true := by
  obtain ⟨h1, h2⟩ := List.mem_filter.mp h
  exact ⟨Uf h1, cnt_le h1, h2⟩
theorem Ko {B : Book} {n : Int} : (left0 B n).length ≤ B.length := by
  refine Nat.le_trans (List.length_filter_le ..) ?_
  have := A5 (Book.mv B) n
  rwa [Book.mv_len] at this
theorem nu_undo {e : Ent} (h : e.nu = true) : undoOf e.mv = none := by
  cases e with
  | undo j => cases h
  | clear nm lo hi => exact EntOk.other (by decide +kernel)
  | like nm lo hi nm' => exact EntOk.other (by decide +kernel)
  | tell nm lo hi v => exact EntOk.other (by decide +kernel)
theorem cntF_all {kvs : List (Int × MV)} {n : Int} {ks : List Int} (h : ∀ k ∈ ks, k ≤ n ∧ undoAt kvs k = none) : cntF kvs n ks [] = ks := by
  induction ks with
  | nil => rfl
  | cons k ks ih =>
    unfold cntF
    rw [if_pos ⟨(h k (.head _)).1, List.not_mem_nil⟩, (h k (.head _)).2]
    exact congrArg (k :: ·) (ih fun k hk => h k (.tail _ hk))
theorem sub_cnt {B : Book} {n : Int} {L : List Int} (hB : BOk B) (hL : L.Sublist (left0 B n)) : cntOf (Book.mv (Sub B L)) n = L := by
  have hk : ∀ k ∈ L, k ∈ B.keys := fun k hk => (Kn (hL.subset hk)).1
  have hlt := (O5 hB).sublist hL
  have hn := O4 hlt
  have hle : L.Pairwise (· ≤ ·) := hlt.imp fun q => Int.le_of_lt q
  have hs : sortI L = L := Uu (Jg _) hle (Z3 _)
  unfold cntOf
  rw [Book.mv_keys, Vs hk, hs, cntF_all fun k hk' => ?_]
  · exact Uu (Jg _) hle ((Z3 _).trans (List.reverse_perm L))
  · have hk' := List.mem_reverse.mp hk'
    obtain ⟨h1, h2, h3⟩ := Kn (hL.subset hk')
    refine ⟨h2, ?_⟩
    obtain ⟨e, he⟩ := Book.at_key h1
    unfold nuAt at h3
    rw [he] at h3
    unfold undoAt
    rw [Book.look, sub_at hB hn hk hk', he]
    exact nu_undo h3
theorem fold_filter {α β : Type} {f : β → α → β} {p : α → Bool} {l : List α} : ∀ {b : β}, (∀ a ∈ l, p a = false → ∀ b, f b a = b) → (l.filter p).foldl f b = l.foldl f b := by
  induction l with
  | nil => exact fun _ => rfl
  | cons a l ih =>
    intro b h
    cases q : p a with
    | true => rw [List.filter_cons_of_pos q, List.foldl_cons, List.foldl_cons, ih fun a ha => h a (.tail _ ha)]
    | false => rw [List.filter_cons_of_neg (by rw [q]; decide), List.foldl_cons, h a (.head _) q, ih fun a ha => h a (.tail _ ha)]
theorem sub_fold {B : Book} {n d : Int} {L : List Int} (hB : BOk B) (hL : L.Sublist (left0 B n)) : saidOf (Sub B L) n d = L.foldl (sayF B d) T0 := by
  have hk : ∀ k ∈ L, k ∈ B.keys := fun k hk => (Kn (hL.subset hk)).1
  have hn := O4 ((O5 hB).sublist hL)
  unfold saidOf
  rw [sub_cnt hB hL]
  refine K1 _ _ fun k q T => ?_
  unfold sayF
  rw [sub_at hB hn hk q]
theorem said_left0 {B : Book} {n d : Int} (hB : BOk B) : saidOf (Sub B (left0 B n)) n d = saidOf B n d := by
  rw [sub_fold hB (.refl _)]
  unfold left0 saidOf
  refine fold_filter fun k _ q T => ?_
  unfold nuAt at q
  unfold sayF
  cases e : Book.at B k with
  | none => rfl
  | some x =>
    rw [e] at q
    cases x with
    | undo j => rfl
    | _ => cases q
noncomputable def entNames (B : Book) : List Str := B.filterMap fun p => p.2.sp.map (·.1)
theorem ent_name {B : Book} {k : Int} {e : Ent} {nm : Str} {lo hi : Int} (he : Book.at B k = some e) (hs : e.sp = some (nm, lo, hi)) : nm ∈ entNames B :=
  List.mem_filterMap.mpr ⟨(k, e), Book.at_some he, by rw [hs]; rfl⟩
theorem Bm {B : Book} {n d : Int} {x : Str} (h : x ∉ entNames B) : saidOf B n d x = .none := by
  unfold saidOf
  generalize cntOf (Book.mv B) n = ks
  have key : ∀ (ks : List Int) (T : Str → MV), T x = .none → (ks.foldl (sayF B d) T) x = .none := fun ks => by
    induction ks with
    | nil => exact fun T hT => hT
    | cons k ks ih =>
      intro T hT
      refine ih _ ?_
      unfold sayF
      cases he : Book.at B k with
      | none => exact hT
      | some e =>
        have ne : ∀ nm lo hi, e.sp = some (nm, lo, hi) → x ≠ nm := fun nm lo hi hs q => h (q ▸ ent_name he hs)
        cases e with
        | undo j => exact hT
        | clear nm lo hi => simp only [sayE]; split; exact (if_neg (ne nm lo hi rfl)).trans hT; exact hT
        | like nm lo hi nm' => simp only [sayE]; split; exact (if_neg (ne nm lo hi rfl)).trans hT; exact hT
        | tell nm lo hi v => simp only [sayE]; split; exact (if_neg (ne nm lo hi rfl)).trans hT; exact hT
  exact key ks T0 rfl
theorem sub_names {B : Book} {L : List Int} {x : Str} (h : x ∈ entNames (Sub B L)) : x ∈ entNames B := by
  obtain ⟨p, hp, e⟩ := List.mem_filterMap.mp h
  exact List.mem_filterMap.mpr ⟨p, F7 hp, e⟩
noncomputable def lastDay : Int := 1000000
noncomputable def dL (l : List (Seg (Option Int))) : PyData := .list (l.map dS)
theorem dL_eqv (a b : List (Seg (Option Int))) : PyData.eqv (dL a) (dL b) = true ↔ a = b := codeS.same
noncomputable def tstN (B : Book) (n : Int) (N : List Str) (L : List Int) : Bool := same dL (N.map fun x => segs (Sub B L) n x 0 1000000) (N.map fun x => segs B n x 0 1000000)
theorem O1 {B : Book} {n : Int} {N : List Str} {L : List Int} : tstN B n N L = true ↔ ∀ x ∈ N, Agree B (Sub B L) n x 0 1000000 := by
  unfold tstN
  rw [same_iff dL_eqv, List.map_inj_left]
  exact ⟨fun h x hx => agree_segs (by decide) (h x hx), fun h x hx => Bl (by decide) (h x hx)⟩
theorem tstN_perm {B : Book} {n : Int} {N : List Str} (h : ∀ x, x ∈ N ↔ x ∈ entNames B) : tstN B n N = tstN B n (entNames B) := funext fun L => by
  rw [Bool.eq_iff_iff, O1, O1]
  exact ⟨fun q x hx => q x ((h x).mpr hx), fun q x hx => q x ((h x).mp hx)⟩
noncomputable def shortL (B : Book) (n : Int) : List Int := fixL (tstN B n (entNames B)) 41 (left0 B n)
structure ShortOk (B : Book) (n : Int) (L : List Int) : Prop where
  sub : L.Sublist (left0 B n)
  agree : ∀ x, Agree B (Sub B L) n x 0 1000000
  min : ∀ k ∈ L, ∃ x ∈ entNames B, ¬ Agree B (Sub B (L.filter fun j => decide (j ≠ k))) n x 0 1000000
theorem short_ok {B : Book} {n : Int} (hB : BOk B) : ShortOk B n (shortL B n) := by
  have h0 : tstN B n (entNames B) (left0 B n) = true := O1.mpr fun x _ d _ _ => by unfold sO; rw [said_left0 hB]
  have h1 := O1.mp (fix_tst (m := 41) h0)
  refine ⟨fix_sub, fun x => ?_, fun k hk => ?_⟩
  · by_cases q : x ∈ entNames B
    · exact h1 x q
    · intro d _ _
      unfold sO
      rw [Bm q, Bm fun m => q (sub_names m)]
  · have hf := fix_min (tst := tstN B n (entNames B)) (m := 41) (L := left0 B n) (Nat.le_trans Ko (Nat.le_trans hB.len (by decide))) k hk
    refine Classical.byContradiction fun c => ?_
    exact Bool.false_ne_true (hf.symm.trans (O1.mpr fun x hx => Classical.byContradiction fun z => c ⟨x, hx, z⟩))
structure DaysOk (B : Book) (D : List Int) : Prop where
  rng : ∀ d ∈ D, 0 ≤ d ∧ d ≤ 1000000
  all : ∀ c ∈ bsOf B 0 1000000, c ∈ D
end Mine
end
section
namespace Mine
open PySem
variable {G : String → Option MV} {Γ : String → Option MFun}
section
variable {Z : Type} {enc : Z → MV} {dd : Z → PyData}
inductive At (enc : Z → MV) (μ : MH) : List Addr → List (List Z) → Prop
  | nil : At enc μ [] []
  | cons {r : Addr} {xs : List Z} {rs : List Addr} {xss : List (List Z)} : μ r = some (.list (xs.map enc)) → At enc μ rs xss → At enc μ (r :: rs) (xs :: xss)
theorem At.ext {μ μ' : MH} {rs : List Addr} {xss : List (List Z)} (h : At enc μ rs xss) (x : Ext μ μ') : At enc μ' rs xss := by
  induction h with
  | nil => exact .nil
  | cons e _ ih => exact .cons (x _ _ e) ih
theorem At.snoc {μ : MH} {rs : List Addr} {xss : List (List Z)} (h : At enc μ rs xss) {r : Addr} {xs : List Z} (e : μ r = some (.list (xs.map enc))) : At enc μ (rs ++ [r]) (xss ++ [xs]) := by
  induction h with
  | nil => exact .cons e .nil
  | cons e' _ ih => exact .cons e' ih
noncomputable def Nest (enc : Z → MV) (μ : MH) (c : Addr) (xss : List (List Z)) : Prop := ∃ rs : List Addr, μ c = some (.list (rs.map .ref)) ∧ At enc μ rs xss
theorem Nest.ext {μ μ' : MH} {c : Addr} {xss : List (List Z)} (h : Nest enc μ c xss) (x : Ext μ μ') : Nest enc μ' c xss := by
  obtain ⟨rs, h1, h2⟩ := h
  exact ⟨rs, x _ _ h1, h2.ext x⟩
theorem Nest.deep {μ : MH} {c : Addr} {xss : List (List Z)} (C : Coded enc dd) (h : Nest enc μ c xss) : deep μ 9 (.ref c) = some (.list (xss.map fun xs => .list (xs.map dd))) ∧ ∃ l, μ c = some (.list l) := by
  obtain ⟨rs, h1, h2⟩ := h
  have e : (rs.map MV.ref).mapM (Mine.deep μ 8) = some (xss.map fun xs => PyData.list (xs.map dd)) := by
    clear h1
    induction h2 with
    | nil => rfl
    | cons e _ ih => rw [List.map_cons, List.mapM_cons, C.list (n := 5) e, ih]; rfl
  refine ⟨?_, _, h1⟩
  show (match lst μ c with | some l => (l.mapM (Mine.deep μ 8)).map PyData.list | none => none) = _
  rw [K5 h1]
  show ((rs.map MV.ref).mapM (Mine.deep μ 8)).map PyData.list = _
  rw [e]; rfl
theorem Nest.eqM {μ : MH} {c c' : Addr} {xss yss : List (List Z)} (C : Coded enc dd) (h : Nest enc μ c xss) (h' : Nest enc μ c' yss) : eqM μ (.ref c) (.ref c') = some (same (fun xs => PyData.list (xs.map dd)) xss yss) := by
  obtain ⟨d1, l1, e1⟩ := h.deep C
  obtain ⟨d2, l2, e2⟩ := h'.deep C
  have h3 : Mine.eqM μ (.ref c) (.ref c') = eqD μ (.ref c) (.ref c') := by simp only [Mine.eqM, e1, e2]
  rw [h3]
  unfold eqD
  rw [d1, d2]; rfl
theorem comp_nest {I : Type} {fz : List Addr} {t : MT} {vars : MVars} {T : MVars → (Bool → MH → Prop) → MH → Prop} {Bd : MVars → MQ → MH → Prop} {Q : MQ} {μ₁ : MH} (encI : I → MV) (val : I → List Z) {is : List I} : ∀ {acc : List Addr} {xss : List (List Z)} {μ : MH}, Ext μ₁ μ → At enc μ acc xss →
    (∀ i ∈ is, ∃ vars', bindT t (encI i) vars = some vars' ∧ ∀ μ, Ext μ₁ μ → (∀ F : Bool → MH → Prop, F true μ → T vars' F μ) ∧ ∀ F : MQ, (∀ c μ', Ext μ μ' → μ' c = some (.list ((val i).map enc)) → F (.ref c) μ') → Bd vars' F μ) →
    (∀ c μ', Ext μ₁ μ' → Nest enc μ' c (xss ++ is.map val) → Q (.ref c) μ') → compM fz t vars T Bd Q (is.map encI) (acc.map .ref) μ := by
  induction is with
  | nil =>
    intro acc xss μ x ha _ h c hc hcz
    rw [List.map_nil, List.append_nil] at h
    exact h c _ (x.trans (Ext.upd hc)) ⟨acc, Yh, ha.ext (Ext.upd hc)⟩
  | cons i is ih =>
    intro acc xss μ x ha hv h
    obtain ⟨vars', hb, hv'⟩ := hv i (.head _)
    refine ⟨vars', hb, (hv' μ x).1 _ ?_⟩
    rw [if_pos rfl]
    refine (hv' μ x).2 _ fun c μ' x' e => ?_
    have := ih (acc := acc ++ [c]) (xss := xss ++ [val i]) (x.trans x') ((ha.ext x').snoc e) (fun u hu => hv u (.tail _ hu)) fun c μ'' x'' q => h c μ'' x'' (by rw [List.map_cons, List.append_cons]; exact q)
    rw [List.map_append] at this
    exact this
end
theorem P1 {d : Nat} {B : Book} {b nm : Addr} {N : List Str} {n : Int} {fz : List Addr} {Q : MQ} {μ : MH} (hG : G "MOST_DAY" = some (.int 1000000)) (hΓ₁ : Γ "is_about" = some Ja) (hΓ₂ : Γ "worth_by" = some Jt) (hΓ₃ : Γ "counting" = some Jz) (hΓ₄ : Γ "begins_of" = some K2) (hΓ₅ : Γ "stretches_of" = some Zp) (hΓ₆ : Γ "runs_of" = some Vz) (hΓ : Γ "state_of" = some Pg) (hd : 5 ≤ d) (hB : BOk B) (hl : B.length ≤ 30) (hb : μ b = some (.idict (Book.mv B))) (hnm : μ nm = some (.list (N.map .str))) (hNl : N.length ≤ 1000) (hN : ∀ x ∈ N, PyData.strOk x = true)
    (h : ∀ (c : Addr) (μ' : MH), Ext μ μ' → Nest (segMV encO) μ' c (N.map fun x => segs B n x 0 1000000) → Q (.ref c) μ') : calls G Γ d "state_of" [.ref b, .ref nm, .int n] fz Q X0 μ := by
  refine Z2 hΓ rfl (by first|exact dn hd rfl|exact dl hd rfl|omega) (seq ?_)
  rw [Pz, Qy]
  refine Ki (Pl (v := .ref nm) rfl ⟨.val (.ref nm), N.map .str, rfl, by simp only [Src.items, items, itemsO, keysO, valsO, hnm], fit (by rw [List.length_map]; exact Nat.le_trans hNl (by decide)), ?_⟩)
  refine comp_nest (enc := segMV encO) (acc := []) (xss := []) MV.str (fun x => segs B n x 0 1000000) Ext.refl .nil (fun x hx => ⟨_, rfl, fun μ' x' => ⟨fun F hF => hF, fun F hF => ?_⟩⟩) fun c μ' x' hc => h c μ' x' hc
  ((try dsimp only [Qx,Qu,Qn,Qv,Qg,Qf,Qz,X9,X8,X4,Xi,X2,Xa,X1,Qd,Qt,Qc,Qe,Ql,Xg,Q6,Qp,Qq,Qk,Qb,Qa,Q1,Qh,Q7,Q4,Q0,Q9,Q8,Q3,Q5,Qo,Qy,Qr,X5,X6,Qs,args0,X3,Xb,Xj,Xk,Xl,Xm,Qm,X7,Qi,Qj,Qw,Q2,zgz,zgs,zlc,zln,Nat.reduceAdd,kr0,kr1,kl0,kl1,kz0,hG]); (try simp (discharger := decide) only [Qx,Qu,Qn,Qv,Qg,Qf,Qz,X9,X8,X4,Xi,X2,Xa,X1,Qd,Qt,Qc,Qe,Ql,Xg,Q6,Qp,Qq,Qk,Qb,Qa,Q1,Qh,Q7,Q4,Q0,Q9,Q8,Q3,Q5,Qo,Qy,Qr,X5,X6,Qs,args0,X3,Xb,Xf,Xh,Xc,Xe,Xj,Xk,Xl,Xm,Xv,Xu,Qm,X7,Xn,Xd,Qi,Qj,Qw,Q2,Xr,zoi,zel,zta,zat,zgz,zgs,zlc,zln,Nat.reduceAdd,zza,znt,zcn,MV.int.injEq,kr0,kr1,kl0,kl1,kz0,hG]))
  refine Ps hΓ₁ hΓ₂ hΓ₃ hΓ₄ hΓ₅ hΓ₆ (by first|exact dn hd rfl|exact dl hd rfl|omega) hB hl (x' _ _ hb) (hN x hx) fun c μ'' x'' _ _ hc => hF c μ'' x'' hc
structure ShV (b nm du : Addr) (n : Int) (V : MVars) : Prop where
  v0 : V 0 = some (.ref b)
  v1 : V 1 = some (.int n)
  v2 : V 2 = some (.ref nm)
  v3 : V 3 = some (.ref du)
theorem ShV.set {b nm du : Addr} {n : Int} {V : MVars} (y : ShV b nm du n V) {i : Nat} (h : 4 ≤ i) (v : MV) : ShV b nm du n (setv V i v) :=
  ⟨(Xd (by first | exact nei h rfl | decide)).trans y.v0, (Xd (by first | exact nei h rfl | decide)).trans y.v1, (Xd (by first | exact nei h rfl | decide)).trans y.v2, (Xd (by first | exact nei h rfl | decide)).trans y.v3⟩
structure ShM (B : Book) (N : List Str) (b nm du : Addr) (n : Int) (μ : MH) : Prop where
  b : μ b = some (.idict (Book.mv B))
  nm : μ nm = some (.list (N.map .str))
  du : Nest (segMV encO) μ du (N.map fun x => segs B n x 0 1000000)
structure Gs (G : String → Option MV) (Γ : String → Option MFun) : Prop where
  day : G "MOST_DAY" = some (.int 1000000)
  about : Γ "is_about" = some Ja
  worth : Γ "worth_by" = some Jt
  cnt : Γ "counting" = some Jz
  beg : Γ "begins_of" = some K2
  str : Γ "stretches_of" = some Zp
  runs : Γ "runs_of" = some Vz
  book : Γ "book_of" = some Ov
  state : Γ "state_of" = some Pg
structure NOk (N : List Str) : Prop where
  len : N.length ≤ 1000
  ok : ∀ x ∈ N, PyData.strOk x = true
theorem D3 {d : Nat} {B : Book} {N : List Str} {b nm du : Addr} {n : Int} {fz fz₀ : List Addr} {μ₁ : MH} {R : MFlow → MVars → MH → Prop} (g : Gs G Γ) (hd : 5 ≤ d) (hB : BOk B) (hl : B.length ≤ 30) (hN : NOk N) (H : ShM B N b nm du n μ₁) (hz : ∀ a ∈ fz₀, a ∈ fz) :
    ∀ (ks : List Int) (V : MVars) (μ : MH) (A : List Int) (la : Addr) (many : Int), A.Sublist (left0 B n) → ShV b nm du n V → V 4 = some (.ref la) → V 5 = some (.int many) → Ext μ₁ μ → New fz₀ μ₁ μ la A →
      (∀ V' μ' la', ShV b nm du n V' → V' 4 = some (.ref la') → V' 5 = some (.int many) → Ext μ₁ μ' → New fz₀ μ₁ μ' la' (ks.foldl (rm1 (tstN B n N)) A) → R .next V' μ') →
      loopM (.one 6) (fun vs F μ => exs G (calls G Γ d) X0 [Ka, V9] fz vs F μ) R (ks.map .int) V μ
  | [] => fun V μ A la many _ y v4 v5 hx' hm h => by
    simp only [List.map_nil, Z5, Z6]
    exact h V μ la y v4 v5 hx' hm
  | k :: ks => fun V μ A la many hA y v4 v5 hx' hm h => by
    simp only [List.map_cons, Z5, Z6]
    refine ⟨_, rfl, ?_⟩
    have hAl : A.length ≤ 30 := Nat.le_trans hA.length_le (Nat.le_trans Ko hl)
    replace y := y.set (i := 6) (by decide) (.int k)
    have v6 : setv V 6 (.int k) 6 = some (.int k) := Xn
    replace v4 : setv V 6 (.int k) 4 = some (.ref la) := (Xd (by first | exact nei h rfl | decide)).trans v4
    replace v5 : setv V 6 (.int k) 5 = some (.int many) := (Xd (by first | exact nei h rfl | decide)).trans v5
    generalize setv V 6 (.int k) = V at y v4 v5 v6 ⊢
    have go : ∀ (V : MVars) (μ : MH) (A : List Int) (la : Addr), A.Sublist (left0 B n) → ShV b nm du n V → V 4 = some (.ref la) → V 5 = some (.int many) → Ext μ₁ μ → New fz₀ μ₁ μ la A → (∀ V' μ' la', ShV b nm du n V' → V' 4 = some (.ref la') → V' 5 = some (.int many) → Ext μ₁ μ' → New fz₀ μ₁ μ' la' (ks.foldl (rm1 (tstN B n N)) A) → R .next V' μ') → _ := fun V μ A la => D3 (fz := fz) g hd hB hl hN H hz ks V μ A la many
    generalize loopM (.one 6) _ R (ks.map .int) = L at go ⊢
    refine seq ?_
    rw [Ka, Q3]
    refine Ki (Pl v4 ⟨.val (.ref la), A.map .int, rfl, by simp only [Src.items, items, itemsO, keysO, valsO, hm.is], fit (by rw [List.length_map]; exact Nat.le_trans hAl (by decide)), ?_⟩)
    refine Ox MV.int (fun j => decide (j ≠ k)) MV.int (fun j _ => ?_) fun c₁ hc₁ hz₁ => ?_
    · have w10 : setv V 10 (.int j) 10 = some (.int j) := Xn
      refine ⟨_, rfl, fun F hF => ?_, fun F hF => ⟨_, w10, hF⟩⟩
      ((try dsimp only [Qx,Qu,Qn,Qv,Qg,Qf,Qz,X9,X8,X4,Xi,X2,Xa,X1,Qd,Qt,Qc,Qe,Ql,Xg,Q6,Qp,Qq,Qk,Qb,Qa,Q1,Qh,Q7,Q4,Q0,Q9,Q8,Q3,Q5,Qo,Qy,Qr,X5,X6,Qs,args0,X3,Xb,Xj,Xk,Xl,Xm,Qm,X7,Qi,Qj,Qw,Q2,zgz,zgs,zlc,zln,Nat.reduceAdd,kr0,kr1,kl0,kl1,kz0,w10,v6]); (try simp (discharger := decide) only [Qx,Qu,Qn,Qv,Qg,Qf,Qz,X9,X8,X4,Xi,X2,Xa,X1,Qd,Qt,Qc,Qe,Ql,Xg,Q6,Qp,Qq,Qk,Qb,Qa,Q1,Qh,Q7,Q4,Q0,Q9,Q8,Q3,Q5,Qo,Qy,Qr,X5,X6,Qs,args0,X3,Xb,Xf,Xh,Xc,Xe,Xj,Xk,Xl,Xm,Xv,Xu,Qm,X7,Xn,Xd,Qi,Qj,Qw,Q2,Xr,zoi,zel,zta,zat,zgz,zgs,zlc,zln,Nat.reduceAdd,zza,znt,zcn,MV.int.injEq,kr0,kr1,kl0,kl1,kz0,w10,v6]))
      exact nek ▸ hF
    rw [List.nil_append]
    have hFs : (A.filter fun j => decide (j ≠ k)).Sublist (left0 B n) := List.filter_sublist.trans hA
    have hT : rm1 (tstN B n N) A k = if tstN B n N (A.filter fun j => decide (j ≠ k)) then A.filter fun j => decide (j ≠ k) else A := rfl
    replace h : ∀ V' μ' la', ShV b nm du n V' → V' 4 = some (.ref la') → V' 5 = some (.int many) → Ext μ₁ μ' → New fz₀ μ₁ μ' la' (ks.foldl (rm1 (tstN B n N)) (rm1 (tstN B n N) A k)) → R .next V' μ' := h
    generalize A.filter (fun j => decide (j ≠ k)) = A' at hFs hT ⊢
    have hkF : ∀ j ∈ A', j ∈ B.keys := fun j hj => (Kn (hFs.subset hj)).1
    have hFl : A'.length ≤ 30 := Nat.le_trans hFs.length_le (Nat.le_trans Ko hl)
    have hFn : A'.Nodup := (O4 (O5 hB)).sublist hFs
    have x₁ := Ext.upd (o := .list (A'.map .int)) hc₁
    have hm₁ : New fz₀ μ₁ (upd μ c₁ (.list (A'.map .int))) c₁ A' := .of hx' hc₁ fun m => hz₁ (hz _ m)
    generalize upd μ c₁ (.list (A'.map .int)) = μ₂ at x₁ hm₁ ⊢
    replace hm := hm.ext x₁
    replace x₁ := hx'.trans x₁
    have y7 := y.set (i := 7) (by decide) (.ref c₁)
    have w4 : setv V 7 (.ref c₁) 4 = some (.ref la) := (Xd (by first | exact nei h rfl | decide)).trans v4
    have w5 : setv V 7 (.ref c₁) 5 = some (.int many) := (Xd (by first | exact nei h rfl | decide)).trans v5
    have w7 : setv V 7 (.ref c₁) 7 = some (.ref c₁) := Xn
    generalize setv V 7 (.ref c₁) = V at y7 w4 w5 w7 ⊢
    (try simp only [kr0, kr1, kl0, kl1, kz0])
    refine seq (Je (Z7 ?_))
    ((try dsimp only [Qx,Qu,Qn,Qv,Qg,Qf,Qz,X9,X8,X4,Xi,X2,Xa,X1,Qd,Qt,Qc,Qe,Ql,Xg,Q6,Qp,Qq,Qk,Qb,Qa,Q1,Qh,Q7,Q4,Q0,Q9,Q8,Q3,Q5,Qo,Qy,Qr,X5,X6,Qs,args0,X3,Xb,Xj,Xk,Xl,Xm,Qm,X7,Qi,Qj,Qw,Q2,zgz,zgs,zlc,zln,Nat.reduceAdd,kr0,kr1,kl0,kl1,kz0,y7.v0,y7.v1,y7.v2,y7.v3,w7]); (try simp (discharger := decide) only [Qx,Qu,Qn,Qv,Qg,Qf,Qz,X9,X8,X4,Xi,X2,Xa,X1,Qd,Qt,Qc,Qe,Ql,Xg,Q6,Qp,Qq,Qk,Qb,Qa,Q1,Qh,Q7,Q4,Q0,Q9,Q8,Q3,Q5,Qo,Qy,Qr,X5,X6,Qs,args0,X3,Xb,Xf,Xh,Xc,Xe,Xj,Xk,Xl,Xm,Xv,Xu,Qm,X7,Xn,Xd,Qi,Qj,Qw,Q2,Xr,zoi,zel,zta,zat,zgz,zgs,zlc,zln,Nat.reduceAdd,zza,znt,zcn,MV.int.injEq,kr0,kr1,kl0,kl1,kz0,y7.v0,y7.v1,y7.v2,y7.v3,w7]))
    refine sub_spec g.book (by first|exact dn hd rfl|exact dl hd rfl|omega) hkF hFn (Nat.le_trans hFl (by decide)) (x₁ _ _ H.b) hm₁.is fun c₂ μ₃ x₂ hm₂ => ?_
    ((try dsimp only [Qx,Qu,Qn,Qv,Qg,Qf,Qz,X9,X8,X4,Xi,X2,Xa,X1,Qd,Qt,Qc,Qe,Ql,Xg,Q6,Qp,Qq,Qk,Qb,Qa,Q1,Qh,Q7,Q4,Q0,Q9,Q8,Q3,Q5,Qo,Qy,Qr,X5,X6,Qs,args0,X3,Xb,Xj,Xk,Xl,Xm,Qm,X7,Qi,Qj,Qw,Q2,zgz,zgs,zlc,zln,Nat.reduceAdd,kr0,kr1,kl0,kl1,kz0,y7.v0,y7.v1,y7.v2,y7.v3,w7]); (try simp (discharger := decide) only [Qx,Qu,Qn,Qv,Qg,Qf,Qz,X9,X8,X4,Xi,X2,Xa,X1,Qd,Qt,Qc,Qe,Ql,Xg,Q6,Qp,Qq,Qk,Qb,Qa,Q1,Qh,Q7,Q4,Q0,Q9,Q8,Q3,Q5,Qo,Qy,Qr,X5,X6,Qs,args0,X3,Xb,Xf,Xh,Xc,Xe,Xj,Xk,Xl,Xm,Xv,Xu,Qm,X7,Xn,Xd,Qi,Qj,Qw,Q2,Xr,zoi,zel,zta,zat,zgz,zgs,zlc,zln,Nat.reduceAdd,zza,znt,zcn,MV.int.injEq,kr0,kr1,kl0,kl1,kz0,y7.v0,y7.v1,y7.v2,y7.v3,w7]))
    refine P1 g.day g.about g.worth g.cnt g.beg g.str g.runs g.state (by first|exact dn hd rfl|exact dl hd rfl|omega) (sub_ok hB hFn hkF (Nat.le_trans hFl (by decide))) (Nat.le_trans (B4 B A') hFl) hm₂ (x₂ _ _ (x₁ _ _ H.nm)) hN.len hN.ok fun c₃ μ₄ x₃ hm₃ => ?_
    ((try dsimp only [Qx,Qu,Qn,Qv,Qg,Qf,Qz,X9,X8,X4,Xi,X2,Xa,X1,Qd,Qt,Qc,Qe,Ql,Xg,Q6,Qp,Qq,Qk,Qb,Qa,Q1,Qh,Q7,Q4,Q0,Q9,Q8,Q3,Q5,Qo,Qy,Qr,X5,X6,Qs,args0,X3,Xb,Xj,Xk,Xl,Xm,Qm,X7,Qi,Qj,Qw,Q2,zgz,zgs,zlc,zln,Nat.reduceAdd,kr0,kr1,kl0,kl1,kz0,y7.v0,y7.v1,y7.v2,y7.v3,w7]); (try simp (discharger := decide) only [Qx,Qu,Qn,Qv,Qg,Qf,Qz,X9,X8,X4,Xi,X2,Xa,X1,Qd,Qt,Qc,Qe,Ql,Xg,Q6,Qp,Qq,Qk,Qb,Qa,Q1,Qh,Q7,Q4,Q0,Q9,Q8,Q3,Q5,Qo,Qy,Qr,X5,X6,Qs,args0,X3,Xb,Xf,Xh,Xc,Xe,Xj,Xk,Xl,Xm,Xv,Xu,Qm,X7,Xn,Xd,Qi,Qj,Qw,Q2,Xr,zoi,zel,zta,zat,zgz,zgs,zlc,zln,Nat.reduceAdd,zza,znt,zcn,MV.int.injEq,kr0,kr1,kl0,kl1,kz0,y7.v0,y7.v1,y7.v2,y7.v3,w7]))
    have xx := x₁.trans (x₂.trans x₃)
    refine ⟨_, hm₃.eqM codeS (H.du.ext xx), ?_⟩
    show if tstN B n N A' = true then _ else _
    cases q : tstN B n N A' with
    | true =>
      rw [if_pos q] at hT
      simp only [if_true]
      refine seq ?_
      ((try dsimp only [Jf,Qx,Qu,Qn,Qv,Qg,Qf,Qz,X9,X8,X4,Xi,X2,Xa,X1,Qd,Qt,Qc,Qe,Ql,Xg,Q6,Qp,Qq,Qk,Qb,Qa,Q1,Qh,Q7,Q4,Q0,Q9,Q8,Q3,Q5,Qo,Qy,Qr,X5,X6,Qs,args0,X3,Xb,Xj,Xk,Xl,Xm,Qm,X7,Qi,Qj,Qw,Q2,zgz,zgs,zlc,zln,Nat.reduceAdd,kr0,kr1,kl0,kl1,kz0,w7]); (try simp (discharger := decide) only [Jf,Qx,Qu,Qn,Qv,Qg,Qf,Qz,X9,X8,X4,Xi,X2,Xa,X1,Qd,Qt,Qc,Qe,Ql,Xg,Q6,Qp,Qq,Qk,Qb,Qa,Q1,Qh,Q7,Q4,Q0,Q9,Q8,Q3,Q5,Qo,Qy,Qr,X5,X6,Qs,args0,X3,Xb,Xf,Xh,Xc,Xe,Xj,Xk,Xl,Xm,Xv,Xu,Qm,X7,Xn,Xd,Qi,Qj,Qw,Q2,Xr,zoi,zel,zta,zat,zgz,zgs,zlc,zln,Nat.reduceAdd,zza,znt,zcn,MV.int.injEq,kr0,kr1,kl0,kl1,kz0,w7]))
      exact Zm (K3 (go _ _ A' c₁ hFs (y7.set (by decide) _) Xn ((Xd (by first | exact nei h rfl | decide)).trans w5) xx ((hm₁.ext x₂).ext x₃) (hT ▸ h)))
    | false =>
      rw [if_neg (by rw [q]; decide)] at hT
      simp only [Bool.false_eq_true, if_false]
      exact Zm (K3 (go V _ A la hA y7 w4 w5 xx ((hm.ext x₂).ext x₃) (hT ▸ h)))
noncomputable def shortW (G : String → Option MV) (Φ : CallSpec) (fz : List Addr) (R : MFlow → MVars → MH → Prop) (k : Nat) (V : MVars) (μ : MH) : Prop :=
  whileM (fun vs F μ => evB G Φ (.cmp (.bi .len [(.var 4)]) [.lt] [(.var 5)]) fz vs F μ) (fun vs F μ => exs G Φ X0 [Jl, Jk] fz vs F μ) R k V μ
theorem D4 {Φ : CallSpec} {fz : List Addr} {R : MFlow → MVars → MH → Prop} {k : Nat} {V : MVars} {μ : MH} {A : List Int} {la : Addr} {many : Int} (hAl : A.length ≤ 30) (hlt : ¬ (A.length : Int) < many) (v4 : V 4 = some (.ref la)) (v5 : V 5 = some (.int many)) (hm : μ la = some (.list (A.map .int))) (h : R .next V μ) : shortW G Φ fz R (k + 1) V μ := by
  refine Z7 ?_
  ((try dsimp only [Qx,Qu,Qn,Qv,Qg,Qf,Qz,X9,X8,X4,Xi,X2,Xa,X1,Qd,Qt,Qc,Qe,Ql,Xg,Q6,Qp,Qq,Qk,Qb,Qa,Q1,Qh,Q7,Q4,Q0,Q9,Q8,Q3,Q5,Qo,Qy,Qr,X5,X6,Qs,args0,X3,Xb,Xj,Xk,Xl,Xm,Qm,X7,Qi,Qj,Qw,Q2,zgz,zgs,zlc,zln,Nat.reduceAdd,kr0,kr1,kl0,kl1,kz0,v4,v5]); (try simp (discharger := decide) only [Qx,Qu,Qn,Qv,Qg,Qf,Qz,X9,X8,X4,Xi,X2,Xa,X1,Qd,Qt,Qc,Qe,Ql,Xg,Q6,Qp,Qq,Qk,Qb,Qa,Q1,Qh,Q7,Q4,Q0,Q9,Q8,Q3,Q5,Qo,Qy,Qr,X5,X6,Qs,args0,X3,Xb,Xf,Xh,Xc,Xe,Xj,Xk,Xl,Xm,Xv,Xu,Qm,X7,Xn,Xd,Qi,Qj,Qw,Q2,Xr,zoi,zel,zta,zat,zgz,zgs,zlc,zln,Nat.reduceAdd,zza,znt,zcn,MV.int.injEq,kr0,kr1,kl0,kl1,kz0,v4,v5]))
  refine Zk hm (fit (by rw [List.length_map]; exact Nat.le_trans hAl (by decide))) ?_
  rw [List.length_map]
  ((try dsimp only [Qx,Qu,Qn,Qv,Qg,Qf,Qz,X9,X8,X4,Xi,X2,Xa,X1,Qd,Qt,Qc,Qe,Ql,Xg,Q6,Qp,Qq,Qk,Qb,Qa,Q1,Qh,Q7,Q4,Q0,Q9,Q8,Q3,Q5,Qo,Qy,Qr,X5,X6,Qs,args0,X3,Xb,Xj,Xk,Xl,Xm,Qm,X7,Qi,Qj,Qw,Q2,zgz,zgs,zlc,zln,Nat.reduceAdd,kr0,kr1,kl0,kl1,kz0,v5]); (try simp (discharger := decide) only [Qx,Qu,Qn,Qv,Qg,Qf,Qz,X9,X8,X4,Xi,X2,Xa,X1,Qd,Qt,Qc,Qe,Ql,Xg,Q6,Qp,Qq,Qk,Qb,Qa,Q1,Qh,Q7,Q4,Q0,Q9,Q8,Q3,Q5,Qo,Qy,Qr,X5,X6,Qs,args0,X3,Xb,Xf,Xh,Xc,Xe,Xj,Xk,Xl,Xm,Xv,Xu,Qm,X7,Xn,Xd,Qi,Qj,Qw,Q2,Xr,zoi,zel,zta,zat,zgz,zgs,zlc,zln,Nat.reduceAdd,zza,znt,zcn,MV.int.injEq,kr0,kr1,kl0,kl1,kz0,v5]))
  rw [decide_eq_false hlt]
  simp only [Bool.false_eq_true, if_false]
  exact h
theorem Bk {d : Nat} {B : Book} {N : List Str} {b nm du : Addr} {n : Int} {fz : List Addr} {μ₁ : MH} {R : MFlow → MVars → MH → Prop} {k : Nat} {V : MVars} {μ : MH} {A : List Int} {la : Addr} {many : Int} (g : Gs G Γ) (hd : 5 ≤ d) (hB : BOk B) (hl : B.length ≤ 30) (hN : NOk N) (H : ShM B N b nm du n μ₁) (hA : A.Sublist (left0 B n)) (hlt : (A.length : Int) < many) (y : ShV b nm du n V) (v4 : V 4 = some (.ref la)) (v5 : V 5 = some (.int many)) (hx' : Ext μ₁ μ) (hm : New fz μ₁ μ la A)
    (h : ∀ V' μ' la', ShV b nm du n V' → V' 4 = some (.ref la') → V' 5 = some (.int A.length) → Ext μ₁ μ' → New fz μ₁ μ' la' (A.foldl (rm1 (tstN B n N)) A) → shortW G (calls G Γ d) fz R k V' μ') : shortW G (calls G Γ d) fz R (k + 1) V μ := by
  have hAl : A.length ≤ 30 := Nat.le_trans hA.length_le (Nat.le_trans Ko hl)
  refine Z7 ?_
  ((try dsimp only [Qx,Qu,Qn,Qv,Qg,Qf,Qz,X9,X8,X4,Xi,X2,Xa,X1,Qd,Qt,Qc,Qe,Ql,Xg,Q6,Qp,Qq,Qk,Qb,Qa,Q1,Qh,Q7,Q4,Q0,Q9,Q8,Q3,Q5,Qo,Qy,Qr,X5,X6,Qs,args0,X3,Xb,Xj,Xk,Xl,Xm,Qm,X7,Qi,Qj,Qw,Q2,zgz,zgs,zlc,zln,Nat.reduceAdd,kr0,kr1,kl0,kl1,kz0,v4,v5]); (try simp (discharger := decide) only [Qx,Qu,Qn,Qv,Qg,Qf,Qz,X9,X8,X4,Xi,X2,Xa,X1,Qd,Qt,Qc,Qe,Ql,Xg,Q6,Qp,Qq,Qk,Qb,Qa,Q1,Qh,Q7,Q4,Q0,Q9,Q8,Q3,Q5,Qo,Qy,Qr,X5,X6,Qs,args0,X3,Xb,Xf,Xh,Xc,Xe,Xj,Xk,Xl,Xm,Xv,Xu,Qm,X7,Xn,Xd,Qi,Qj,Qw,Q2,Xr,zoi,zel,zta,zat,zgz,zgs,zlc,zln,Nat.reduceAdd,zza,znt,zcn,MV.int.injEq,kr0,kr1,kl0,kl1,kz0,v4,v5]))
  refine Zk hm.is (fit (by rw [List.length_map]; exact Nat.le_trans hAl (by decide))) ?_
  rw [List.length_map]
  ((try dsimp only [Qx,Qu,Qn,Qv,Qg,Qf,Qz,X9,X8,X4,Xi,X2,Xa,X1,Qd,Qt,Qc,Qe,Ql,Xg,Q6,Qp,Qq,Qk,Qb,Qa,Q1,Qh,Q7,Q4,Q0,Q9,Q8,Q3,Q5,Qo,Qy,Qr,X5,X6,Qs,args0,X3,Xb,Xj,Xk,Xl,Xm,Qm,X7,Qi,Qj,Qw,Q2,zgz,zgs,zlc,zln,Nat.reduceAdd,kr0,kr1,kl0,kl1,kz0,v5]); (try simp (discharger := decide) only [Qx,Qu,Qn,Qv,Qg,Qf,Qz,X9,X8,X4,Xi,X2,Xa,X1,Qd,Qt,Qc,Qe,Ql,Xg,Q6,Qp,Qq,Qk,Qb,Qa,Q1,Qh,Q7,Q4,Q0,Q9,Q8,Q3,Q5,Qo,Qy,Qr,X5,X6,Qs,args0,X3,Xb,Xf,Xh,Xc,Xe,Xj,Xk,Xl,Xm,Xv,Xu,Qm,X7,Xn,Xd,Qi,Qj,Qw,Q2,Xr,zoi,zel,zta,zat,zgz,zgs,zlc,zln,Nat.reduceAdd,zza,znt,zcn,MV.int.injEq,kr0,kr1,kl0,kl1,kz0,v5]))
  rw [decide_eq_true hlt]
  simp only [if_true]
  refine seq ?_
  ((try dsimp only [Jl,Qx,Qu,Qn,Qv,Qg,Qf,Qz,X9,X8,X4,Xi,X2,Xa,X1,Qd,Qt,Qc,Qe,Ql,Xg,Q6,Qp,Qq,Qk,Qb,Qa,Q1,Qh,Q7,Q4,Q0,Q9,Q8,Q3,Q5,Qo,Qy,Qr,X5,X6,Qs,args0,X3,Xb,Xj,Xk,Xl,Xm,Qm,X7,Qi,Qj,Qw,Q2,zgz,zgs,zlc,zln,Nat.reduceAdd,kr0,kr1,kl0,kl1,kz0,v4]); (try simp (discharger := decide) only [Jl,Qx,Qu,Qn,Qv,Qg,Qf,Qz,X9,X8,X4,Xi,X2,Xa,X1,Qd,Qt,Qc,Qe,Ql,Xg,Q6,Qp,Qq,Qk,Qb,Qa,Q1,Qh,Q7,Q4,Q0,Q9,Q8,Q3,Q5,Qo,Qy,Qr,X5,X6,Qs,args0,X3,Xb,Xf,Xh,Xc,Xe,Xj,Xk,Xl,Xm,Xv,Xu,Qm,X7,Xn,Xd,Qi,Qj,Qw,Q2,Xr,zoi,zel,zta,zat,zgz,zgs,zlc,zln,Nat.reduceAdd,zza,znt,zcn,MV.int.injEq,kr0,kr1,kl0,kl1,kz0,v4]))
  refine Zk hm.is (fit (by rw [List.length_map]; exact Nat.le_trans hAl (by decide))) ?_
  rw [List.length_map]
  replace y := y.set (i := 5) (by decide) (.int A.length)
  replace v4 : setv V 5 (.int A.length) 4 = some (.ref la) := (Xd (by first | exact nei h rfl | decide)).trans v4
  replace v5 : setv V 5 (.int A.length) 5 = some (.int A.length) := Xn
  clear hlt many
  generalize setv V 5 (.int A.length) = V at y v4 v5 ⊢
  (try simp only [kr0, kr1, kl0, kl1, kz0])
  refine seq ?_
  ((try dsimp only [Jk,Qx,Qu,Qn,Qv,Qg,Qf,Qz,X9,X8,X4,Xi,X2,Xa,X1,Qd,Qt,Qc,Qe,Ql,Xg,Q6,Qp,Qq,Qk,Qb,Qa,Q1,Qh,Q7,Q4,Q0,Q9,Q8,Q3,Q5,Qo,Qy,Qr,X5,X6,Qs,args0,X3,Xb,Xj,Xk,Xl,Xm,Qm,X7,Qi,Qj,Qw,Q2,zgz,zgs,zlc,zln,Nat.reduceAdd,kr0,kr1,kl0,kl1,kz0,v4]); (try simp (discharger := decide) only [Jk,Qx,Qu,Qn,Qv,Qg,Qf,Qz,X9,X8,X4,Xi,X2,Xa,X1,Qd,Qt,Qc,Qe,Ql,Xg,Q6,Qp,Qq,Qk,Qb,Qa,Q1,Qh,Q7,Q4,Q0,Q9,Q8,Q3,Q5,Qo,Qy,Qr,X5,X6,Qs,args0,X3,Xb,Xf,Xh,Xc,Xe,Xj,Xk,Xl,Xm,Xv,Xu,Qm,X7,Xn,Xd,Qi,Qj,Qw,Q2,Xr,zoi,zel,zta,zat,zgz,zgs,zlc,zln,Nat.reduceAdd,zza,znt,zcn,MV.int.injEq,kr0,kr1,kl0,kl1,kz0,v4]))
  refine ⟨A.map .int, rfl, by simp only [items, itemsO, keysO, valsO, hm.is], fit (by rw [List.length_map]; exact Nat.le_trans hAl (by decide)), fun c hc hcz => ?_⟩
  refine ⟨.val (.ref c), A.map .int, rfl, by simp only [Src.items, items, itemsO, keysO, valsO, Yh], fit (by rw [List.length_map]; exact Nat.le_trans hAl (by decide)), ?_⟩
  have x₁ := Ext.upd (o := .list (A.map .int)) hc
  refine D3 g hd hB hl hN H (fun a m => List.mem_append_right _ m) A V _ A la A.length hA y v4 v5 (hx'.trans x₁) (hm.ext x₁) fun V' μ' la' y' v4' v5' k' hm' => ?_
  (try simp only [kr0, kr1, kl0, kl1, kz0])
  exact Zm (h V' μ' la' y' v4' v5' k' hm')
theorem short_while {d : Nat} {B : Book} {N : List Str} {b nm du : Addr} {n : Int} {fz : List Addr} {μ₁ : MH} {R : MFlow → MVars → MH → Prop} (g : Gs G Γ) (hd : 5 ≤ d) (hB : BOk B) (hl : B.length ≤ 30) (hN : NOk N) (H : ShM B N b nm du n μ₁) {m : Nat} :
    ∀ {V : MVars} {μ : MH} {A : List Int} {la : Addr} {many : Int}, A.Sublist (left0 B n) → A.length ≤ m → (A.length : Int) < many → ShV b nm du n V → V 4 = some (.ref la) → V 5 = some (.int many) → Ext μ₁ μ → New fz μ₁ μ la A →
      (∀ V' μ' la', ShV b nm du n V' → V' 4 = some (.ref la') → Ext μ₁ μ' → New fz μ₁ μ' la' (fixL (tstN B n N) (m + 1) A) → R .next V' μ') → shortW G (calls G Γ d) fz R (m + 2) V μ := by
  induction m with
  | zero =>
    intro V μ A la many hA hAm hlt y v4 v5 hx' hm h
    refine Bk g hd hB hl hN H hA hlt y v4 v5 hx' hm fun V' μ' la' y' v4' v5' k' hm' => ?_
    obtain rfl := List.length_eq_zero_iff.mp (Nat.le_zero.mp hAm)
    exact D4 (A := []) (by decide) (by decide) v4' v5' hm'.is (h V' μ' la' y' v4' k' hm')
  | succ m ih =>
    intro V μ A la many hA hAm hlt y v4 v5 hx' hm h
    refine Bk g hd hB hl hN H hA hlt y v4 v5 hx' hm fun V' μ' la' y' v4' v5' k' hm' => ?_
    have hA' : (A.foldl (rm1 (tstN B n N)) A).Sublist A := Vx
    have hf : fixL (tstN B n N) (m + 1 + 1) A = if (A.foldl (rm1 (tstN B n N)) A).length < A.length then fixL (tstN B n N) (m + 1) (A.foldl (rm1 (tstN B n N)) A) else A.foldl (rm1 (tstN B n N)) A := rfl
    rw [hf] at h
    generalize A.foldl (rm1 (tstN B n N)) A = A' at hA' hm' h
    by_cases q : A'.length < A.length
    · rw [if_pos q] at h
      exact ih (hA'.trans hA) (Nat.le_of_lt_succ (Nat.lt_of_lt_of_le q hAm)) (Int.ofNat_lt.mpr q) y' v4' v5' k' hm' h
    · rw [if_neg q] at h
      exact D4 (Nat.le_trans hA'.length_le (Nat.le_trans hA.length_le (Nat.le_trans Ko hl))) (fun c => q (Int.ofNat_lt.mp c)) v4' v5' hm'.is (h V' μ' la' y' v4' k' hm')
end Mine
end
section
namespace Mine
open PySem
variable {G : String → Option MV} {Γ : String → Option MFun}
noncomputable def Ent.word : Ent → Str
  | .undo _ => S "undo"
  | .clear _ _ _ => S "clear"
  | .like _ _ _ _ => S "like"
  | .tell _ _ _ _ => S "tell"
noncomputable def Ent.snd : Ent → MV
  | .undo j => .int j
  | .clear nm _ _ => .str nm
  | .like nm _ _ _ => .str nm
  | .tell nm _ _ _ => .str nm
theorem B0 {μ : MH} {e : Ent} : idxM μ e.mv (.int 0) = some (.str e.word) := by
  cases e with
  | undo j => exact Yz
  | clear nm lo hi => exact Yx
  | like nm lo hi nm' => exact Yu
  | tell nm lo hi v => exact Yu
theorem ent_1 {μ : MH} {e : Ent} : idxM μ e.mv (.int 1) = some e.snd := by
  cases e with
  | undo j => exact Ys
  | clear nm lo hi => exact Yw
  | like nm lo hi nm' => exact Yt
  | tell nm lo hi v => exact Yt
theorem F6 {μ : MH} {e : Ent} : cmpM .ne μ (.str e.word) (.str (S "undo")) = some e.nu := by
  cases e with
  | undo j => exact Yb
  | clear nm lo hi => exact Y0
  | like nm lo hi nm' => exact Yd
  | tell nm lo hi v => exact Yc
theorem names_snd (B : Book) : (B.filter fun p => p.2.nu).map (fun p => p.2.snd) = (entNames B).map .str := by
  unfold entNames
  induction B with
  | nil => rfl
  | cons p B ih =>
    obtain ⟨k, e⟩ := p
    cases e with
    | undo j => exact ih
    | clear nm lo hi => exact congrArg (MV.str nm :: ·) ih
    | like nm lo hi nm' => exact congrArg (MV.str nm :: ·) ih
    | tell nm lo hi v => exact congrArg (MV.str nm :: ·) ih
theorem names_ok {B : Book} (hB : BOk B) : ∀ x ∈ entNames B, PyData.strOk x = true := fun x hx => by
  obtain ⟨⟨k, e⟩, hp, hs⟩ := List.mem_filterMap.mp hx
  have ok := hB.ok _ hp
  cases e with
  | undo j => cases hs
  | clear nm lo hi => cases hs; exact ok
  | like nm lo hi nm' => cases hs; exact ok.1
  | tell nm lo hi v => cases hs; exact ok
theorem Dh (B : Book) : (entNames B).length ≤ B.length := List.length_filterMap_le ..
theorem keys_map {B : Book} : (Book.mv B).map (fun kv => MV.int kv.1) = B.map fun p => MV.int p.1 := by
  unfold Book.mv
  rw [List.map_map]; rfl
theorem Bj {d : Nat} {B : Book} {b : Addr} {n : Int} {fz : List Addr} {Q : MQ} {μ : MH} (g : Gs G Γ) (hΓ : Γ "shortened" = some Oa) (hd : 7 ≤ d) (hB : BOk B) (hl : B.length ≤ 30) (hn : maxI (0 :: B.keys) = some n) (hb : μ b = some (.idict (Book.mv B)))
    (h : ∀ (c : Addr) (μ' : MH), Ext μ μ' → μ c = none → c ∉ fz → μ' c = some (.idict (Book.mv (Sub B (shortL B n)))) → Q (.ref c) μ') : calls G Γ d "shortened" [.ref b] fz Q X0 μ := by
  have look : ∀ {μ' : MH} {p : Int × Ent}, μ' b = some (.idict (Book.mv B)) → p ∈ B → idxM μ' (.ref b) (.int p.1) = some p.2.mv := fun hb' hp => by rw [N8 hb', Book.look, Book.at_mem hB.nodup hp]; rfl
  have hkl : B.keys.length ≤ 30 := Nat.le_trans (Nat.le_of_eq (List.length_map _)) hl
  refine Z2 hΓ rfl (by first|exact dn hd rfl|exact dl hd rfl|omega) (seq ?_)
  ((try dsimp only [Vd,Qx,Qu,Qn,Qv,Qg,Qf,Qz,X9,X8,X4,Xi,X2,Xa,X1,Qd,Qt,Qc,Qe,Ql,Xg,Q6,Qp,Qq,Qk,Qb,Qa,Q1,Qh,Q7,Q4,Q0,Q9,Q8,Q3,Q5,Qo,Qy,Qr,X5,X6,Qs,args0,X3,Xb,Xj,Xk,Xl,Xm,Qm,X7,Qi,Qj,Qw,Q2,zgz,zgs,zlc,zln,Nat.reduceAdd,kr0,kr1,kl0,kl1,kz0]); (try simp (discharger := decide) only [Vd,Qx,Qu,Qn,Qv,Qg,Qf,Qz,X9,X8,X4,Xi,X2,Xa,X1,Qd,Qt,Qc,Qe,Ql,Xg,Q6,Qp,Qq,Qk,Qb,Qa,Q1,Qh,Q7,Q4,Q0,Q9,Q8,Q3,Q5,Qo,Qy,Qr,X5,X6,Qs,args0,X3,Xb,Xf,Xh,Xc,Xe,Xj,Xk,Xl,Xm,Xv,Xu,Qm,X7,Xn,Xd,Qi,Qj,Qw,Q2,Xr,zoi,zel,zta,zat,zgz,zgs,zlc,zln,Nat.reduceAdd,zza,znt,zcn,MV.int.injEq,kr0,kr1,kl0,kl1,kz0]))
  intro c₁ hc₁ _
  have x₁ := Ext.upd (o := .list [.int 0]) hc₁
  have hb₁ := x₁ _ _ hb
  refine ⟨Ua hb₁, Ua hb₁, ?_⟩
  have hm₁ : upd μ c₁ (.list [.int 0]) c₁ = some (.list [.int 0]) := Yh
  generalize upd μ c₁ (.list [.int 0]) = μ₁ at x₁ hb₁ hm₁ ⊢
  refine ⟨B.keys.map .int, rfl, by simp only [items, itemsO, keysO, valsO, hb₁, ← Book.mv_keys, List.map_map]; rfl, fit (by rw [List.length_map]; exact Nat.le_trans hkl (by decide)), fun c₂ hc₂ _ => ?_⟩
  have x₂ := Ext.upd (o := .list (B.keys.map .int)) hc₂
  refine Cg (x₂ _ _ hm₁) Yh (fit (by rw [List.length_map]; exact Nat.le_trans (Nat.add_le_add_left hkl 1) (by decide))) fun c₃ hc₃ _ => ?_
  have x₃ := x₁.trans (x₂.trans (Ext.upd (o := .list ([MV.int 0] ++ B.keys.map .int)) hc₃))
  refine ⟨(0 :: B.keys).map .int, 0 :: B.keys, n, rfl, by simp only [items, itemsO, keysO, valsO, Yh]; rfl, K6 _, fit (by rw [List.length_map]; exact Nat.le_trans (Nat.succ_le_succ hkl) (by decide)), hn, ?_⟩
  generalize upd (upd μ₁ c₂ (.list (B.keys.map .int))) c₃ (.list ([MV.int 0] ++ B.keys.map .int)) = μ₃ at x₃ ⊢
  have hb₃ := x₃ _ _ hb
  clear x₁ x₂ hb₁ hm₁ hc₃ hc₂ μ₁
  refine seq ?_
  rw [P6, Q3, Xg]
  refine Fr (Ki (Pl (v := .ref b) rfl ⟨.val (.ref b), B.map fun p => .int p.1, rfl, by simp only [Src.items, items, itemsO, keysO, valsO, hb₃, keys_map], fit (by rw [List.length_map]; exact Nat.le_trans hl (by decide)), ?_⟩))
  refine Ox (fun p : Int × Ent => MV.int p.1) (fun p => p.2.nu) (fun p => p.2.snd) (fun p hp => ?_) fun c₄ hc₄ _ => ?_
  · refine ⟨_, rfl, fun F hF => ?_, fun F hF => ?_⟩
    · ((try dsimp only [Qx,Qu,Qn,Qv,Qg,Qf,Qz,X9,X8,X4,Xi,X2,Xa,X1,Qd,Qt,Qc,Qe,Ql,Xg,Q6,Qp,Qq,Qk,Qb,Qa,Q1,Qh,Q7,Q4,Q0,Q9,Q8,Q3,Q5,Qo,Qy,Qr,X5,X6,Qs,args0,X3,Xb,Xj,Xk,Xl,Xm,Qm,X7,Qi,Qj,Qw,Q2,zgz,zgs,zlc,zln,Nat.reduceAdd,kr0,kr1,kl0,kl1,kz0,look hb₃ hp,B0]); (try simp (discharger := decide) only [Qx,Qu,Qn,Qv,Qg,Qf,Qz,X9,X8,X4,Xi,X2,Xa,X1,Qd,Qt,Qc,Qe,Ql,Xg,Q6,Qp,Qq,Qk,Qb,Qa,Q1,Qh,Q7,Q4,Q0,Q9,Q8,Q3,Q5,Qo,Qy,Qr,X5,X6,Qs,args0,X3,Xb,Xf,Xh,Xc,Xe,Xj,Xk,Xl,Xm,Xv,Xu,Qm,X7,Xn,Xd,Qi,Qj,Qw,Q2,Xr,zoi,zel,zta,zat,zgz,zgs,zlc,zln,Nat.reduceAdd,zza,znt,zcn,MV.int.injEq,kr0,kr1,kl0,kl1,kz0,look hb₃ hp,B0]))
      exact ⟨_, F6, hF⟩
    · ((try dsimp only [Qx,Qu,Qn,Qv,Qg,Qf,Qz,X9,X8,X4,Xi,X2,Xa,X1,Qd,Qt,Qc,Qe,Ql,Xg,Q6,Qp,Qq,Qk,Qb,Qa,Q1,Qh,Q7,Q4,Q0,Q9,Q8,Q3,Q5,Qo,Qy,Qr,X5,X6,Qs,args0,X3,Xb,Xj,Xk,Xl,Xm,Qm,X7,Qi,Qj,Qw,Q2,zgz,zgs,zlc,zln,Nat.reduceAdd,kr0,kr1,kl0,kl1,kz0,look hb₃ hp,ent_1]); (try simp (discharger := decide) only [Qx,Qu,Qn,Qv,Qg,Qf,Qz,X9,X8,X4,Xi,X2,Xa,X1,Qd,Qt,Qc,Qe,Ql,Xg,Q6,Qp,Qq,Qk,Qb,Qa,Q1,Qh,Q7,Q4,Q0,Q9,Q8,Q3,Q5,Qo,Qy,Qr,X5,X6,Qs,args0,X3,Xb,Xf,Xh,Xc,Xe,Xj,Xk,Xl,Xm,Xv,Xu,Qm,X7,Xn,Xd,Qi,Qj,Qw,Q2,Xr,zoi,zel,zta,zat,zgz,zgs,zlc,zln,Nat.reduceAdd,zza,znt,zcn,MV.int.injEq,kr0,kr1,kl0,kl1,kz0,look hb₃ hp,ent_1]))
      exact hF
  rw [List.nil_append, names_snd]
  have x₄ := x₃.trans (Ext.upd (o := .list ((entNames B).map .str)) hc₄)
  refine ⟨_, entNames B, K5 Yh, P7 _, by rw [List.length_map]; exact Nat.lt_of_le_of_lt (Nat.le_trans (Dh B) hl) (by decide), fun N hN nm hnm _ => ?_⟩
  have hNm : ∀ x, x ∈ N ↔ x ∈ entNames B := fun x => hN.mem_iff.trans ddup_mem
  have hNo : NOk N := ⟨Nat.le_trans (Nat.le_of_eq hN.length_eq) (Nat.le_trans (A4 _) (Nat.le_trans (Dh B) (Nat.le_trans hl (by decide)))), fun x hx => names_ok hB x ((hNm x).mp hx)⟩
  have x₅ := x₄.trans (Ext.upd (o := .list (N.map .str)) hnm)
  have hm₅ : upd (upd μ₃ c₄ (.list ((entNames B).map .str))) nm (.list (N.map .str)) nm = some (.list (N.map .str)) := Yh
  show kr G (calls G Γ (d - 1)) X0 [U2, Vc, Ji, U1, Zz] fz (kz Q) .next _ (upd (upd μ₃ c₄ (.list ((entNames B).map .str))) nm (.list (N.map .str)))
  generalize upd (upd μ₃ c₄ (.list ((entNames B).map .str))) nm (.list (N.map .str)) = μ₅ at x₅ hm₅ ⊢
  clear x₃ x₄ hb₃ hc₄ hnm μ₃
  refine seq ?_
  ((try dsimp only [U2,Qx,Qu,Qn,Qv,Qg,Qf,Qz,X9,X8,X4,Xi,X2,Xa,X1,Qd,Qt,Qc,Qe,Ql,Xg,Q6,Qp,Qq,Qk,Qb,Qa,Q1,Qh,Q7,Q4,Q0,Q9,Q8,Q3,Q5,Qo,Qy,Qr,X5,X6,Qs,args0,X3,Xb,Xj,Xk,Xl,Xm,Qm,X7,Qi,Qj,Qw,Q2,zgz,zgs,zlc,zln,Nat.reduceAdd,kr0,kr1,kl0,kl1,kz0]); (try simp (discharger := decide) only [U2,Qx,Qu,Qn,Qv,Qg,Qf,Qz,X9,X8,X4,Xi,X2,Xa,X1,Qd,Qt,Qc,Qe,Ql,Xg,Q6,Qp,Qq,Qk,Qb,Qa,Q1,Qh,Q7,Q4,Q0,Q9,Q8,Q3,Q5,Qo,Qy,Qr,X5,X6,Qs,args0,X3,Xb,Xf,Xh,Xc,Xe,Xj,Xk,Xl,Xm,Xv,Xu,Qm,X7,Xn,Xd,Qi,Qj,Qw,Q2,Xr,zoi,zel,zta,zat,zgz,zgs,zlc,zln,Nat.reduceAdd,zza,znt,zcn,MV.int.injEq,kr0,kr1,kl0,kl1,kz0]))
  refine P1 g.day g.about g.worth g.cnt g.beg g.str g.runs g.state (by first|exact dn hd rfl|exact dl hd rfl|omega) hB hl (x₅ _ _ hb) hm₅ hNo.len hNo.ok fun du μ₆ x₆ hdu => ?_
  replace hm₅ := x₆ _ _ hm₅
  replace x₆ := x₅.trans x₆
  have hb₆ := x₆ _ _ hb
  clear x₅
  refine seq ?_
  rw [Vc, Q3]
  refine Ki ?_
  ((try dsimp only [Ql,Qb,Qk,Qx]); (try simp (discharger := decide) only [Ql,Qb,Qk,Qx,Xn,Xd,zoi,zel]))
  refine ⟨_, rfl, ?_⟩
  refine Vq g.cnt (by first|exact dn hd rfl|exact dl hd rfl|omega) hB.nodup' (by rw [Book.mv_len]; exact Nat.lt_of_le_of_lt hl (by decide)) hB.ent hb₆ fun c₇ μ₇ x₇ _ _ hm₇ => ?_
  have hb₇ := x₇ _ _ hb₆
  have hcl : (cntOf (Book.mv B) n).length ≤ 30 := Nat.le_trans (A5 _ _) (by rw [Book.mv_len]; exact hl)
  refine ⟨.val (.ref c₇), (cntOf (Book.mv B) n).map .int, rfl, by simp only [Src.items, items, itemsO, keysO, valsO, hm₇], fit (by rw [List.length_map]; exact Nat.le_trans hcl (by decide)), ?_⟩
  refine Ox MV.int (nuAt B) MV.int (fun k hk => ?_) fun c₈ hc₈ hz₈ => ?_
  · obtain ⟨e, he⟩ := Book.at_key (Uf hk)
    have hlk := look hb₇ (Book.at_some he)
    refine ⟨_, rfl, fun F hF => ?_, fun F hF => ?_⟩
    · ((try dsimp only [Qx,Qu,Qn,Qv,Qg,Qf,Qz,X9,X8,X4,Xi,X2,Xa,X1,Qd,Qt,Qc,Qe,Ql,Xg,Q6,Qp,Qq,Qk,Qb,Qa,Q1,Qh,Q7,Q4,Q0,Q9,Q8,Q3,Q5,Qo,Qy,Qr,X5,X6,Qs,args0,X3,Xb,Xj,Xk,Xl,Xm,Qm,X7,Qi,Qj,Qw,Q2,zgz,zgs,zlc,zln,Nat.reduceAdd,kr0,kr1,kl0,kl1,kz0,hlk,B0]); (try simp (discharger := decide) only [Qx,Qu,Qn,Qv,Qg,Qf,Qz,X9,X8,X4,Xi,X2,Xa,X1,Qd,Qt,Qc,Qe,Ql,Xg,Q6,Qp,Qq,Qk,Qb,Qa,Q1,Qh,Q7,Q4,Q0,Q9,Q8,Q3,Q5,Qo,Qy,Qr,X5,X6,Qs,args0,X3,Xb,Xf,Xh,Xc,Xe,Xj,Xk,Xl,Xm,Xv,Xu,Qm,X7,Xn,Xd,Qi,Qj,Qw,Q2,Xr,zoi,zel,zta,zat,zgz,zgs,zlc,zln,Nat.reduceAdd,zza,znt,zcn,MV.int.injEq,kr0,kr1,kl0,kl1,kz0,hlk,B0]))
      unfold nuAt at hF
      rw [he] at hF
      exact ⟨_, F6, hF⟩
    · ((try dsimp only [Qx,Qu,Qn,Qv,Qg,Qf,Qz,X9,X8,X4,Xi,X2,Xa,X1,Qd,Qt,Qc,Qe,Ql,Xg,Q6,Qp,Qq,Qk,Qb,Qa,Q1,Qh,Q7,Q4,Q0,Q9,Q8,Q3,Q5,Qo,Qy,Qr,X5,X6,Qs,args0,X3,Xb,Xj,Xk,Xl,Xm,Qm,X7,Qi,Qj,Qw,Q2,zgz,zgs,zlc,zln,Nat.reduceAdd,kr0,kr1,kl0,kl1,kz0]); (try simp (discharger := decide) only [Qx,Qu,Qn,Qv,Qg,Qf,Qz,X9,X8,X4,Xi,X2,Xa,X1,Qd,Qt,Qc,Qe,Ql,Xg,Q6,Qp,Qq,Qk,Qb,Qa,Q1,Qh,Q7,Q4,Q0,Q9,Q8,Q3,Q5,Qo,Qy,Qr,X5,X6,Qs,args0,X3,Xb,Xf,Xh,Xc,Xe,Xj,Xk,Xl,Xm,Xv,Xu,Qm,X7,Xn,Xd,Qi,Qj,Qw,Q2,Xr,zoi,zel,zta,zat,zgz,zgs,zlc,zln,Nat.reduceAdd,zza,znt,zcn,MV.int.injEq,kr0,kr1,kl0,kl1,kz0]))
      exact hF
  rw [List.nil_append]
  have x₈ := x₆.trans x₇
  have H : ShM B N b nm du n μ₇ := ⟨hb₇, x₇ _ _ hm₅, hdu.ext x₇⟩
  have hm₈ : New fz μ₇ (upd μ₇ c₈ (.list ((left0 B n).map .int))) c₈ (left0 B n) := .of Ext.refl hc₈ hz₈
  have x₉ := Ext.upd (o := .list ((left0 B n).map .int)) hc₈
  show kr G (calls G Γ (d - 1)) X0 [Ji, U1, Zz] fz (kz Q) .next _ (upd μ₇ c₈ (.list ((left0 B n).map .int)))
  generalize upd μ₇ c₈ (.list ((left0 B n).map .int)) = μ₈ at hm₈ x₉ ⊢
  have hul : (left0 B n).length ≤ 30 := Nat.le_trans Ko hl
  refine seq ?_
  ((try dsimp only [Ji,Qx,Qu,Qn,Qv,Qg,Qf,Qz,X9,X8,X4,Xi,X2,Xa,X1,Qd,Qt,Qc,Qe,Ql,Xg,Q6,Qp,Qq,Qk,Qb,Qa,Q1,Qh,Q7,Q4,Q0,Q9,Q8,Q3,Q5,Qo,Qy,Qr,X5,X6,Qs,args0,X3,Xb,Xj,Xk,Xl,Xm,Qm,X7,Qi,Qj,Qw,Q2,zgz,zgs,zlc,zln,Nat.reduceAdd,kr0,kr1,kl0,kl1,kz0]); (try simp (discharger := decide) only [Ji,Qx,Qu,Qn,Qv,Qg,Qf,Qz,X9,X8,X4,Xi,X2,Xa,X1,Qd,Qt,Qc,Qe,Ql,Xg,Q6,Qp,Qq,Qk,Qb,Qa,Q1,Qh,Q7,Q4,Q0,Q9,Q8,Q3,Q5,Qo,Qy,Qr,X5,X6,Qs,args0,X3,Xb,Xf,Xh,Xc,Xe,Xj,Xk,Xl,Xm,Xv,Xu,Qm,X7,Xn,Xd,Qi,Qj,Qw,Q2,Xr,zoi,zel,zta,zat,zgz,zgs,zlc,zln,Nat.reduceAdd,zza,znt,zcn,MV.int.injEq,kr0,kr1,kl0,kl1,kz0]))
  refine Zk hm₈.is (fit (by rw [List.length_map]; exact Nat.le_trans hul (by decide))) ?_
  rw [List.length_map]
  ((try dsimp only [Qx,Qu,Qn,Qv,Qg,Qf,Qz,X9,X8,X4,Xi,X2,Xa,X1,Qd,Qt,Qc,Qe,Ql,Xg,Q6,Qp,Qq,Qk,Qb,Qa,Q1,Qh,Q7,Q4,Q0,Q9,Q8,Q3,Q5,Qo,Qy,Qr,X5,X6,Qs,args0,X3,Xb,Xj,Xk,Xl,Xm,Qm,X7,Qi,Qj,Qw,Q2,zgz,zgs,zlc,zln,Nat.reduceAdd,kr0,kr1,kl0,kl1,kz0]); (try simp (discharger := decide) only [Qx,Qu,Qn,Qv,Qg,Qf,Qz,X9,X8,X4,Xi,X2,Xa,X1,Qd,Qt,Qc,Qe,Ql,Xg,Q6,Qp,Qq,Qk,Qb,Qa,Q1,Qh,Q7,Q4,Q0,Q9,Q8,Q3,Q5,Qo,Qy,Qr,X5,X6,Qs,args0,X3,Xb,Xf,Xh,Xc,Xe,Xj,Xk,Xl,Xm,Xv,Xu,Qm,X7,Xn,Xd,Qi,Qj,Qw,Q2,Xr,zoi,zel,zta,zat,zgz,zgs,zlc,zln,Nat.reduceAdd,zza,znt,zcn,MV.int.injEq,kr0,kr1,kl0,kl1,kz0]))
  have fin : ∀ V : MVars, ShV b nm du n V → V 4 = some (.ref c₈) → V 5 = some (.int ((left0 B n).length + 1)) → exs G (calls G Γ (d - 1)) X0 [U1, Zz] fz V (kz Q) μ₈ := fun V y v4 v5 => by
    refine seq ?_
    refine ⟨42, short_while (m := 40) g (by first|exact dn hd rfl|exact dl hd rfl|omega) hB hl hNo H (.refl _) (Nat.le_trans hul (by decide)) (Int.lt_succ _) y v4 v5 x₉ hm₈ fun V' μ' la' y' v4' k' hm' => ?_⟩
    (try simp only [kr0, kr1, kl0, kl1, kz0])
    refine seq ?_
    ((try dsimp only [Zz,Qx,Qu,Qn,Qv,Qg,Qf,Qz,X9,X8,X4,Xi,X2,Xa,X1,Qd,Qt,Qc,Qe,Ql,Xg,Q6,Qp,Qq,Qk,Qb,Qa,Q1,Qh,Q7,Q4,Q0,Q9,Q8,Q3,Q5,Qo,Qy,Qr,X5,X6,Qs,args0,X3,Xb,Xj,Xk,Xl,Xm,Qm,X7,Qi,Qj,Qw,Q2,zgz,zgs,zlc,zln,Nat.reduceAdd,kr0,kr1,kl0,kl1,kz0,y'.v0,v4']); (try simp (discharger := decide) only [Zz,Qx,Qu,Qn,Qv,Qg,Qf,Qz,X9,X8,X4,Xi,X2,Xa,X1,Qd,Qt,Qc,Qe,Ql,Xg,Q6,Qp,Qq,Qk,Qb,Qa,Q1,Qh,Q7,Q4,Q0,Q9,Q8,Q3,Q5,Qo,Qy,Qr,X5,X6,Qs,args0,X3,Xb,Xf,Xh,Xc,Xe,Xj,Xk,Xl,Xm,Xv,Xu,Qm,X7,Xn,Xd,Qi,Qj,Qw,Q2,Xr,zoi,zel,zta,zat,zgz,zgs,zlc,zln,Nat.reduceAdd,zza,znt,zcn,MV.int.injEq,kr0,kr1,kl0,kl1,kz0,y'.v0,v4']))
    have hL : fixL (tstN B n N) 41 (left0 B n) = shortL B n := by unfold shortL; rw [tstN_perm hNm]
    have hLs : (shortL B n).Sublist (left0 B n) := fix_sub
    have hm' := hm'.is
    rw [hL] at hm'
    refine sub_new g.book (by first|exact dn hd rfl|exact dl hd rfl|omega) (fun k hk => (Kn (hLs.subset hk)).1) ((O4 (O5 hB)).sublist hLs) (Nat.le_trans hLs.length_le (Nat.le_trans hul (by decide))) (k' _ _ hb₇) hm' fun c μ'' x'' hc hz hm => ?_
    have xx := x₈.trans k'
    exact h c μ'' (xx.trans x'') (Fj xx hc) hz hm
  exact fin _ ⟨rfl, rfl, rfl, rfl⟩ rfl rfl
end Mine
end
section
namespace Mine
open PySem
variable {G : String → Option MV} {Γ : String → Option MFun}
structure Later (B M : Book) (last : Int) : Prop where
  le : ∀ k ∈ B.keys, k ≤ last
  gt : ∀ k ∈ M.keys, last < k
  undo : ∀ p ∈ M, ∀ j, p.2 = .undo j → last < j
theorem at_left {B M : Book} {k : Int} (h : k ∈ B.keys) : Book.at (B ++ M) k = Book.at B k := by
  obtain ⟨e, he⟩ := Book.at_key h
  unfold Book.at at he ⊢
  obtain ⟨p, hp, _⟩ := Option.map_eq_some_iff.mp he
  rw [List.find?_append, hp]; rfl
theorem at_right {B M : Book} {k : Int} (h : k ∉ B.keys) : Book.at (B ++ M) k = Book.at M k := by
  have e : B.find? (fun p => p.1 = k) = none := List.find?_eq_none.mpr fun p hp q => h (of_decide_eq_true q ▸ List.mem_map_of_mem hp)
  unfold Book.at
  rw [List.find?_append, e]; rfl
noncomputable def undF (kvs : List (Int × MV)) (n : Int) : List Int → List Int → List Int
  | [], u => u
  | k :: ks, u => if k ≤ n ∧ k ∉ u then undF kvs n ks (match undoAt kvs k with | some j => j :: u | none => u) else undF kvs n ks u
theorem cntF_append {kvs : List (Int × MV)} {n : Int} {ys : List Int} {xs : List Int} : ∀ {u : List Int}, cntF kvs n (xs ++ ys) u = cntF kvs n xs u ++ cntF kvs n ys (undF kvs n xs u) := by
  induction xs with
  | nil => exact rfl
  | cons k xs ih =>
    intro u
    show (if k ≤ n ∧ k ∉ u then k :: cntF kvs n (xs ++ ys) (match undoAt kvs k with | some j => j :: u | none => u) else cntF kvs n (xs ++ ys) u) = (if k ≤ n ∧ k ∉ u then k :: cntF kvs n xs (match undoAt kvs k with | some j => j :: u | none => u) else cntF kvs n xs u) ++ cntF kvs n ys (if k ≤ n ∧ k ∉ u then undF kvs n xs (match undoAt kvs k with | some j => j :: u | none => u) else undF kvs n xs u)
    by_cases q : k ≤ n ∧ k ∉ u
    · rw [if_pos q, if_pos q, if_pos q, ih, List.cons_append]
    · rw [if_neg q, if_neg q, if_neg q, ih]
theorem undF_mem {kvs : List (Int × MV)} {n : Int} {P : Int → Prop} {ks : List Int} : ∀ {u : List Int}, (∀ k ∈ ks, ∀ j, undoAt kvs k = some j → P j) → (∀ j ∈ u, P j) → ∀ j ∈ undF kvs n ks u, P j := by
  induction ks with
  | nil => exact fun _ hu => hu
  | cons k ks ih =>
    intro u h hu
    unfold undF
    split
    · refine ih (fun k hk => h k (.tail _ hk)) ?_
      cases e : undoAt kvs k with
      | none => exact hu
      | some j =>
        intro i hi
        rcases List.mem_cons.mp hi with rfl | hi
        · exact h k (.head _) i e
        · exact hu i hi
    · exact ih (fun k hk => h k (.tail _ hk)) hu
theorem cntF_far {kvs : List (Int × MV)} {n : Int} {u : List Int} {ks : List Int} : ∀ {v : List Int}, (∀ k ∈ ks, k ∉ u) → cntF kvs n ks (v ++ u) = cntF kvs n ks v := by
  induction ks with
  | nil => exact fun _ => rfl
  | cons k ks ih =>
    intro v h
    have hk := h k (.head _)
    have e : (k ≤ n ∧ k ∉ v ++ u) ↔ (k ≤ n ∧ k ∉ v) := by
      rw [List.mem_append]
      exact ⟨fun c => ⟨c.1, fun m => c.2 (.inl m)⟩, fun c => ⟨c.1, fun m => m.elim c.2 hk⟩⟩
    unfold cntF
    by_cases q : k ≤ n ∧ k ∉ v
    · rw [if_pos q, if_pos (e.mpr q)]
      cases z : undoAt kvs k with
      | none => exact congrArg (k :: ·) (ih fun k hk => h k (.tail _ hk))
      | some j => exact congrArg (k :: ·) (ih (v := j :: v) fun k hk => h k (.tail _ hk))
    · rw [if_neg q, if_neg fun c => q (e.mp c)]
      exact ih fun k hk => h k (.tail _ hk)
theorem cntF_lid {kvs : List (Int × MV)} {n m : Int} {ks : List Int} : ∀ {u : List Int}, (∀ k ∈ ks, k ≤ m ∧ k ≤ n) → cntF kvs n ks u = cntF kvs m ks u := by
  induction ks with
  | nil => exact fun _ => rfl
  | cons k ks ih =>
    intro u h
    have hk := h k (.head _)
    unfold cntF
    by_cases q : k ∉ u
    · rw [if_pos ⟨hk.2, q⟩, if_pos ⟨hk.1, q⟩, ih fun k hk => h k (.tail _ hk)]
    · rw [if_neg fun c => q c.2, if_neg fun c => q c.2, ih fun k hk => h k (.tail _ hk)]
theorem sort_two {a b : List Int} {m : Int} (ha : ∀ k ∈ a, k ≤ m) (hb : ∀ k ∈ b, m < k) : sortI (a ++ b) = sortI a ++ sortI b := by
  refine Uu (Jg _) (List.pairwise_append.mpr ⟨Jg _, Jg _, fun x hx y hy => ?_⟩) ((Z3 _).trans ((Z3 a).symm.append (Z3 b).symm))
  exact Int.le_of_lt (Int.lt_of_le_of_lt (ha x ((Z3 _).mem_iff.mp hx)) (hb y ((Z3 _).mem_iff.mp hy)))
theorem V8 (B M : Book) : (B ++ M).keys = B.keys ++ M.keys := List.map_append
theorem cnt_more {B M : Book} {last n : Int} (h : Later B M last) (hn : last ≤ n) : cntOf (Book.mv (B ++ M)) n = cntOf (Book.mv B) last ++ cntOf (Book.mv M) n := by
  have mB : ∀ k ∈ (sortI B.keys).reverse, k ∈ B.keys := fun k hk => (Z3 _).mem_iff.mp (List.mem_reverse.mp hk)
  have mM : ∀ k ∈ (sortI M.keys).reverse, k ∈ M.keys := fun k hk => (Z3 _).mem_iff.mp (List.mem_reverse.mp hk)
  have nM : ∀ k ∈ M.keys, k ∉ B.keys := fun k hk m => Int.lt_irrefl _ (Int.lt_of_lt_of_le (h.gt k hk) (h.le k m))
  have uM : ∀ k ∈ (sortI M.keys).reverse, undoAt (Book.mv (B ++ M)) k = undoAt (Book.mv M) k := fun k hk => by
    unfold undoAt
    rw [Book.look, Book.look, at_right (nM k (mM k hk))]
  have uB : ∀ k ∈ (sortI B.keys).reverse, undoAt (Book.mv (B ++ M)) k = undoAt (Book.mv B) k := fun k hk => by
    unfold undoAt
    rw [Book.look, Book.look, at_left (mB k hk)]
  have far : ∀ k ∈ (sortI B.keys).reverse, k ∉ undF (Book.mv (B ++ M)) n (sortI M.keys).reverse [] := fun k hk m => by
    refine Int.lt_irrefl _ (Int.lt_of_lt_of_le (undF_mem (P := fun j => last < j) (fun i hi j e => ?_) (fun j hj => by cases hj) k m) (h.le k (mB k hk)))
    rw [uM i hi] at e
    unfold undoAt at e
    rw [Book.look] at e
    cases q : Book.at M i with
    | none => rw [q] at e; cases e
    | some x =>
      rw [q] at e
      cases hx : x.nu with
      | true => exact absurd (e.symm.trans (nu_undo hx)) (fun c => by cases c)
      | false =>
        cases x with
        | undo j' =>
          obtain rfl : j' = j := Option.some.inj ((show undoOf (Ent.undo j').mv = some j' by unfold undoOf Ent.mv; simp).symm.trans e)
          exact h.undo _ (Book.at_some q) _ rfl
        | _ => cases hx
  have e1 : cntF (Book.mv (B ++ M)) n (sortI (B.keys ++ M.keys)).reverse [] = cntF (Book.mv M) n (sortI M.keys).reverse [] ++ cntF (Book.mv B) last (sortI B.keys).reverse [] := by
    rw [sort_two h.le h.gt, List.reverse_append, cntF_append, C9 uM]
    refine congrArg _ ?_
    have := cntF_far (kvs := Book.mv (B ++ M)) (n := n) (v := []) far
    rw [List.nil_append] at this
    rw [this, C9 uB, cntF_lid fun k hk => ⟨h.le k (mB k hk), Int.le_trans (h.le k (mB k hk)) hn⟩]
  unfold cntOf
  rw [Book.mv_keys, Book.mv_keys, Book.mv_keys, V8, e1]
  have := sort_two (a := cntF (Book.mv B) last (sortI B.keys).reverse []) (b := cntF (Book.mv M) n (sortI M.keys).reverse []) (m := last) (fun k hk => h.le k (mB k ((V5 _ _).subset hk))) (fun k hk => h.gt k (mM k ((V5 _ _).subset hk)))
  rw [← this]
  exact sortI_of List.perm_append_comm
theorem D5 {B M : Book} {last n d : Int} (h : Later B M last) (hn : last ≤ n) : saidOf (B ++ M) n d = (cntOf (Book.mv M) n).foldl (sayF M d) (saidOf B last d) := by
  unfold saidOf
  rw [cnt_more h hn, List.foldl_append]
  have e1 : (cntOf (Book.mv B) last).foldl (sayF (B ++ M) d) T0 = (cntOf (Book.mv B) last).foldl (sayF B d) T0 := K1 _ _ fun k hk T => by
    unfold sayF
    rw [at_left (Uf hk)]
  rw [e1]
  generalize (cntOf (Book.mv B) last).foldl (sayF B d) T0 = T₁
  refine K1 _ _ fun k hk T => ?_
  unfold sayF
  rw [at_right fun m => Int.lt_irrefl _ (Int.lt_of_lt_of_le (h.gt k (Uf hk)) (h.le k m))]
theorem short_more {B M : Book} {n last d : Int} (hB : BOk B) (h : Later B M last) (hn : last ≤ n) (h0 : 0 ≤ d) (h1 : d ≤ 1000000) : saidOf (Sub B (shortL B last) ++ M) n d = saidOf (B ++ M) n d := by
  have ok := short_ok (n := last) hB
  have hkk : ∀ k ∈ shortL B last, k ∈ B.keys := fun k hk => (Kn (ok.sub.subset hk)).1
  have h' : Later (Sub B (shortL B last)) M last := ⟨fun k hk => by rw [Vs hkk] at hk; exact h.le k (hkk k hk), h.gt, h.undo⟩
  rw [D5 h hn, D5 h' hn]
  have e : saidOf (Sub B (shortL B last)) last d = saidOf B last d := funext fun x => by rw [Pr, Pr, ok.agree x d h0 h1]
  rw [e]
end Mine
end
section
namespace Mine
open PySem
noncomputable def Nh : MS := .assign 5 (.list [])
noncomputable def Kc : MS := .assign 7 (.meth .get2 (.call "_law_said" [(.var 0), (.var 1), (.var 6)]) [(.var 2), .cnone])
noncomputable def Jv : MS := .setidx (.var 5) (.neg (.cint 1)) (.tuple [(.idx (.idx (.var 5) (.neg (.cint 1))) (.cint 0)), (.var 6), (.var 7)])
noncomputable def Zl : MS := .expr (.meth .append (.var 5) [(.tuple [(.var 6), (.var 6), (.var 7)])])
noncomputable def Aj : MS := .ite (.and [(.cmp (.var 5) [.ne] [(.list [])]), (.cmp (.idx (.idx (.var 5) (.neg (.cint 1))) (.cint 1)) [.eq] [(.bin .sub (.var 6) (.cint 1))]), (.cmp (.idx (.idx (.var 5) (.neg (.cint 1))) (.cint 2)) [.eq] [(.var 7)])]) [Jv] [Zl]
noncomputable def V3 : MS := .ite (.cmp (.var 7) [.isnot] [.cnone]) [Aj] []
noncomputable def Ng : MS := .for (.one 6) .range [(.var 3), (.bin .add (.var 4) (.cint 1))] [Kc, V3]
noncomputable def Nf : MS := .ret (.var 5)
noncomputable def Ph : MFun := ⟨5, [Nh, Ng, Nf]⟩
noncomputable def Nk : MS := .assign 3 (.dict0 false)
noncomputable def Ke : MS := .assign 5 (.bin .add (.bin .add (.var 2) (.cint 1)) (.bin .mul (.var 4) (.bin .add (.cint 1) (.bin .mod (.bin .fdiv (.call "_law_of" [(.var 0), (.cint 3)]) (.cint 9)) (.cint 2)))))
noncomputable def Kd : MS := .assign 6 (.call "_law_entry" [(.var 1), (.call "_law_base" [(.var 0)]), (.bin .add (.bin .add (.call "_law_of" [(.var 0), (.bin .add (.cint 4) (.var 4))]) (.bin .mul (.cint 977) (.var 4))) (.cint 977)), (.var 5)])
noncomputable def Kv : MS := .assign 6 (.tuple [(.cstr "undo"), (.bin .add (.bin .add (.var 2) (.cint 1)) (.bin .mod (.idx (.var 6) (.cint 1)) (.bi .max2 [(.cint 1), (.bin .sub (.bin .sub (.var 5) (.var 2)) (.cint 1))])))])
noncomputable def Jw : MS := .assign 6 (.tuple [(.cstr "clear"), (.idx (.var 1) (.cint 1)), (.call "_law_base" [(.var 0)]), (.bin .add (.call "_law_base" [(.var 0)]) (.cint 2))])
noncomputable def Ak : MS := .ite (.cmp (.var 5) [.eq] [(.bin .add (.var 2) (.cint 1))]) [Jw] []
noncomputable def Oe : MS := .ite (.cmp (.idx (.var 6) (.cint 0)) [.eq] [(.cstr "undo")]) [Kv, Ak] []
noncomputable def J8 : MS := .setidx (.var 3) (.var 5) (.var 6)
noncomputable def Nj : MS := .for (.one 4) .range [(.bin .mod (.call "_law_of" [(.var 0), (.cint 3)]) (.cint 9))] [Ke, Kd, Oe, J8]
noncomputable def Ni : MS := .ret (.var 3)
noncomputable def Pj : MFun := ⟨3, [Nk, Nj, Ni]⟩
noncomputable def Bg : MS := .assign 1 (.call "_law_book" [(.slice (.var 0) .cnone (.cint 14) .cnone), (.cint 10)])
noncomputable def Bf : MS := .assign 2 (.call "_law_names" [(.call "_law_of" [(.var 0), (.cint 1)]), (.cint 3)])
noncomputable def Be : MS := .assign 3 (.bi .maxD [(.var 1), (.cint 0)])
noncomputable def Bc : MS := .assign 4 (.call "_law_more" [(.var 0), (.var 2), (.var 3)])
noncomputable def Bb : MS := .assign 5 (.bi .dict [(.var 1)])
noncomputable def Ba : MS := .expr (.meth .update (.var 5) [(.var 4)])
noncomputable def B9 : MS := .assign 6 (.call "shortened" [(.var 1)])
noncomputable def B8 : MS := .expr (.meth .update (.var 6) [(.var 4)])
noncomputable def A0 : MS := .assign 7 (.call "_law_base" [(.var 0)])
noncomputable def A2 : MS := .assign 8 (.comp (.var 13) (.one 13) .range [(.bin .add (.var 7) (.bin .mod (.call "_law_of" [(.var 0), (.cint 2)]) (.cint 4))), (.bin .add (.var 7) (.cint 19)), (.cint 3)] [(.cmp (.var 13) [.le] [(.cint 1000000)])])
noncomputable def A1 : MS := .assign 8 (.bin .add (.var 8) (.comp (.idx (.var 14) (.cint 2)) (.one 14) .plain [(.slice (.bi .list [(.meth .values (.var 5) [])]) .cnone (.cint 4) .cnone)] [(.cmp (.idx (.var 14) (.cint 0)) [.ne] [(.cstr "undo")])]))
noncomputable def Uq : MS := .assign 11 (.call "_law_said" [(.var 5), (.var 9), (.var 10)])
noncomputable def Al : MS := .ret (.cbool false)
noncomputable def Oi : MS := .ite (.cmp (.call "worth_of" [(.var 6), (.var 9), (.var 12), (.var 10)]) [.ne] [(.meth .get2 (.var 11) [(.var 12), .cnone])]) [Al] []
noncomputable def Up : MS := .for (.one 12) .plain [(.var 2)] [Oi]
noncomputable def Nt : MS := .for (.one 10) .plain [(.var 8)] [Uq, Up]
noncomputable def Oj : MS := .for (.one 9) .plain [(.bin .add (.list [(.var 3)]) (.bi .sorted [(.var 4)]))] [Nt]
noncomputable def Oh : MS := .assign 9 (.bi .maxD [(.var 5), (.cint 0)])
noncomputable def Fq : MS := .ret (.cbool false)
noncomputable def C3 : MS := .ite (.cmp (.call "runs_of" [(.var 6), (.var 9), (.var 12), (.var 7), (.bin .add (.var 7) (.cint 12))]) [.ne] [(.call "_law_runs" [(.var 5), (.var 9), (.var 12), (.var 7), (.bin .add (.var 7) (.cint 12))])]) [Fq] []
noncomputable def Og : MS := .for (.one 12) .plain [(.var 2)] [C3]
noncomputable def Of : MS := .ret (.cbool true)
noncomputable def f_law : MFun := ⟨1, [Bg, Bf, Be, Bc, Bb, Ba, B9, B8, A0, A2, A1, Oj, Oh, Og, Of]⟩
noncomputable def defs10 : Defs := [
  ("counting", Jz, [(0, Str.ofString "book"), (1, Str.ofString "n"), (2, Str.ofString "undone"), (3, Str.ofString "found"), (4, Str.ofString "number")]),
  ("is_about", Ja, [(0, Str.ofString "entry"), (1, Str.ofString "name"), (2, Str.ofString "day")]),
  ("worth_by", Jt, [(0, Str.ofString "book"), (1, Str.ofString "numbers"), (2, Str.ofString "name"), (3, Str.ofString "day"), (4, Str.ofString "number"), (5, Str.ofString "entry")]),
  ("worth_of", Pf, [(0, Str.ofString "book"), (1, Str.ofString "n"), (2, Str.ofString "name"), (3, Str.ofString "day")]),
  ("begins_of", K2, [(0, Str.ofString "book"), (1, Str.ofString "low"), (2, Str.ofString "high"), (3, Str.ofString "found"), (4, Str.ofString "number"), (5, Str.ofString "entry")]),
  ("stretches_of", Zp, [(0, Str.ofString "begins"), (1, Str.ofString "high"), (2, Str.ofString "worths"), (3, Str.ofString "found"), (4, Str.ofString "place"), (5, Str.ofString "last")]),
  ("runs_of", Vz, [(0, Str.ofString "book"), (1, Str.ofString "n"), (2, Str.ofString "name"), (3, Str.ofString "low"), (4, Str.ofString "high"), (5, Str.ofString "begins"), (6, Str.ofString "numbers"), (7, Str.ofString "worths")]),
  ("book_of", Ov, [(0, Str.ofString "book"), (1, Str.ofString "numbers")]),
  ("state_of", Pg, [(0, Str.ofString "book"), (1, Str.ofString "names"), (2, Str.ofString "n")]),
  ("shortened", Oa, [(0, Str.ofString "book"), (1, Str.ofString "last"), (2, Str.ofString "names"), (3, Str.ofString "due"), (4, Str.ofString "left"), (5, Str.ofString "many"), (6, Str.ofString "number"), (7, Str.ofString "fewer")]),
  ("_law_of", Uc, [(0, Str.ofString "_law_script"), (1, Str.ofString "_law_k")]),
  ("_law_names", Ud, [(0, Str.ofString "_law_cell"), (1, Str.ofString "_law_many"), (2, Str.ofString "_law_some"), (3, Str.ofString "_law_names_here"), (4, Str.ofString "_law_k"), (5, Str.ofString "_law_more_here"), (6, Str.ofString "_law_word"), (7, Str.ofString "_law_at")]),
  ("_law_entry", J9, [(0, Str.ofString "_law_names_here"), (1, Str.ofString "_law_base_here"), (2, Str.ofString "_law_n"), (3, Str.ofString "_law_number"), (4, Str.ofString "_law_low"), (5, Str.ofString "_law_high"), (6, Str.ofString "_law_name")]),
  ("_law_base", Jx, [(0, Str.ofString "_law_script")]),
  ("_law_book", Pk, [(0, Str.ofString "_law_script"), (1, Str.ofString "_law_many"), (2, Str.ofString "_law_names_here"), (3, Str.ofString "_law_gap"), (4, Str.ofString "_law_rows"), (5, Str.ofString "_law_k"), (6, Str.ofString "_law_number"), (7, Str.ofString "_law_cut")]),
  ("_law_counting", Zq, [(0, Str.ofString "_law_book_here"), (1, Str.ofString "_law_n"), (2, Str.ofString "_law_undone"), (3, Str.ofString "_law_found"), (4, Str.ofString "_law_number")]),
  ("_law_said", Uz, [(0, Str.ofString "_law_book_here"), (1, Str.ofString "_law_n"), (2, Str.ofString "_law_day"), (3, Str.ofString "_law_table"), (4, Str.ofString "_law_number"), (5, Str.ofString "_law_entry_here")]),
  ("_law_runs", Ph, [(0, Str.ofString "_law_book_here"), (1, Str.ofString "_law_n"), (2, Str.ofString "_law_name"), (3, Str.ofString "_law_low"), (4, Str.ofString "_law_high"), (5, Str.ofString "_law_found"), (6, Str.ofString "_law_day"), (7, Str.ofString "_law_worth")]),
  ("_law_more", Pj, [(0, Str.ofString "_law_script"), (1, Str.ofString "_law_names_here"), (2, Str.ofString "_law_last"), (3, Str.ofString "_law_found"), (4, Str.ofString "_law_k"), (5, Str.ofString "_law_number"), (6, Str.ofString "_law_entry_here")]),
  ("law", f_law, [(0, Str.ofString "_law_script"), (1, Str.ofString "_law_book_here"), (2, Str.ofString "_law_names_here"), (3, Str.ofString "_law_last"), (4, Str.ofString "_law_more_here"), (5, Str.ofString "_law_whole"), (6, Str.ofString "_law_short"), (7, Str.ofString "_law_base_here"), (8, Str.ofString "_law_days"), (9, Str.ofString "_law_n"), (10, Str.ofString "_law_day"), (11, Str.ofString "_law_table"), (12, Str.ofString "_law_name")])]
end Mine
end
section
namespace Mine
open PySem
variable {G : String → Option MV} {Γ : String → Option MFun}
theorem ent_2 {μ : MH} {e : Ent} {nm : Str} {lo hi : Int} (h : e.sp = some (nm, lo, hi)) : idxM μ e.mv (.int 2) = some (.int lo) ∧ idxM μ e.mv (.int 3) = some (.int hi) ∧ e.nu = true := by
  cases e with
  | undo j => cases h
  | clear nm lo hi => cases h; exact ⟨Yr, Yq, rfl⟩
  | like nm lo hi nm' => cases h; exact ⟨Yn, Ym, rfl⟩
  | tell nm lo hi v => cases h; exact ⟨Yn, Ym, rfl⟩
theorem nu_sp {e : Ent} (h : e.sp = none) : e.nu = false := by
  cases e with
  | undo j => rfl
  | _ => cases h
structure SpOk (names : List Str) (nm : Str) (lo hi : Int) : Prop where
  nm : nm ∈ names
  ge : 0 ≤ lo
  le : lo ≤ hi
  hi : hi ≤ 1000000
theorem good_sp {names : List Str} {k : Int} {e : Ent} {nm : Str} {lo hi : Int} (g : e.good names k) (h : e.sp = some (nm, lo, hi)) : SpOk names nm lo hi := by
  cases e with
  | undo j => cases h
  | clear nm lo hi => cases h; exact ⟨g.1, g.2.1, g.2.2.1, g.2.2.2⟩
  | like nm lo hi nm' => cases h; exact ⟨g.1, g.2.2.1, g.2.2.2.1, g.2.2.2.2⟩
  | tell nm lo hi v => cases h; exact ⟨g.1, g.2.1, g.2.2.1, g.2.2.2.1⟩
structure MoreE (last top : Int) (q : Int × Ent) : Prop where
  gt : last < q.1
  lt : q.1 < top
  ok : q.2.ok
  undo : ∀ j, q.2 = .undo j → last < j
  day : ∀ nm lo hi, q.2.sp = some (nm, lo, hi) → 0 ≤ lo ∧ lo ≤ 1000000
theorem MoreE.up {last top top' : Int} {q : Int × Ent} (h : MoreE last top q) (ht : top ≤ top') : MoreE last top' q := ⟨h.gt, Int.lt_of_lt_of_le h.lt ht, h.ok, h.undo, h.day⟩
structure MoreOk (last top : Int) (M : Book) : Prop where
  nd : M.keys.Nodup
  ent : ∀ q ∈ M, MoreE last top q
theorem MoreOk.snoc {last top top' k : Int} {M : Book} {e : Ent} (h : MoreOk last top M) (hk : top ≤ k) (ht : k < top') (he : MoreE last top' (k, e)) : MoreOk last top' (M ++ [(k, e)]) := by
  have hlt := Int.le_of_lt (Int.lt_of_le_of_lt hk ht)
  refine ⟨?_, fun q hq => ?_⟩
  · rw [V8, List.nodup_append]
    refine ⟨h.nd, by simp [Book.keys], fun a ha b hb c => ?_⟩
    obtain ⟨q, hq, rfl⟩ := List.mem_map.mp ha
    have hb : b = k := by simpa [Book.keys] using hb
    exact Int.lt_irrefl _ (Int.lt_of_lt_of_le (hb ▸ c ▸ (h.ent q hq).lt) hk)
  · rcases List.mem_append.mp hq with m | m
    · exact (h.ent q m).up hlt
    · exact List.mem_singleton.mp m ▸ he
structure MV10 (a p c : Addr) (last : Int) (V : MVars) : Prop where
  v0 : V 0 = some (.ref a)
  v1 : V 1 = some (.ref p)
  v2 : V 2 = some (.int last)
  v3 : V 3 = some (.ref c)
theorem MV10.set {a p c : Addr} {last : Int} {V : MVars} (y : MV10 a p c last V) {i : Nat} (h : 4 ≤ i) (v : MV) : MV10 a p c last (setv V i v) :=
  ⟨(Xd (by first | exact nei h rfl | decide)).trans y.v0, (Xd (by first | exact nei h rfl | decide)).trans y.v1, (Xd (by first | exact nei h rfl | decide)).trans y.v2, (Xd (by first | exact nei h rfl | decide)).trans y.v3⟩
noncomputable def stepOf (ns : List Int) : Int := 1 + ((at0 ns 3).fdiv 9).fmod 2
theorem step_rng (ns : List Int) : 1 ≤ stepOf ns ∧ stepOf ns ≤ 2 := by
  have := fm (a := (at0 ns 3).fdiv 9) (b := 2) (by decide)
  unfold stepOf; omega
theorem nm_at {μ : MH} {p : Addr} {names : List Str} (hp : μ p = some (.list (names.map .str))) (hl : names.length = 3) : ∃ nm ∈ names, idxM μ (.ref p) (.int 1) = some (.str nm) := by
  have hk : 1 < names.length := by rw [hl]; decide
  refine ⟨names[1], List.getElem_mem hk, ?_⟩
  rw [Ux hp (by rw [List.length_map, hl]; decide)]
  show (names.map MV.str)[1]? = _
  rw [List.getElem?_map, List.getElem?_eq_getElem hk]; rfl
theorem word_eq {μ : MH} {e : Ent} {nm : Str} {lo hi : Int} (h : e.sp = some (nm, lo, hi)) : cmpM .eq μ (.str e.word) (.str (S "undo")) = some false := by
  cases e with
  | undo j => cases h
  | clear nm lo hi => exact Xq
  | like nm lo hi nm' => exact Y7
  | tell nm lo hi v => exact Y6
theorem Dk {d : Nat} {a p c : Addr} {last : Int} {ns : List Int} {names : List Str} {fz : List Addr} {μ₁ : MH} {R : MFlow → MVars → MH → Prop} (hΓ₁ : Γ "_law_of" = some Uc) (hΓ₂ : Γ "_law_base" = some Jx) (hΓ₃ : Γ "_law_entry" = some J9) (hd : 3 ≤ d) (ha : μ₁ a = some (.list (ns.map .int))) (hn : ns.length ≤ 63) (hp : μ₁ p = some (.list (names.map .str))) (h3 : names.length = 3) (hok : ∀ nm ∈ names, GoodN nm) (hl0 : 0 ≤ last) (hl1 : last ≤ 40) (hc0 : μ₁ c = none) (hcz : c ∉ fz) :
    ∀ (j i : Nat) (V : MVars) (μ : MH) (M : Book), i + j ≤ 9 → MV10 a p c last V → Ext μ₁ μ → μ c = some (.idict (Book.mv M)) → M.length = i → MoreOk last (last + 1 + i * stepOf ns) M →
      (∀ V' μ' M', MV10 a p c last V' → Ext μ₁ μ' → μ' c = some (.idict (Book.mv M')) → M'.length = i + j → MoreOk last (last + 1 + (i + j : Nat) * stepOf ns) M' → R .next V' μ') →
      loopM (.one 4) (fun vs F μ => exs G (calls G Γ d) X0 [Ke, Kd, Oe, J8] fz vs F μ) R ((List.range' i j).map fun (k : Nat) => MV.int k) V μ
  | 0 => fun i V μ M hij y hx hm hl ho h => by
    simp only [List.range'_zero, List.map_nil, Z5, Z6]
    exact h V μ M y hx hm hl ho
  | j + 1 => fun i V μ M hij y hx hm hl ho h => by
    rw [List.range'_succ, List.map_cons]
    refine ⟨_, rfl, ?_⟩
    replace y := y.set (i := 4) (by decide) (.int i)
    have v4 : setv V 4 (.int i) 4 = some (.int i) := Xn
    generalize setv V 4 (.int i) = V at y v4 ⊢
    have gs := step_rng ns
    have hi8 : i ≤ 8 := by lia
    have hmul : 0 ≤ (i : Int) * stepOf ns ∧ (i : Int) * stepOf ns ≤ 16 := ⟨Int.mul_nonneg (Int.natCast_nonneg i) (Int.le_trans (by decide) gs.1), by
      have h1 : (i : Int) * stepOf ns ≤ (i : Int) * 2 := Int.mul_le_mul_of_nonneg_left gs.2 (Int.natCast_nonneg i)
      lia⟩
    have hnext : last + 1 + ((i + 1 : Nat) : Int) * stepOf ns = last + 1 + (i : Int) * stepOf ns + stepOf ns := by
      rw [show ((i + 1 : Nat) : Int) = (i : Int) + 1 from rfl, Int.add_mul, Int.one_mul, Int.add_assoc, Int.add_assoc, Int.add_assoc]
    have go : ∀ (V : MVars) (μ : MH) (M : Book), MV10 a p c last V → Ext μ₁ μ → μ c = some (.idict (Book.mv M)) → M.length = i + 1 → MoreOk last (last + 1 + (i : Int) * stepOf ns + stepOf ns) M → _ := fun V μ M y hx hm hl ho => Dk (fz := fz) hΓ₁ hΓ₂ hΓ₃ hd ha hn hp h3 hok hl0 hl1 hc0 hcz j (i + 1) V μ M (by first|exact dn hd rfl|exact dl hd rfl|lia) y hx hm hl (by rw [hnext]; exact ho) fun V' μ' M' y' x' hm' hl' ho' => h V' μ' M' y' x' hm' (by first|exact dn hd rfl|exact dl hd rfl|lia) (by rw [show i + (j + 1) = i + 1 + j by lia]; exact ho')
    generalize loopM (.one 4) _ R ((List.range' (i + 1) j).map fun (k : Nat) => MV.int k) = L at go ⊢
    clear hnext h
    refine seq ?_
    ((try dsimp only [Ke,Qx,Qu,Qn,Qv,Qg,Qf,Qz,X9,X8,X4,Xi,X2,Xa,X1,Qd,Qt,Qc,Qe,Ql,Xg,Q6,Qp,Qq,Qk,Qb,Qa,Q1,Qh,Q7,Q4,Q0,Q9,Q8,Q3,Q5,Qo,Qy,Qr,X5,X6,Qs,args0,X3,Xb,Xj,Xk,Xl,Xm,Qm,X7,Qi,Qj,Qw,Q2,zgz,zgs,zlc,zln,Nat.reduceAdd,kr0,kr1,kl0,kl1,kz0,y.v0,y.v2,v4]); (try simp (discharger := decide) only [Ke,Qx,Qu,Qn,Qv,Qg,Qf,Qz,X9,X8,X4,Xi,X2,Xa,X1,Qd,Qt,Qc,Qe,Ql,Xg,Q6,Qp,Qq,Qk,Qb,Qa,Q1,Qh,Q7,Q4,Q0,Q9,Q8,Q3,Q5,Qo,Qy,Qr,X5,X6,Qs,args0,X3,Xb,Xf,Xh,Xc,Xe,Xj,Xk,Xl,Xm,Xv,Xu,Qm,X7,Xn,Xd,Qi,Qj,Qw,Q2,Xr,zoi,zel,zta,zat,zgz,zgs,zlc,zln,Nat.reduceAdd,zza,znt,zcn,MV.int.injEq,kr0,kr1,kl0,kl1,kz0,y.v0,y.v2,v4]))
    refine Zi hΓ₁ (by first|exact dn hd rfl|exact dl hd rfl|omega) (hx _ _ ha) hn (by decide) fun μ₂ x₂ => ?_
    ((try dsimp only [Qx,Qu,Qn,Qv,Qg,Qf,Qz,X9,X8,X4,Xi,X2,Xa,X1,Qd,Qt,Qc,Qe,Ql,Xg,Q6,Qp,Qq,Qk,Qb,Qa,Q1,Qh,Q7,Q4,Q0,Q9,Q8,Q3,Q5,Qo,Qy,Qr,X5,X6,Qs,args0,X3,Xb,Xj,Xk,Xl,Xm,Qm,X7,Qi,Qj,Qw,Q2,zgz,zgs,zlc,zln,Nat.reduceAdd,kr0,kr1,kl0,kl1,kz0]); (try simp (discharger := decide) only [Qx,Qu,Qn,Qv,Qg,Qf,Qz,X9,X8,X4,Xi,X2,Xa,X1,Qd,Qt,Qc,Qe,Ql,Xg,Q6,Qp,Qq,Qk,Qb,Qa,Q1,Qh,Q7,Q4,Q0,Q9,Q8,Q3,Q5,Qo,Qy,Qr,X5,X6,Qs,args0,X3,Xb,Xf,Xh,Xc,Xe,Xj,Xk,Xl,Xm,Xv,Xu,Qm,X7,Xn,Xd,Qi,Qj,Qw,Q2,Xr,zoi,zel,zta,zat,zgz,zgs,zlc,zln,Nat.reduceAdd,zza,znt,zcn,MV.int.injEq,kr0,kr1,kl0,kl1,kz0]))
    rw [Xf (by have := step_rng ns; unfold stepOf at this; omega)]
    ((try dsimp only [Qx,Qu,Qn,Qv,Qg,Qf,Qz,X9,X8,X4,Xi,X2,Xa,X1,Qd,Qt,Qc,Qe,Ql,Xg,Q6,Qp,Qq,Qk,Qb,Qa,Q1,Qh,Q7,Q4,Q0,Q9,Q8,Q3,Q5,Qo,Qy,Qr,X5,X6,Qs,args0,X3,Xb,Xj,Xk,Xl,Xm,Qm,X7,Qi,Qj,Qw,Q2,zgz,zgs,zlc,zln,Nat.reduceAdd,kr0,kr1,kl0,kl1,kz0]); (try simp (discharger := decide) only [Qx,Qu,Qn,Qv,Qg,Qf,Qz,X9,X8,X4,Xi,X2,Xa,X1,Qd,Qt,Qc,Qe,Ql,Xg,Q6,Qp,Qq,Qk,Qb,Qa,Q1,Qh,Q7,Q4,Q0,Q9,Q8,Q3,Q5,Qo,Qy,Qr,X5,X6,Qs,args0,X3,Xb,Xf,Xh,Xc,Xe,Xj,Xk,Xl,Xm,Xv,Xu,Qm,X7,Xn,Xd,Qi,Qj,Qw,Q2,Xr,zoi,zel,zta,zat,zgz,zgs,zlc,zln,Nat.reduceAdd,zza,znt,zcn,MV.int.injEq,kr0,kr1,kl0,kl1,kz0]))
    rw [show 1 + ((at0 ns 3).fdiv 9).fmod 2 = stepOf ns from rfl]
    generalize stepOf ns = stp at gs hmul ho go ⊢
    generalize (i : Int) * stp = off at hmul ho go ⊢
    have hnum : 1 ≤ last + 1 + off ∧ last + 1 + off ≤ 1000 := by lia
    have hgt : last < last + 1 + off := by lia
    have htop : last + 1 + off < last + 1 + off + stp := by lia
    generalize hno : last + 1 + off = num at hnum hgt htop ho go ⊢
    replace hm := x₂ _ _ hm
    replace x₂ := hx.trans x₂
    replace y := y.set (i := 5) (by decide) (.int num)
    have w4 : setv V 5 (.int num) 4 = some (.int i) := (Xd (by first | exact nei h rfl | decide)).trans v4
    have v5 : setv V 5 (.int num) 5 = some (.int num) := Xn
    generalize setv V 5 (.int num) = V at y w4 v5 ⊢
    clear v4
    (try simp only [kr0, kr1, kl0, kl1, kz0])
    refine seq ?_
    ((try dsimp only [Kd,Qx,Qu,Qn,Qv,Qg,Qf,Qz,X9,X8,X4,Xi,X2,Xa,X1,Qd,Qt,Qc,Qe,Ql,Xg,Q6,Qp,Qq,Qk,Qb,Qa,Q1,Qh,Q7,Q4,Q0,Q9,Q8,Q3,Q5,Qo,Qy,Qr,X5,X6,Qs,args0,X3,Xb,Xj,Xk,Xl,Xm,Qm,X7,Qi,Qj,Qw,Q2,zgz,zgs,zlc,zln,Nat.reduceAdd,kr0,kr1,kl0,kl1,kz0,y.v0,y.v1,w4,v5]); (try simp (discharger := decide) only [Kd,Qx,Qu,Qn,Qv,Qg,Qf,Qz,X9,X8,X4,Xi,X2,Xa,X1,Qd,Qt,Qc,Qe,Ql,Xg,Q6,Qp,Qq,Qk,Qb,Qa,Q1,Qh,Q7,Q4,Q0,Q9,Q8,Q3,Q5,Qo,Qy,Qr,X5,X6,Qs,args0,X3,Xb,Xf,Xh,Xc,Xe,Xj,Xk,Xl,Xm,Xv,Xu,Qm,X7,Xn,Xd,Qi,Qj,Qw,Q2,Xr,zoi,zel,zta,zat,zgz,zgs,zlc,zln,Nat.reduceAdd,zza,znt,zcn,MV.int.injEq,kr0,kr1,kl0,kl1,kz0,y.v0,y.v1,w4,v5]))
    refine Jh hΓ₁ hΓ₂ (by first|exact dn hd rfl|exact dl hd rfl|omega) (x₂ _ _ ha) hn fun μ₃ x₃ => ?_
    ((try dsimp only [Qx,Qu,Qn,Qv,Qg,Qf,Qz,X9,X8,X4,Xi,X2,Xa,X1,Qd,Qt,Qc,Qe,Ql,Xg,Q6,Qp,Qq,Qk,Qb,Qa,Q1,Qh,Q7,Q4,Q0,Q9,Q8,Q3,Q5,Qo,Qy,Qr,X5,X6,Qs,args0,X3,Xb,Xj,Xk,Xl,Xm,Qm,X7,Qi,Qj,Qw,Q2,zgz,zgs,zlc,zln,Nat.reduceAdd,kr0,kr1,kl0,kl1,kz0,y.v0,w4]); (try simp (discharger := decide) only [Qx,Qu,Qn,Qv,Qg,Qf,Qz,X9,X8,X4,Xi,X2,Xa,X1,Qd,Qt,Qc,Qe,Ql,Xg,Q6,Qp,Qq,Qk,Qb,Qa,Q1,Qh,Q7,Q4,Q0,Q9,Q8,Q3,Q5,Qo,Qy,Qr,X5,X6,Qs,args0,X3,Xb,Xf,Xh,Xc,Xe,Xj,Xk,Xl,Xm,Xv,Xu,Qm,X7,Xn,Xd,Qi,Qj,Qw,Q2,Xr,zoi,zel,zta,zat,zgz,zgs,zlc,zln,Nat.reduceAdd,zza,znt,zcn,MV.int.injEq,kr0,kr1,kl0,kl1,kz0,y.v0,w4]))
    refine Zi hΓ₁ (by first|exact dn hd rfl|exact dl hd rfl|omega) (x₃ _ _ (x₂ _ _ ha)) hn (by first|exact dn hd rfl|exact dl hd rfl|exact Int.natCast_nonneg _) fun μ₄ x₄ => ?_
    ((try dsimp only [Qx,Qu,Qn,Qv,Qg,Qf,Qz,X9,X8,X4,Xi,X2,Xa,X1,Qd,Qt,Qc,Qe,Ql,Xg,Q6,Qp,Qq,Qk,Qb,Qa,Q1,Qh,Q7,Q4,Q0,Q9,Q8,Q3,Q5,Qo,Qy,Qr,X5,X6,Qs,args0,X3,Xb,Xj,Xk,Xl,Xm,Qm,X7,Qi,Qj,Qw,Q2,zgz,zgs,zlc,zln,Nat.reduceAdd,kr0,kr1,kl0,kl1,kz0,w4,v5]); (try simp (discharger := decide) only [Qx,Qu,Qn,Qv,Qg,Qf,Qz,X9,X8,X4,Xi,X2,Xa,X1,Qd,Qt,Qc,Qe,Ql,Xg,Q6,Qp,Qq,Qk,Qb,Qa,Q1,Qh,Q7,Q4,Q0,Q9,Q8,Q3,Q5,Qo,Qy,Qr,X5,X6,Qs,args0,X3,Xb,Xf,Xh,Xc,Xe,Xj,Xk,Xl,Xm,Xv,Xu,Qm,X7,Xn,Xd,Qi,Qj,Qw,Q2,Xr,zoi,zel,zta,zat,zgz,zgs,zlc,zln,Nat.reduceAdd,zza,znt,zcn,MV.int.injEq,kr0,kr1,kl0,kl1,kz0,w4,v5]))
    refine O6 hΓ₃ (by first|exact dn hd rfl|exact dl hd rfl|omega) (x₄ _ _ (x₃ _ _ (x₂ _ _ hp))) h3 (Cf ns) hnum fun e μ₅ x₅ ge => ?_
    obtain ⟨ent, rfl, good⟩ := ge.to
    have xx := x₂.trans (x₃.trans (x₄.trans x₅))
    replace hm := x₅ _ _ (x₄ _ _ (x₃ _ _ hm))
    clear x₂ x₃ x₄ x₅ ge
    replace y := y.set (i := 6) (by decide) ent.mv
    have w5 : setv V 6 ent.mv 5 = some (.int num) := (Xd (by first | exact nei h rfl | decide)).trans v5
    have v6 : setv V 6 ent.mv 6 = some ent.mv := Xn
    generalize setv V 6 ent.mv = V at y w5 v6 ⊢
    clear w4 v5
    have fin : ∀ (V : MVars) (μ : MH) (e : Ent), MV10 a p c last V → V 5 = some (.int num) → V 6 = some e.mv → Ext μ₁ μ → μ c = some (.idict (Book.mv M)) → MoreE last (num + stp) (num, e) → exs G (calls G Γ d) X0 [J8] fz V (kl L R) μ := fun V μ e y v5 v6 hx hm he => by
      refine seq ?_
      ((try dsimp only [J8,Qx,Qu,Qn,Qv,Qg,Qf,Qz,X9,X8,X4,Xi,X2,Xa,X1,Qd,Qt,Qc,Qe,Ql,Xg,Q6,Qp,Qq,Qk,Qb,Qa,Q1,Qh,Q7,Q4,Q0,Q9,Q8,Q3,Q5,Qo,Qy,Qr,X5,X6,Qs,args0,X3,Xb,Xj,Xk,Xl,Xm,Qm,X7,Qi,Qj,Qw,Q2,zgz,zgs,zlc,zln,Nat.reduceAdd,kr0,kr1,kl0,kl1,kz0,y.v3,v5,v6]); (try simp (discharger := decide) only [J8,Qx,Qu,Qn,Qv,Qg,Qf,Qz,X9,X8,X4,Xi,X2,Xa,X1,Qd,Qt,Qc,Qe,Ql,Xg,Q6,Qp,Qq,Qk,Qb,Qa,Q1,Qh,Q7,Q4,Q0,Q9,Q8,Q3,Q5,Qo,Qy,Qr,X5,X6,Qs,args0,X3,Xb,Xf,Xh,Xc,Xe,Xj,Xk,Xl,Xm,Xv,Xu,Qm,X7,Xn,Xd,Qi,Qj,Qw,Q2,Xr,zoi,zel,zta,zat,zgz,zgs,zlc,zln,Nat.reduceAdd,zza,znt,zcn,MV.int.injEq,kr0,kr1,kl0,kl1,kz0,y.v3,v5,v6]))
      refine set_dict hm hcz (fit (by rw [Book.mv_len, hl]; exact Nat.le_trans (by assumption) (by decide))) ?_
      have hnk : num ∉ (Book.mv M).map (·.1) := fun m => by
        rw [Book.mv_keys] at m
        obtain ⟨q, hq, e⟩ := List.mem_map.mp m
        exact Int.lt_irrefl _ (e ▸ (ho.ent q hq).lt)
      have hpt : putI (Book.mv M) num e.mv = Book.mv (M ++ [(num, e)]) := by rw [put_new hnk]; unfold Book.mv; rw [List.map_append]; rfl
      rw [hpt]
      exact Zm (go V _ (M ++ [(num, e)]) y (fun a o e => by rw [Yk (Yi e hc0)]; exact hx _ _ e) Yh (by rw [List.length_append, hl]; rfl) (ho.snoc (Int.le_refl _) htop he))
    (try simp only [kr0, kr1, kl0, kl1, kz0])
    refine seq (Je (Z7 ?_))
    ((try dsimp only [Qx,Qu,Qn,Qv,Qg,Qf,Qz,X9,X8,X4,Xi,X2,Xa,X1,Qd,Qt,Qc,Qe,Ql,Xg,Q6,Qp,Qq,Qk,Qb,Qa,Q1,Qh,Q7,Q4,Q0,Q9,Q8,Q3,Q5,Qo,Qy,Qr,X5,X6,Qs,args0,X3,Xb,Xj,Xk,Xl,Xm,Qm,X7,Qi,Qj,Qw,Q2,zgz,zgs,zlc,zln,Nat.reduceAdd,kr0,kr1,kl0,kl1,kz0,v6,B0]); (try simp (discharger := decide) only [Qx,Qu,Qn,Qv,Qg,Qf,Qz,X9,X8,X4,Xi,X2,Xa,X1,Qd,Qt,Qc,Qe,Ql,Xg,Q6,Qp,Qq,Qk,Qb,Qa,Q1,Qh,Q7,Q4,Q0,Q9,Q8,Q3,Q5,Qo,Qy,Qr,X5,X6,Qs,args0,X3,Xb,Xf,Xh,Xc,Xe,Xj,Xk,Xl,Xm,Xv,Xu,Qm,X7,Xn,Xd,Qi,Qj,Qw,Q2,Xr,zoi,zel,zta,zat,zgz,zgs,zlc,zln,Nat.reduceAdd,zza,znt,zcn,MV.int.injEq,kr0,kr1,kl0,kl1,kz0,v6,B0]))
    have rest : ∀ {nm : Str} {lo hi : Int}, ent.sp = some (nm, lo, hi) → MoreE last (num + stp) (num, ent) := fun hs => by
      refine ⟨hgt, htop, good.ok hok, fun j e => ?_, fun nm lo hi hs' => ?_⟩
      · rw [show ent = .undo j from e] at hs; cases hs
      · have sp := good_sp good hs'
        exact ⟨sp.ge, Int.le_trans sp.le sp.hi⟩
    cases hs : ent.sp with
    | some t =>
      obtain ⟨nm, lo, hi⟩ := t
      refine ⟨false, word_eq hs, ?_⟩
      simp only [Bool.false_eq_true, if_false]
      exact Zm (fin V _ ent y w5 v6 xx hm (rest hs))
    | none =>
      cases ent with
      | undo j =>
        refine ⟨true, Y5, ?_⟩
        simp only [if_true]
        refine seq ?_
        ((try dsimp only [Kv,Qx,Qu,Qn,Qv,Qg,Qf,Qz,X9,X8,X4,Xi,X2,Xa,X1,Qd,Qt,Qc,Qe,Ql,Xg,Q6,Qp,Qq,Qk,Qb,Qa,Q1,Qh,Q7,Q4,Q0,Q9,Q8,Q3,Q5,Qo,Qy,Qr,X5,X6,Qs,args0,X3,Xb,Xj,Xk,Xl,Xm,Qm,X7,Qi,Qj,Qw,Q2,zgz,zgs,zlc,zln,Nat.reduceAdd,kr0,kr1,kl0,kl1,kz0,y.v2,w5,v6,Ent.mv,Ys]); (try simp (discharger := decide) only [Kv,Qx,Qu,Qn,Qv,Qg,Qf,Qz,X9,X8,X4,Xi,X2,Xa,X1,Qd,Qt,Qc,Qe,Ql,Xg,Q6,Qp,Qq,Qk,Qb,Qa,Q1,Qh,Q7,Q4,Q0,Q9,Q8,Q3,Q5,Qo,Qy,Qr,X5,X6,Qs,args0,X3,Xb,Xf,Xh,Xc,Xe,Xj,Xk,Xl,Xm,Xv,Xu,Qm,X7,Xn,Xd,Qi,Qj,Qw,Q2,Xr,zoi,zel,zta,zat,zgz,zgs,zlc,zln,Nat.reduceAdd,zza,znt,zcn,MV.int.injEq,kr0,kr1,kl0,kl1,kz0,y.v2,w5,v6,Ent.mv,Ys]))
        have hmx : 0 < max 1 (num - last - 1) := Int.lt_of_lt_of_le (by decide) (Int.le_max_left ..)
        rw [Xe hmx]
        ((try dsimp only [Qx,Qu,Qn,Qv,Qg,Qf,Qz,X9,X8,X4,Xi,X2,Xa,X1,Qd,Qt,Qc,Qe,Ql,Xg,Q6,Qp,Qq,Qk,Qb,Qa,Q1,Qh,Q7,Q4,Q0,Q9,Q8,Q3,Q5,Qo,Qy,Qr,X5,X6,Qs,args0,X3,Xb,Xj,Xk,Xl,Xm,Qm,X7,Qi,Qj,Qw,Q2,zgz,zgs,zlc,zln,Nat.reduceAdd,kr0,kr1,kl0,kl1,kz0]); (try simp (discharger := decide) only [Qx,Qu,Qn,Qv,Qg,Qf,Qz,X9,X8,X4,Xi,X2,Xa,X1,Qd,Qt,Qc,Qe,Ql,Xg,Q6,Qp,Qq,Qk,Qb,Qa,Q1,Qh,Q7,Q4,Q0,Q9,Q8,Q3,Q5,Qo,Qy,Qr,X5,X6,Qs,args0,X3,Xb,Xf,Xh,Xc,Xe,Xj,Xk,Xl,Xm,Xv,Xu,Qm,X7,Xn,Xd,Qi,Qj,Qw,Q2,Xr,zoi,zel,zta,zat,zgz,zgs,zlc,zln,Nat.reduceAdd,zza,znt,zcn,MV.int.injEq,kr0,kr1,kl0,kl1,kz0]))
        have hj : last < last + 1 + j.fmod (max 1 (num - last - 1)) := Int.lt_of_lt_of_le (Int.lt_succ last) (Int.le_add_of_nonneg_right (fm hmx).1)
        generalize last + 1 + j.fmod (max 1 (num - last - 1)) = tg at hj ⊢
        replace y := y.set (i := 6) (by decide) (.tup [.str (S "undo"), .int tg])
        replace w5 : setv V 6 (.tup [.str (S "undo"), .int tg]) 5 = some (.int num) := (Xd (by first | exact nei h rfl | decide)).trans w5
        replace v6 : setv V 6 (.tup [.str (S "undo"), .int tg]) 6 = some (Ent.undo tg).mv := Xn
        generalize setv V 6 (.tup [.str (S "undo"), .int tg]) = V at y w5 v6 ⊢
        (try simp only [kr0, kr1, kl0, kl1, kz0])
        refine seq (Je (Z7 ?_))
        ((try dsimp only [Qx,Qu,Qn,Qv,Qg,Qf,Qz,X9,X8,X4,Xi,X2,Xa,X1,Qd,Qt,Qc,Qe,Ql,Xg,Q6,Qp,Qq,Qk,Qb,Qa,Q1,Qh,Q7,Q4,Q0,Q9,Q8,Q3,Q5,Qo,Qy,Qr,X5,X6,Qs,args0,X3,Xb,Xj,Xk,Xl,Xm,Qm,X7,Qi,Qj,Qw,Q2,zgz,zgs,zlc,zln,Nat.reduceAdd,kr0,kr1,kl0,kl1,kz0,y.v2,w5]); (try simp (discharger := decide) only [Qx,Qu,Qn,Qv,Qg,Qf,Qz,X9,X8,X4,Xi,X2,Xa,X1,Qd,Qt,Qc,Qe,Ql,Xg,Q6,Qp,Qq,Qk,Qb,Qa,Q1,Qh,Q7,Q4,Q0,Q9,Q8,Q3,Q5,Qo,Qy,Qr,X5,X6,Qs,args0,X3,Xb,Xf,Xh,Xc,Xe,Xj,Xk,Xl,Xm,Xv,Xu,Qm,X7,Xn,Xd,Qi,Qj,Qw,Q2,Xr,zoi,zel,zta,zat,zgz,zgs,zlc,zln,Nat.reduceAdd,zza,znt,zcn,MV.int.injEq,kr0,kr1,kl0,kl1,kz0,y.v2,w5]))
        cases (num == last + 1) with
        | false =>
          simp only [Bool.false_eq_true, if_false]
          (try dsimp only [kr0])
          refine Zm (K3 (fin V _ (.undo tg) y w5 v6 xx hm ⟨hgt, htop, trivial, fun i e => by cases e; exact hj, fun nm lo hi e => by cases e⟩))
        | true =>
          simp only [if_true]
          refine seq ?_
          obtain ⟨nm, hnm, i1⟩ := nm_at (xx _ _ hp) h3
          ((try dsimp only [Jw,Qx,Qu,Qn,Qv,Qg,Qf,Qz,X9,X8,X4,Xi,X2,Xa,X1,Qd,Qt,Qc,Qe,Ql,Xg,Q6,Qp,Qq,Qk,Qb,Qa,Q1,Qh,Q7,Q4,Q0,Q9,Q8,Q3,Q5,Qo,Qy,Qr,X5,X6,Qs,args0,X3,Xb,Xj,Xk,Xl,Xm,Qm,X7,Qi,Qj,Qw,Q2,zgz,zgs,zlc,zln,Nat.reduceAdd,kr0,kr1,kl0,kl1,kz0,y.v0,y.v1,i1]); (try simp (discharger := decide) only [Jw,Qx,Qu,Qn,Qv,Qg,Qf,Qz,X9,X8,X4,Xi,X2,Xa,X1,Qd,Qt,Qc,Qe,Ql,Xg,Q6,Qp,Qq,Qk,Qb,Qa,Q1,Qh,Q7,Q4,Q0,Q9,Q8,Q3,Q5,Qo,Qy,Qr,X5,X6,Qs,args0,X3,Xb,Xf,Xh,Xc,Xe,Xj,Xk,Xl,Xm,Xv,Xu,Qm,X7,Xn,Xd,Qi,Qj,Qw,Q2,Xr,zoi,zel,zta,zat,zgz,zgs,zlc,zln,Nat.reduceAdd,zza,znt,zcn,MV.int.injEq,kr0,kr1,kl0,kl1,kz0,y.v0,y.v1,i1]))
          refine Jh hΓ₁ hΓ₂ (by first|exact dn hd rfl|exact dl hd rfl|omega) (xx _ _ ha) hn fun μ₆ x₆ => ?_
          ((try dsimp only [Qx,Qu,Qn,Qv,Qg,Qf,Qz,X9,X8,X4,Xi,X2,Xa,X1,Qd,Qt,Qc,Qe,Ql,Xg,Q6,Qp,Qq,Qk,Qb,Qa,Q1,Qh,Q7,Q4,Q0,Q9,Q8,Q3,Q5,Qo,Qy,Qr,X5,X6,Qs,args0,X3,Xb,Xj,Xk,Xl,Xm,Qm,X7,Qi,Qj,Qw,Q2,zgz,zgs,zlc,zln,Nat.reduceAdd,kr0,kr1,kl0,kl1,kz0,y.v0]); (try simp (discharger := decide) only [Qx,Qu,Qn,Qv,Qg,Qf,Qz,X9,X8,X4,Xi,X2,Xa,X1,Qd,Qt,Qc,Qe,Ql,Xg,Q6,Qp,Qq,Qk,Qb,Qa,Q1,Qh,Q7,Q4,Q0,Q9,Q8,Q3,Q5,Qo,Qy,Qr,X5,X6,Qs,args0,X3,Xb,Xf,Xh,Xc,Xe,Xj,Xk,Xl,Xm,Xv,Xu,Qm,X7,Xn,Xd,Qi,Qj,Qw,Q2,Xr,zoi,zel,zta,zat,zgz,zgs,zlc,zln,Nat.reduceAdd,zza,znt,zcn,MV.int.injEq,kr0,kr1,kl0,kl1,kz0,y.v0]))
          refine Jh hΓ₁ hΓ₂ (by first|exact dn hd rfl|exact dl hd rfl|omega) (x₆ _ _ (xx _ _ ha)) hn fun μ₇ x₇ => ?_
          ((try dsimp only [Qx,Qu,Qn,Qv,Qg,Qf,Qz,X9,X8,X4,Xi,X2,Xa,X1,Qd,Qt,Qc,Qe,Ql,Xg,Q6,Qp,Qq,Qk,Qb,Qa,Q1,Qh,Q7,Q4,Q0,Q9,Q8,Q3,Q5,Qo,Qy,Qr,X5,X6,Qs,args0,X3,Xb,Xj,Xk,Xl,Xm,Qm,X7,Qi,Qj,Qw,Q2,zgz,zgs,zlc,zln,Nat.reduceAdd,kr0,kr1,kl0,kl1,kz0]); (try simp (discharger := decide) only [Qx,Qu,Qn,Qv,Qg,Qf,Qz,X9,X8,X4,Xi,X2,Xa,X1,Qd,Qt,Qc,Qe,Ql,Xg,Q6,Qp,Qq,Qk,Qb,Qa,Q1,Qh,Q7,Q4,Q0,Q9,Q8,Q3,Q5,Qo,Qy,Qr,X5,X6,Qs,args0,X3,Xb,Xf,Xh,Xc,Xe,Xj,Xk,Xl,Xm,Xv,Xu,Qm,X7,Xn,Xd,Qi,Qj,Qw,Q2,Xr,zoi,zel,zta,zat,zgz,zgs,zlc,zln,Nat.reduceAdd,zza,znt,zcn,MV.int.injEq,kr0,kr1,kl0,kl1,kz0]))
          have xz := x₆.trans x₇
          have br := Cf ns
          (try dsimp only [kr0])
          refine Zm (K3 (fin _ _ (.clear nm (baseOf ns) (baseOf ns + 2)) (y.set (by decide) _) ((Xd (by first | exact nei h rfl | decide)).trans w5) Xn (xx.trans xz) (xz _ _ hm) ⟨hgt, htop, (hok _ hnm).ok, fun i e => (by cases e), fun nm lo hi e => (by cases e; exact br)⟩))
      | _ => cases hs
theorem Cp {d : Nat} {a p : Addr} {last : Int} {ns : List Int} {names : List Str} {fz : List Addr} {Q : MQ} {μ : MH} (hΓ₁ : Γ "_law_of" = some Uc) (hΓ₂ : Γ "_law_base" = some Jx) (hΓ₃ : Γ "_law_entry" = some J9) (hΓ : Γ "_law_more" = some Pj) (hd : 4 ≤ d) (ha : μ a = some (.list (ns.map .int))) (hn : ns.length ≤ 63) (hp : μ p = some (.list (names.map .str))) (h3 : names.length = 3) (hok : ∀ nm ∈ names, GoodN nm) (hl0 : 0 ≤ last) (hl1 : last ≤ 40)
    (h : ∀ (c : Addr) (μ' : MH) (M : Book) (top : Int), Ext μ μ' → μ c = none → c ∉ fz → μ' c = some (.idict (Book.mv M)) → M.length ≤ 9 → MoreOk last top M → Q (.ref c) μ') : calls G Γ d "_law_more" [.ref a, .ref p, .int last] fz Q X0 μ := by
  refine Z2 hΓ rfl (by first|exact dn hd rfl|exact dl hd rfl|omega) (seq ?_)
  ((try dsimp only [Nk,Qx,Qu,Qn,Qv,Qg,Qf,Qz,X9,X8,X4,Xi,X2,Xa,X1,Qd,Qt,Qc,Qe,Ql,Xg,Q6,Qp,Qq,Qk,Qb,Qa,Q1,Qh,Q7,Q4,Q0,Q9,Q8,Q3,Q5,Qo,Qy,Qr,X5,X6,Qs,args0,X3,Xb,Xj,Xk,Xl,Xm,Qm,X7,Qi,Qj,Qw,Q2,zgz,zgs,zlc,zln,Nat.reduceAdd,kr0,kr1,kl0,kl1,kz0]); (try simp (discharger := decide) only [Nk,Qx,Qu,Qn,Qv,Qg,Qf,Qz,X9,X8,X4,Xi,X2,Xa,X1,Qd,Qt,Qc,Qe,Ql,Xg,Q6,Qp,Qq,Qk,Qb,Qa,Q1,Qh,Q7,Q4,Q0,Q9,Q8,Q3,Q5,Qo,Qy,Qr,X5,X6,Qs,args0,X3,Xb,Xf,Xh,Xc,Xe,Xj,Xk,Xl,Xm,Xv,Xu,Qm,X7,Xn,Xd,Qi,Qj,Qw,Q2,Xr,zoi,zel,zta,zat,zgz,zgs,zlc,zln,Nat.reduceAdd,zza,znt,zcn,MV.int.injEq,kr0,kr1,kl0,kl1,kz0]))
  simp only [Bool.false_eq_true, if_false]
  intro c hc hcz
  have y : MV10 a p c last (setv (args0 [.ref a, .ref p, .int last]) 3 (.ref c)) := ⟨rfl, rfl, rfl, rfl⟩
  generalize setv (args0 [.ref a, .ref p, .int last]) 3 (.ref c) = V at y ⊢
  have x₁ : Ext μ (upd μ c (.idict [])) := Ext.upd hc
  have hm : upd μ c (.idict []) c = some (.idict (Book.mv [])) := Yh
  generalize upd μ c (.idict []) = μ₁ at x₁ hm ⊢
  refine seq ?_
  ((try dsimp only [Nj,Qx,Qu,Qn,Qv,Qg,Qf,Qz,X9,X8,X4,Xi,X2,Xa,X1,Qd,Qt,Qc,Qe,Ql,Xg,Q6,Qp,Qq,Qk,Qb,Qa,Q1,Qh,Q7,Q4,Q0,Q9,Q8,Q3,Q5,Qo,Qy,Qr,X5,X6,Qs,args0,X3,Xb,Xj,Xk,Xl,Xm,Qm,X7,Qi,Qj,Qw,Q2,zgz,zgs,zlc,zln,Nat.reduceAdd,kr0,kr1,kl0,kl1,kz0,y.v0]); (try simp (discharger := decide) only [Nj,Qx,Qu,Qn,Qv,Qg,Qf,Qz,X9,X8,X4,Xi,X2,Xa,X1,Qd,Qt,Qc,Qe,Ql,Xg,Q6,Qp,Qq,Qk,Qb,Qa,Q1,Qh,Q7,Q4,Q0,Q9,Q8,Q3,Q5,Qo,Qy,Qr,X5,X6,Qs,args0,X3,Xb,Xf,Xh,Xc,Xe,Xj,Xk,Xl,Xm,Xv,Xu,Qm,X7,Xn,Xd,Qi,Qj,Qw,Q2,Xr,zoi,zel,zta,zat,zgz,zgs,zlc,zln,Nat.reduceAdd,zza,znt,zcn,MV.int.injEq,kr0,kr1,kl0,kl1,kz0,y.v0]))
  refine Zi hΓ₁ (by first|exact dn hd rfl|exact dl hd rfl|omega) (x₁ _ _ ha) hn (by decide) fun μ₂ x₂ => ?_
  ((try dsimp only [Qx,Qu,Qn,Qv,Qg,Qf,Qz,X9,X8,X4,Xi,X2,Xa,X1,Qd,Qt,Qc,Qe,Ql,Xg,Q6,Qp,Qq,Qk,Qb,Qa,Q1,Qh,Q7,Q4,Q0,Q9,Q8,Q3,Q5,Qo,Qy,Qr,X5,X6,Qs,args0,X3,Xb,Xj,Xk,Xl,Xm,Qm,X7,Qi,Qj,Qw,Q2,zgz,zgs,zlc,zln,Nat.reduceAdd,kr0,kr1,kl0,kl1,kz0]); (try simp (discharger := decide) only [Qx,Qu,Qn,Qv,Qg,Qf,Qz,X9,X8,X4,Xi,X2,Xa,X1,Qd,Qt,Qc,Qe,Ql,Xg,Q6,Qp,Qq,Qk,Qb,Qa,Q1,Qh,Q7,Q4,Q0,Q9,Q8,Q3,Q5,Qo,Qy,Qr,X5,X6,Qs,args0,X3,Xb,Xf,Xh,Xc,Xe,Xj,Xk,Xl,Xm,Xv,Xu,Qm,X7,Xn,Xd,Qi,Qj,Qw,Q2,Xr,zoi,zel,zta,zat,zgz,zgs,zlc,zln,Nat.reduceAdd,zza,znt,zcn,MV.int.injEq,kr0,kr1,kl0,kl1,kz0]))
  obtain ⟨f1, f2⟩ := fm (a := at0 ns 3) (b := 9) (by decide)
  obtain ⟨m, hmm⟩ := Int.eq_ofNat_of_zero_le f1
  rw [hmm] at f2 ⊢
  have hm9 : m ≤ 9 := Int.ofNat_le.mp (Int.le_of_lt f2)
  have hin : in62 (m : Int) = true := Py (Int.natCast_nonneg m) (Int.ofNat_le.mpr (Nat.le_trans hm9 (by decide)))
  refine ⟨.ints (rangeL 0 m 1), (List.range' 0 m).map fun (k : Nat) => MV.int k, by simp [mkSrc, rangeM, hin], congrArg some Pa, fit (by rw [List.length_map, List.length_range']; exact Nat.le_trans hm9 (by decide)), ?_⟩
  refine Dk (μ₁ := μ) hΓ₁ hΓ₂ hΓ₃ (by first|exact dn hd rfl|exact dl hd rfl|omega) ha hn hp h3 hok hl0 hl1 hc hcz m 0 V μ₂ [] (by first|exact dn hd rfl|exact dl hd rfl|simp [*]) y (x₁.trans x₂) (x₂ _ _ hm) rfl ⟨List.nodup_nil, fun q hq => by cases hq⟩ fun V' μ' M' y' x' hm' hl' ho' => ?_
  (try simp only [kr0, kr1, kl0, kl1, kz0])
  refine seq ?_
  ((try dsimp only [Ni,Qx,Qu,Qn,Qv,Qg,Qf,Qz,X9,X8,X4,Xi,X2,Xa,X1,Qd,Qt,Qc,Qe,Ql,Xg,Q6,Qp,Qq,Qk,Qb,Qa,Q1,Qh,Q7,Q4,Q0,Q9,Q8,Q3,Q5,Qo,Qy,Qr,X5,X6,Qs,args0,X3,Xb,Xj,Xk,Xl,Xm,Qm,X7,Qi,Qj,Qw,Q2,zgz,zgs,zlc,zln,Nat.reduceAdd,kr0,kr1,kl0,kl1,kz0,y'.v3]); (try simp (discharger := decide) only [Ni,Qx,Qu,Qn,Qv,Qg,Qf,Qz,X9,X8,X4,Xi,X2,Xa,X1,Qd,Qt,Qc,Qe,Ql,Xg,Q6,Qp,Qq,Qk,Qb,Qa,Q1,Qh,Q7,Q4,Q0,Q9,Q8,Q3,Q5,Qo,Qy,Qr,X5,X6,Qs,args0,X3,Xb,Xf,Xh,Xc,Xe,Xj,Xk,Xl,Xm,Xv,Xu,Qm,X7,Xn,Xd,Qi,Qj,Qw,Q2,Xr,zoi,zel,zta,zat,zgz,zgs,zlc,zln,Nat.reduceAdd,zza,znt,zcn,MV.int.injEq,kr0,kr1,kl0,kl1,kz0,y'.v3]))
  exact h c μ' M' _ x' hc hcz hm' (by rw [hl', Nat.zero_add]; exact hm9) ho'
end Mine
end
section
namespace Mine
open PySem
variable {G : String → Option MV} {Γ : String → Option MFun}
theorem ne_nil {μ : MH} {p q : Addr} {xs : List (Seg (Option Int))} (hp : μ p = some (.list (xs.map (segMV encO)))) (hq : μ q = some (.list [])) : cmpM .ne μ (.ref p) (.ref q) = some (!(xs.map (segMV encO)).isEmpty) := by
  show (eqM μ (.ref p) (.ref q)).map (!·) = _
  rw [codeS.eqM (ys := []) hp hq]
  cases xs <;> rfl
structure RV (b c : Addr) (n : Int) (x : Str) (V : MVars) : Prop where
  v0 : V 0 = some (.ref b)
  v1 : V 1 = some (.int n)
  v2 : V 2 = some (.str x)
  v5 : V 5 = some (.ref c)
theorem RV.set {b c : Addr} {n : Int} {x : Str} {V : MVars} (y : RV b c n x V) {i : Nat} (h : 6 ≤ i) (v : MV) : RV b c n x (setv V i v) :=
  ⟨(Xd (by first | exact nei h rfl | decide)).trans y.v0, (Xd (by first | exact nei h rfl | decide)).trans y.v1, (Xd (by first | exact nei h rfl | decide)).trans y.v2, (Xd (by first | exact nei h rfl | decide)).trans y.v5⟩
theorem dayR_len {W : Type} [DecidableEq W] {keep : W → Bool} {f : Int → W} (R : List (Seg W)) (d : Int) : (dayR keep f R d).length ≤ R.length + 1 := by
  unfold dayR
  split
  · cases R with
    | nil => exact Nat.le_refl _
    | cons y r =>
      show (if y.e = d - 1 ∧ y.w = f d then ({ s := y.s, e := d, w := f d } : Seg W) :: r else ⟨d, d, f d⟩ :: y :: r).length ≤ _
      split <;> simp
  · exact Nat.le_succ _
theorem day_body {Φ : CallSpec} {b c : Addr} {n day : Int} {x : Str} {fz : List Addr} {V : MVars} {μ : MH} {R : List (Seg (Option Int))} {f : Int → Option Int} {Q : MFlow → MVars → MH → Prop} (y : RV b c n x V) (v6 : V 6 = some (.int day)) (v7 : V 7 = some (encO (f day))) (hc : μ c = some (.list (R.reverse.map (segMV encO)))) (hcz : c ∉ fz) (hRl : R.length ≤ 999)
    (h : ∀ μ', (∀ a, a ≠ c → ∀ o, μ a = some o → μ' a = some o) → μ' c = some (.list ((dayR Option.isSome f R day).reverse.map (segMV encO))) → Q .next V μ') : exs G Φ X0 [V3] fz V Q μ := by
  refine seq (Je (Z7 ?_))
  ((try dsimp only [Qx,Qu,Qn,Qv,Qg,Qf,Qz,X9,X8,X4,Xi,X2,Xa,X1,Qd,Qt,Qc,Qe,Ql,Xg,Q6,Qp,Qq,Qk,Qb,Qa,Q1,Qh,Q7,Q4,Q0,Q9,Q8,Q3,Q5,Qo,Qy,Qr,X5,X6,Qs,args0,X3,Xb,Xj,Xk,Xl,Xm,Qm,X7,Qi,Qj,Qw,Q2,zgz,zgs,zlc,zln,Nat.reduceAdd,kr0,kr1,kl0,kl1,kz0,v7]); (try simp (discharger := decide) only [Qx,Qu,Qn,Qv,Qg,Qf,Qz,X9,X8,X4,Xi,X2,Xa,X1,Qd,Qt,Qc,Qe,Ql,Xg,Q6,Qp,Qq,Qk,Qb,Qa,Q1,Qh,Q7,Q4,Q0,Q9,Q8,Q3,Q5,Qo,Qy,Qr,X5,X6,Qs,args0,X3,Xb,Xf,Xh,Xc,Xe,Xj,Xk,Xl,Xm,Xv,Xu,Qm,X7,Xn,Xd,Qi,Qj,Qw,Q2,Xr,zoi,zel,zta,zat,zgz,zgs,zlc,zln,Nat.reduceAdd,zza,znt,zcn,MV.int.injEq,kr0,kr1,kl0,kl1,kz0,v7]))
  cases hf : f day with
  | none =>
    refine ⟨false, rfl, ?_⟩
    simp only [Bool.false_eq_true, if_false]
    (try dsimp only [kr0])
    refine Zm (K3 (h μ (fun _ _ _ e => e) ?_))
    rw [hc]
    unfold dayR
    rw [hf]; rfl
  | some i =>
    rw [hf] at v7
    refine ⟨true, rfl, ?_⟩
    simp only [if_true]
    have app : ∀ μ', (∀ a o, μ a = some o → μ' a = some o) → dayR Option.isSome f R day = ⟨day, day, some i⟩ :: R → exs G Φ X0 [Zl] fz V (kr G Φ X0 [] fz (kr G Φ X0 [] fz Q)) μ' := fun μ' k e => by
      refine seq ?_
      ((try dsimp only [Zl,Qx,Qu,Qn,Qv,Qg,Qf,Qz,X9,X8,X4,Xi,X2,Xa,X1,Qd,Qt,Qc,Qe,Ql,Xg,Q6,Qp,Qq,Qk,Qb,Qa,Q1,Qh,Q7,Q4,Q0,Q9,Q8,Q3,Q5,Qo,Qy,Qr,X5,X6,Qs,args0,X3,Xb,Xj,Xk,Xl,Xm,Qm,X7,Qi,Qj,Qw,Q2,zgz,zgs,zlc,zln,Nat.reduceAdd,kr0,kr1,kl0,kl1,kz0,y.v5,v6,v7]); (try simp (discharger := decide) only [Zl,Qx,Qu,Qn,Qv,Qg,Qf,Qz,X9,X8,X4,Xi,X2,Xa,X1,Qd,Qt,Qc,Qe,Ql,Xg,Q6,Qp,Qq,Qk,Qb,Qa,Q1,Qh,Q7,Q4,Q0,Q9,Q8,Q3,Q5,Qo,Qy,Qr,X5,X6,Qs,args0,X3,Xb,Xf,Xh,Xc,Xe,Xj,Xk,Xl,Xm,Xv,Xu,Qm,X7,Xn,Xd,Qi,Qj,Qw,Q2,Xr,zoi,zel,zta,zat,zgz,zgs,zlc,zln,Nat.reduceAdd,zza,znt,zcn,MV.int.injEq,kr0,kr1,kl0,kl1,kz0,y.v5,v6,v7]))
      refine ⟨V7 (k _ _ hc), _, k _ _ hc, hcz, fit (by simp; exact Nat.le_trans (by assumption) (by decide)), ?_⟩
      (try dsimp only [kr0])
      refine Zm (K3 (K3 (h _ (fun a ha o e' => by rw [Yk ha]; exact k _ _ e') ?_)))
      rw [Yh, e, List.reverse_cons, List.map_append]; rfl
    refine seq (Je (Ur (Z7 ?_)))
    ((try dsimp only [Qx,Qu,Qn,Qv,Qg,Qf,Qz,X9,X8,X4,Xi,X2,Xa,X1,Qd,Qt,Qc,Qe,Ql,Xg,Q6,Qp,Qq,Qk,Qb,Qa,Q1,Qh,Q7,Q4,Q0,Q9,Q8,Q3,Q5,Qo,Qy,Qr,X5,X6,Qs,args0,X3,Xb,Xj,Xk,Xl,Xm,Qm,X7,Qi,Qj,Qw,Q2,zgz,zgs,zlc,zln,Nat.reduceAdd,kr0,kr1,kl0,kl1,kz0,y.v5]); (try simp (discharger := decide) only [Qx,Qu,Qn,Qv,Qg,Qf,Qz,X9,X8,X4,Xi,X2,Xa,X1,Qd,Qt,Qc,Qe,Ql,Xg,Q6,Qp,Qq,Qk,Qb,Qa,Q1,Qh,Q7,Q4,Q0,Q9,Q8,Q3,Q5,Qo,Qy,Qr,X5,X6,Qs,args0,X3,Xb,Xf,Xh,Xc,Xe,Xj,Xk,Xl,Xm,Xv,Xu,Qm,X7,Xn,Xd,Qi,Qj,Qw,Q2,Xr,zoi,zel,zta,zat,zgz,zgs,zlc,zln,Nat.reduceAdd,zza,znt,zcn,MV.int.injEq,kr0,kr1,kl0,kl1,kz0,y.v5]))
    intro c2 hc2 _
    have k2 : ∀ a o, μ a = some o → upd μ c2 (.list []) a = some o := Ext.upd hc2
    refine ⟨_, ne_nil (k2 _ _ hc) Yh, ?_⟩
    cases R with
    | nil =>
      simp only [List.reverse_nil, List.map_nil, List.isEmpty_nil, Bool.not_true, Bool.false_eq_true, if_false]
      exact app _ k2 (by unfold dayR; rw [hf]; rfl)
    | cons z r =>
      have hc' : upd μ c2 (.list []) c = some (.list (r.reverse.map (segMV encO) ++ [segMV encO z])) := by rw [k2 _ _ hc, List.reverse_cons, List.map_append]; rfl
      have hl2 : (r.reverse.map (segMV encO)).length ≤ 1000 := by simp at hRl ⊢; exact Nat.le_trans (by assumption) (by decide)
      have hne : ((z :: r).reverse.map (segMV encO)).isEmpty = false := by simp
      have hday : dayR Option.isSome f (z :: r) day = if z.e = day - 1 ∧ z.w = some i then ⟨z.s, day, some i⟩ :: r else ⟨day, day, some i⟩ :: z :: r := by
        unfold dayR
        rw [hf]; rfl
      rw [hne]
      simp only [Bool.not_false, if_true]
      refine Ur (Z7 ?_)
      ((try dsimp only [Qx,Qu,Qn,Qv,Qg,Qf,Qz,X9,X8,X4,Xi,X2,Xa,X1,Qd,Qt,Qc,Qe,Ql,Xg,Q6,Qp,Qq,Qk,Qb,Qa,Q1,Qh,Q7,Q4,Q0,Q9,Q8,Q3,Q5,Qo,Qy,Qr,X5,X6,Qs,args0,X3,Xb,Xj,Xk,Xl,Xm,Qm,X7,Qi,Qj,Qw,Q2,zgz,zgs,zlc,zln,Nat.reduceAdd,kr0,kr1,kl0,kl1,kz0,y.v5,v6]); (try simp (discharger := decide) only [Qx,Qu,Qn,Qv,Qg,Qf,Qz,X9,X8,X4,Xi,X2,Xa,X1,Qd,Qt,Qc,Qe,Ql,Xg,Q6,Qp,Qq,Qk,Qb,Qa,Q1,Qh,Q7,Q4,Q0,Q9,Q8,Q3,Q5,Qo,Qy,Qr,X5,X6,Qs,args0,X3,Xb,Xf,Xh,Xc,Xe,Xj,Xk,Xl,Xm,Xv,Xu,Qm,X7,Xn,Xd,Qi,Qj,Qw,Q2,Xr,zoi,zel,zta,zat,zgz,zgs,zlc,zln,Nat.reduceAdd,zza,znt,zcn,MV.int.injEq,kr0,kr1,kl0,kl1,kz0,y.v5,v6]))
      refine ⟨_, Pw hc' (by first|exact dn hd rfl|exact dl hd rfl|exact Nat.le_trans (by assumption) (by decide)), _, Yy, ?_⟩
      ((try dsimp only [Qx,Qu,Qn,Qv,Qg,Qf,Qz,X9,X8,X4,Xi,X2,Xa,X1,Qd,Qt,Qc,Qe,Ql,Xg,Q6,Qp,Qq,Qk,Qb,Qa,Q1,Qh,Q7,Q4,Q0,Q9,Q8,Q3,Q5,Qo,Qy,Qr,X5,X6,Qs,args0,X3,Xb,Xj,Xk,Xl,Xm,Qm,X7,Qi,Qj,Qw,Q2,zgz,zgs,zlc,zln,Nat.reduceAdd,kr0,kr1,kl0,kl1,kz0,v6]); (try simp (discharger := decide) only [Qx,Qu,Qn,Qv,Qg,Qf,Qz,X9,X8,X4,Xi,X2,Xa,X1,Qd,Qt,Qc,Qe,Ql,Xg,Q6,Qp,Qq,Qk,Qb,Qa,Q1,Qh,Q7,Q4,Q0,Q9,Q8,Q3,Q5,Qo,Qy,Qr,X5,X6,Qs,args0,X3,Xb,Xf,Xh,Xc,Xe,Xj,Xk,Xl,Xm,Xv,Xu,Qm,X7,Xn,Xd,Qi,Qj,Qw,Q2,Xr,zoi,zel,zta,zat,zgz,zgs,zlc,zln,Nat.reduceAdd,zza,znt,zcn,MV.int.injEq,kr0,kr1,kl0,kl1,kz0,v6]))
      by_cases e1 : z.e = day - 1
      · have ht : (z.e == day - 1) = true := by simp [e1]
        rw [ht]
        simp only [if_true]
        refine Ol (Z7 ?_)
        ((try dsimp only [Qx,Qu,Qn,Qv,Qg,Qf,Qz,X9,X8,X4,Xi,X2,Xa,X1,Qd,Qt,Qc,Qe,Ql,Xg,Q6,Qp,Qq,Qk,Qb,Qa,Q1,Qh,Q7,Q4,Q0,Q9,Q8,Q3,Q5,Qo,Qy,Qr,X5,X6,Qs,args0,X3,Xb,Xj,Xk,Xl,Xm,Qm,X7,Qi,Qj,Qw,Q2,zgz,zgs,zlc,zln,Nat.reduceAdd,kr0,kr1,kl0,kl1,kz0,y.v5,v7]); (try simp (discharger := decide) only [Qx,Qu,Qn,Qv,Qg,Qf,Qz,X9,X8,X4,Xi,X2,Xa,X1,Qd,Qt,Qc,Qe,Ql,Xg,Q6,Qp,Qq,Qk,Qb,Qa,Q1,Qh,Q7,Q4,Q0,Q9,Q8,Q3,Q5,Qo,Qy,Qr,X5,X6,Qs,args0,X3,Xb,Xf,Xh,Xc,Xe,Xj,Xk,Xl,Xm,Xv,Xu,Qm,X7,Xn,Xd,Qi,Qj,Qw,Q2,Xr,zoi,zel,zta,zat,zgz,zgs,zlc,zln,Nat.reduceAdd,zza,znt,zcn,MV.int.injEq,kr0,kr1,kl0,kl1,kz0,y.v5,v7]))
        refine ⟨_, Pw hc' (by first|exact dn hd rfl|exact dl hd rfl|exact Nat.le_trans (by assumption) (by decide)), _, Yo, _, heqO _ _ (some i), ?_⟩
        by_cases e2 : z.w = some i
        · simp only [e2, decide_true, if_true]
          refine seq ?_
          ((try dsimp only [Jv,Qx,Qu,Qn,Qv,Qg,Qf,Qz,X9,X8,X4,Xi,X2,Xa,X1,Qd,Qt,Qc,Qe,Ql,Xg,Q6,Qp,Qq,Qk,Qb,Qa,Q1,Qh,Q7,Q4,Q0,Q9,Q8,Q3,Q5,Qo,Qy,Qr,X5,X6,Qs,args0,X3,Xb,Xj,Xk,Xl,Xm,Qm,X7,Qi,Qj,Qw,Q2,zgz,zgs,zlc,zln,Nat.reduceAdd,kr0,kr1,kl0,kl1,kz0,y.v5,v6,v7]); (try simp (discharger := decide) only [Jv,Qx,Qu,Qn,Qv,Qg,Qf,Qz,X9,X8,X4,Xi,X2,Xa,X1,Qd,Qt,Qc,Qe,Ql,Xg,Q6,Qp,Qq,Qk,Qb,Qa,Q1,Qh,Q7,Q4,Q0,Q9,Q8,Q3,Q5,Qo,Qy,Qr,X5,X6,Qs,args0,X3,Xb,Xf,Xh,Xc,Xe,Xj,Xk,Xl,Xm,Xv,Xu,Qm,X7,Xn,Xd,Qi,Qj,Qw,Q2,Xr,zoi,zel,zta,zat,zgz,zgs,zlc,zln,Nat.reduceAdd,zza,znt,zcn,MV.int.injEq,kr0,kr1,kl0,kl1,kz0,y.v5,v6,v7]))
          refine ⟨_, Pw hc' (by first|exact dn hd rfl|exact dl hd rfl|exact Nat.le_trans (by assumption) (by decide)), _, Yv, ?_⟩
          ((try dsimp only [Qx,Qu,Qn,Qv,Qg,Qf,Qz,X9,X8,X4,Xi,X2,Xa,X1,Qd,Qt,Qc,Qe,Ql,Xg,Q6,Qp,Qq,Qk,Qb,Qa,Q1,Qh,Q7,Q4,Q0,Q9,Q8,Q3,Q5,Qo,Qy,Qr,X5,X6,Qs,args0,X3,Xb,Xj,Xk,Xl,Xm,Qm,X7,Qi,Qj,Qw,Q2,zgz,zgs,zlc,zln,Nat.reduceAdd,kr0,kr1,kl0,kl1,kz0,y.v5,v6,v7]); (try simp (discharger := decide) only [Qx,Qu,Qn,Qv,Qg,Qf,Qz,X9,X8,X4,Xi,X2,Xa,X1,Qd,Qt,Qc,Qe,Ql,Xg,Q6,Qp,Qq,Qk,Qb,Qa,Q1,Qh,Q7,Q4,Q0,Q9,Q8,Q3,Q5,Qo,Qy,Qr,X5,X6,Qs,args0,X3,Xb,Xf,Xh,Xc,Xe,Xj,Xk,Xl,Xm,Xv,Xu,Qm,X7,Xn,Xd,Qi,Qj,Qw,Q2,Xr,zoi,zel,zta,zat,zgz,zgs,zlc,zln,Nat.reduceAdd,zza,znt,zcn,MV.int.injEq,kr0,kr1,kl0,kl1,kz0,y.v5,v6,v7]))
          refine set_last hc' hcz hl2 ?_
          (try dsimp only [kr0])
          refine Zm (K3 (K3 (h _ (fun a ha o e' => by rw [Yk ha]; exact k2 _ _ e') ?_)))
          rw [Yh, hday, if_pos ⟨e1, e2⟩, List.reverse_cons, List.map_append]; rfl
        · simp only [e2, decide_false, Bool.false_eq_true, if_false]
          exact app _ k2 (by rw [hday, if_neg fun q => e2 q.2])
      · have ht : (z.e == day - 1) = false := by simp [e1]
        rw [ht]
        simp only [Bool.false_eq_true, if_false]
        exact app _ k2 (by rw [hday, if_neg fun q => e1 q.1])
theorem D7 {d : Nat} {B : Book} {b c : Addr} {n : Int} {x : Str} {fz : List Addr} {μ₁ : MH} {Q : MFlow → MVars → MH → Prop} (hΓ₅ : Γ "_law_counting" = some Zq) (hΓ₆ : Γ "_law_said" = some Uz) (hd : 2 ≤ d) (hB : BOk B) (hb : μ₁ b = some (.idict (Book.mv B))) (hc : μ₁ c = none) (hcz : c ∉ fz) :
    ∀ (ds : List Int) (V : MVars) (μ : MH) (R : List (Seg (Option Int))), RV b c n x V → Ext μ₁ μ → μ c = some (.list (R.reverse.map (segMV encO))) → R.length + ds.length ≤ 900 →
      (∀ V' μ', RV b c n x V' → Ext μ₁ μ' → μ' c = some (.list ((ds.foldl (dayR Option.isSome fun d => sO B n d x) R).reverse.map (segMV encO))) → Q .next V' μ') →
      loopM (.one 6) (fun vs F μ => exs G (calls G Γ d) X0 [Kc, V3] fz vs F μ) Q (ds.map .int) V μ
  | [] => fun V μ R y hx hm hl h => by
    simp only [List.map_nil, Z5, Z6]
    exact h V μ y hx hm
  | day :: ds => fun V μ R y hx hm hl h => by
    simp only [List.map_cons, Z5, Z6]
    refine ⟨_, rfl, ?_⟩
    simp only [List.length_cons] at hl
    replace y := y.set (i := 6) (by decide) (.int day)
    have v6 : setv V 6 (.int day) 6 = some (.int day) := Xn
    generalize setv V 6 (.int day) = V at y v6 ⊢
    have go : ∀ (V : MVars) (μ : MH) (R : List (Seg (Option Int))), RV b c n x V → Ext μ₁ μ → μ c = some (.list (R.reverse.map (segMV encO))) → R.length + ds.length ≤ 900 → (∀ V' μ', RV b c n x V' → Ext μ₁ μ' → μ' c = some (.list ((ds.foldl (dayR Option.isSome fun d => sO B n d x) R).reverse.map (segMV encO))) → Q .next V' μ') → _ := D7 hΓ₅ hΓ₆ hd hB hb hc hcz ds
    generalize loopM (.one 6) _ Q (ds.map .int) = L at go ⊢
    refine seq ?_
    ((try dsimp only [Kc,Qx,Qu,Qn,Qv,Qg,Qf,Qz,X9,X8,X4,Xi,X2,Xa,X1,Qd,Qt,Qc,Qe,Ql,Xg,Q6,Qp,Qq,Qk,Qb,Qa,Q1,Qh,Q7,Q4,Q0,Q9,Q8,Q3,Q5,Qo,Qy,Qr,X5,X6,Qs,args0,X3,Xb,Xj,Xk,Xl,Xm,Qm,X7,Qi,Qj,Qw,Q2,zgz,zgs,zlc,zln,Nat.reduceAdd,kr0,kr1,kl0,kl1,kz0,y.v0,y.v1,y.v2,v6]); (try simp (discharger := decide) only [Kc,Qx,Qu,Qn,Qv,Qg,Qf,Qz,X9,X8,X4,Xi,X2,Xa,X1,Qd,Qt,Qc,Qe,Ql,Xg,Q6,Qp,Qq,Qk,Qb,Qa,Q1,Qh,Q7,Q4,Q0,Q9,Q8,Q3,Q5,Qo,Qy,Qr,X5,X6,Qs,args0,X3,Xb,Xf,Xh,Xc,Xe,Xj,Xk,Xl,Xm,Xv,Xu,Qm,X7,Xn,Xd,Qi,Qj,Qw,Q2,Xr,zoi,zel,zta,zat,zgz,zgs,zlc,zln,Nat.reduceAdd,zza,znt,zcn,MV.int.injEq,kr0,kr1,kl0,kl1,kz0,y.v0,y.v1,y.v2,v6]))
    refine P3 hΓ₅ hΓ₆ hd hB (hx _ _ hb) fun c2 μ₂ tl x₂ hc2 hcz2 hm2 htl => ?_
    ((try dsimp only [Qx,Qu,Qn,Qv,Qg,Qf,Qz,X9,X8,X4,Xi,X2,Xa,X1,Qd,Qt,Qc,Qe,Ql,Xg,Q6,Qp,Qq,Qk,Qb,Qa,Q1,Qh,Q7,Q4,Q0,Q9,Q8,Q3,Q5,Qo,Qy,Qr,X5,X6,Qs,args0,X3,Xb,Xj,Xk,Xl,Xm,Qm,X7,Qi,Qj,Qw,Q2,zgz,zgs,zlc,zln,Nat.reduceAdd,kr0,kr1,kl0,kl1,kz0,y.v2]); (try simp (discharger := decide) only [Qx,Qu,Qn,Qv,Qg,Qf,Qz,X9,X8,X4,Xi,X2,Xa,X1,Qd,Qt,Qc,Qe,Ql,Xg,Q6,Qp,Qq,Qk,Qb,Qa,Q1,Qh,Q7,Q4,Q0,Q9,Q8,Q3,Q5,Qo,Qy,Qr,X5,X6,Qs,args0,X3,Xb,Xf,Xh,Xc,Xe,Xj,Xk,Xl,Xm,Xv,Xu,Qm,X7,Xn,Xd,Qi,Qj,Qw,Q2,Xr,zoi,zel,zta,zat,zgz,zgs,zlc,zln,Nat.reduceAdd,zza,znt,zcn,MV.int.injEq,kr0,kr1,kl0,kl1,kz0,y.v2]))
    refine ⟨Bs hm2, get_s hm2 ?_⟩
    rw [htl, Pr]
    have y7 := y.set (i := 7) (by decide) (encO (sO B n day x))
    have w6 : setv V 7 (encO (sO B n day x)) 6 = some (.int day) := (Xd (by first | exact nei h rfl | decide)).trans v6
    have w7 : setv V 7 (encO (sO B n day x)) 7 = some (encO (sO B n day x)) := Xn
    generalize setv V 7 (encO (sO B n day x)) = V at y7 w6 w7 ⊢
    (try simp only [kr0, kr1, kl0, kl1, kz0])
    refine day_body (f := fun d => sO B n d x) y7 w6 w7 (x₂ _ _ hm) hcz (by first|exact dn hd rfl|exact dl hd rfl|lia) fun μ' k' hm' => ?_
    refine go V μ' _ y7 (fun a o e => k' a (Yi e hc) o (x₂ _ _ (hx _ _ e))) hm' (by have := dayR_len (keep := Option.isSome) (f := fun d => sO B n d x) R day; lia) h
theorem Co {d : Nat} {B : Book} {b : Addr} {n low high : Int} {x : Str} {fz : List Addr} {Q : MQ} {μ : MH} (hΓ₅ : Γ "_law_counting" = some Zq) (hΓ₆ : Γ "_law_said" = some Uz) (hΓ : Γ "_law_runs" = some Ph) (hd : 3 ≤ d) (hB : BOk B) (hb : μ b = some (.idict (Book.mv B))) (h0 : 0 ≤ low) (h1 : low ≤ high) (h2 : high ≤ 1000000) (h3 : high - low ≤ 100)
    (h : ∀ (c : Addr) (μ' : MH), Ext μ μ' → μ c = none → c ∉ fz → μ' c = some (.list (runsL B n x low high)) → Q (.ref c) μ') : calls G Γ d "_law_runs" [.ref b, .int n, .str x, .int low, .int high] fz Q X0 μ := by
  refine Z2 hΓ rfl (by first|exact dn hd rfl|exact dl hd rfl|omega) (seq ?_)
  ((try dsimp only [Nh,Qx,Qu,Qn,Qv,Qg,Qf,Qz,X9,X8,X4,Xi,X2,Xa,X1,Qd,Qt,Qc,Qe,Ql,Xg,Q6,Qp,Qq,Qk,Qb,Qa,Q1,Qh,Q7,Q4,Q0,Q9,Q8,Q3,Q5,Qo,Qy,Qr,X5,X6,Qs,args0,X3,Xb,Xj,Xk,Xl,Xm,Qm,X7,Qi,Qj,Qw,Q2,zgz,zgs,zlc,zln,Nat.reduceAdd,kr0,kr1,kl0,kl1,kz0]); (try simp (discharger := decide) only [Nh,Qx,Qu,Qn,Qv,Qg,Qf,Qz,X9,X8,X4,Xi,X2,Xa,X1,Qd,Qt,Qc,Qe,Ql,Xg,Q6,Qp,Qq,Qk,Qb,Qa,Q1,Qh,Q7,Q4,Q0,Q9,Q8,Q3,Q5,Qo,Qy,Qr,X5,X6,Qs,args0,X3,Xb,Xf,Xh,Xc,Xe,Xj,Xk,Xl,Xm,Xv,Xu,Qm,X7,Xn,Xd,Qi,Qj,Qw,Q2,Xr,zoi,zel,zta,zat,zgz,zgs,zlc,zln,Nat.reduceAdd,zza,znt,zcn,MV.int.injEq,kr0,kr1,kl0,kl1,kz0]))
  intro c hc hcz
  have v3 : setv (args0 [.ref b, .int n, .str x, .int low, .int high]) 5 (.ref c) 3 = some (.int low) := rfl
  have v4 : setv (args0 [.ref b, .int n, .str x, .int low, .int high]) 5 (.ref c) 4 = some (.int high) := rfl
  have y : RV b c n x (setv (args0 [.ref b, .int n, .str x, .int low, .int high]) 5 (.ref c)) := ⟨rfl, rfl, rfl, rfl⟩
  generalize setv (args0 [.ref b, .int n, .str x, .int low, .int high]) 5 (.ref c) = V at y v3 v4 ⊢
  have x₁ : Ext μ (upd μ c (.list [])) := Ext.upd hc
  have hm : upd μ c (.list []) c = some (.list []) := Yh
  generalize upd μ c (.list []) = μ₁ at x₁ hm ⊢
  refine seq ?_
  ((try dsimp only [Ng,Qx,Qu,Qn,Qv,Qg,Qf,Qz,X9,X8,X4,Xi,X2,Xa,X1,Qd,Qt,Qc,Qe,Ql,Xg,Q6,Qp,Qq,Qk,Qb,Qa,Q1,Qh,Q7,Q4,Q0,Q9,Q8,Q3,Q5,Qo,Qy,Qr,X5,X6,Qs,args0,X3,Xb,Xj,Xk,Xl,Xm,Qm,X7,Qi,Qj,Qw,Q2,zgz,zgs,zlc,zln,Nat.reduceAdd,kr0,kr1,kl0,kl1,kz0,v3,v4]); (try simp (discharger := decide) only [Ng,Qx,Qu,Qn,Qv,Qg,Qf,Qz,X9,X8,X4,Xi,X2,Xa,X1,Qd,Qt,Qc,Qe,Ql,Xg,Q6,Qp,Qq,Qk,Qb,Qa,Q1,Qh,Q7,Q4,Q0,Q9,Q8,Q3,Q5,Qo,Qy,Qr,X5,X6,Qs,args0,X3,Xb,Xf,Xh,Xc,Xe,Xj,Xk,Xl,Xm,Xv,Xu,Qm,X7,Xn,Xd,Qi,Qj,Qw,Q2,Xr,zoi,zel,zta,zat,zgz,zgs,zlc,zln,Nat.reduceAdd,zza,znt,zcn,MV.int.injEq,kr0,kr1,kl0,kl1,kz0,v3,v4]))
  have i1 : in62 low = true := Py h0 (Int.le_trans h1 (Int.le_trans h2 (by decide)))
  have i2 : in62 (high + 1) = true := Py (Int.le_trans h0 (Int.le_add_one h1)) (Int.add_le_add_right h2 1)
  obtain ⟨k, hk, hp⟩ := Ae (keep := fun w => w.isSome) (N2 (B := B) (n := n) (x := x) h1)
  have hkl : k ≤ 101 := by lia
  have hrl := range_days hk
  refine ⟨.ints (rangeL low (high + 1) 1), (rangeL low (high + 1) 1).map .int, by simp [mkSrc, rangeM, i1, i2], rfl, fit (by rw [hrl, List.length_map, days_len]; exact Nat.le_trans hkl (by decide)), ?_⟩
  rw [hrl]
  refine D7 (μ₁ := μ) hΓ₅ hΓ₆ (by first|exact dn hd rfl|exact dl hd rfl|omega) hB hb hc hcz (days low k) V μ₁ [] y x₁ hm (by rw [days_len]; exact Nat.le_trans (Nat.add_le_add_left hkl 0) (by decide)) fun V' μ' y' x' hm' => ?_
  (try simp only [kr0, kr1, kl0, kl1, kz0])
  refine seq ?_
  ((try dsimp only [Nf,Qx,Qu,Qn,Qv,Qg,Qf,Qz,X9,X8,X4,Xi,X2,Xa,X1,Qd,Qt,Qc,Qe,Ql,Xg,Q6,Qp,Qq,Qk,Qb,Qa,Q1,Qh,Q7,Q4,Q0,Q9,Q8,Q3,Q5,Qo,Qy,Qr,X5,X6,Qs,args0,X3,Xb,Xj,Xk,Xl,Xm,Qm,X7,Qi,Qj,Qw,Q2,zgz,zgs,zlc,zln,Nat.reduceAdd,kr0,kr1,kl0,kl1,kz0,y'.v5]); (try simp (discharger := decide) only [Nf,Qx,Qu,Qn,Qv,Qg,Qf,Qz,X9,X8,X4,Xi,X2,Xa,X1,Qd,Qt,Qc,Qe,Ql,Xg,Q6,Qp,Qq,Qk,Qb,Qa,Q1,Qh,Q7,Q4,Q0,Q9,Q8,Q3,Q5,Qo,Qy,Qr,X5,X6,Qs,args0,X3,Xb,Xf,Xh,Xc,Xe,Xj,Xk,Xl,Xm,Xv,Xu,Qm,X7,Xn,Xd,Qi,Qj,Qw,Q2,Xr,zoi,zel,zta,zat,zgz,zgs,zlc,zln,Nat.reduceAdd,zza,znt,zcn,MV.int.injEq,kr0,kr1,kl0,kl1,kz0,y'.v5]))
  rw [hp] at hm'
  exact h c μ' x' hc hcz hm'
structure TenV (b p wh sh : Addr) (V : MVars) : Prop where
  v2 : V 2 = some (.ref p)
  v5 : V 5 = some (.ref wh)
  v6 : V 6 = some (.ref sh)
theorem TenV.set {b p wh sh : Addr} {V : MVars} (y : TenV b p wh sh V) {i : Nat} (h : 7 ≤ i) (v : MV) : TenV b p wh sh (setv V i v) :=
  ⟨(Xd (by first | exact nei h rfl | decide)).trans y.v2, (Xd (by first | exact nei h rfl | decide)).trans y.v5, (Xd (by first | exact nei h rfl | decide)).trans y.v6⟩
structure Twin (W W' : Book) (last : Int) : Prop where
  ok : BOk W
  ok' : BOk W'
  len : W.length ≤ 30
  len' : W'.length ≤ 30
  said : ∀ n d, last ≤ n → 0 ≤ d → d ≤ 1000000 → saidOf W' n d = saidOf W n d
structure TenH (W W' : Book) (names : List Str) (p wh sh : Addr) (μ : MH) : Prop where
  p : μ p = some (.list (names.map .str))
  wh : μ wh = some (.idict (Book.mv W))
  sh : μ sh = some (.idict (Book.mv W'))
theorem TenH.ext {W W' : Book} {names : List Str} {p wh sh : Addr} {μ μ' : MH} (h : TenH W W' names p wh sh μ) (x : Ext μ μ') : TenH W W' names p wh sh μ' := ⟨x _ _ h.p, x _ _ h.wh, x _ _ h.sh⟩
structure Ws (Γ : String → Option MFun) : Prop where
  about : Γ "is_about" = some Ja
  worth : Γ "worth_by" = some Jt
  cnt : Γ "counting" = some Jz
  wof : Γ "worth_of" = some Pf
  lcnt : Γ "_law_counting" = some Zq
  said : Γ "_law_said" = some Uz
  beg : Γ "begins_of" = some K2
  str : Γ "stretches_of" = some Zp
  runs : Γ "runs_of" = some Vz
  lruns : Γ "_law_runs" = some Ph
theorem Di {d : Nat} {W W' : Book} {last n day : Int} {b p wh sh tb : Addr} {tl : List (Str × MV)} {names : List Str} {fz : List Addr} {μ₁ : MH} {R : MFlow → MVars → MH → Prop} (w : Ws Γ) (hd : 3 ≤ d) (T : Twin W W' last) (hn : last ≤ n) (h0 : 0 ≤ day) (h1 : day ≤ 1000000) (hok : ∀ nm ∈ names, GoodN nm) (H : TenH W W' names p wh sh μ₁) (hb : μ₁ tb = some (.sdict tl)) (htl : ∀ x, (lookI tl x).getD MV.none = saidOf W n day x) :
    ∀ (xs : List Str) (V : MVars) (μ : MH), (∀ x ∈ xs, x ∈ names) → TenV b p wh sh V → V 9 = some (.int n) → V 10 = some (.int day) → V 11 = some (.ref tb) → Ext μ₁ μ →
      (∀ V' μ', TenV b p wh sh V' → V' 9 = some (.int n) → Ext μ₁ μ' → (∀ i, i < 10 → V' i = V i) → R .next V' μ') →
      loopM (.one 12) (fun vs F μ => exs G (calls G Γ d) X0 [Oi] fz vs F μ) R (xs.map .str) V μ
  | [] => fun V μ _ y v9 v10 v11 hx h => by
    simp only [List.map_nil, Z5, Z6]
    exact h V μ y v9 hx fun _ _ => rfl
  | x :: xs => fun V μ hxs y v9 v10 v11 hx h => by
    simp only [List.map_cons, Z5, Z6]
    refine ⟨_, rfl, ?_⟩
    have y' := y.set (i := 12) (by decide) (.str x)
    have w12 : setv V 12 (.str x) 12 = some (.str x) := Xn
    have w9 : setv V 12 (.str x) 9 = some (.int n) := (Xd (by first | exact nei h rfl | decide)).trans v9
    have w10 : setv V 12 (.str x) 10 = some (.int day) := (Xd (by first | exact nei h rfl | decide)).trans v10
    have w11 : setv V 12 (.str x) 11 = some (.ref tb) := (Xd (by first | exact nei h rfl | decide)).trans v11
    have hV : ∀ i, i < 10 → setv V 12 (.str x) i = V i := fun i hi => Xd (Nat.ne_of_lt (Nat.lt_of_lt_of_le hi (by decide)))
    generalize setv V 12 (.str x) = V₁ at y' w9 w10 w11 w12 hV ⊢
    have go : ∀ (μ : MH), Ext μ₁ μ → _ := fun μ hx => Di (fz := fz) w hd T hn h0 h1 hok H hb htl xs V₁ μ (fun x hx => hxs x (.tail _ hx)) y' w9 w10 w11 hx fun V' μ' y'' v' x' e => h V' μ' y'' v' x' fun i hi => (e i hi).trans (hV i hi)
    generalize loopM (.one 12) _ R (xs.map .str) = L at go ⊢
    refine seq (Je (Z7 ?_))
    ((try dsimp only [Qx,Qu,Qn,Qv,Qg,Qf,Qz,X9,X8,X4,Xi,X2,Xa,X1,Qd,Qt,Qc,Qe,Ql,Xg,Q6,Qp,Qq,Qk,Qb,Qa,Q1,Qh,Q7,Q4,Q0,Q9,Q8,Q3,Q5,Qo,Qy,Qr,X5,X6,Qs,args0,X3,Xb,Xj,Xk,Xl,Xm,Qm,X7,Qi,Qj,Qw,Q2,zgz,zgs,zlc,zln,Nat.reduceAdd,kr0,kr1,kl0,kl1,kz0,y'.v6,w9,w10,w12]); (try simp (discharger := decide) only [Qx,Qu,Qn,Qv,Qg,Qf,Qz,X9,X8,X4,Xi,X2,Xa,X1,Qd,Qt,Qc,Qe,Ql,Xg,Q6,Qp,Qq,Qk,Qb,Qa,Q1,Qh,Q7,Q4,Q0,Q9,Q8,Q3,Q5,Qo,Qy,Qr,X5,X6,Qs,args0,X3,Xb,Xf,Xh,Xc,Xe,Xj,Xk,Xl,Xm,Xv,Xu,Qm,X7,Xn,Xd,Qi,Qj,Qw,Q2,Xr,zoi,zel,zta,zat,zgz,zgs,zlc,zln,Nat.reduceAdd,zza,znt,zcn,MV.int.injEq,kr0,kr1,kl0,kl1,kz0,y'.v6,w9,w10,w12]))
    refine Cj w.about w.worth w.cnt w.wof hd T.ok' (hx _ _ H.sh) (hok x (hxs x (.head _))).ok fun μ₂ x₂ => ?_
    ((try dsimp only [Qx,Qu,Qn,Qv,Qg,Qf,Qz,X9,X8,X4,Xi,X2,Xa,X1,Qd,Qt,Qc,Qe,Ql,Xg,Q6,Qp,Qq,Qk,Qb,Qa,Q1,Qh,Q7,Q4,Q0,Q9,Q8,Q3,Q5,Qo,Qy,Qr,X5,X6,Qs,args0,X3,Xb,Xj,Xk,Xl,Xm,Qm,X7,Qi,Qj,Qw,Q2,zgz,zgs,zlc,zln,Nat.reduceAdd,kr0,kr1,kl0,kl1,kz0,w11,w12]); (try simp (discharger := decide) only [Qx,Qu,Qn,Qv,Qg,Qf,Qz,X9,X8,X4,Xi,X2,Xa,X1,Qd,Qt,Qc,Qe,Ql,Xg,Q6,Qp,Qq,Qk,Qb,Qa,Q1,Qh,Q7,Q4,Q0,Q9,Q8,Q3,Q5,Qo,Qy,Qr,X5,X6,Qs,args0,X3,Xb,Xf,Xh,Xc,Xe,Xj,Xk,Xl,Xm,Xv,Xu,Qm,X7,Xn,Xd,Qi,Qj,Qw,Q2,Xr,zoi,zel,zta,zat,zgz,zgs,zlc,zln,Nat.reduceAdd,zza,znt,zcn,MV.int.injEq,kr0,kr1,kl0,kl1,kz0,w11,w12]))
    refine ⟨Bs (x₂ _ _ (hx _ _ hb)), get_s (x₂ _ _ (hx _ _ hb)) ?_⟩
    rw [htl, T.said n day hn h0 h1]
    refine ⟨false, by rw [show cmpM .ne μ₂ (saidOf W n day x) (saidOf W n day x) = (eqM μ₂ (saidOf W n day x) (saidOf W n day x)).map (!·) from rfl, eqM_wth (said_wth x)]; rfl, ?_⟩
    simp only [Bool.false_eq_true, if_false]
    exact Zm (K3 (go _ (hx.trans x₂)))
theorem day_loop {d : Nat} {W W' : Book} {last n : Int} {b p wh sh : Addr} {names : List Str} {fz : List Addr} {μ₁ : MH} {R : MFlow → MVars → MH → Prop} (w : Ws Γ) (hd : 3 ≤ d) (T : Twin W W' last) (hn : last ≤ n) (h3 : names.length = 3) (hok : ∀ nm ∈ names, GoodN nm) (H : TenH W W' names p wh sh μ₁) :
    ∀ (ds : List Int) (V : MVars) (μ : MH), (∀ k ∈ ds, 0 ≤ k ∧ k ≤ 1000000) → TenV b p wh sh V → V 9 = some (.int n) → Ext μ₁ μ →
      (∀ V' μ', TenV b p wh sh V' → Ext μ₁ μ' → (∀ i, i < 10 → V' i = V i) → R .next V' μ') →
      loopM (.one 10) (fun vs F μ => exs G (calls G Γ d) X0 [Uq, Up] fz vs F μ) R (ds.map .int) V μ
  | [] => fun V μ _ y v9 hx h => by
    simp only [List.map_nil, Z5, Z6]
    exact h V μ y hx fun _ _ => rfl
  | k :: ds => fun V μ hk y v9 hx h => by
    simp only [List.map_cons, Z5, Z6]
    refine ⟨_, rfl, ?_⟩
    obtain ⟨k0, k1⟩ := hk k (.head _)
    have y' := y.set (i := 10) (by decide) (.int k)
    have w10 : setv V 10 (.int k) 10 = some (.int k) := Xn
    have w9 : setv V 10 (.int k) 9 = some (.int n) := (Xd (by first | exact nei h rfl | decide)).trans v9
    have hV : ∀ i, i < 10 → setv V 10 (.int k) i = V i := fun i hi => Xd (Nat.ne_of_lt hi)
    generalize setv V 10 (.int k) = V₁ at y' w9 w10 hV ⊢
    have go : ∀ (V₂ : MVars) (μ : MH), TenV b p wh sh V₂ → V₂ 9 = some (.int n) → (∀ i, i < 10 → V₂ i = V i) → Ext μ₁ μ → _ := fun V₂ μ y v9 e hx => day_loop (fz := fz) w hd T hn h3 hok H ds V₂ μ (fun k hk' => hk k (.tail _ hk')) y v9 hx fun V' μ' y' x' e' => h V' μ' y' x' fun i hi => (e' i hi).trans (e i hi)
    generalize loopM (.one 10) _ R (ds.map .int) = L at go ⊢
    refine seq ?_
    ((try dsimp only [Uq,Qx,Qu,Qn,Qv,Qg,Qf,Qz,X9,X8,X4,Xi,X2,Xa,X1,Qd,Qt,Qc,Qe,Ql,Xg,Q6,Qp,Qq,Qk,Qb,Qa,Q1,Qh,Q7,Q4,Q0,Q9,Q8,Q3,Q5,Qo,Qy,Qr,X5,X6,Qs,args0,X3,Xb,Xj,Xk,Xl,Xm,Qm,X7,Qi,Qj,Qw,Q2,zgz,zgs,zlc,zln,Nat.reduceAdd,kr0,kr1,kl0,kl1,kz0,y'.v5,w9,w10]); (try simp (discharger := decide) only [Uq,Qx,Qu,Qn,Qv,Qg,Qf,Qz,X9,X8,X4,Xi,X2,Xa,X1,Qd,Qt,Qc,Qe,Ql,Xg,Q6,Qp,Qq,Qk,Qb,Qa,Q1,Qh,Q7,Q4,Q0,Q9,Q8,Q3,Q5,Qo,Qy,Qr,X5,X6,Qs,args0,X3,Xb,Xf,Xh,Xc,Xe,Xj,Xk,Xl,Xm,Xv,Xu,Qm,X7,Xn,Xd,Qi,Qj,Qw,Q2,Xr,zoi,zel,zta,zat,zgz,zgs,zlc,zln,Nat.reduceAdd,zza,znt,zcn,MV.int.injEq,kr0,kr1,kl0,kl1,kz0,y'.v5,w9,w10]))
    refine P3 w.lcnt w.said (by first|exact dn hd rfl|exact dl hd rfl|omega) T.ok (hx _ _ H.wh) fun tb μ₂ tl x₂ _ _ hm2 htl => ?_
    replace x₂ := hx.trans x₂
    have y2 := y'.set (i := 11) (by decide) (.ref tb)
    have z9 : setv V₁ 11 (.ref tb) 9 = some (.int n) := (Xd (by first | exact nei h rfl | decide)).trans w9
    have z10 : setv V₁ 11 (.ref tb) 10 = some (.int k) := (Xd (by first | exact nei h rfl | decide)).trans w10
    have z11 : setv V₁ 11 (.ref tb) 11 = some (.ref tb) := Xn
    have hV2 : ∀ i, i < 10 → setv V₁ 11 (.ref tb) i = V i := fun i hi => (Xd (Nat.ne_of_lt (Nat.lt_of_lt_of_le hi (by decide)))).trans (hV i hi)
    generalize setv V₁ 11 (.ref tb) = V₂ at y2 z9 z10 z11 hV2 ⊢
    (try simp only [kr0, kr1, kl0, kl1, kz0])
    have H₂ := H.ext x₂
    refine seq ?_
    ((try dsimp only [Up,Qx,Qu,Qn,Qv,Qg,Qf,Qz,X9,X8,X4,Xi,X2,Xa,X1,Qd,Qt,Qc,Qe,Ql,Xg,Q6,Qp,Qq,Qk,Qb,Qa,Q1,Qh,Q7,Q4,Q0,Q9,Q8,Q3,Q5,Qo,Qy,Qr,X5,X6,Qs,args0,X3,Xb,Xj,Xk,Xl,Xm,Qm,X7,Qi,Qj,Qw,Q2,zgz,zgs,zlc,zln,Nat.reduceAdd,kr0,kr1,kl0,kl1,kz0,y2.v2]); (try simp (discharger := decide) only [Up,Qx,Qu,Qn,Qv,Qg,Qf,Qz,X9,X8,X4,Xi,X2,Xa,X1,Qd,Qt,Qc,Qe,Ql,Xg,Q6,Qp,Qq,Qk,Qb,Qa,Q1,Qh,Q7,Q4,Q0,Q9,Q8,Q3,Q5,Qo,Qy,Qr,X5,X6,Qs,args0,X3,Xb,Xf,Xh,Xc,Xe,Xj,Xk,Xl,Xm,Xv,Xu,Qm,X7,Xn,Xd,Qi,Qj,Qw,Q2,Xr,zoi,zel,zta,zat,zgz,zgs,zlc,zln,Nat.reduceAdd,zza,znt,zcn,MV.int.injEq,kr0,kr1,kl0,kl1,kz0,y2.v2]))
    refine ⟨.val (.ref p), names.map .str, rfl, by simp only [Src.items, items, itemsO, keysO, valsO, H₂.p], fit (by rw [List.length_map, h3]; decide), ?_⟩
    refine Di (μ₁ := μ₂) w hd T hn k0 k1 hok H₂ hm2 htl names V₂ μ₂ (fun x hx => hx) y2 z9 z10 z11 Ext.refl fun V₃ μ₃ y3 v3 x₃ e₃ => ?_
    (try simp only [kr0, kr1, kl0, kl1, kz0])
    exact Zm (go V₃ μ₃ y3 v3 (fun i hi => (e₃ i hi).trans (hV2 i hi)) (x₂.trans x₃))
end Mine
end
section
namespace Mine
open PySem
variable {G : String → Option MV} {Γ : String → Option MFun}
theorem num_loop {d : Nat} {W W' : Book} {last : Int} {b p wh sh da : Addr} {names : List Str} {D : List Int} {fz : List Addr} {μ₁ : MH} {R : MFlow → MVars → MH → Prop} (w : Ws Γ) (hd : 3 ≤ d) (T : Twin W W' last) (h3 : names.length = 3) (hok : ∀ nm ∈ names, GoodN nm) (hD : ∀ k ∈ D, 0 ≤ k ∧ k ≤ 1000000) (hDl : D.length ≤ 1000) (H : TenH W W' names p wh sh μ₁) (hda : μ₁ da = some (.list (D.map .int))) :
    ∀ (ks : List Int) (V : MVars) (μ : MH), (∀ k ∈ ks, last ≤ k) → TenV b p wh sh V → V 8 = some (.ref da) → Ext μ₁ μ →
      (∀ V' μ', TenV b p wh sh V' → Ext μ₁ μ' → (∀ i, i < 9 → V' i = V i) → R .next V' μ') →
      loopM (.one 9) (fun vs F μ => exs G (calls G Γ d) X0 [Nt] fz vs F μ) R (ks.map .int) V μ
  | [] => fun V μ _ y v8 hx h => by
    simp only [List.map_nil, Z5, Z6]
    exact h V μ y hx fun _ _ => rfl
  | k :: ks => fun V μ hk y v8 hx h => by
    simp only [List.map_cons, Z5, Z6]
    refine ⟨_, rfl, ?_⟩
    have y' := y.set (i := 9) (by decide) (.int k)
    have w9 : setv V 9 (.int k) 9 = some (.int k) := Xn
    have w8 : setv V 9 (.int k) 8 = some (.ref da) := (Xd (by first | exact nei h rfl | decide)).trans v8
    have hV : ∀ i, i < 9 → setv V 9 (.int k) i = V i := fun i hi => Xd (Nat.ne_of_lt hi)
    generalize setv V 9 (.int k) = V₁ at y' w9 w8 hV ⊢
    have go : ∀ (V₂ : MVars) (μ : MH), TenV b p wh sh V₂ → V₂ 8 = some (.ref da) → (∀ i, i < 9 → V₂ i = V i) → Ext μ₁ μ → _ := fun V₂ μ y v8 e hx => num_loop (fz := fz) w hd T h3 hok hD hDl H hda ks V₂ μ (fun k hk' => hk k (.tail _ hk')) y v8 hx fun V' μ' y' x' e' => h V' μ' y' x' fun i hi => (e' i hi).trans (e i hi)
    generalize loopM (.one 9) _ R (ks.map .int) = L at go ⊢
    have H₁ := H.ext hx
    refine seq ?_
    ((try dsimp only [Nt,Qx,Qu,Qn,Qv,Qg,Qf,Qz,X9,X8,X4,Xi,X2,Xa,X1,Qd,Qt,Qc,Qe,Ql,Xg,Q6,Qp,Qq,Qk,Qb,Qa,Q1,Qh,Q7,Q4,Q0,Q9,Q8,Q3,Q5,Qo,Qy,Qr,X5,X6,Qs,args0,X3,Xb,Xj,Xk,Xl,Xm,Qm,X7,Qi,Qj,Qw,Q2,zgz,zgs,zlc,zln,Nat.reduceAdd,kr0,kr1,kl0,kl1,kz0,w8]); (try simp (discharger := decide) only [Nt,Qx,Qu,Qn,Qv,Qg,Qf,Qz,X9,X8,X4,Xi,X2,Xa,X1,Qd,Qt,Qc,Qe,Ql,Xg,Q6,Qp,Qq,Qk,Qb,Qa,Q1,Qh,Q7,Q4,Q0,Q9,Q8,Q3,Q5,Qo,Qy,Qr,X5,X6,Qs,args0,X3,Xb,Xf,Xh,Xc,Xe,Xj,Xk,Xl,Xm,Xv,Xu,Qm,X7,Xn,Xd,Qi,Qj,Qw,Q2,Xr,zoi,zel,zta,zat,zgz,zgs,zlc,zln,Nat.reduceAdd,zza,znt,zcn,MV.int.injEq,kr0,kr1,kl0,kl1,kz0,w8]))
    refine ⟨.val (.ref da), D.map .int, rfl, by simp only [Src.items, items, itemsO, keysO, valsO, hx _ _ hda], fit (by rw [List.length_map]; exact Nat.le_trans hDl (by decide)), ?_⟩
    refine day_loop (μ₁ := μ) w hd T (hk k (.head _)) h3 hok H₁ D V₁ μ hD y' w9 Ext.refl fun V₂ μ₂ y2 x2 e2 => ?_
    (try simp only [kr0, kr1, kl0, kl1, kz0])
    exact Zm (go V₂ μ₂ y2 ((e2 8 (by decide)).trans w8) (fun i hi => (e2 i (Nat.lt_succ_of_lt hi)).trans (hV i hi)) (hx.trans x2))
theorem run_loop {d : Nat} {W W' : Book} {last n base : Int} {b p wh sh : Addr} {names : List Str} {fz : List Addr} {μ₁ : MH} {R : MFlow → MVars → MH → Prop} (w : Ws Γ) (hd : 5 ≤ d) (T : Twin W W' last) (hn : last ≤ n) (hok : ∀ nm ∈ names, GoodN nm) (hb0 : 0 ≤ base) (hb1 : base ≤ 999982) (H : TenH W W' names p wh sh μ₁) :
    ∀ (xs : List Str) (V : MVars) (μ : MH), (∀ x ∈ xs, x ∈ names) → TenV b p wh sh V → V 7 = some (.int base) → V 9 = some (.int n) → Ext μ₁ μ → (∀ V' μ', R .next V' μ') →
      loopM (.one 12) (fun vs F μ => exs G (calls G Γ d) X0 [C3] fz vs F μ) R (xs.map .str) V μ
  | [] => fun V μ _ y v7 v9 hx h => by
    simp only [List.map_nil, Z5, Z6]
    exact h V μ
  | x :: xs => fun V μ hxs y v7 v9 hx h => by
    simp only [List.map_cons, Z5, Z6]
    refine ⟨_, rfl, ?_⟩
    replace y := y.set (i := 12) (by decide) (.str x)
    have w12 : setv V 12 (.str x) 12 = some (.str x) := Xn
    replace v7 : setv V 12 (.str x) 7 = some (.int base) := (Xd (by first | exact nei h rfl | decide)).trans v7
    replace v9 : setv V 12 (.str x) 9 = some (.int n) := (Xd (by first | exact nei h rfl | decide)).trans v9
    generalize setv V 12 (.str x) = V at y v7 v9 w12 ⊢
    have go : ∀ (μ : MH), Ext μ₁ μ → _ := fun μ hx => run_loop (fz := fz) w hd T hn hok hb0 hb1 H xs V μ (fun x hx => hxs x (.tail _ hx)) y v7 v9 hx h
    generalize loopM (.one 12) _ R (xs.map .str) = L at go ⊢
    have hle : base ≤ base + 12 := Int.le_add_of_nonneg_right (by decide)
    have hhi : base + 12 ≤ 1000000 := Int.le_trans (Int.add_le_add_right hb1 12) (by decide)
    have hag : Agree W W' n x base (base + 12) := fun d d1 d2 => by unfold sO; rw [T.said n d hn (Int.le_trans hb0 d1) (Int.le_trans d2 hhi)]
    refine seq (Je (Z7 ?_))
    ((try dsimp only [Qx,Qu,Qn,Qv,Qg,Qf,Qz,X9,X8,X4,Xi,X2,Xa,X1,Qd,Qt,Qc,Qe,Ql,Xg,Q6,Qp,Qq,Qk,Qb,Qa,Q1,Qh,Q7,Q4,Q0,Q9,Q8,Q3,Q5,Qo,Qy,Qr,X5,X6,Qs,args0,X3,Xb,Xj,Xk,Xl,Xm,Qm,X7,Qi,Qj,Qw,Q2,zgz,zgs,zlc,zln,Nat.reduceAdd,kr0,kr1,kl0,kl1,kz0,y.v5,y.v6,v7,v9,w12]); (try simp (discharger := decide) only [Qx,Qu,Qn,Qv,Qg,Qf,Qz,X9,X8,X4,Xi,X2,Xa,X1,Qd,Qt,Qc,Qe,Ql,Xg,Q6,Qp,Qq,Qk,Qb,Qa,Q1,Qh,Q7,Q4,Q0,Q9,Q8,Q3,Q5,Qo,Qy,Qr,X5,X6,Qs,args0,X3,Xb,Xf,Xh,Xc,Xe,Xj,Xk,Xl,Xm,Xv,Xu,Qm,X7,Xn,Xd,Qi,Qj,Qw,Q2,Xr,zoi,zel,zta,zat,zgz,zgs,zlc,zln,Nat.reduceAdd,zza,znt,zcn,MV.int.injEq,kr0,kr1,kl0,kl1,kz0,y.v5,y.v6,v7,v9,w12]))
    refine Ps w.about w.worth w.cnt w.beg w.str w.runs (by first|exact dn hd rfl|exact dl hd rfl|omega) T.ok' T.len' (hx _ _ H.sh) (hok x (hxs x (.head _))).ok fun c₁ μ₂ x₂ _ _ hm₁ => ?_
    ((try dsimp only [Qx,Qu,Qn,Qv,Qg,Qf,Qz,X9,X8,X4,Xi,X2,Xa,X1,Qd,Qt,Qc,Qe,Ql,Xg,Q6,Qp,Qq,Qk,Qb,Qa,Q1,Qh,Q7,Q4,Q0,Q9,Q8,Q3,Q5,Qo,Qy,Qr,X5,X6,Qs,args0,X3,Xb,Xj,Xk,Xl,Xm,Qm,X7,Qi,Qj,Qw,Q2,zgz,zgs,zlc,zln,Nat.reduceAdd,kr0,kr1,kl0,kl1,kz0,y.v5,v7,v9,w12]); (try simp (discharger := decide) only [Qx,Qu,Qn,Qv,Qg,Qf,Qz,X9,X8,X4,Xi,X2,Xa,X1,Qd,Qt,Qc,Qe,Ql,Xg,Q6,Qp,Qq,Qk,Qb,Qa,Q1,Qh,Q7,Q4,Q0,Q9,Q8,Q3,Q5,Qo,Qy,Qr,X5,X6,Qs,args0,X3,Xb,Xf,Xh,Xc,Xe,Xj,Xk,Xl,Xm,Xv,Xu,Qm,X7,Xn,Xd,Qi,Qj,Qw,Q2,Xr,zoi,zel,zta,zat,zgz,zgs,zlc,zln,Nat.reduceAdd,zza,znt,zcn,MV.int.injEq,kr0,kr1,kl0,kl1,kz0,y.v5,v7,v9,w12]))
    replace x₂ := hx.trans x₂
    refine Co w.lcnt w.said w.lruns (by first|exact dn hd rfl|exact dl hd rfl|omega) T.ok (x₂ _ _ H.wh) hb0 hle hhi (by first|exact dn hd rfl|exact dl hd rfl|lia) fun c₂ μ₃ x₃ _ _ hm₂ => ?_
    refine ⟨false, ?_, ?_⟩
    · show (eqM μ₃ (.ref c₁) (.ref c₂)).map (!·) = _
      rw [codeS.eqM (xs := segs W' n x base (base + 12)) (ys := segs W n x base (base + 12)) (x₃ _ _ hm₁) hm₂, Bl hle hag, codeS.refl]; rfl
    · simp only [Bool.false_eq_true, if_false]
      exact Zm (K3 (go _ (x₂.trans x₃)))
theorem Fo {a : Int} {l : List Int} : a ≤ l.foldl max a := by
  induction l generalizing a with
  | nil => exact Int.le_refl _
  | cons x l ih => exact Int.le_trans (Int.le_max_left a x) ih
theorem max_more {l m : List Int} (h : ∀ k ∈ m, (maxI l).getD 0 < k) : (maxI l).getD 0 ≤ (maxI (l ++ m)).getD 0 := by
  cases l with
  | nil =>
    cases m with
    | nil => exact Int.le_refl _
    | cons x r => exact Int.le_trans (Int.le_of_lt (h x (.head _))) Fo
  | cons x r =>
    show r.foldl max x ≤ (r ++ m).foldl max x
    rw [List.foldl_append]
    exact Fo
theorem max_zero {l : List Int} (h : ∀ k ∈ l, 1 ≤ k ∧ k ≤ 40) : maxI (0 :: l) = some ((maxI l).getD 0) := by
  cases l with
  | nil => rfl
  | cons x r =>
    show some (r.foldl max (max 0 x)) = some (r.foldl max x)
    rw [Int.max_eq_right (Int.le_trans (by decide) (h x (.head _)).1)]
theorem max_le {l : List Int} {a : Int} (ha : ∀ k ∈ l, k ≤ a) (h0 : 0 ≤ a) : ∀ k ∈ l, k ≤ (maxI l).getD 0 := fun k hk => by
  cases l with
  | nil => cases hk
  | cons x r =>
    show k ≤ r.foldl max x
    have key : ∀ (r : List Int) (x : Int), (k = x ∨ k ∈ r) → k ≤ r.foldl max x := fun r => by
      induction r with
      | nil => exact fun x c => c.elim (fun e => e ▸ Int.le_refl _) fun m => by cases m
      | cons y r ih =>
        intro x c
        rcases c with rfl | m
        · exact Int.le_trans (Int.le_max_left k y) Fo
        · rcases List.mem_cons.mp m with rfl | m
          · exact Int.le_trans (Int.le_max_right x k) Fo
          · exact ih _ (.inr m)
    exact key r x (List.mem_cons.mp hk)
theorem base_rng2 (ns : List Int) : 0 ≤ baseOf ns ∧ baseOf ns ≤ 999982 := by
  have hf := fm (a := at0 ns 0) (b := 4) (by decide)
  have := B5 (l := [0, 7, 300, 999982]) hf.1 (by simpa using hf.2)
  unfold baseOf
  simp only [List.mem_cons, List.not_mem_nil, or_false] at this
  rcases this with e | e | e | e <;> rw [e] <;> decide
theorem comp_if {Z : Type} {fz : List Addr} {t : MT} {vars : MVars} {T : MVars → (Bool → MH → Prop) → MH → Prop} {Bd : MVars → MQ → MH → Prop} {Q : MQ} {μ : MH} (enc : Z → MV) (p : Z → Bool) (g : Z → MV) {zs : List Z} : ∀ {acc : List MV},
    (∀ z ∈ zs, ∃ vars', bindT t (enc z) vars = some vars' ∧ (∀ F : Bool → MH → Prop, F (p z) μ → T vars' F μ) ∧ (p z = true → ∀ F : MQ, F (g z) μ → Bd vars' F μ)) →
    (∀ c, μ c = none → c ∉ fz → Q (.ref c) (upd μ c (.list (acc ++ (zs.filter p).map g)))) → compM fz t vars T Bd Q (zs.map enc) acc μ := by
  induction zs with
  | nil =>
    intro acc _ h c hc hcz
    have := h c hc hcz
    rw [List.filter_nil, List.map_nil, List.append_nil] at this
    exact this
  | cons z zs ih =>
    intro acc hv h
    obtain ⟨vars', hb, hT, hB⟩ := hv z (.head _)
    refine ⟨vars', hb, hT _ ?_⟩
    cases q : p z with
    | false =>
      rw [if_neg Bool.false_ne_true]
      rw [List.filter_cons_of_neg (by rw [q]; decide)] at h
      exact ih (fun u hu => hv u (.tail _ hu)) h
    | true =>
      rw [if_pos rfl]
      rw [List.filter_cons_of_pos q, List.map_cons] at h
      exact hB q _ (ih (fun u hu => hv u (.tail _ hu)) fun c hc hcz => by rw [List.append_assoc]; exact h c hc hcz)
end Mine
end
section
namespace Mine
open PySem
variable {G : String → Option MV} {Γ : String → Option MFun}
structure Xs (G : String → Option MV) (Γ : String → Option MFun) : Prop where
  g : Gs G Γ
  w : Ws Γ
  of : Γ "_law_of" = some Uc
  base : Γ "_law_base" = some Jx
  entry : Γ "_law_entry" = some J9
  names : Γ "_law_names" = some Ud
  lbook : Γ "_law_book" = some Pk
  more : Γ "_law_more" = some Pj
  short : Γ "shortened" = some Oa
  law : Γ "law" = some f_law
theorem more_later {B M : Book} {last top : Int} (hk : ∀ k ∈ B.keys, k ≤ last) (h : MoreOk last top M) : Later B M last :=
  ⟨hk, fun k hk' => by obtain ⟨q, hq, rfl⟩ := List.mem_map.mp hk'; exact (h.ent q hq).gt, fun q hq => (h.ent q hq).undo⟩
theorem more_nd {B M : Book} {last : Int} (hn : B.keys.Nodup) (hm : M.keys.Nodup) (h : Later B M last) : (B ++ M).keys.Nodup := by
  rw [V8, List.nodup_append]
  exact ⟨hn, hm, fun a ha b hb e => Int.lt_irrefl _ (Int.lt_of_lt_of_le (h.gt b hb) (e ▸ h.le a ha))⟩
theorem Dj (B M : Book) : Book.mv (B ++ M) = Book.mv B ++ Book.mv M := List.map_append
theorem more_ok {B M : Book} {last top : Int} (hB : BOk B) (hl : B.length ≤ 14) (hM : M.length ≤ 9) (h : Later B M last) (ho : MoreOk last top M) : BOk (B ++ M) :=
  ⟨more_nd hB.nodup ho.nd h, fun q hq => (List.mem_append.mp hq).elim (hB.ok q) fun m => (ho.ent q m).ok, by rw [List.length_append]; lia⟩
theorem upd_meth {fz : List Addr} {μ : MH} {a b : Addr} {B M : Book} {Q : MQ} (ha : μ a = some (.idict (Book.mv B))) (hb : μ b = some (.idict (Book.mv M))) (hf : a ∉ fz) (hab : a ≠ b) (hl : B.length + M.length ≤ 1000) (hnd : (B ++ M).keys.Nodup) (h : Q .none (upd μ a (.idict (Book.mv (B ++ M))))) : methM fz .update (.ref a) [.ref b] Q μ := by
  refine ⟨Book.mv B, Book.mv M, ha, hf, hb, hab, fit (by rw [Book.mv_len, Book.mv_len]; exact Nat.le_trans hl (by decide)), ?_⟩
  rw [B6 (by rw [← Dj, Book.mv_keys]; exact hnd), ← Dj]
  exact h
theorem law10_rest {d : Nat} {W W' : Book} {last : Int} {b p wh sh mo a : Addr} {ns : List Int} {names : List Str} {M : Book} {V : MVars} {fz : List Addr} {R : MFlow → MVars → MH → Prop} {μ : MH} (F : Xs G Γ) (hd : 9 ≤ d) (T : Twin W W' last) (hl0 : 0 ≤ last) (hMk : ∀ k ∈ M.keys, last ≤ k) (hMl : M.length ≤ 9) (hWn : last ≤ (maxI W.keys).getD 0) (hW : ∀ q ∈ W, ∀ nm lo hi, q.2.sp = some (nm, lo, hi) → 0 ≤ lo ∧ lo ≤ 1000000) (h3 : names.length = 3) (hok : ∀ nm ∈ names, GoodN nm) (hn : ns.length ≤ 63)
    (y : TenV b p wh sh V) (v0 : V 0 = some (.ref a)) (v3 : V 3 = some (.int last)) (v4 : V 4 = some (.ref mo)) (ha : μ a = some (.list (ns.map .int))) (hmo : μ mo = some (.idict (Book.mv M))) (H : TenH W W' names p wh sh μ) (hR : ∀ V' μ', R (.ret (.bool true)) V' μ') :
    exs G (calls G Γ d) X0 [A0, A2, A1, Oj, Oh, Og, Of] fz V R μ := by
  refine seq ?_
  ((try dsimp only [A0,Qx,Qu,Qn,Qv,Qg,Qf,Qz,X9,X8,X4,Xi,X2,Xa,X1,Qd,Qt,Qc,Qe,Ql,Xg,Q6,Qp,Qq,Qk,Qb,Qa,Q1,Qh,Q7,Q4,Q0,Q9,Q8,Q3,Q5,Qo,Qy,Qr,X5,X6,Qs,args0,X3,Xb,Xj,Xk,Xl,Xm,Qm,X7,Qi,Qj,Qw,Q2,zgz,zgs,zlc,zln,Nat.reduceAdd,kr0,kr1,kl0,kl1,kz0,v0]); (try simp (discharger := decide) only [A0,Qx,Qu,Qn,Qv,Qg,Qf,Qz,X9,X8,X4,Xi,X2,Xa,X1,Qd,Qt,Qc,Qe,Ql,Xg,Q6,Qp,Qq,Qk,Qb,Qa,Q1,Qh,Q7,Q4,Q0,Q9,Q8,Q3,Q5,Qo,Qy,Qr,X5,X6,Qs,args0,X3,Xb,Xf,Xh,Xc,Xe,Xj,Xk,Xl,Xm,Xv,Xu,Qm,X7,Xn,Xd,Qi,Qj,Qw,Q2,Xr,zoi,zel,zta,zat,zgz,zgs,zlc,zln,Nat.reduceAdd,zza,znt,zcn,MV.int.injEq,kr0,kr1,kl0,kl1,kz0,v0]))
  refine Jh F.of F.base (by first|exact dn hd rfl|exact dl hd rfl|omega) ha hn fun μ₁ x₁ => ?_
  obtain ⟨hb0, hb1⟩ := base_rng2 ns
  generalize baseOf ns = base at hb0 hb1 ⊢
  replace H := H.ext x₁
  replace ha := x₁ _ _ ha
  replace hmo := x₁ _ _ hmo
  clear x₁
  replace y := y.set (i := 7) (by decide) (.int base)
  replace v0 : setv V 7 (.int base) 0 = some (.ref a) := (Xd (by first | exact nei h rfl | decide)).trans v0
  replace v3 : setv V 7 (.int base) 3 = some (.int last) := (Xd (by first | exact nei h rfl | decide)).trans v3
  replace v4 : setv V 7 (.int base) 4 = some (.ref mo) := (Xd (by first | exact nei h rfl | decide)).trans v4
  have v7 : setv V 7 (.int base) 7 = some (.int base) := Xn
  generalize setv V 7 (.int base) = V at y v0 v3 v4 v7 ⊢
  (try simp only [kr0, kr1, kl0, kl1, kz0])
  refine seq ?_
  rw [A2, Q3, Qq]
  ((try dsimp only [Qx,Qu,Qn,Qv,Qg,Qf,Qz,X9,X8,X4,Xi,X2,Xa,X1,Qd,Qt,Qc,Qe,Ql,Xg,Q6,Qp,Qq,Qk,Qb,Qa,Q1,Qh,Q7,Q4,Q0,Q9,Q8,Q3,Q5,Qo,Qy,Qr,X5,X6,Qs,args0,X3,Xb,Xj,Xk,Xl,Xm,Qm,X7,Qi,Qj,Qw,Q2,zgz,zgs,zlc,zln,Nat.reduceAdd,kr0,kr1,kl0,kl1,kz0,v0,v7]); (try simp (discharger := decide) only [Qx,Qu,Qn,Qv,Qg,Qf,Qz,X9,X8,X4,Xi,X2,Xa,X1,Qd,Qt,Qc,Qe,Ql,Xg,Q6,Qp,Qq,Qk,Qb,Qa,Q1,Qh,Q7,Q4,Q0,Q9,Q8,Q3,Q5,Qo,Qy,Qr,X5,X6,Qs,args0,X3,Xb,Xf,Xh,Xc,Xe,Xj,Xk,Xl,Xm,Xv,Xu,Qm,X7,Xn,Xd,Qi,Qj,Qw,Q2,Xr,zoi,zel,zta,zat,zgz,zgs,zlc,zln,Nat.reduceAdd,zza,znt,zcn,MV.int.injEq,kr0,kr1,kl0,kl1,kz0,v0,v7]))
  refine Zi F.of (by first|exact dn hd rfl|exact dl hd rfl|omega) ha hn (by decide) fun μ₂ x₂ => ?_
  ((try dsimp only [Qx,Qu,Qn,Qv,Qg,Qf,Qz,X9,X8,X4,Xi,X2,Xa,X1,Qd,Qt,Qc,Qe,Ql,Xg,Q6,Qp,Qq,Qk,Qb,Qa,Q1,Qh,Q7,Q4,Q0,Q9,Q8,Q3,Q5,Qo,Qy,Qr,X5,X6,Qs,args0,X3,Xb,Xj,Xk,Xl,Xm,Qm,X7,Qi,Qj,Qw,Q2,zgz,zgs,zlc,zln,Nat.reduceAdd,kr0,kr1,kl0,kl1,kz0,v7]); (try simp (discharger := decide) only [Qx,Qu,Qn,Qv,Qg,Qf,Qz,X9,X8,X4,Xi,X2,Xa,X1,Qd,Qt,Qc,Qe,Ql,Xg,Q6,Qp,Qq,Qk,Qb,Qa,Q1,Qh,Q7,Q4,Q0,Q9,Q8,Q3,Q5,Qo,Qy,Qr,X5,X6,Qs,args0,X3,Xb,Xf,Xh,Xc,Xe,Xj,Xk,Xl,Xm,Xv,Xu,Qm,X7,Xn,Xd,Qi,Qj,Qw,Q2,Xr,zoi,zel,zta,zat,zgz,zgs,zlc,zln,Nat.reduceAdd,zza,znt,zcn,MV.int.injEq,kr0,kr1,kl0,kl1,kz0,v7]))
  obtain ⟨f1, f2⟩ := fm (a := at0 ns 2) (b := 4) (by decide)
  generalize (at0 ns 2).fmod 4 = off at f1 f2 ⊢
  have i1 : in62 (base + off) = true := Py (Int.add_nonneg hb0 f1) (Int.le_trans (Int.add_le_add hb1 (Int.le_of_lt f2)) (by decide))
  have i2 : in62 (base + 19) = true := Py (Int.add_nonneg hb0 (by decide)) (Int.le_trans (Int.add_le_add_right hb1 19) (by decide))
  have hrl : (rangeL (base + off) (base + 19) 3).length ≤ 100 := by rw [Zy]; lia
  have hr0 : ∀ k ∈ rangeL (base + off) (base + 19) 3, 0 ≤ k := fun k hk => by
    obtain ⟨j, _, rfl⟩ := List.mem_map.mp hk
    exact Int.add_nonneg (Int.add_nonneg hb0 f1) (Int.mul_nonneg (by decide) (Int.natCast_nonneg j))
  refine ⟨.ints (rangeL (base + off) (base + 19) 3), (rangeL (base + off) (base + 19) 3).map .int, by simp [mkSrc, rangeM, i1, i2], rfl, fit (by rw [List.length_map]; exact Nat.le_trans hrl (by decide)), ?_⟩
  replace H := H.ext x₂
  replace hmo := x₂ _ _ hmo
  clear x₂ ha i1 i2
  generalize rangeL (base + off) (base + 19) 3 = rg at hrl hr0 ⊢
  refine Ox MV.int (fun k => decide (k ≤ 1000000)) MV.int (fun k _ => ?_) fun d1 hd1 _ => ?_
  · refine ⟨_, rfl, fun F hF => ?_, fun F hF => ?_⟩
    · ((try dsimp only [Qx,Qu,Qn,Qv,Qg,Qf,Qz,X9,X8,X4,Xi,X2,Xa,X1,Qd,Qt,Qc,Qe,Ql,Xg,Q6,Qp,Qq,Qk,Qb,Qa,Q1,Qh,Q7,Q4,Q0,Q9,Q8,Q3,Q5,Qo,Qy,Qr,X5,X6,Qs,args0,X3,Xb,Xj,Xk,Xl,Xm,Qm,X7,Qi,Qj,Qw,Q2,zgz,zgs,zlc,zln,Nat.reduceAdd,kr0,kr1,kl0,kl1,kz0]); (try simp (discharger := decide) only [Qx,Qu,Qn,Qv,Qg,Qf,Qz,X9,X8,X4,Xi,X2,Xa,X1,Qd,Qt,Qc,Qe,Ql,Xg,Q6,Qp,Qq,Qk,Qb,Qa,Q1,Qh,Q7,Q4,Q0,Q9,Q8,Q3,Q5,Qo,Qy,Qr,X5,X6,Qs,args0,X3,Xb,Xf,Xh,Xc,Xe,Xj,Xk,Xl,Xm,Xv,Xu,Qm,X7,Xn,Xd,Qi,Qj,Qw,Q2,Xr,zoi,zel,zta,zat,zgz,zgs,zlc,zln,Nat.reduceAdd,zza,znt,zcn,MV.int.injEq,kr0,kr1,kl0,kl1,kz0]))
      exact hF
    · ((try dsimp only [Qx,Qu,Qn,Qv,Qg,Qf,Qz,X9,X8,X4,Xi,X2,Xa,X1,Qd,Qt,Qc,Qe,Ql,Xg,Q6,Qp,Qq,Qk,Qb,Qa,Q1,Qh,Q7,Q4,Q0,Q9,Q8,Q3,Q5,Qo,Qy,Qr,X5,X6,Qs,args0,X3,Xb,Xj,Xk,Xl,Xm,Qm,X7,Qi,Qj,Qw,Q2,zgz,zgs,zlc,zln,Nat.reduceAdd,kr0,kr1,kl0,kl1,kz0]); (try simp (discharger := decide) only [Qx,Qu,Qn,Qv,Qg,Qf,Qz,X9,X8,X4,Xi,X2,Xa,X1,Qd,Qt,Qc,Qe,Ql,Xg,Q6,Qp,Qq,Qk,Qb,Qa,Q1,Qh,Q7,Q4,Q0,Q9,Q8,Q3,Q5,Qo,Qy,Qr,X5,X6,Qs,args0,X3,Xb,Xf,Xh,Xc,Xe,Xj,Xk,Xl,Xm,Xv,Xu,Qm,X7,Xn,Xd,Qi,Qj,Qw,Q2,Xr,zoi,zel,zta,zat,zgz,zgs,zlc,zln,Nat.reduceAdd,zza,znt,zcn,MV.int.injEq,kr0,kr1,kl0,kl1,kz0]))
      exact hF
  rw [List.nil_append]
  have hD1 : ∀ k ∈ rg.filter fun k => decide (k ≤ 1000000), 0 ≤ k ∧ k ≤ 1000000 := fun k hk => ⟨hr0 k (List.mem_filter.mp hk).1, of_decide_eq_true (List.mem_filter.mp hk).2⟩
  have hD1l : (rg.filter fun k => decide (k ≤ 1000000)).length ≤ 100 := Nat.le_trans (List.length_filter_le ..) hrl
  generalize rg.filter (fun k => decide (k ≤ 1000000)) = D1 at hD1 hD1l ⊢
  have x₃ := Ext.upd (o := .list (D1.map .int)) hd1
  have hm₃ : upd μ₂ d1 (.list (D1.map .int)) d1 = some (.list (D1.map .int)) := Yh
  replace H := H.ext x₃
  replace hmo := x₃ _ _ hmo
  clear x₃ hd1
  (try dsimp only)
  generalize upd μ₂ d1 (.list (D1.map .int)) = μ₃ at H hmo hm₃ ⊢
  replace y := y.set (i := 8) (by decide) (.ref d1)
  replace v3 : setv V 8 (.ref d1) 3 = some (.int last) := (Xd (by first | exact nei h rfl | decide)).trans v3
  replace v4 : setv V 8 (.ref d1) 4 = some (.ref mo) := (Xd (by first | exact nei h rfl | decide)).trans v4
  replace v7 : setv V 8 (.ref d1) 7 = some (.int base) := (Xd (by first | exact nei h rfl | decide)).trans v7
  have v8 : setv V 8 (.ref d1) 8 = some (.ref d1) := Xn
  generalize setv V 8 (.ref d1) = V at y v3 v4 v7 v8 ⊢
  clear v0
  (try simp only [kr0, kr1, kl0, kl1, kz0])
  refine seq ?_
  rw [A1, Q3, Qz]
  refine Pl v8 (Ki ?_)
  ((try dsimp only [Qx,Qu,Qn,Qv,Qg,Qf,Qz,X9,X8,X4,Xi,X2,Xa,X1,Qd,Qt,Qc,Qe,Ql,Xg,Q6,Qp,Qq,Qk,Qb,Qa,Q1,Qh,Q7,Q4,Q0,Q9,Q8,Q3,Q5,Qo,Qy,Qr,X5,X6,Qs,args0,X3,Xb,Xj,Xk,Xl,Xm,Qm,X7,Qi,Qj,Qw,Q2,zgz,zgs,zlc,zln,Nat.reduceAdd,kr0,kr1,kl0,kl1,kz0,y.v5]); (try simp (discharger := decide) only [Qx,Qu,Qn,Qv,Qg,Qf,Qz,X9,X8,X4,Xi,X2,Xa,X1,Qd,Qt,Qc,Qe,Ql,Xg,Q6,Qp,Qq,Qk,Qb,Qa,Q1,Qh,Q7,Q4,Q0,Q9,Q8,Q3,Q5,Qo,Qy,Qr,X5,X6,Qs,args0,X3,Xb,Xf,Xh,Xc,Xe,Xj,Xk,Xl,Xm,Xv,Xu,Qm,X7,Xn,Xd,Qi,Qj,Qw,Q2,Xr,zoi,zel,zta,zat,zgz,zgs,zlc,zln,Nat.reduceAdd,zza,znt,zcn,MV.int.injEq,kr0,kr1,kl0,kl1,kz0,y.v5]))
  refine ⟨Ua H.wh, Ua H.wh, ?_⟩
  have hvs : (Book.mv W).map (fun kv => kv.2) = (W.map (·.2)).map Ent.mv := by unfold Book.mv; rw [List.map_map, List.map_map]; rfl
  refine ⟨(W.map (·.2)).map Ent.mv, rfl, by simp only [items, itemsO, keysO, valsO, H.wh, hvs], fit (by rw [List.length_map, List.length_map]; exact Nat.le_trans T.len (by decide)), fun d2 hd2 _ => ?_⟩
  have x₄ := Ext.upd (o := .list ((W.map (·.2)).map Ent.mv)) hd2
  refine Op rfl rfl rfl (by simp) Yh (fit (by rw [List.length_map, List.length_map]; exact Nat.le_trans T.len (by decide))) fun d3 hd3 _ => ?_
  obtain ⟨m4, hm4⟩ : ∃ m, pick ((W.map (·.2)).map Ent.mv) none (some 4) none = (((W.map (·.2)).take m).map Ent.mv) := ⟨_, by rw [Uv, List.map_take]; rfl⟩
  rw [hm4]
  have hes : ∀ e ∈ (W.map (·.2)).take m4, ∃ q ∈ W, q.2 = e := fun e he => List.mem_map.mp (List.mem_of_mem_take he)
  have hel : ((W.map (·.2)).take m4).length ≤ 30 := Nat.le_trans (List.length_take_le' ..) (by rw [List.length_map]; exact T.len)
  generalize (W.map (·.2)).take m4 = es at hes hel hm4 ⊢
  have x₅ := x₄.trans (Ext.upd (o := .list (es.map Ent.mv)) hd3)
  refine ⟨.val (.ref d3), es.map Ent.mv, rfl, by simp only [Src.items, items, itemsO, keysO, valsO, Yh], fit (by rw [List.length_map]; exact Nat.le_trans hel (by decide)), ?_⟩
  refine comp_if Ent.mv Ent.nu (fun e => match e.sp with | some (_, lo, _) => .int lo | none => .none) (fun e he => ?_) fun d4 hd4 _ => ?_
  · refine ⟨_, rfl, fun F hF => ?_, fun hnu F hF => ?_⟩
    · ((try dsimp only [Qx,Qu,Qn,Qv,Qg,Qf,Qz,X9,X8,X4,Xi,X2,Xa,X1,Qd,Qt,Qc,Qe,Ql,Xg,Q6,Qp,Qq,Qk,Qb,Qa,Q1,Qh,Q7,Q4,Q0,Q9,Q8,Q3,Q5,Qo,Qy,Qr,X5,X6,Qs,args0,X3,Xb,Xj,Xk,Xl,Xm,Qm,X7,Qi,Qj,Qw,Q2,zgz,zgs,zlc,zln,Nat.reduceAdd,kr0,kr1,kl0,kl1,kz0,B0]); (try simp (discharger := decide) only [Qx,Qu,Qn,Qv,Qg,Qf,Qz,X9,X8,X4,Xi,X2,Xa,X1,Qd,Qt,Qc,Qe,Ql,Xg,Q6,Qp,Qq,Qk,Qb,Qa,Q1,Qh,Q7,Q4,Q0,Q9,Q8,Q3,Q5,Qo,Qy,Qr,X5,X6,Qs,args0,X3,Xb,Xf,Xh,Xc,Xe,Xj,Xk,Xl,Xm,Xv,Xu,Qm,X7,Xn,Xd,Qi,Qj,Qw,Q2,Xr,zoi,zel,zta,zat,zgz,zgs,zlc,zln,Nat.reduceAdd,zza,znt,zcn,MV.int.injEq,kr0,kr1,kl0,kl1,kz0,B0]))
      exact ⟨_, F6, hF⟩
    · cases hs : e.sp with
      | none => rw [nu_sp hs] at hnu; cases hnu
      | some t =>
        obtain ⟨nm, lo, hi⟩ := t
        rw [hs] at hF
        ((try dsimp only [Qx,Qu,Qn,Qv,Qg,Qf,Qz,X9,X8,X4,Xi,X2,Xa,X1,Qd,Qt,Qc,Qe,Ql,Xg,Q6,Qp,Qq,Qk,Qb,Qa,Q1,Qh,Q7,Q4,Q0,Q9,Q8,Q3,Q5,Qo,Qy,Qr,X5,X6,Qs,args0,X3,Xb,Xj,Xk,Xl,Xm,Qm,X7,Qi,Qj,Qw,Q2,zgz,zgs,zlc,zln,Nat.reduceAdd,kr0,kr1,kl0,kl1,kz0,(ent_2 hs).1]); (try simp (discharger := decide) only [Qx,Qu,Qn,Qv,Qg,Qf,Qz,X9,X8,X4,Xi,X2,Xa,X1,Qd,Qt,Qc,Qe,Ql,Xg,Q6,Qp,Qq,Qk,Qb,Qa,Q1,Qh,Q7,Q4,Q0,Q9,Q8,Q3,Q5,Qo,Qy,Qr,X5,X6,Qs,args0,X3,Xb,Xf,Xh,Xc,Xe,Xj,Xk,Xl,Xm,Xv,Xu,Qm,X7,Xn,Xd,Qi,Qj,Qw,Q2,Xr,zoi,zel,zta,zat,zgz,zgs,zlc,zln,Nat.reduceAdd,zza,znt,zcn,MV.int.injEq,kr0,kr1,kl0,kl1,kz0,(ent_2 hs).1]))
        exact hF
  obtain ⟨D2, hD2e, hD2, hD2l⟩ : ∃ D2 : List Int, ([] ++ (es.filter Ent.nu).map fun e => match e.sp with | some (_, lo, _) => MV.int lo | none => .none) = D2.map .int ∧ (∀ k ∈ D2, 0 ≤ k ∧ k ≤ 1000000) ∧ D2.length ≤ 30 := by
    refine ⟨(es.filter Ent.nu).map fun e => match e.sp with | some (_, lo, _) => lo | none => 0, ?_, fun k hk => ?_, by rw [List.length_map]; exact Nat.le_trans (List.length_filter_le ..) hel⟩
    · rw [List.nil_append, List.map_map]
      refine List.map_congr_left fun e he => ?_
      cases hs : e.sp with
      | none => have := (List.mem_filter.mp he).2; rw [nu_sp hs] at this; cases this
      | some t => simp only [Function.comp, hs]
    · obtain ⟨e, he, rfl⟩ := List.mem_map.mp hk
      obtain ⟨q, hq, rfl⟩ := hes e (List.mem_filter.mp he).1
      cases hs : q.2.sp with
      | none => exact ⟨Int.le_refl _, by decide⟩
      | some t =>
        obtain ⟨nm, lo, hi⟩ := t
        exact hW q hq nm lo hi hs
  rw [hD2e]
  clear hD2e hm4
  have x₆ := x₅.trans (Ext.upd (o := .list (D2.map .int)) hd4)
  refine Cg (x₆ _ _ hm₃) Yh (fit (by rw [List.length_map, List.length_map]; lia)) fun da hda0 _ => ?_
  rw [← List.map_append]
  have hD : ∀ k ∈ D1 ++ D2, 0 ≤ k ∧ k ≤ 1000000 := fun k hk => (List.mem_append.mp hk).elim (hD1 k) (hD2 k)
  have hDl : (D1 ++ D2).length ≤ 1000 := by rw [List.length_append]; lia
  generalize D1 ++ D2 = D at hD hDl hda0 ⊢
  have x₇ := x₆.trans (Ext.upd (o := .list (D.map .int)) hda0)
  replace H := H.ext x₇
  replace hmo := x₇ _ _ hmo
  have hm₇ : upd (upd (upd (upd μ₃ d2 (.list ((W.map (·.2)).map Ent.mv))) d3 (.list (es.map Ent.mv))) d4 (.list (D2.map .int))) da (.list (D.map .int)) da = some (.list (D.map .int)) := Yh
  clear x₆ x₅ x₄ x₇ hm₃
  (try dsimp only)
  generalize upd (upd (upd (upd μ₃ d2 (.list ((W.map (·.2)).map Ent.mv))) d3 (.list (es.map Ent.mv))) d4 (.list (D2.map .int))) da (.list (D.map .int)) = μ₇ at H hmo hm₇ ⊢
  clear hda0 hd4 hd3 hd2
  replace y := y.set (i := 8) (by decide) (.ref da)
  replace v3 : setv V 8 (.ref da) 3 = some (.int last) := (Xd (by first | exact nei h rfl | decide)).trans v3
  replace v4 : setv V 8 (.ref da) 4 = some (.ref mo) := (Xd (by first | exact nei h rfl | decide)).trans v4
  replace v7 : setv V 8 (.ref da) 7 = some (.int base) := (Xd (by first | exact nei h rfl | decide)).trans v7
  replace v8 : setv V 8 (.ref da) 8 = some (.ref da) := Xn
  generalize setv V 8 (.ref da) = V at y v3 v4 v7 v8 ⊢
  (try simp only [kr0, kr1, kl0, kl1, kz0])
  refine seq ?_
  ((try dsimp only [Oj,Qx,Qu,Qn,Qv,Qg,Qf,Qz,X9,X8,X4,Xi,X2,Xa,X1,Qd,Qt,Qc,Qe,Ql,Xg,Q6,Qp,Qq,Qk,Qb,Qa,Q1,Qh,Q7,Q4,Q0,Q9,Q8,Q3,Q5,Qo,Qy,Qr,X5,X6,Qs,args0,X3,Xb,Xj,Xk,Xl,Xm,Qm,X7,Qi,Qj,Qw,Q2,zgz,zgs,zlc,zln,Nat.reduceAdd,kr0,kr1,kl0,kl1,kz0,v3,v4]); (try simp (discharger := decide) only [Oj,Qx,Qu,Qn,Qv,Qg,Qf,Qz,X9,X8,X4,Xi,X2,Xa,X1,Qd,Qt,Qc,Qe,Ql,Xg,Q6,Qp,Qq,Qk,Qb,Qa,Q1,Qh,Q7,Q4,Q0,Q9,Q8,Q3,Q5,Qo,Qy,Qr,X5,X6,Qs,args0,X3,Xb,Xf,Xh,Xc,Xe,Xj,Xk,Xl,Xm,Xv,Xu,Qm,X7,Xn,Xd,Qi,Qj,Qw,Q2,Xr,zoi,zel,zta,zat,zgz,zgs,zlc,zln,Nat.reduceAdd,zza,znt,zcn,MV.int.injEq,kr0,kr1,kl0,kl1,kz0,v3,v4]))
  intro e1 he1 _
  have x₈ := Ext.upd (o := .list [.int last]) he1
  have hit : (Book.mv M).map (fun kv => MV.int kv.1) = M.keys.map .int := by rw [← Book.mv_keys, List.map_map]; rfl
  have hMk' : M.keys.length ≤ 9 := by unfold Book.keys; rw [List.length_map]; exact hMl
  refine ⟨M.keys.map .int, M.keys, rfl, by simp only [items, itemsO, keysO, valsO, x₈ _ _ hmo, hit], K6 _, by rw [List.length_map]; exact Nat.lt_of_le_of_lt hMk' (by decide), fun e2 he2 _ => ?_⟩
  have x₉ := Ext.upd (o := .list ((sortI M.keys).map .int)) he2
  have hsl : (sortI M.keys).length ≤ 9 := by rw [K0]; exact hMk'
  refine Cg (x₉ _ _ Yh) Yh (fit (by rw [List.length_map]; exact Nat.le_trans (Nat.add_le_add_left hsl 1) (by decide))) fun e3 he3 _ => ?_
  have x10 := x₈.trans (x₉.trans (Ext.upd (o := .list ([MV.int last] ++ (sortI M.keys).map .int)) he3))
  refine ⟨.val (.ref e3), (last :: sortI M.keys).map .int, rfl, by simp only [Src.items, items, itemsO, keysO, valsO, Yh]; rfl, fit (by rw [List.length_map]; exact Nat.le_trans (Nat.succ_le_succ hsl) (by decide)), ?_⟩
  have H₁ := H.ext x10
  have hda := x10 _ _ hm₇
  generalize upd (upd (upd μ₇ e1 (.list [.int last])) e2 (.list ((sortI M.keys).map .int))) e3 (.list ([MV.int last] ++ (sortI M.keys).map .int)) = μ₈ at H₁ hda ⊢
  refine num_loop (μ₁ := μ₈) F.w (by first|exact dn hd rfl|exact dl hd rfl|omega) T h3 hok hD hDl H₁ hda (last :: sortI M.keys) V μ₈ (fun k hk => ?_) y v8 Ext.refl fun V₂ μ₉ y2 x11 e => ?_
  · rcases List.mem_cons.mp hk with rfl | hk
    · exact Int.le_refl _
    · exact hMk k ((Z3 _).mem_iff.mp hk)
  have z7 : V₂ 7 = some (.int base) := (e 7 (by decide)).trans v7
  have H₂ := H₁.ext x11
  clear e v3 v4 v8 y
  (try simp only [kr0, kr1, kl0, kl1, kz0])
  refine seq ?_
  ((try dsimp only [Oh,Qx,Qu,Qn,Qv,Qg,Qf,Qz,X9,X8,X4,Xi,X2,Xa,X1,Qd,Qt,Qc,Qe,Ql,Xg,Q6,Qp,Qq,Qk,Qb,Qa,Q1,Qh,Q7,Q4,Q0,Q9,Q8,Q3,Q5,Qo,Qy,Qr,X5,X6,Qs,args0,X3,Xb,Xj,Xk,Xl,Xm,Qm,X7,Qi,Qj,Qw,Q2,zgz,zgs,zlc,zln,Nat.reduceAdd,kr0,kr1,kl0,kl1,kz0,y2.v5]); (try simp (discharger := decide) only [Oh,Qx,Qu,Qn,Qv,Qg,Qf,Qz,X9,X8,X4,Xi,X2,Xa,X1,Qd,Qt,Qc,Qe,Ql,Xg,Q6,Qp,Qq,Qk,Qb,Qa,Q1,Qh,Q7,Q4,Q0,Q9,Q8,Q3,Q5,Qo,Qy,Qr,X5,X6,Qs,args0,X3,Xb,Xf,Xh,Xc,Xe,Xj,Xk,Xl,Xm,Xv,Xu,Qm,X7,Xn,Xd,Qi,Qj,Qw,Q2,Xr,zoi,zel,zta,zat,zgz,zgs,zlc,zln,Nat.reduceAdd,zza,znt,zcn,MV.int.injEq,kr0,kr1,kl0,kl1,kz0,y2.v5]))
  have hiw : (Book.mv W).map (fun kv => MV.int kv.1) = W.keys.map .int := by rw [← Book.mv_keys, List.map_map]; rfl
  refine ⟨W.keys.map .int, W.keys, rfl, by simp only [items, itemsO, keysO, valsO, H₂.wh, hiw], K6 _, fit (by rw [List.length_map]; unfold Book.keys; rw [List.length_map]; exact Nat.le_trans T.len (by decide)), ?_⟩
  generalize (maxI W.keys).getD 0 = n at hWn ⊢
  have y3 := y2.set (i := 9) (by decide) (.int n)
  have w7 : setv V₂ 9 (.int n) 7 = some (.int base) := (Xd (by first | exact nei h rfl | decide)).trans z7
  have w9 : setv V₂ 9 (.int n) 9 = some (.int n) := Xn
  generalize setv V₂ 9 (.int n) = V₃ at y3 w7 w9 ⊢
  (try simp only [kr0, kr1, kl0, kl1, kz0])
  refine seq ?_
  ((try dsimp only [Og,Qx,Qu,Qn,Qv,Qg,Qf,Qz,X9,X8,X4,Xi,X2,Xa,X1,Qd,Qt,Qc,Qe,Ql,Xg,Q6,Qp,Qq,Qk,Qb,Qa,Q1,Qh,Q7,Q4,Q0,Q9,Q8,Q3,Q5,Qo,Qy,Qr,X5,X6,Qs,args0,X3,Xb,Xj,Xk,Xl,Xm,Qm,X7,Qi,Qj,Qw,Q2,zgz,zgs,zlc,zln,Nat.reduceAdd,kr0,kr1,kl0,kl1,kz0,y3.v2]); (try simp (discharger := decide) only [Og,Qx,Qu,Qn,Qv,Qg,Qf,Qz,X9,X8,X4,Xi,X2,Xa,X1,Qd,Qt,Qc,Qe,Ql,Xg,Q6,Qp,Qq,Qk,Qb,Qa,Q1,Qh,Q7,Q4,Q0,Q9,Q8,Q3,Q5,Qo,Qy,Qr,X5,X6,Qs,args0,X3,Xb,Xf,Xh,Xc,Xe,Xj,Xk,Xl,Xm,Xv,Xu,Qm,X7,Xn,Xd,Qi,Qj,Qw,Q2,Xr,zoi,zel,zta,zat,zgz,zgs,zlc,zln,Nat.reduceAdd,zza,znt,zcn,MV.int.injEq,kr0,kr1,kl0,kl1,kz0,y3.v2]))
  refine ⟨.val (.ref p), names.map .str, rfl, by simp only [Src.items, items, itemsO, keysO, valsO, H₂.p], fit (by rw [List.length_map, h3]; decide), ?_⟩
  refine run_loop (μ₁ := μ₉) F.w (by first|exact dn hd rfl|exact dl hd rfl|omega) T hWn hok hb0 hb1 H₂ names V₃ μ₉ (fun x hx => hx) y3 w7 w9 Ext.refl fun V₄ μ₁₀ => ?_
  (try simp only [kr0, kr1, kl0, kl1, kz0])
  refine seq ?_
  ((try dsimp only [Of,Qx,Qu,Qn,Qv,Qg,Qf,Qz,X9,X8,X4,Xi,X2,Xa,X1,Qd,Qt,Qc,Qe,Ql,Xg,Q6,Qp,Qq,Qk,Qb,Qa,Q1,Qh,Q7,Q4,Q0,Q9,Q8,Q3,Q5,Qo,Qy,Qr,X5,X6,Qs,args0,X3,Xb,Xj,Xk,Xl,Xm,Qm,X7,Qi,Qj,Qw,Q2,zgz,zgs,zlc,zln,Nat.reduceAdd,kr0,kr1,kl0,kl1,kz0]); (try simp (discharger := decide) only [Of,Qx,Qu,Qn,Qv,Qg,Qf,Qz,X9,X8,X4,Xi,X2,Xa,X1,Qd,Qt,Qc,Qe,Ql,Xg,Q6,Qp,Qq,Qk,Qb,Qa,Q1,Qh,Q7,Q4,Q0,Q9,Q8,Q3,Q5,Qo,Qy,Qr,X5,X6,Qs,args0,X3,Xb,Xf,Xh,Xc,Xe,Xj,Xk,Xl,Xm,Xv,Xu,Qm,X7,Xn,Xd,Qi,Qj,Qw,Q2,Xr,zoi,zel,zta,zat,zgz,zgs,zlc,zln,Nat.reduceAdd,zza,znt,zcn,MV.int.injEq,kr0,kr1,kl0,kl1,kz0]))
  exact hR _ _
end Mine
end
section
namespace Mine
open PySem
variable {G : String → Option MV} {Γ : String → Option MFun}
theorem twin_of {B M : Book} {last top : Int} (hB : BOk B) (hl : B.length ≤ 14) (hM : M.length ≤ 9) (h : Later B M last) (ho : MoreOk last top M) :
    Twin (B ++ M) (Sub B (shortL B last) ++ M) last ∧ (Sub B (shortL B last)).length ≤ 14 ∧ (Sub B (shortL B last) ++ M).keys.Nodup := by
  have ok := short_ok (n := last) hB
  have hkk : ∀ k ∈ shortL B last, k ∈ B.keys := fun k hk => (Kn (ok.sub.subset hk)).1
  have hsl : (shortL B last).length ≤ 14 := Nat.le_trans ok.sub.length_le (Nat.le_trans Ko hl)
  have hS := sub_ok hB ((O4 (O5 hB)).sublist ok.sub) hkk (Nat.le_trans hsl (by decide))
  have hl' : (Sub B (shortL B last)).length ≤ 14 := Nat.le_trans (B4 ..) hsl
  have h' : Later (Sub B (shortL B last)) M last := ⟨fun k hk => by rw [Vs hkk] at hk; exact h.le k (hkk k hk), h.gt, h.undo⟩
  have ok' := more_ok hS hl' hM h' ho
  exact ⟨⟨more_ok hB hl hM h ho, ok', by rw [List.length_append]; lia, by rw [List.length_append]; lia, fun n d hn h0 h1 => short_more hB h hn h0 h1⟩, hl', ok'.nodup⟩
theorem law10_spec {d : Nat} {a : Addr} {ns : List Int} {fz : List Addr} {Q : MQ} {μ : MH} (F : Xs G Γ) (hd : 12 ≤ d) (hn : ns.length ≤ 63) (ha : μ a = some (.list (ns.map .int))) (h : ∀ μ', Q (.bool true) μ') : calls G Γ d "law" [.ref a] fz Q X0 μ := by
  refine Z2 F.law rfl (by first|exact dn hd rfl|exact dl hd rfl|omega) ?_
  show exs G (calls G Γ (d - 1)) X0 [Bg, Bf, Be, Bc, Bb, Ba, B9, B8, A0, A2, A1, Oj, Oh, Og, Of] _ _ _ _
  generalize hR : (kz Q) = R
  have hRr : ∀ V' μ', R (.ret (.bool true)) V' μ' := by subst hR; exact fun _ μ' => h μ'
  clear hR h
  refine seq ?_
  ((try dsimp only [Bg,Qx,Qu,Qn,Qv,Qg,Qf,Qz,X9,X8,X4,Xi,X2,Xa,X1,Qd,Qt,Qc,Qe,Ql,Xg,Q6,Qp,Qq,Qk,Qb,Qa,Q1,Qh,Q7,Q4,Q0,Q9,Q8,Q3,Q5,Qo,Qy,Qr,X5,X6,Qs,args0,X3,Xb,Xj,Xk,Xl,Xm,Qm,X7,Qi,Qj,Qw,Q2,zgz,zgs,zlc,zln,Nat.reduceAdd,kr0,kr1,kl0,kl1,kz0]); (try simp (discharger := decide) only [Bg,Qx,Qu,Qn,Qv,Qg,Qf,Qz,X9,X8,X4,Xi,X2,Xa,X1,Qd,Qt,Qc,Qe,Ql,Xg,Q6,Qp,Qq,Qk,Qb,Qa,Q1,Qh,Q7,Q4,Q0,Q9,Q8,Q3,Q5,Qo,Qy,Qr,X5,X6,Qs,args0,X3,Xb,Xf,Xh,Xc,Xe,Xj,Xk,Xl,Xm,Xv,Xu,Qm,X7,Xn,Xd,Qi,Qj,Qw,Q2,Xr,zoi,zel,zta,zat,zgz,zgs,zlc,zln,Nat.reduceAdd,zza,znt,zcn,MV.int.injEq,kr0,kr1,kl0,kl1,kz0]))
  refine Op rfl rfl rfl (by simp) ha (fit (by rw [List.length_map]; exact Nat.le_trans hn (by decide))) fun a2 ha2 _ => ?_
  obtain ⟨m, hm⟩ : ∃ m, pick (ns.map MV.int) none (some 14) none = (ns.take m).map .int := ⟨_, by rw [Uv, List.map_take]; rfl⟩
  rw [hm]
  clear hm
  have hml : (ns.take m).length ≤ 63 := Nat.le_trans (List.length_take_le' ..) hn
  generalize ns.take m = ns' at hml ⊢
  have x₀ := Ext.upd (o := .list (ns'.map .int)) ha2
  have hm₀ : upd μ a2 (.list (ns'.map .int)) a2 = some (.list (ns'.map .int)) := Yh
  replace ha := x₀ _ _ ha
  clear x₀
  ((try dsimp only [Qx,Qu,Qn,Qv,Qg,Qf,Qz,X9,X8,X4,Xi,X2,Xa,X1,Qd,Qt,Qc,Qe,Ql,Xg,Q6,Qp,Qq,Qk,Qb,Qa,Q1,Qh,Q7,Q4,Q0,Q9,Q8,Q3,Q5,Qo,Qy,Qr,X5,X6,Qs,args0,X3,Xb,Xj,Xk,Xl,Xm,Qm,X7,Qi,Qj,Qw,Q2,zgz,zgs,zlc,zln,Nat.reduceAdd,kr0,kr1,kl0,kl1,kz0]); (try simp (discharger := decide) only [Qx,Qu,Qn,Qv,Qg,Qf,Qz,X9,X8,X4,Xi,X2,Xa,X1,Qd,Qt,Qc,Qe,Ql,Xg,Q6,Qp,Qq,Qk,Qb,Qa,Q1,Qh,Q7,Q4,Q0,Q9,Q8,Q3,Q5,Qo,Qy,Qr,X5,X6,Qs,args0,X3,Xb,Xf,Xh,Xc,Xe,Xj,Xk,Xl,Xm,Xv,Xu,Qm,X7,Xn,Xd,Qi,Qj,Qw,Q2,Xr,zoi,zel,zta,zat,zgz,zgs,zlc,zln,Nat.reduceAdd,zza,znt,zcn,MV.int.injEq,kr0,kr1,kl0,kl1,kz0]))
  generalize upd μ a2 (.list (ns'.map .int)) = μ₀ at ha hm₀ ⊢
  refine Cq F.of F.base F.entry F.names F.lbook (by first|exact dn hd rfl|exact dl hd rfl|omega) hm₀ hml (by decide) fun b μ₁ kvs x₁ _ _ hb bk => ?_
  obtain ⟨_, B, _, _, rfl, hB, hBl, hgood, hkr⟩ := book_of bk (by decide)
  clear bk
  replace ha := x₁ _ _ ha
  clear x₁ hm₀
  refine seq ?_
  ((try dsimp only [Bf,Qx,Qu,Qn,Qv,Qg,Qf,Qz,X9,X8,X4,Xi,X2,Xa,X1,Qd,Qt,Qc,Qe,Ql,Xg,Q6,Qp,Qq,Qk,Qb,Qa,Q1,Qh,Q7,Q4,Q0,Q9,Q8,Q3,Q5,Qo,Qy,Qr,X5,X6,Qs,args0,X3,Xb,Xj,Xk,Xl,Xm,Qm,X7,Qi,Qj,Qw,Q2,zgz,zgs,zlc,zln,Nat.reduceAdd,kr0,kr1,kl0,kl1,kz0]); (try simp (discharger := decide) only [Bf,Qx,Qu,Qn,Qv,Qg,Qf,Qz,X9,X8,X4,Xi,X2,Xa,X1,Qd,Qt,Qc,Qe,Ql,Xg,Q6,Qp,Qq,Qk,Qb,Qa,Q1,Qh,Q7,Q4,Q0,Q9,Q8,Q3,Q5,Qo,Qy,Qr,X5,X6,Qs,args0,X3,Xb,Xf,Xh,Xc,Xe,Xj,Xk,Xl,Xm,Xv,Xu,Qm,X7,Xn,Xd,Qi,Qj,Qw,Q2,Xr,zoi,zel,zta,zat,zgz,zgs,zlc,zln,Nat.reduceAdd,zza,znt,zcn,MV.int.injEq,kr0,kr1,kl0,kl1,kz0]))
  refine Zi F.of (by first|exact dn hd rfl|exact dl hd rfl|omega) ha hn (by decide) fun μ₃ x₃ => ?_
  ((try dsimp only [Qx,Qu,Qn,Qv,Qg,Qf,Qz,X9,X8,X4,Xi,X2,Xa,X1,Qd,Qt,Qc,Qe,Ql,Xg,Q6,Qp,Qq,Qk,Qb,Qa,Q1,Qh,Q7,Q4,Q0,Q9,Q8,Q3,Q5,Qo,Qy,Qr,X5,X6,Qs,args0,X3,Xb,Xj,Xk,Xl,Xm,Qm,X7,Qi,Qj,Qw,Q2,zgz,zgs,zlc,zln,Nat.reduceAdd,kr0,kr1,kl0,kl1,kz0]); (try simp (discharger := decide) only [Qx,Qu,Qn,Qv,Qg,Qf,Qz,X9,X8,X4,Xi,X2,Xa,X1,Qd,Qt,Qc,Qe,Ql,Xg,Q6,Qp,Qq,Qk,Qb,Qa,Q1,Qh,Q7,Q4,Q0,Q9,Q8,Q3,Q5,Qo,Qy,Qr,X5,X6,Qs,args0,X3,Xb,Xf,Xh,Xc,Xe,Xj,Xk,Xl,Xm,Xv,Xu,Qm,X7,Xn,Xd,Qi,Qj,Qw,Q2,Xr,zoi,zel,zta,zat,zgz,zgs,zlc,zln,Nat.reduceAdd,zza,znt,zcn,MV.int.injEq,kr0,kr1,kl0,kl1,kz0]))
  refine Bx F.names (by first|exact dn hd rfl|exact dl hd rfl|omega) fun p μ₄ names x₄ _ _ hp h3 hok => ?_
  have xx := x₃.trans x₄
  replace ha := xx _ _ ha
  replace hb := xx _ _ hb
  clear xx x₃ x₄
  refine seq ?_
  ((try dsimp only [Be,Qx,Qu,Qn,Qv,Qg,Qf,Qz,X9,X8,X4,Xi,X2,Xa,X1,Qd,Qt,Qc,Qe,Ql,Xg,Q6,Qp,Qq,Qk,Qb,Qa,Q1,Qh,Q7,Q4,Q0,Q9,Q8,Q3,Q5,Qo,Qy,Qr,X5,X6,Qs,args0,X3,Xb,Xj,Xk,Xl,Xm,Qm,X7,Qi,Qj,Qw,Q2,zgz,zgs,zlc,zln,Nat.reduceAdd,kr0,kr1,kl0,kl1,kz0]); (try simp (discharger := decide) only [Be,Qx,Qu,Qn,Qv,Qg,Qf,Qz,X9,X8,X4,Xi,X2,Xa,X1,Qd,Qt,Qc,Qe,Ql,Xg,Q6,Qp,Qq,Qk,Qb,Qa,Q1,Qh,Q7,Q4,Q0,Q9,Q8,Q3,Q5,Qo,Qy,Qr,X5,X6,Qs,args0,X3,Xb,Xf,Xh,Xc,Xe,Xj,Xk,Xl,Xm,Xv,Xu,Qm,X7,Xn,Xd,Qi,Qj,Qw,Q2,Xr,zoi,zel,zta,zat,zgz,zgs,zlc,zln,Nat.reduceAdd,zza,znt,zcn,MV.int.injEq,kr0,kr1,kl0,kl1,kz0]))
  have hit : (Book.mv B).map (fun kv => MV.int kv.1) = B.keys.map .int := by rw [← Book.mv_keys, List.map_map]; rfl
  refine ⟨B.keys.map .int, B.keys, rfl, by simp only [items, itemsO, keysO, valsO, hb, hit], K6 _, fit (by rw [List.length_map]; unfold Book.keys; rw [List.length_map]; exact Nat.le_trans hBl (by decide)), ?_⟩
  have hmax := max_zero hkr
  obtain ⟨hl0, hl1⟩ := maxI_rng hkr
  have hle := max_le (fun k hk => (hkr k hk).2) (by decide)
  have hmm : ∀ m : List Int, (∀ k ∈ m, (maxI B.keys).getD 0 < k) → (maxI B.keys).getD 0 ≤ (maxI (B.keys ++ m)).getD 0 := fun m => max_more
  generalize (maxI B.keys).getD 0 = last at hmax hl0 hl1 hle hmm ⊢
  refine seq ?_
  ((try dsimp only [Bc,Qx,Qu,Qn,Qv,Qg,Qf,Qz,X9,X8,X4,Xi,X2,Xa,X1,Qd,Qt,Qc,Qe,Ql,Xg,Q6,Qp,Qq,Qk,Qb,Qa,Q1,Qh,Q7,Q4,Q0,Q9,Q8,Q3,Q5,Qo,Qy,Qr,X5,X6,Qs,args0,X3,Xb,Xj,Xk,Xl,Xm,Qm,X7,Qi,Qj,Qw,Q2,zgz,zgs,zlc,zln,Nat.reduceAdd,kr0,kr1,kl0,kl1,kz0]); (try simp (discharger := decide) only [Bc,Qx,Qu,Qn,Qv,Qg,Qf,Qz,X9,X8,X4,Xi,X2,Xa,X1,Qd,Qt,Qc,Qe,Ql,Xg,Q6,Qp,Qq,Qk,Qb,Qa,Q1,Qh,Q7,Q4,Q0,Q9,Q8,Q3,Q5,Qo,Qy,Qr,X5,X6,Qs,args0,X3,Xb,Xf,Xh,Xc,Xe,Xj,Xk,Xl,Xm,Xv,Xu,Qm,X7,Xn,Xd,Qi,Qj,Qw,Q2,Xr,zoi,zel,zta,zat,zgz,zgs,zlc,zln,Nat.reduceAdd,zza,znt,zcn,MV.int.injEq,kr0,kr1,kl0,kl1,kz0]))
  refine Cp F.of F.base F.entry F.more (by first|exact dn hd rfl|exact dl hd rfl|omega) ha hn hp h3 hok hl0 hl1 fun mo μ₅ M top x₅ _ _ hmo hMl ho => ?_
  replace ha := x₅ _ _ ha
  replace hb := x₅ _ _ hb
  replace hp := x₅ _ _ hp
  clear x₅
  have hL := more_later hle ho
  obtain ⟨T, hSl, hSn⟩ := twin_of hB hBl hMl hL ho
  refine seq ?_
  ((try dsimp only [Bb,Qx,Qu,Qn,Qv,Qg,Qf,Qz,X9,X8,X4,Xi,X2,Xa,X1,Qd,Qt,Qc,Qe,Ql,Xg,Q6,Qp,Qq,Qk,Qb,Qa,Q1,Qh,Q7,Q4,Q0,Q9,Q8,Q3,Q5,Qo,Qy,Qr,X5,X6,Qs,args0,X3,Xb,Xj,Xk,Xl,Xm,Qm,X7,Qi,Qj,Qw,Q2,zgz,zgs,zlc,zln,Nat.reduceAdd,kr0,kr1,kl0,kl1,kz0]); (try simp (discharger := decide) only [Bb,Qx,Qu,Qn,Qv,Qg,Qf,Qz,X9,X8,X4,Xi,X2,Xa,X1,Qd,Qt,Qc,Qe,Ql,Xg,Q6,Qp,Qq,Qk,Qb,Qa,Q1,Qh,Q7,Q4,Q0,Q9,Q8,Q3,Q5,Qo,Qy,Qr,X5,X6,Qs,args0,X3,Xb,Xf,Xh,Xc,Xe,Xj,Xk,Xl,Xm,Xv,Xu,Qm,X7,Xn,Xd,Qi,Qj,Qw,Q2,Xr,zoi,zel,zta,zat,zgz,zgs,zlc,zln,Nat.reduceAdd,zza,znt,zcn,MV.int.injEq,kr0,kr1,kl0,kl1,kz0]))
  refine bi_dict_d hb ⟨fit (by rw [Book.mv_len]; exact Nat.le_trans hBl (by decide)), fun wh hwh0 hwhz => ?_⟩
  have nb := Yi hb hwh0
  have na := Yi ha hwh0
  have np := Yi hp hwh0
  have nm := Yi hmo hwh0
  refine seq ?_
  ((try dsimp only [Ba,Qx,Qu,Qn,Qv,Qg,Qf,Qz,X9,X8,X4,Xi,X2,Xa,X1,Qd,Qt,Qc,Qe,Ql,Xg,Q6,Qp,Qq,Qk,Qb,Qa,Q1,Qh,Q7,Q4,Q0,Q9,Q8,Q3,Q5,Qo,Qy,Qr,X5,X6,Qs,args0,X3,Xb,Xj,Xk,Xl,Xm,Qm,X7,Qi,Qj,Qw,Q2,zgz,zgs,zlc,zln,Nat.reduceAdd,kr0,kr1,kl0,kl1,kz0]); (try simp (discharger := decide) only [Ba,Qx,Qu,Qn,Qv,Qg,Qf,Qz,X9,X8,X4,Xi,X2,Xa,X1,Qd,Qt,Qc,Qe,Ql,Xg,Q6,Qp,Qq,Qk,Qb,Qa,Q1,Qh,Q7,Q4,Q0,Q9,Q8,Q3,Q5,Qo,Qy,Qr,X5,X6,Qs,args0,X3,Xb,Xf,Xh,Xc,Xe,Xj,Xk,Xl,Xm,Xv,Xu,Qm,X7,Xn,Xd,Qi,Qj,Qw,Q2,Xr,zoi,zel,zta,zat,zgz,zgs,zlc,zln,Nat.reduceAdd,zza,znt,zcn,MV.int.injEq,kr0,kr1,kl0,kl1,kz0]))
  refine ⟨Ua Yh, upd_meth Yh (by rw [Yk nm]; exact hmo) hwhz (Ne.symm nm) (by first|exact dn hd rfl|exact dl hd rfl|lia) T.ok.nodup ?_⟩
  have kp : ∀ c o, c ≠ wh → μ₅ c = some o → upd (upd μ₅ wh (.idict (Book.mv B))) wh (.idict (Book.mv (B ++ M))) c = some o := fun c o n e => by rw [Yk n, Yk n]; exact e
  replace ha := kp _ _ na ha
  replace hb := kp _ _ nb hb
  replace hp := kp _ _ np hp
  replace hmo := kp _ _ nm hmo
  clear kp
  have hwh : upd (upd μ₅ wh (.idict (Book.mv B))) wh (.idict (Book.mv (B ++ M))) wh = some (.idict (Book.mv (B ++ M))) := Yh
  generalize upd (upd μ₅ wh (.idict (Book.mv B))) wh (.idict (Book.mv (B ++ M))) = μ₆ at ha hb hp hmo hwh ⊢
  clear nb na np nm hwh0
  refine seq ?_
  ((try dsimp only [B9,Qx,Qu,Qn,Qv,Qg,Qf,Qz,X9,X8,X4,Xi,X2,Xa,X1,Qd,Qt,Qc,Qe,Ql,Xg,Q6,Qp,Qq,Qk,Qb,Qa,Q1,Qh,Q7,Q4,Q0,Q9,Q8,Q3,Q5,Qo,Qy,Qr,X5,X6,Qs,args0,X3,Xb,Xj,Xk,Xl,Xm,Qm,X7,Qi,Qj,Qw,Q2,zgz,zgs,zlc,zln,Nat.reduceAdd,kr0,kr1,kl0,kl1,kz0]); (try simp (discharger := decide) only [B9,Qx,Qu,Qn,Qv,Qg,Qf,Qz,X9,X8,X4,Xi,X2,Xa,X1,Qd,Qt,Qc,Qe,Ql,Xg,Q6,Qp,Qq,Qk,Qb,Qa,Q1,Qh,Q7,Q4,Q0,Q9,Q8,Q3,Q5,Qo,Qy,Qr,X5,X6,Qs,args0,X3,Xb,Xf,Xh,Xc,Xe,Xj,Xk,Xl,Xm,Xv,Xu,Qm,X7,Xn,Xd,Qi,Qj,Qw,Q2,Xr,zoi,zel,zta,zat,zgz,zgs,zlc,zln,Nat.reduceAdd,zza,znt,zcn,MV.int.injEq,kr0,kr1,kl0,kl1,kz0]))
  refine Bj F.g F.short (by first|exact dn hd rfl|exact dl hd rfl|omega) hB (Nat.le_trans hBl (by decide)) hmax hb fun sh μ₇ x₇ hsh0 hshz hsh => ?_
  have na := Yi ha hsh0
  have np := Yi hp hsh0
  have nm := Yi hmo hsh0
  have nw := Yi hwh hsh0
  refine seq ?_
  ((try dsimp only [B8,Qx,Qu,Qn,Qv,Qg,Qf,Qz,X9,X8,X4,Xi,X2,Xa,X1,Qd,Qt,Qc,Qe,Ql,Xg,Q6,Qp,Qq,Qk,Qb,Qa,Q1,Qh,Q7,Q4,Q0,Q9,Q8,Q3,Q5,Qo,Qy,Qr,X5,X6,Qs,args0,X3,Xb,Xj,Xk,Xl,Xm,Qm,X7,Qi,Qj,Qw,Q2,zgz,zgs,zlc,zln,Nat.reduceAdd,kr0,kr1,kl0,kl1,kz0]); (try simp (discharger := decide) only [B8,Qx,Qu,Qn,Qv,Qg,Qf,Qz,X9,X8,X4,Xi,X2,Xa,X1,Qd,Qt,Qc,Qe,Ql,Xg,Q6,Qp,Qq,Qk,Qb,Qa,Q1,Qh,Q7,Q4,Q0,Q9,Q8,Q3,Q5,Qo,Qy,Qr,X5,X6,Qs,args0,X3,Xb,Xf,Xh,Xc,Xe,Xj,Xk,Xl,Xm,Xv,Xu,Qm,X7,Xn,Xd,Qi,Qj,Qw,Q2,Xr,zoi,zel,zta,zat,zgz,zgs,zlc,zln,Nat.reduceAdd,zza,znt,zcn,MV.int.injEq,kr0,kr1,kl0,kl1,kz0]))
  refine ⟨Ua hsh, upd_meth hsh (x₇ _ _ hmo) hshz (Ne.symm nm) (by first|exact dn hd rfl|exact dl hd rfl|lia) hSn ?_⟩
  have H : TenH (B ++ M) (Sub B (shortL B last) ++ M) names p wh sh (upd μ₇ sh (.idict (Book.mv (Sub B (shortL B last) ++ M)))) := ⟨by rw [Yk np]; exact x₇ _ _ hp, by rw [Yk nw]; exact x₇ _ _ hwh, Yh⟩
  have kq : ∀ c o, c ≠ sh → μ₆ c = some o → upd μ₇ sh (.idict (Book.mv (Sub B (shortL B last) ++ M))) c = some o := fun c o n e => by rw [Yk n]; exact x₇ _ _ e
  refine law10_rest F (by first|exact dn hd rfl|exact dl hd rfl|omega) T hl0 (fun k hk => Int.le_of_lt (hL.gt k hk)) hMl (by rw [V8]; exact hmm _ hL.gt) (fun q hq nm lo hi e => ?_) h3 hok hn (b := b) ⟨rfl, rfl, rfl⟩ rfl rfl rfl (kq _ _ na ha) (kq _ _ nm hmo) H hRr
  rcases List.mem_append.mp hq with m | m
  · have s := good_sp (hgood q m) e
    exact ⟨s.ge, Int.le_trans s.le s.hi⟩
  · exact (ho.ent q m).day nm lo hi e
end Mine
end
section
namespace Mine
open PySem
noncomputable def consts10 : Consts := [("MOST_DAY", .int 1000000)]
theorem hrun10 (a : Addr) (ns : List Int) (hn : ns.length ≤ 63) : calls consts10.env defs10.env 60 "law" [.ref a] [a] (fun v _ => v = .bool true) X0 (upd (fun _ => none) a (.list (ns.map .int))) :=
  law10_spec ⟨⟨rfl, rfl, rfl, rfl, rfl, rfl, rfl, rfl, rfl⟩, ⟨rfl, rfl, rfl, rfl, rfl, rfl, rfl, rfl, rfl, rfl⟩, rfl, rfl, rfl, rfl, rfl, rfl, rfl, rfl⟩ (by decide) hn Yh fun _ => rfl
end Mine
end
section
set_option Elab.async false
set_option maxRecDepth 100000
set_option maxHeartbeats 8000000
open PySem PySem.W PyProof.Rows
namespace Mine
noncomputable def qOf : Program := view Challenge.pw_uf030030_10 [1, 3, 4, 5, 6, 7, 8, 9, 11, 13, 14, 16, 17, 18, 19, 20, 21, 22, 23, 24, 25]
theorem topOf (w : World) (os : OsState) : (topFrom treeTable Challenge.pw_uf030030_10 w 1000 ⟨boot_heap w.params, Array.mk [], boot_drawn, boot_toks, os⟩).map (fun s => (openSeen qOf [] (importedModules Challenge.pw_uf030030_10.main.body) (fun s => xlAt qOf [] s) true s, ())) = some (openGood qOf [], ()) := by
  kernel_rfl
theorem leftOf : LeftO Challenge.pw_uf030030_10 qOf [] (fun s => xlAt qOf [] s) (fun _ => ()) (fun _ => ()) 1000 := fun w => by
  obtain ⟨⟨h, g, dr, t, os⟩, hs, e⟩ := Option.map_eq_some_iff.mp (boot_open (p := Challenge.pw_uf030030_10) (N := 1000) (by rfl) (by decide +kernel) (fun s => by rfl) w)
  obtain ⟨e1, e⟩ := Prod.mk.inj e
  obtain ⟨e2, e⟩ := Prod.mk.inj e
  obtain ⟨e3, e4⟩ := Prod.mk.inj e
  dsimp only at e1 e2 e3 e4
  subst e1 e2 e3 e4
  unfold openEnds
  rw [hs]
  exact topOf w os
theorem defIs : (defOf qOf Challenge.rw_uf030030_10.name).isSome = true := by decide +kernel
end Mine
theorem PySem.Challenge.cw_uf030030_10_holds : PySem.Challenge.rw_uf030030_10.Holds := by
  refine holds_law (by decide +kernel) fun said => ?_
  refine holds_open (r := Challenge.rw_uf030030_10.row) (q := Mine.qOf) (loose := []) (d := ((defOf Mine.qOf Challenge.rw_uf030030_10.name).get Mine.defIs).1) (kwd := ((defOf Mine.qOf Challenge.rw_uf030030_10.name).get Mine.defIs).2) (Xt := fun s => xlAt Mine.qOf [] s) (XP := XL Mine.qOf []) (YP := fun _ _ => True) Mine.leftOf (fun _ _ _ => trivial) (fun _ _ _ _ _ => trivial) (fun s e => xl_of s e) XL.keeps
    (by kernel_rfl) (by kernel_rfl) (by kernel_rfl) (fun s e => recFacts_nil rfl) rfl said (by decide +kernel) ⟨rfl, rfl, rfl, rfl, rfl, by decide +kernel⟩ ⟨[.list []], by decide +kernel, by decide +kernel⟩ ?_
  intro w s₀ s₁ mg mb G Y fa o pm cd doc dV kV ho hd hcd hD hmg hg args vals as hpre hlay hrd hwl hlo
  refine Ground.open G ?_
  intro T B D TE TW
  clear hd hcd hD
  wrow_args hpre hlay hrd hwl hlo
  rename_i ns _ _ _ _ _ _ _ a vs _ hL _ hW _ hI _ hlen _
  have pg := Mine.pg_of (prog := Challenge.rw_uf030030_10.row.prog) (w := w) T Mine.defs10 Mine.consts10 (by decide +kernel) rfl (by decide +kernel) (by decide +kernel)
  have hp : s₁.heap.PlainList a vs.toArray := Mine.plain_of hW hL
  refine wpAny_mono (Mine.glue pg rfl 60 hmg (fd := Mine.f_law) rfl hp hI (show Mine.OkA 60 callerA from ⟨rfl, by decide, by decide⟩) (Mine.hrun10 a ns (by omega))) (fun v s' h => GoodW.toG ?_) fun _ _ e => e
  obtain ⟨rfl, hk, hos, hgs⟩ := h
  refine ⟨.inl ⟨.bool true, .bool true, [], rfl, ?_, ?_, ?_, ?_⟩, hk, hos, hgs.trans hg⟩
  · intro cls; rfl
  · constructor
  · refine postW_of (X := true) (by decide +kernel) ?_ rfl
    first
      | (with_unfolding_all rfl)
      | (simp [OpenLaw.row, WTm.value]; done)
  · intro _; exact ⟨List.nodup_nil, fun _ h => by cases h⟩
end
