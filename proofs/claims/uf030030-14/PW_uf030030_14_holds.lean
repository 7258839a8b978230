import PyProof.Rows.All
import PyProof.SliceList
import PyProof.EqLayable
import PyProof.ExcQuiet
import PyProof.ExcBaseAll.ValueError
import PyProof.ExcAttrAll.ValueError
import PyProof.ExcClass3
import PyProof.StationsW
import PyProof.SliceStr
import PyProof.StrBlockL
import PyProof.IsiH_tuple
import PyProof.Rows.Catch
import PyProof.Rows.CatchOwn
import PyProof.StrLawsTight
import PyProof.Rows.StrSplitJoin
import PyProof.Rows.ReprOcc
import Wide.Ends
import Wide.Tac
import Wide.BridgeG
import Open.Line
import Open.Boot
import KE.KDictList
import KE.KDictSum
import KE.KDictOf
import KE.KEqDict
import KE.KIntText
import KE.KIsAll
import KE.KRevSl
import Wide.FinOn
import PySem.Challenge.RW_uf030030_14
set_option Elab.async false
set_option genSizeOf false
set_option autoImplicit false
set_option linter.all false
set_option genInjectivity false
set_option genCtorIdx false
set_option bootstrap.genMatcherCode false
section
set_option genSizeOfSpec false
namespace Mine

theorem zoi {α : Type} {a b : α} : (some a = some b) = (a = b) := Option.some.injEq a b
theorem zgz {α : Type} {a : α} {l : List α} : (a :: l)[0]? = some a := rfl
theorem zgs {α : Type} {a : α} {l : List α} {i : Nat} : (a :: l)[i + 1]? = l[i]? := rfl
theorem zlc {α : Type} {a : α} {l : List α} : (a :: l).length = l.length + 1 := rfl
theorem zln {α : Type} : ([] : List α).length = 0 := rfl
theorem zcn {α : Type} {a : α} {l : List α} : ((a :: l) = []) = False := eq_false (List.cons_ne_nil a l)
theorem znt {b : Bool} : (¬b = true) = (b = false) := by simp
theorem zza {n : Nat} : 0 + n = n := Nat.zero_add n
theorem zta {p : Prop} : (True ∧ p) = p := true_and p
theorem zat {p : Prop} : (p ∧ True) = p := and_true p
theorem zel {α : Type} {p : α → Prop} {a : α} : (∃ x, a = x ∧ p x) = p a := by simp

open PySem
set_option genCtorIdx true in
set_option genInjectivity true in
inductive MV where
  | none | bool (b : Bool) | int (i : Int) | str (s : Str) | tup (l : List MV) | ref (a : Addr) | keys (d : Addr) | vals (d : Addr)
set_option genCtorIdx true in
inductive MO where
  | list (l : List MV) | idict (l : List (Int × MV)) | sdict (l : List (Str × MV))
abbrev MH := Addr → Option MO
noncomputable def upd (μ : MH) (a : Addr) (o : MO) : MH := fun b => if b = a then some o else μ b
noncomputable def lst (μ : MH) (a : Addr) : Option (List MV) := match μ a with
  | some (.list l) => some l
  | _ => none
noncomputable def deep (μ : MH) : Nat → MV → Option PyData
  | _, .none => some .none
  | _, .bool b => some (.bool b)
  | _, .int i => some (.int i)
  | _, .str s => if PyData.strOk s then some (.str s) else none
  | n + 1, .tup l => (l.mapM (deep μ n)).map PyData.tuple
  | n + 1, .ref a => match lst μ a with
    | some l => (l.mapM (deep μ n)).map PyData.list
    | none => none
  | _, _ => none
noncomputable def keysOf {K : Type} (l : List (K × MV)) : List K := l.map (·.1)
noncomputable def lookI {K : Type} [DecidableEq K] (l : List (K × MV)) (k : K) : Option MV := (l.find? fun kv => kv.1 = k).map (·.2)
noncomputable def putI {K : Type} [DecidableEq K] (l : List (K × MV)) (k : K) (v : MV) : List (K × MV) :=
  if l.any (fun kv => kv.1 = k) then l.map (fun kv => if kv.1 = k then (kv.1, v) else kv) else l ++ [(k, v)]
noncomputable def delI {K : Type} [DecidableEq K] (l : List (K × MV)) (k : K) : List (K × MV) := l.filter fun kv => !decide (kv.1 = k)
noncomputable def chars (s : Str) : List MV := s.cps.toList.map fun c => .str ⟨#[c]⟩
noncomputable def itemsO (o : Option MO) : Option (List MV) := match o with
  | some (.list l) => some l
  | some (.idict l) => some (l.map fun kv => .int kv.1)
  | some (.sdict l) => some (l.map fun kv => .str kv.1)
  | none => none
noncomputable def keysO (o : Option MO) : Option (List MV) := match o with
  | some (.idict l) => some (l.map fun kv => .int kv.1)
  | some (.sdict l) => some (l.map fun kv => .str kv.1)
  | _ => none
noncomputable def valsO (o : Option MO) : Option (List MV) := match o with
  | some (.idict l) => some (l.map fun kv => kv.2)
  | some (.sdict l) => some (l.map fun kv => kv.2)
  | _ => none
noncomputable def items (μ : MH) : MV → Option (List MV)
  | .tup l => some l
  | .str s => some (chars s)
  | .ref a => itemsO (μ a)
  | .keys a => keysO (μ a)
  | .vals a => valsO (μ a)
  | _ => none
noncomputable def truthyO (o : Option MO) : Option Bool := match o with
  | some (.list l) => if l.length ≤ 2 ^ 20 then some (!l.isEmpty) else none
  | _ => none
noncomputable def truthy (μ : MH) : MV → Option Bool
  | .none => some false
  | .bool b => some b
  | .int i => some (decide (i ≠ 0))
  | .ref a => truthyO (μ a)
  | _ => none
set_option genCtorIdx true in
inductive BOp where | add | sub | mul | fdiv | mod | pow
set_option genCtorIdx true in
inductive COp where | eq | ne | lt | le | gt | ge | isin | notin | is | isnot
set_option genCtorIdx true in
inductive BI where | len | min2 | max2 | maxD | max1 | sorted | sortedR | sortedSet | list | dict | int | str | all
set_option genCtorIdx true in
inductive MM where | append | extend | keys | values | get2 | pop2 | clear | update | count | index | join | split
set_option genCtorIdx true in
inductive SK where | plain | range | rev | zip
inductive MT where | one (i : Nat) | tup (l : List Nat)
set_option genCtorIdx true in
inductive TY where | int | bool | str | tuple | list | dict
  deriving DecidableEq
set_option genInjectivity false
inductive ME where
  | var (i : Nat)
  | glob (g : String)
  | cint (i : Int) | cstr (s : String) | cbool (b : Bool) | cnone
  | bin (op : BOp) (a b : ME)
  | neg (a : ME) | not (a : ME)
  | and (l : List ME) | or (l : List ME)
  | cmp (a : ME) (ops : List COp) (es : List ME)
  | ite (c a b : ME)
  | idx (a i : ME)
  | slice (a lo hi st : ME)
  | list (l : List ME) | tuple (l : List ME)
  | dict0 (s : Bool)
  | dict (ks vs : List ME)
  | call (f : String) (args : List ME)
  | bi (f : BI) (args : List ME)
  | isinst (e : ME) (t : TY)
  | meth (m : MM) (o : ME) (args : List ME)
  | comp (elt : ME) (t : MT) (k : SK) (its : List ME) (ifs : List ME)
  | dict3 (x y z : String) (i j k : Int)
inductive MS where
  | assign (i : Nat) (e : ME)
  | unpack (l : List Nat) (e : ME)
  | setidx (o i e : ME)
  | expr (e : ME)
  | ret (e : ME) | ret0
  | ite (c : ME) (a b : List MS)
  | for (t : MT) (k : SK) (its : List ME) (body : List MS)
  | while (c : ME) (body : List MS)
  | pass
  | raise0
  | tri (body : List MS)
  | opq (chk : List (Nat × Str) → List (Str × NameKind) → PySem.Stmt → Bool)
structure MFun where
  n : Nat
  body : List MS
inductive MFlow where | next | brk | cont | ret (v : MV)
abbrev MVars := Nat → Option MV
noncomputable def setv (vars : MVars) (i : Nat) (v : MV) : MVars := fun j => if j = i then some v else vars j
abbrev MQ := MV → MH → Prop
abbrev MX := String → MH → Prop
abbrev CallSpec := String → List MV → List Addr → MQ → MX → MH → Prop
noncomputable def fits (n : Nat) : Prop := n ≤ 2 ^ 20
noncomputable instance (n : Nat) : Decidable (fits n) := inferInstanceAs (Decidable (_ ≤ _))
noncomputable def small (i : Int) : Prop := -(2 ^ 63) ≤ i ∧ i < 2 ^ 63
noncomputable def allocM (fz : List Addr) (μ : MH) (o : MO) (Q : Addr → MH → Prop) : Prop := ∀ a, μ a = none → a ∉ fz → Q a (upd μ a o)
noncomputable def intsM (a b : MV) (P : Int → Int → Prop) : Prop := match a with
  | .int x => (match b with | .int y => P x y | _ => False)
  | _ => False
noncomputable def addM (fz : List Addr) (a b : MV) (Q : MQ) (μ : MH) : Prop := match a with
  | .int x => (match b with | .int y => Q (.int (x + y)) μ | _ => False)
  | .str x => (match b with | .str y => fits (x.length + y.length) ∧ Q (.str (x ++ y)) μ | _ => False)
  | .tup x => (match b with | .tup y => fits (x.length + y.length) ∧ Q (.tup (x ++ y)) μ | _ => False)
  | .ref a => (match b with | .ref b => ∃ x y, lst μ a = some x ∧ lst μ b = some y ∧ fits (x.length + y.length) ∧ allocM fz μ (.list (x ++ y)) fun c μ' => Q (.ref c) μ' | _ => False)
  | _ => False
noncomputable def binM (fz : List Addr) (op : BOp) (a b : MV) (Q : MQ) (μ : MH) : Prop := match op with
  | .add => addM fz a b Q μ
  | .sub => intsM a b fun x y => Q (.int (x - y)) μ
  | .mul => intsM a b fun x y => (small x ∨ small y) ∧ Q (.int (x * y)) μ
  | .fdiv => intsM a b fun x y => (y ≠ 0 ∧ small y) ∧ Q (.int (x.fdiv y)) μ
  | .mod => intsM a b fun x y => y ≠ 0 ∧ Q (.int (x.fmod y)) μ
  | .pow => False
noncomputable def eqD (μ : MH) (a b : MV) : Option Bool := match deep μ 9 a, deep μ 9 b with
  | some x, some y => some (PyData.eqv x y)
  | _, _ => none
noncomputable def eqDicts {K : Type} [DecidableEq K] (μ : MH) (x y : List (K × MV)) : Option Bool :=
  if x.length = y.length then (x.mapM fun (kv : K × MV) => match lookI y kv.1 with | some v => eqD μ kv.2 v | none => some false).map fun (l : List Bool) => l.all id
  else some false
noncomputable def eqM (μ : MH) (a b : MV) : Option Bool := match a, b with
  | .ref p, .ref q => match μ p, μ q with
    | some (.idict x), some (.idict y) => eqDicts μ x y
    | some (.sdict x), some (.sdict y) => eqDicts μ x y
    | _, _ => eqD μ a b
  | a, b => eqD μ a b
noncomputable def anyT (x y : Option PyData) : Option Bool := match x with
  | some (.tuple xs) => y.map fun d => xs.any fun y => PyData.eqv y d
  | _ => none
noncomputable def anyL (x y : Option PyData) : Option Bool := match x with
  | some (.list xs) => y.map fun d => xs.any fun y => PyData.eqv y d
  | _ => none
noncomputable def strIn (a : MV) (y : Str) : Option Bool := match a with
  | .str x => if x.length = 1 then some (y.cps.toList.contains (x.cps.toList.headD 0)) else none
  | _ => none
noncomputable def inO (μ : MH) (p : Addr) (a : MV) (o : Option MO) : Option Bool := match o with
  | some (.idict l) => (match a with | .int k => some ((lookI l k).isSome) | _ => none)
  | some (.sdict l) => (match a with | .str k => some ((lookI l k).isSome) | _ => none)
  | some (.list _) => anyL (deep μ 9 (.ref p)) (deep μ 9 a)
  | none => none
noncomputable def inM (μ : MH) (a b : MV) : Option Bool := match b with
  | .tup l => anyT (deep μ 9 (.tup l)) (deep μ 9 a)
  | .ref p => inO μ p a (μ p)
  | .str y => strIn a y
  | _ => none
noncomputable def intsO (a b : MV) (f : Int → Int → Bool) : Option Bool := match a with
  | .int x => (match b with | .int y => some (f x y) | _ => none)
  | _ => none
noncomputable def isNoneO (a b : MV) : Option Bool := match b with
  | .none => (match a with
    | .none => some true
    | .keys _ | .vals _ => none
    | _ => some false)
  | _ => none
noncomputable def cmpM (op : COp) (μ : MH) (a b : MV) : Option Bool := match op with
  | .eq => eqM μ a b
  | .ne => (eqM μ a b).map (!·)
  | .isin => inM μ a b
  | .notin => (inM μ a b).map (!·)
  | .lt => intsO a b fun x y => decide (x < y)
  | .le => intsO a b fun x y => decide (x ≤ y)
  | .gt => intsO a b fun x y => decide (x > y)
  | .ge => intsO a b fun x y => decide (x ≥ y)
  | .is => isNoneO a b
  | .isnot => (isNoneO a b).map (!·)
noncomputable def atI {α : Type} (l : List α) (k : Int) : Option α :=
  if 0 ≤ k then l[k.toNat]? else if 0 ≤ k + l.length then l[(k + l.length).toNat]? else none
noncomputable def intO (v : MV) (f : Int → Option MV) : Option MV := match v with
  | .int k => f k
  | _ => none
noncomputable def strO (v : MV) (f : Str → Option MV) : Option MV := match v with
  | .str k => f k
  | _ => none
noncomputable def idxO (o : Option MO) (i : MV) : Option MV := match o with
  | some (.list l) => intO i fun k => if l.length ≤ 2 ^ 20 then atI l k else none
  | some (.idict l) => intO i fun k => lookI l k
  | some (.sdict l) => strO i fun k => lookI l k
  | none => none
noncomputable def idxM (μ : MH) (a i : MV) : Option MV := match a with
  | .tup l => intO i fun k => if l.length ≤ 2 ^ 20 then atI l k else none
  | .str s => intO i fun k => if s.length ≤ 2 ^ 20 then (atI s.cps.toList k).map fun c => .str ⟨#[c]⟩ else none
  | .ref p => idxO (μ p) i
  | _ => none
noncomputable def pickN (n : Nat) (lo hi st : Option Int) : List Nat := sliceRange (sliceBounds lo hi st n).1 (sliceBounds lo hi st n).2.1 (sliceBounds lo hi st n).2.2
noncomputable def pick {α : Type} (l : List α) (lo hi st : Option Int) : List α := (pickN l.length lo hi st).filterMap (l[·]?)
noncomputable def partI : MV → Option (Option Int)
  | .none => some none
  | .int i => some (some i)
  | _ => none
noncomputable def sliceM (fz : List Addr) (a lo hi st : MV) (Q : MQ) (μ : MH) : Prop := ∃ l h s, partI lo = some l ∧ partI hi = some h ∧ partI st = some s ∧ s ≠ some 0 ∧ match a with
  | .tup x => ∃ a : Nat, l = some (a : Int) ∧ h = none ∧ s = none ∧ (1 ≤ a ∧ a ≤ x.length) ∧ fits x.length ∧ Q (.tup (x.drop a)) μ
  | .str x => fits x.length ∧ Q (.str ⟨(pick x.cps.toList l h s).toArray⟩) μ
  | .ref p => ∃ x, lst μ p = some x ∧ fits x.length ∧ allocM fz μ (.list (pick x l h s)) fun c μ' => Q (.ref c) μ'
  | _ => False
noncomputable def isTyO (t : TY) (o : Option MO) : Option Bool := match o with
  | some (.list _) => some (t = .list)
  | some (.idict _) => some (t = .dict)
  | some (.sdict _) => some (t = .dict)
  | none => none
noncomputable def isTy (μ : MH) (t : TY) : MV → Option Bool
  | .none => some false
  | .bool _ => some (t = .bool || t = .int)
  | .int _ => some (t = .int)
  | .str _ => some (t = .str)
  | .tup _ => some (t = .tuple)
  | .ref a => isTyO t (μ a)
  | _ => none
noncomputable def isStrV : MV → Bool
  | .str _ => true
  | _ => false
noncomputable def intsOf (l : List MV) : Option (List Int) := l.mapM fun | .int i => some i | _ => none
noncomputable def strsOf (l : List MV) : Option (List Str) := l.mapM fun | .str i => some i | _ => none
noncomputable def boolsOf (l : List MV) : Option (List Bool) := l.mapM fun | .bool i => some i | _ => none
noncomputable def sortI (l : List Int) : List Int := l.mergeSort (fun a b => decide (a ≤ b))
noncomputable def maxI : List Int → Option Int
  | [] => none
  | x :: r => some (r.foldl max x)
noncomputable def pairsI (l : List MV) : Option (List (Int × MV)) := l.mapM fun | .tup [.int k, v] => some (k, v) | _ => none
noncomputable def lenO (o : Option MO) (P : Nat → Prop) : Prop := match o with
  | some (.list l) => fits l.length ∧ P l.length
  | some (.idict l) => fits l.length ∧ P l.length
  | some (.sdict l) => fits l.length ∧ P l.length
  | none => False
noncomputable def lenM (v : MV) (Q : MQ) (μ : MH) : Prop := match v with
  | .tup l => fits l.length ∧ Q (.int l.length) μ
  | .str s => fits s.length ∧ Q (.int s.length) μ
  | .ref a => lenO (μ a) fun n => Q (.int n) μ
  | _ => False
noncomputable def a1 (args : List MV) (P : MV → Prop) : Prop := match args with
  | [v] => P v
  | _ => False
noncomputable def a2 (args : List MV) (P : MV → MV → Prop) : Prop := match args with
  | [v, u] => P v u
  | _ => False
noncomputable def intV (v : MV) (P : Int → Prop) : Prop := match v with
  | .int i => P i
  | _ => False
noncomputable def boolV (v : MV) (P : Bool → Prop) : Prop := match v with
  | .bool i => P i
  | _ => False
noncomputable def refV (v : MV) (P : Addr → Prop) : Prop := match v with
  | .ref i => P i
  | _ => False
noncomputable def dictO (fz : List Addr) (o : Option MO) (Q : MQ) (μ : MH) : Prop := match o with
  | some (.idict l) => fits l.length ∧ allocM fz μ (.idict l) fun c μ' => Q (.ref c) μ'
  | some (.list l) => ∃ ps, pairsI l = some ps ∧ fits l.length ∧ allocM fz μ (.idict (ps.foldl (fun d kv => putI d kv.1 kv.2) [])) fun c μ' => Q (.ref c) μ'
  | _ => False
noncomputable def biM (fz : List Addr) (f : BI) (args : List MV) (Q : MQ) (μ : MH) : Prop := match f with
  | .len => a1 args fun v => lenM v Q μ
  | .min2 => a2 args fun a b => intsM a b fun x y => Q (.int (min x y)) μ
  | .max2 => a2 args fun a b => intsM a b fun x y => Q (.int (max x y)) μ
  | .maxD => a2 args fun v d => intV d fun d => ∃ l ns, isStrV v = false ∧ items μ v = some l ∧ intsOf l = some ns ∧ fits l.length ∧ Q (.int ((maxI ns).getD d)) μ
  | .max1 => False
  | .sorted => a1 args fun v => ∃ l ns, isStrV v = false ∧ items μ v = some l ∧ intsOf l = some ns ∧ l.length < 64 ∧ allocM fz μ (.list ((sortI ns).map .int)) fun c μ' => Q (.ref c) μ'
  | .sortedR => a1 args fun v => ∃ l ns, isStrV v = false ∧ items μ v = some l ∧ intsOf l = some ns ∧ l.length < 64 ∧ allocM fz μ (.list ((sortI ns).reverse.map .int)) fun c μ' => Q (.ref c) μ'
  | .list => a1 args fun v => ∃ l, isStrV v = false ∧ items μ v = some l ∧ fits l.length ∧ allocM fz μ (.list l) fun c μ' => Q (.ref c) μ'
  | .dict => a1 args fun v => refV v fun a => dictO fz (μ a) Q μ
  | .int => a1 args fun v => match v with
    | .bool b => Q (.int (if b then 1 else 0)) μ
    | .str x => ∃ n, PySem.intText? x = some n ∧ x.length ≤ 640 ∧ Q (.int n) μ
    | _ => False
  | .all => False
  | .str => a1 args fun v => match v with
    | .int i => i.natAbs.log2 < 1920 ∧ Q (.str (Str.ofString (toString i))) μ
    | .str x => Q (.str x) μ
    | _ => False
  | .sortedSet => False
noncomputable def isDictO (o : Option MO) : Bool := match o with
  | some (.idict _) | some (.sdict _) => true
  | _ => false
noncomputable def isListO (o : Option MO) : Bool := match o with
  | some (.list _) => true
  | _ => false
noncomputable def refB (v : MV) (P : Addr → Bool) : Bool := match v with
  | .ref i => P i
  | _ => false
noncomputable def mmKind (m : MM) (μ : MH) (v : MV) : Bool := match m with
  | .append => refB v fun a => isListO (μ a)
  | .keys => refB v fun a => isDictO (μ a)
  | .join | .split => isStrV v
  | _ => false
noncomputable def strV (v : MV) (P : Str → Prop) : Prop := match v with
  | .str i => P i
  | _ => False
noncomputable def get2M (o : Option MO) (k d : MV) (P : MV → Prop) : Prop := match o with
  | some (.sdict l) => strV k fun x => P ((lookI l x).getD d)
  | some (.idict l) => intV k fun x => P ((lookI l x).getD d)
  | _ => False
noncomputable def a0 (args : List MV) (P : Prop) : Prop := match args with
  | [] => P
  | _ => False
noncomputable def methM (fz : List Addr) (m : MM) (o : MV) (args : List MV) (Q : MQ) (μ : MH) : Prop := match m with
  | .append => refV o fun a => a1 args fun v => ∃ l, μ a = some (.list l) ∧ a ∉ fz ∧ fits l.length ∧ Q .none (upd μ a (.list (l ++ [v])))
  | .keys => refV o fun a => a0 args (isDictO (μ a) = true ∧ Q (.keys a) μ)
  | .join => strV o fun x => a1 args fun v => refV v fun a => ∃ l ss, lst μ a = some l ∧ strsOf l = some ss ∧ x.length ≤ 16 ∧ (ss.map (·.length)).sum + ss.length ≤ 2 ^ 20 ∧ Q (.str (Txt.join x ss)) μ
  | .split => strV o fun x => a1 args fun v => strV v fun y => y.length = 1 ∧ fits (x.length + 2) ∧ allocM fz μ (.list ((Txt.split x y).map .str)) fun c μ' => Q (.ref c) μ'
  | _ => False
inductive Src where
  | val (v : MV)
  | ints (l : List Int)
  | rev (v : MV)
  | zip (a b : MV)
noncomputable def Src.items (μ : MH) : Src → Option (List MV)
  | .val v => Mine.items μ v
  | .ints l => some (l.map .int)
  | .rev (.ref a) => (lst μ a).map List.reverse
  | .rev _ => none
  | .zip _ _ => none
noncomputable def rangeL (lo hi st : Int) : List Int := (List.range ((hi - lo + st - 1) / st).toNat).map fun (k : Nat) => lo + st * k
noncomputable def in62 (i : Int) : Bool := decide (-(2 ^ 62) ≤ i) && decide (i < 2 ^ 62)
noncomputable def rangeM (args : List MV) : Option (List Int) := match args with
  | [.int h] => if in62 h then some (rangeL 0 h 1) else none
  | _ => none
noncomputable def isVals : MV → Bool
  | .vals _ => true
  | _ => false
noncomputable def mkSrc (k : SK) (vs : List MV) : Option Src := match k, vs with
  | .plain, [v] => if isVals v then none else some (.val v)
  | .range, vs => (rangeM vs).map .ints
  | .rev, [v] => some (.rev v)
  | _, _ => none
noncomputable def setAt {α : Type} (l : List α) (k : Int) (v : α) : Option (List α) :=
  if 0 ≤ k then (if k.toNat < l.length then some (l.set k.toNat v) else none)
  else if 0 ≤ k + l.length then some (l.set (k + l.length).toNat v) else none
noncomputable def setO (o : Option MO) (i v : MV) (P : MO → Prop) : Prop := match o with
  | some (.list l) => intV i fun k => fits l.length ∧ ∃ l', setAt l k v = some l' ∧ P (.list l')
  | some (.idict l) => intV i fun k => fits l.length ∧ P (.idict (putI l k v))
  | some (.sdict _) => False
  | none => False
noncomputable def setM (fz : List Addr) (o i v : MV) (Q : MH → Prop) (μ : MH) : Prop := refV o fun a => a ∉ fz ∧ setO (μ a) i v fun o' => Q (upd μ a o')
noncomputable def bindT (t : MT) (v : MV) (vars : MVars) : Option MVars := match t, v with
  | .one i, v => some (setv vars i v)
  | .tup is, .tup l => if is.length = l.length then some ((is.zip l).foldl (fun vs p => setv vs p.1 p.2) vars) else none
  | .tup _, _ => none
noncomputable def Src.held : Src → List Addr
  | .val (.ref a) | .val (.keys a) | .val (.vals a) | .rev (.ref a) => [a]
  | _ => []
noncomputable def loopM (t : MT) (B : MVars → (MFlow → MVars → MH → Prop) → MH → Prop) (R : MFlow → MVars → MH → Prop) : List MV → MVars → MH → Prop
  | [], vars, μ => R .next vars μ
  | v :: rest, vars, μ => ∃ vars', bindT t v vars = some vars' ∧
      B vars' (fun fl vars'' μ' => match fl with
        | .next | .cont => loopM t B R rest vars'' μ'
        | .brk => R .next vars'' μ'
        | .ret v => R (.ret v) vars'' μ') μ
noncomputable def compM (fz : List Addr) (t : MT) (vars : MVars) (T : MVars → (Bool → MH → Prop) → MH → Prop) (B : MVars → MQ → MH → Prop) (Q : MQ) : List MV → List MV → MH → Prop
  | [], acc, μ => allocM fz μ (.list acc) fun c μ' => Q (.ref c) μ'
  | v :: rest, acc, μ => ∃ vars', bindT t v vars = some vars' ∧
      T vars' (fun ok μ' => if ok then B vars' (fun r μ'' => compM fz t vars T B Q rest (acc ++ [r]) μ'') μ' else compM fz t vars T B Q rest acc μ') μ
noncomputable def whileM (C : MVars → (Bool → MH → Prop) → MH → Prop) (B : MVars → (MFlow → MVars → MH → Prop) → MH → Prop) (R : MFlow → MVars → MH → Prop) : Nat → MVars → MH → Prop
  | 0, _, _ => False
  | n + 1, vars, μ => C vars (fun b μ' => if b then B vars (fun fl vars'' μ'' => match fl with
        | .next | .cont => whileM C B R n vars'' μ''
        | .brk => R .next vars'' μ''
        | .ret v => R (.ret v) vars'' μ'') μ'
      else R .next vars μ') μ
section
variable (G : String → Option MV) (Φ : CallSpec) (X : MX)
mutual
noncomputable def ev : ME → List Addr → MVars → MQ → MH → Prop
  | .var i, _, vars, Q, μ => ∃ v, vars i = some v ∧ Q v μ
  | .glob g, _, _, Q, μ => ∃ v, G g = some v ∧ Q v μ
  | .cint i, _, _, Q, μ => Q (.int i) μ
  | .cstr s, _, _, Q, μ => Q (.str (Str.ofString s)) μ
  | .cbool b, _, _, Q, μ => Q (.bool b) μ
  | .cnone, _, _, Q, μ => Q .none μ
  | .bin op a b, fz, vars, Q, μ => ev a fz vars (fun x μ' => ev b fz vars (fun y μ'' => binM fz op x y Q μ'') μ') μ
  | .neg a, fz, vars, Q, μ => ev a fz vars (fun x μ' => ∃ i, x = .int i ∧ Q (.int (-i)) μ') μ
  | .not a, fz, vars, Q, μ => ev a fz vars (fun x μ' => ∃ b, truthy μ' x = some b ∧ Q (.bool (!b)) μ') μ
  | .and l, fz, vars, Q, μ => evAnd l fz vars Q μ
  | .or l, fz, vars, Q, μ => evOr l fz vars Q μ
  | .cmp a ops es, fz, vars, Q, μ => ev a fz vars (fun x μ' => evCmp es ops x fz vars Q μ') μ
  | .ite c a b, fz, vars, Q, μ => ev c fz vars (fun x μ' => ∃ t, truthy μ' x = some t ∧ if t then ev a fz vars Q μ' else ev b fz vars Q μ') μ
  | .idx a i, fz, vars, Q, μ => ev a fz vars (fun x μ' => ev i fz vars (fun y μ'' => ∃ v, idxM μ'' x y = some v ∧ Q v μ'') μ') μ
  | .slice a lo hi st, fz, vars, Q, μ => ev a fz vars (fun x μ' => ev lo fz vars (fun l μ₁ => ev hi fz vars (fun h μ₂ => ev st fz vars (fun s μ₃ => sliceM fz x l h s Q μ₃) μ₂) μ₁) μ') μ
  | .list l, fz, vars, Q, μ => evs l fz vars (fun vs μ' => fits vs.length ∧ allocM fz μ' (.list vs) fun c μ'' => Q (.ref c) μ'') μ
  | .tuple l, fz, vars, Q, μ => evs l fz vars (fun vs μ' => fits vs.length ∧ Q (.tup vs) μ') μ
  | .dict0 s, fz, _, Q, μ => allocM fz μ (if s then .sdict [] else .idict []) fun c μ' => Q (.ref c) μ'
  | .dict _ _, _, _, _, _ => False
  | .call f args, fz, vars, Q, μ => evs args fz vars (fun vs μ' => Φ f vs fz Q X μ') μ
  | .bi f args, fz, vars, Q, μ => evs args fz vars (fun vs μ' => biM fz f vs Q μ') μ
  | .isinst e t, fz, vars, Q, μ => ev e fz vars (fun v μ' => ∃ b, isTy μ' t v = some b ∧ Q (.bool b) μ') μ
  | .meth m o args, fz, vars, Q, μ => ev o fz vars (fun x μ' => mmKind m μ' x = true ∧ evs args fz vars (fun vs μ'' => methM fz m x vs Q μ'') μ') μ
  | .comp elt t k its ifs, fz, vars, Q, μ => evs its fz vars (fun vs μ' => ∃ src all, mkSrc k vs = some src ∧ src.items μ' = some all ∧ fits all.length ∧
      compM fz t vars (fun vs F μ => evIfs ifs (src.held ++ fz) vs F μ) (fun vs F μ => ev elt (src.held ++ fz) vs F μ) Q all [] μ') μ
  | .dict3 x y z i j k, fz, _, Q, μ => (Str.ofString x ≠ Str.ofString y ∧ Str.ofString x ≠ Str.ofString z ∧ Str.ofString y ≠ Str.ofString z) ∧ allocM fz μ (.sdict [(Str.ofString x, .int i), (Str.ofString y, .int j), (Str.ofString z, .int k)]) fun c μ' => Q (.ref c) μ'
noncomputable def evs : List ME → List Addr → MVars → (List MV → MH → Prop) → MH → Prop
  | [], _, _, Q, μ => Q [] μ
  | e :: r, fz, vars, Q, μ => ev e fz vars (fun v μ' => evs r fz vars (fun vs μ'' => Q (v :: vs) μ'') μ') μ
noncomputable def evAnd : List ME → List Addr → MVars → MQ → MH → Prop
  | [], _, _, _, _ => False
  | e :: r, fz, vars, Q, μ => ev e fz vars (fun v μ' => match r with
      | [] => Q v μ'
      | _ :: _ => ∃ b, truthy μ' v = some b ∧ if b then evAnd r fz vars Q μ' else Q v μ') μ
noncomputable def evOr : List ME → List Addr → MVars → MQ → MH → Prop
  | [], _, _, _, _ => False
  | e :: r, fz, vars, Q, μ => ev e fz vars (fun v μ' => match r with
      | [] => Q v μ'
      | _ :: _ => ∃ b, truthy μ' v = some b ∧ if b then Q v μ' else evOr r fz vars Q μ') μ
noncomputable def evCmp : List ME → List COp → MV → List Addr → MVars → MQ → MH → Prop
  | e :: r, op :: ops, x, fz, vars, Q, μ => ev e fz vars (fun y μ' => ∃ b, cmpM op μ' x y = some b ∧ match r, ops with
      | [], [] => Q (.bool b) μ'
      | _ :: _, _ :: _ => if b then evCmp r ops y fz vars Q μ' else Q (.bool false) μ'
      | _, _ => False) μ
  | _, _, _, _, _, _, _ => False
noncomputable def evIfs : List ME → List Addr → MVars → (Bool → MH → Prop) → MH → Prop
  | [], _, _, F, μ => F true μ
  | e :: r, fz, vars, F, μ => ev e fz vars (fun v μ' => ∃ b, truthy μ' v = some b ∧ match r with
      | [] => F b μ'
      | _ :: _ => if b then evIfs r fz vars F μ' else F false μ') μ
end
mutual
noncomputable def ex : MS → List Addr → MVars → (MFlow → MVars → MH → Prop) → MH → Prop
  | .assign i e, fz, vars, R, μ => ev G Φ X e fz vars (fun v μ' => R .next (setv vars i v) μ') μ
  | .unpack l e, fz, vars, R, μ => ev G Φ X e fz vars (fun v μ' => ∃ vars', bindT (.tup l) v vars = some vars' ∧ R .next vars' μ') μ
  | .setidx o i e, fz, vars, R, μ => ev G Φ X e fz vars (fun v μ₁ => ev G Φ X o fz vars (fun x μ₂ => ev G Φ X i fz vars (fun y μ₃ => setM fz x y v (fun μ₄ => R .next vars μ₄) μ₃) μ₂) μ₁) μ
  | .expr e, fz, vars, R, μ => ev G Φ X e fz vars (fun _ μ' => R .next vars μ') μ
  | .ret e, fz, vars, R, μ => ev G Φ X e fz vars (fun v μ' => R (.ret v) vars μ') μ
  | .ret0, _, vars, R, μ => R (.ret .none) vars μ
  | .ite c a b, fz, vars, R, μ => ev G Φ X c fz vars (fun v μ' => ∃ t, truthy μ' v = some t ∧ if t then exs a fz vars R μ' else exs b fz vars R μ') μ
  | .for t k its body, fz, vars, R, μ => evs G Φ X its fz vars (fun vs μ' => ∃ src all, mkSrc k vs = some src ∧ src.items μ' = some all ∧ fits all.length ∧
      loopM t (fun vs F μ => exs body (src.held ++ fz) vs F μ) R all vars μ') μ
  | .while c body, fz, vars, R, μ => ∃ n, whileM (fun vs F μ => ev G Φ X c fz vs (fun v μ' => ∃ t, truthy μ' v = some t ∧ F t μ') μ) (fun vs F μ => exs body fz vs F μ) R n vars μ
  | .pass, _, vars, R, μ => R .next vars μ
  | .raise0, _, _, _, _ => False
  | .tri b, fz, vars, R, μ => exs b fz vars R μ
  | .opq _, _, _, _, _ => False
noncomputable def exs : List MS → List Addr → MVars → (MFlow → MVars → MH → Prop) → MH → Prop
  | [], _, vars, R, μ => R .next vars μ
  | st :: r, fz, vars, R, μ => ex st fz vars (fun fl vars' μ' => match fl with
      | .next => exs r fz vars' R μ'
      | fl => R fl vars' μ') μ
end
end
noncomputable def args0 (vs : List MV) : MVars := fun i => vs[i]?
noncomputable def calls (G : String → Option MV) (Γ : String → Option MFun) : Nat → CallSpec
  | 0, _, _, _, _, _, _ => False
  | d + 1, f, vs, fz, Q, X, μ => ∃ fd, Γ f = some fd ∧ vs.length = fd.n ∧
      exs G (calls G Γ d) X fd.body fz (args0 vs) (fun fl _ μ' => match fl with
        | .ret v => Q v μ'
        | .next => Q .none μ'
        | _ => False) μ
theorem Jp {a b : MV} {P : Int → Int → Prop} (h : intsM a b P) : ∃ x y, a = .int x ∧ b = .int y ∧ P x y := by
  cases a <;> first
    | exact False.elim h
    | (cases b <;> first | exact False.elim h | exact ⟨_, _, rfl, rfl, h⟩)
theorem Vz {a b : MV} {f : Int → Int → Bool} {r : Bool} (h : intsO a b f = some r) : ∃ x y, a = .int x ∧ b = .int y ∧ f x y = r := by
  cases a <;> first
    | (cases h; done)
    | (cases b <;> first | (cases h; done) | exact ⟨_, _, rfl, rfl, Option.some.inj h⟩)
theorem V4 {v : MV} {P : Addr → Prop} (h : refV v P) : ∃ i, v = .ref i ∧ P i := by
  cases v <;> first | exact False.elim h | exact ⟨_, rfl, h⟩
theorem refB_inv {v : MV} {P : Addr → Bool} (h : refB v P = true) : ∃ i, v = .ref i ∧ P i = true := by
  cases v <;> first | exact (Bool.false_ne_true h).elim | exact ⟨_, rfl, h⟩
theorem intV_inv {v : MV} {P : Int → Prop} (h : intV v P) : ∃ i, v = .int i ∧ P i := by
  cases v <;> first | exact False.elim h | exact ⟨_, rfl, h⟩
theorem Bn {v : MV} {P : Str → Prop} (h : strV v P) : ∃ i, v = .str i ∧ P i := by
  cases v <;> first | exact False.elim h | exact ⟨_, rfl, h⟩
theorem Cm {v : MV} (h : isStrV v = true) : ∃ i, v = .str i := by
  cases v <;> first | exact (Bool.false_ne_true h).elim | exact ⟨_, rfl⟩
theorem a0_inv {args : List MV} {P : Prop} (h : a0 args P) : args = [] ∧ P := by
  cases args <;> first | exact False.elim h | exact ⟨rfl, h⟩
theorem Ko {args : List MV} {P : MV → Prop} (h : a1 args P) : ∃ v, args = [v] ∧ P v := by
  cases args with
  | nil => exact False.elim h
  | cons v r => cases r with
    | nil => exact ⟨v, rfl, h⟩
    | cons _ _ => exact False.elim h
theorem a2_inv {args : List MV} {P : MV → MV → Prop} (h : a2 args P) : ∃ v u, args = [v, u] ∧ P v u := by
  cases args with
  | nil => exact False.elim h
  | cons v r => cases r with
    | nil => exact False.elim h
    | cons u r => cases r with
      | nil => exact ⟨v, u, rfl, h⟩
      | cons _ _ => exact False.elim h
theorem At {o : Option MO} (h : isDictO o = true) : (∃ l, o = some (.idict l)) ∨ ∃ l, o = some (.sdict l) := by
  cases o with
  | none => exact (Bool.false_ne_true h).elim
  | some o => cases o with
    | list l => exact (Bool.false_ne_true h).elim
    | idict l => exact .inl ⟨l, rfl⟩
    | sdict l => exact .inr ⟨l, rfl⟩
theorem isListO_inv {o : Option MO} (h : isListO o = true) : ∃ l, o = some (.list l) := by
  cases o with
  | none => exact (Bool.false_ne_true h).elim
  | some o => cases o with
    | list l => exact ⟨l, rfl⟩
    | _ => exact (Bool.false_ne_true h).elim
theorem anyT_inv {x y : Option PyData} {r : Bool} (h : anyT x y = some r) : ∃ xs d, x = some (.tuple xs) ∧ y = some d ∧ (xs.any fun y => PyData.eqv y d) = r := by
  cases x with
  | none => cases h
  | some x =>
    cases x with
    | tuple xs => obtain ⟨d, e, q⟩ := Option.map_eq_some_iff.mp h; exact ⟨xs, d, rfl, e, q⟩
    | _ => cases h
theorem anyL_inv {x y : Option PyData} {r : Bool} (h : anyL x y = some r) : ∃ xs d, x = some (.list xs) ∧ y = some d ∧ (xs.any fun y => PyData.eqv y d) = r := by
  cases x with
  | none => cases h
  | some x =>
    cases x with
    | list xs => obtain ⟨d, e, q⟩ := Option.map_eq_some_iff.mp h; exact ⟨xs, d, rfl, e, q⟩
    | _ => cases h
theorem P3 {v r : MV} {f : Int → Option MV} (h : intO v f = some r) : ∃ k, v = .int k ∧ f k = some r := by
  cases v <;> first | (cases h; done) | exact ⟨_, rfl, h⟩
theorem strO_inv {v r : MV} {f : Str → Option MV} (h : strO v f = some r) : ∃ k, v = .str k ∧ f k = some r := by
  cases v <;> first | (cases h; done) | exact ⟨_, rfl, h⟩
theorem P0 {p : Prop} [Decidable p] {α : Type} {x : Option α} {y : α} (h : (if p then x else none) = some y) : p ∧ x = some y := by
  by_cases q : p
  · rw [if_pos q] at h; exact ⟨q, h⟩
  · rw [if_neg q] at h; cases h
end Mine
end
section
namespace Mine
open PySem PySem.Calls
noncomputable def KeysView (h : Heap) (v d : Addr) : Prop := ∃ o, h.get? v = some o ∧ o.cls = .type "dict_keys" ∧ o.data = .fields #[.ref d]
mutual
noncomputable def RepV (h : Heap) : MV → Value → Prop
  | .none, v => v = .none
  | .bool b, v => v = .bool b
  | .int i, v => ∃ t, v = .int i t
  | .str x, v => ∃ t, v = .str x t
  | .tup l, v => ∃ a vs n, v = .ref a ∧ h.get? a = some { cls := .type "tuple", data := .seq (List.toArray vs) n } ∧ RepVs h l vs
  | .ref a, v => v = .ref a
  | .keys d, v => ∃ a, v = .ref a ∧ KeysView h a d
  | .vals d, v => ∃ a, v = .ref a ∧ h.IsValuesView a d
noncomputable def RepVs (h : Heap) : List MV → List Value → Prop
  | [], [] => True
  | m :: ms, v :: vs => RepV h m v ∧ RepVs h ms vs
  | [], _ :: _ => False
  | _ :: _, [] => False
end
noncomputable def RepKV {K : Type} (h : Heap) : List (K × MV) → List (K × Value) → Prop
  | [], [] => True
  | m :: ms, v :: vs => m.1 = v.1 ∧ RepV h m.2 v.2 ∧ RepKV h ms vs
  | [], _ :: _ => False
  | _ :: _, [] => False
noncomputable def RepO (prog : Program) (w : World) (h : Heap) (a : Addr) : MO → Prop
  | .list l => ∃ vs : List Value, h.PlainList a vs.toArray ∧ RepVs h l vs
  | .idict l => ∃ kvs, h.DictOf (intKind prog w) a kvs ∧ RepKV h l kvs ∧ (a == sysModules) = false
  | .sdict l => ∃ kvs, h.DictOf (strKind prog w) a kvs ∧ RepKV h l kvs ∧ (a == sysModules) = false
noncomputable def RepH (prog : Program) (w : World) (μ : MH) (h : Heap) : Prop := ∀ a o, μ a = some o → RepO prog w h a o
noncomputable def ImmCls (o : Obj) : Prop := (o.cls = .type "tuple" ∧ ∃ xs n, o.data = .seq xs n) ∨ (o.cls = .type "dict_keys" ∧ ∃ vs, o.data = .fields vs) ∨ (o.cls = .type "dict_values" ∧ ∃ vs, o.data = .fields vs)
noncomputable def KeepsT (h h' : Heap) : Prop := ∀ b o, h.get? b = some o → ImmCls o → h'.get? b = some o
theorem KeepsT.of_all {h h' : Heap} (k : ∀ b o, h.get? b = some o → h'.get? b = some o) : KeepsT h h' := fun b o e _ => k b o e
mutual
theorem RepV.keepT {h h' : Heap} (k : KeepsT h h') : ∀ {m : MV} {v : Value}, RepV h m v → RepV h' m v
  | .none, _ => fun x => by simpa [RepV] using x
  | .bool _, _ => fun x => by simpa [RepV] using x
  | .int _, _ => fun x => by simpa [RepV] using x
  | .str _, _ => fun x => by simpa [RepV] using x
  | .tup l, _ => fun x => by
    simp only [RepV] at x ⊢
    obtain ⟨a, vs, n, e, ho, hv⟩ := x
    exact ⟨a, vs, n, e, k a _ ho (.inl ⟨rfl, _, _, rfl⟩), RepVs.keepT k hv⟩
  | .ref _, _ => fun x => by simpa [RepV] using x
  | .keys d, _ => fun x => by
    simp only [RepV] at x ⊢
    obtain ⟨a, e, o, ho, hc, r⟩ := x
    exact ⟨a, e, o, k a o ho (.inr (.inl ⟨hc, _, r⟩)), hc, r⟩
  | .vals d, _ => fun x => by
    simp only [RepV] at x ⊢
    obtain ⟨a, e, o, ho, hc, r⟩ := x
    exact ⟨a, e, o, k a o ho (.inr (.inr ⟨hc, _, r⟩)), hc, r⟩
theorem RepVs.keepT {h h' : Heap} (k : KeepsT h h') : ∀ {m : List MV} {v : List Value}, RepVs h m v → RepVs h' m v
  | [], [] => fun _ => trivial
  | _ :: _, _ :: _ => fun x => by simp only [RepVs] at x ⊢; exact ⟨RepV.keepT k x.1, RepVs.keepT k x.2⟩
  | [], _ :: _ => fun x => by simp [RepVs] at x
  | _ :: _, [] => fun x => by simp [RepVs] at x
end
theorem RepKV.keepT {K : Type} {h h' : Heap} (k : KeepsT h h') : ∀ {m : List (K × MV)} {v : List (K × Value)}, RepKV h m v → RepKV h' m v
  | [], [] => fun _ => trivial
  | _ :: _, _ :: _ => fun x => by simp only [RepKV] at x ⊢; exact ⟨x.1, RepV.keepT k x.2.1, RepKV.keepT k x.2.2⟩
  | [], _ :: _ => fun x => by simp [RepKV] at x
  | _ :: _, [] => fun x => by simp [RepKV] at x
theorem RepVs.length {h : Heap} : ∀ {m : List MV} {v : List Value}, RepVs h m v → v.length = m.length
  | [], [] => fun _ => rfl
  | _ :: _, _ :: _ => fun x => by simp only [RepVs] at x; simp [RepVs.length x.2]
  | [], _ :: _ => fun x => by simp [RepVs] at x
  | _ :: _, [] => fun x => by simp [RepVs] at x
theorem RepKV.length {K : Type} {h : Heap} : ∀ {m : List (K × MV)} {v : List (K × Value)}, RepKV h m v → v.length = m.length
  | [], [] => fun _ => rfl
  | _ :: _, _ :: _ => fun x => by simp only [RepKV] at x; simp [RepKV.length x.2.2]
  | [], _ :: _ => fun x => by simp [RepKV] at x
  | _ :: _, [] => fun x => by simp [RepKV] at x
theorem RepVs.append {h : Heap} : ∀ {m m' : List MV} {v v' : List Value}, RepVs h m v → RepVs h m' v' → RepVs h (m ++ m') (v ++ v')
  | [], _, [], _ => fun _ y => y
  | _ :: _, _, _ :: _, _ => fun x y => by simp only [RepVs, List.cons_append] at x ⊢; exact ⟨x.1, RepVs.append x.2 y⟩
  | [], _, _ :: _, _ => fun x _ => by simp [RepVs] at x
  | _ :: _, _, [], _ => fun x _ => by simp [RepVs] at x
theorem RepVs.get {h : Heap} : ∀ {m : List MV} {v : List Value} {i : Nat} {x : MV}, RepVs h m v → m[i]? = some x → ∃ y, v[i]? = some y ∧ RepV h x y
  | [], [], i, x => fun _ e => by simp at e
  | m :: ms, y :: ys, 0, x => fun r e => by simp only [RepVs] at r; simp at e; subst e; exact ⟨y, rfl, r.1⟩
  | m :: ms, y :: ys, i + 1, x => fun r e => by simp only [RepVs] at r; exact RepVs.get (i := i) r.2 (by simpa using e)
  | [], _ :: _, _, _ => fun r _ => by simp [RepVs] at r
  | _ :: _, [], _, _ => fun r _ => by simp [RepVs] at r
theorem RepO.keeps {prog : Program} {w : World} {h h' : Heap} (k : KeepsT h h') {a : Addr} {o : MO} (ka : ∀ x, h.get? a = some x → h'.get? a = some x) (r : RepO prog w h a o) : RepO prog w h' a o := by
  cases o with
  | list l => obtain ⟨vs, ⟨n, ho⟩, hv⟩ := r; exact ⟨vs, ⟨n, ka _ ho⟩, hv.keepT k⟩
  | idict l => obtain ⟨kvs, ⟨o, es, ep, ho, hr⟩, hv, hs⟩ := r; exact ⟨kvs, ⟨o, es, ep, ka o ho, hr⟩, hv.keepT k, hs⟩
  | sdict l => obtain ⟨kvs, ⟨o, es, ep, ho, hr⟩, hv, hs⟩ := r; exact ⟨kvs, ⟨o, es, ep, ka o ho, hr⟩, hv.keepT k, hs⟩
theorem RepO.obj {prog : Program} {w : World} {h : Heap} {a : Addr} {o : MO} (r : RepO prog w h a o) : ∃ x, h.get? a = some x ∧ ¬ ImmCls x := by
  cases o with
  | list l => obtain ⟨vs, ⟨n, ho⟩, _⟩ := r; exact ⟨_, ho, by unfold ImmCls; simp⟩
  | idict l => obtain ⟨kvs, ⟨o, es, ep, ho, hc, _⟩, _⟩ := r; exact ⟨o, ho, by unfold ImmCls; rw [hc.1]; simp⟩
  | sdict l => obtain ⟨kvs, ⟨o, es, ep, ho, hc, _⟩, _⟩ := r; exact ⟨o, ho, by unfold ImmCls; rw [hc.1]; simp⟩
theorem RepH.ext {prog : Program} {w : World} {μ : MH} {h h' : Heap} (r : RepH prog w μ h) (k : ∀ b o, h.get? b = some o → h'.get? b = some o) : RepH prog w μ h' :=
  fun a o e => (r a o e).keeps (.of_all k) (k a)
theorem RepH.alloc {prog : Program} {w : World} {μ : MH} {h h' : Heap} {c : Addr} {o : MO} (r : RepH prog w μ h) (k : ∀ b o, h.get? b = some o → h'.get? b = some o) (ho : RepO prog w h' c o) : RepH prog w (upd μ c o) h' := by
  intro a o' e
  unfold upd at e
  split at e
  · rename_i q; cases e; rw [q]; exact ho
  · exact (r a o' e).keeps (.of_all k) (k a)
theorem KeepsT.but {prog : Program} {w : World} {μ : MH} {h h' : Heap} {c : Addr} {o : MO} (r : RepH prog w μ h) (e : μ c = some o) (k : ∀ b o, b ≠ c → h.get? b = some o → h'.get? b = some o) : KeepsT h h' := fun b x hb hi => by
  refine k b x (fun q => ?_) hb
  obtain ⟨y, hy, hn⟩ := (r c o e).obj
  rw [q, hy] at hb; cases hb; exact hn hi
theorem RepH.update {prog : Program} {w : World} {μ : MH} {h h' : Heap} {c : Addr} {o o' : MO} (r : RepH prog w μ h) (e : μ c = some o) (k : ∀ b o, b ≠ c → h.get? b = some o → h'.get? b = some o)
    (ho : KeepsT h h' → RepO prog w h' c o') : RepH prog w (upd μ c o') h' := by
  have kt := KeepsT.but r e k
  intro a x ex
  unfold upd at ex
  split at ex
  · rename_i q; cases ex; rw [q]; exact ho kt
  · rename_i q; exact (r a x ex).keeps kt fun y hy => k a y q hy
structure Grow (fz : List Addr) (μ : MH) (s : Shared) (μ' : MH) (s' : Shared) : Prop where
  keep : ∀ b o, (μ b = none ∨ b ∈ fz) → s.heap.get? b = some o → s'.heap.get? b = some o ∧ μ' b = μ b
  os : s'.os = s.os
  gens : s'.gens = s.gens
theorem Grow.refl {fz : List Addr} {μ : MH} {s : Shared} : Grow fz μ s μ s := ⟨fun _ _ _ e => ⟨e, rfl⟩, rfl, rfl⟩
theorem Grow.trans {fz : List Addr} {μ μ₁ μ₂ : MH} {s s₁ s₂ : Shared} (x : Grow fz μ s μ₁ s₁) (y : Grow fz μ₁ s₁ μ₂ s₂) : Grow fz μ s μ₂ s₂ :=
  ⟨fun b o f e => by
    obtain ⟨e1, q1⟩ := x.keep b o f e
    obtain ⟨e2, q2⟩ := y.keep b o (f.imp (fun z => q1.trans z) id) e1
    exact ⟨e2, q2.trans q1⟩, y.os.trans x.os, y.gens.trans x.gens⟩
theorem Grow.weak {fz cs : List Addr} {μ μ' : MH} {s s' : Shared} (x : Grow (cs ++ fz) μ s μ' s') : Grow fz μ s μ' s' :=
  ⟨fun b o f e => x.keep b o (f.imp id fun m => List.mem_append_right _ m) e, x.os, x.gens⟩
theorem Grow.keepT {prog : Program} {w : World} {fz : List Addr} {μ μ' : MH} {s s' : Shared} (x : Grow fz μ s μ' s') (r : RepH prog w μ s.heap) : KeepsT s.heap s'.heap := fun b o e hi => by
  refine (x.keep b o ?_ e).1
  cases q : μ b with
  | none => exact .inl rfl
  | some m =>
    obtain ⟨y, hy, hn⟩ := (r b m q).obj
    rw [e] at hy; cases hy; exact absurd hi hn
noncomputable def FzIn (fz : List Addr) (μ : MH) : Prop := ∀ b ∈ fz, μ b ≠ none
theorem FzIn.grow {prog : Program} {w : World} {fz : List Addr} {μ μ' : MH} {s s' : Shared} (f : FzIn fz μ) (r : RepH prog w μ s.heap) (x : Grow fz μ s μ' s') : FzIn fz μ' := fun b hb => by
  cases q : μ b with
  | none => exact absurd q (f b hb)
  | some m =>
    obtain ⟨y, hy, _⟩ := (r b m q).obj
    rw [(x.keep b y (.inr hb) hy).2, q]; intro z; cases z
theorem Grow.ext {fz : List Addr} {μ : MH} {s : Shared} {h' : Heap} {tk : Nat} (k : ∀ b o, s.heap.get? b = some o → h'.get? b = some o) : Grow fz μ s μ { s with heap := h', toks := tk } :=
  ⟨fun b o _ e => ⟨k b o e, rfl⟩, rfl, rfl⟩
theorem Grow.alloc {fz : List Addr} {μ : MH} {s : Shared} {h' : Heap} {tk : Nat} {c : Addr} {o : MO} (k : ∀ b o, s.heap.get? b = some o → h'.get? b = some o) (hc : s.heap.get? c = none) :
    Grow fz μ s (upd μ c o) { s with heap := h', toks := tk } :=
  ⟨fun b x _ e => ⟨k b x e, by unfold upd; rw [if_neg (fun q => by rw [q, hc] at e; cases e)]⟩, rfl, rfl⟩
theorem Grow.update {fz : List Addr} {μ : MH} {s : Shared} {h' : Heap} {tk : Nat} {c : Addr} {o o' : MO} (e : μ c = some o) (hf : c ∉ fz) (k : ∀ b o, b ≠ c → s.heap.get? b = some o → h'.get? b = some o) :
    Grow fz μ s (upd μ c o') { s with heap := h', toks := tk } :=
  ⟨fun b x f hb => by
    have ne : b ≠ c := fun q => by
      subst q
      rcases f with f | f
      · rw [e] at f; cases f
      · exact hf f
    exact ⟨k b x ne hb, by unfold upd; rw [if_neg ne]⟩, rfl, rfl⟩
end Mine
end
section
set_option genSizeOfSpec false
set_option genInjectivity false
namespace Mine
open PySem PySem.Calls
structure Sc where
  tab : List (Nat × Str)
  names : List (Str × NameKind)
  funs : List String
noncomputable def kindVar (k : Option NameKind) : Bool := decide (k = some .local) || decide (k = some .cell) || decide (k = some .free)
noncomputable def kindSt (k : Option NameKind) : Bool := decide (k = some .local) || decide (k = some .cell)
noncomputable def isGlobK (k : Option NameKind) : Bool := decide (k = some .globalImplicit)
noncomputable def notDebug (x : Str) : Bool := !(x == Str.ofString "__debug__") && !(x == Str.ofString "__classdict__")
noncomputable def Sc.isVar (S : Sc) (i : Nat) (x : Str) : Bool := S.tab.lookup i == some x && kindVar (S.names.lookup x) && notDebug x
noncomputable def Sc.isSt (S : Sc) (i : Nat) (x : Str) : Bool := S.tab.lookup i == some x && kindSt (S.names.lookup x)
noncomputable def Sc.isGlob (S : Sc) (g : String) (x : Str) : Bool := x == Str.ofString g && isGlobK (S.names.lookup x) && notDebug x
set_option genCtorIdx true in
inductive Tg where | other | name | cint | cstr | cbool | cnone | bin | neg | not | and | or | cmp | ife | sub | slc | list | tup | dict0 | callN | callA | lc | dict3
  deriving DecidableEq
structure Nd where
  t : Tg
  a : PySem.Expr
  b : PySem.Expr
  c : PySem.Expr
  l : List PySem.Expr
  os : List CmpOp
  op : Operator
  s : Str
  k : Nat
  i : Int
  bl : Bool
  kw : List Keyword
  sc : Scope
  o1 : Option PySem.Expr
  o2 : Option PySem.Expr
  o3 : Option PySem.Expr
  p : Pos
  p2 : Pos
noncomputable def nd0 (x : PySem.Expr) : Nd := ⟨.other, x, x, x, [], [], .Add, ⟨#[]⟩, 0, 0, false, [], default, none, none, none, default, default⟩
noncomputable def node (x : PySem.Expr) : Nd := match x with
  | .Name s p => { nd0 x with t := .name, s := s, p := p }
  | .Constant (.int i) k p => { nd0 x with t := .cint, i := i, k := k, p := p }
  | .Constant (.str s) k p => { nd0 x with t := .cstr, s := s, k := k, p := p }
  | .Constant (.bool b) k p => { nd0 x with t := .cbool, bl := b, k := k, p := p }
  | .Constant .none k p => { nd0 x with t := .cnone, k := k, p := p }
  | .BinOp l o r p => { nd0 x with t := .bin, a := l, op := o, b := r, p := p }
  | .UnaryOp .USub y p => { nd0 x with t := .neg, a := y, p := p }
  | .UnaryOp .Not y p => { nd0 x with t := .not, a := y, p := p }
  | .BoolOp .And l p => { nd0 x with t := .and, l := l, p := p }
  | .BoolOp .Or l p => { nd0 x with t := .or, l := l, p := p }
  | .Compare l os cs p => { nd0 x with t := .cmp, a := l, os := os, l := cs, p := p }
  | .IfExp t y z p => { nd0 x with t := .ife, a := t, b := y, c := z, p := p }
  | .Subscript v (.Slice l u s sp) p => { nd0 x with t := .slc, a := v, o1 := l, o2 := u, o3 := s, p2 := sp, p := p }
  | .Subscript v s p => { nd0 x with t := .sub, a := v, b := s, p := p }
  | .List es p => { nd0 x with t := .list, l := es, p := p }
  | .Tuple es k p => { nd0 x with t := .tup, l := es, k := k, p := p }
  | .Dict [] [] p => { nd0 x with t := .dict0, p := p }
  | .Dict [some k, some k', some k''] vs p => { nd0 x with t := .dict3, a := k, b := k', c := k'', l := vs, p := p }
  | .Call (.Name g np) as kw p => { nd0 x with t := .callN, s := g, p2 := np, l := as, kw := kw, p := p }
  | .Call (.Attribute v nm ap) as kw p => { nd0 x with t := .callA, a := v, s := nm, p2 := ap, l := as, kw := kw, p := p }
  | .ListComp el [⟨tg, iter, ifs, 0⟩] sc p => { nd0 x with t := .lc, a := el, b := tg, c := iter, l := ifs, sc := sc, p := p }
  | _ => nd0 x
noncomputable def buildT (n : Nd) : Tg → PySem.Expr
  | .other => n.a
  | .name => .Name n.s n.p
  | .cint => .Constant (.int n.i) n.k n.p
  | .cstr => .Constant (.str n.s) n.k n.p
  | .cbool => .Constant (.bool n.bl) n.k n.p
  | .cnone => .Constant .none n.k n.p
  | .bin => .BinOp n.a n.op n.b n.p
  | .neg => .UnaryOp .USub n.a n.p
  | .not => .UnaryOp .Not n.a n.p
  | .and => .BoolOp .And n.l n.p
  | .or => .BoolOp .Or n.l n.p
  | .cmp => .Compare n.a n.os n.l n.p
  | .ife => .IfExp n.a n.b n.c n.p
  | .sub => .Subscript n.a n.b n.p
  | .slc => .Subscript n.a (.Slice n.o1 n.o2 n.o3 n.p2) n.p
  | .list => .List n.l n.p
  | .tup => .Tuple n.l n.k n.p
  | .dict0 => .Dict [] [] n.p
  | .dict3 => .Dict [some n.a, some n.b, some n.c] n.l n.p
  | .callN => .Call (.Name n.s n.p2) n.l n.kw n.p
  | .callA => .Call (.Attribute n.a n.s n.p2) n.l n.kw n.p
  | .lc => .ListComp n.a [⟨n.b, n.c, n.l, 0⟩] n.sc n.p
theorem build_node (x : PySem.Expr) : buildT (node x) (node x).t = x := by
  cases x <;> try rfl
  case Constant c k p => cases c <;> rfl
  case UnaryOp o y p => cases o <;> rfl
  case BoolOp o l p => cases o <;> rfl
  case Subscript v s p => cases s <;> rfl
  case Dict ks vs p =>
    rcases ks with _ | ⟨_ | k1, _ | ⟨_ | k2, _ | ⟨_ | k3, _ | ⟨k4, ks⟩⟩⟩⟩ <;> first | rfl | (cases vs <;> rfl)
  case Call f as kw p => cases f <;> rfl
  case ListComp el gs sc p =>
    cases gs with
    | nil => rfl
    | cons g gs =>
      obtain ⟨tg, it, ifs, n⟩ := g
      cases n with
      | ofNat m => cases m <;> cases gs <;> rfl
      | negSucc m => cases gs <;> rfl
theorem inv {x : PySem.Expr} {t : Tg} (h : decide ((node x).t = t) = true) : x = buildT (node x) t := by
  have := build_node x
  rw [of_decide_eq_true h] at this
  exact this.symm
noncomputable def opOf : BOp → Operator
  | .add => .Add | .sub => .Sub | .mul => .Mult | .fdiv => .FloorDiv | .mod => .Mod | .pow => .Pow
noncomputable def copOf : COp → CmpOp
  | .eq => .Eq | .ne => .NotEq | .lt => .Lt | .le => .LtE | .gt => .Gt | .ge => .GtE | .isin => .In | .notin => .NotIn | .is => .Is | .isnot => .IsNot
noncomputable def opIs (op : BOp) (o : Operator) : Bool := decide (o = opOf op)
noncomputable def copIs (op : COp) (o : CmpOp) : Bool := decide (o = copOf op)
noncomputable def copsIs : List COp → List CmpOp → Bool
  | [], [] => true
  | a :: r, b :: s => copIs a b && copsIs r s
  | _, _ => false
noncomputable def biName : BI → String
  | .len => "len" | .min2 => "min" | .max2 => "max" | .maxD => "max" | .max1 => "max" | .sorted => "sorted" | .sortedR => "sorted" | .sortedSet => "sorted"
  | .list => "list" | .dict => "dict" | .int => "int" | .str => "str" | .all => "all"
noncomputable def tyName : TY → String
  | .int => "int" | .bool => "bool" | .str => "str" | .tuple => "tuple" | .list => "list" | .dict => "dict"
noncomputable def mmName : MM → String
  | .append => "append" | .extend => "extend" | .keys => "keys" | .values => "values" | .get2 => "get" | .pop2 => "pop" | .clear => "clear" | .update => "update"
  | .count => "count" | .index => "index" | .join => "join" | .split => "split"
noncomputable def isNm (x : PySem.Expr) : Bool := decide ((node x).t = .name)
noncomputable def isTgt (S : Sc) (t : MT) (x : PySem.Expr) : Bool := match t with
  | .one i => isNm x && S.isSt i (node x).s
  | .tup _ => false
noncomputable def tgtNames (x : PySem.Expr) : List Str := if isNm x then [(node x).s] else []
noncomputable def MT.vars : MT → List Nat
  | .one i => [i]
  | .tup l => l
noncomputable def isFree (k : NameKind) : Bool := decide (k = .free)
noncomputable def isCell (k : Option NameKind) : Bool := decide (k = some .cell)
noncomputable def isFreeO (k : Option NameKind) : Bool := decide (k = some .free)
noncomputable def relab (S : Sc) (names : List (Str × NameKind)) : List (Str × NameKind) := names.map fun p => if isFree p.2 && isCell (S.names.lookup p.1) then (p.1, .cell) else p
noncomputable def Sc.inner (S : Sc) (t : MT) (tg : PySem.Expr) (names : List (Str × NameKind)) : Sc :=
  ⟨t.vars.zip (tgtNames tg) ++ S.tab.filter (fun p => isFreeO (names.lookup p.2) && !t.vars.contains p.1), relab S names, S.funs⟩
noncomputable def innerOk (S : Sc) (sc : Scope) : Bool :=
  decide (sc.kind = .function) && decide ((sc.names.map (·.1)).Nodup) && sc.names.all (fun p => decide (p.2 = .local) || decide (p.2 = .globalImplicit) || (decide (p.2 = .free) && (decide (S.names.lookup p.1 = some .cell) || decide (S.names.lookup p.1 = some .free))))
noncomputable def ME.isNone : ME → Bool
  | .cnone => true
  | _ => false
noncomputable def callsG (S : Sc) (g : String) (x : PySem.Expr) : Bool := decide ((node x).t = .callN) && S.isGlob g (node x).s && (node x).kw.isEmpty
noncomputable def srcArgs (S : Sc) (k : SK) (e : PySem.Expr) : Option (List PySem.Expr) := match k with
  | .plain => some [e]
  | .range => if callsG S "range" e then some (node e).l else none
  | .rev => none
  | .zip => none
noncomputable def notCall0 (x : PySem.Expr) : Bool := !(decide ((node x).t = .callN) && (node x).l.isEmpty && (node x).kw.isEmpty)
noncomputable def isOne : MT → Bool
  | .one _ => true
  | _ => false
noncomputable def optOk (o : Option PySem.Expr) (n : Bool) (f : PySem.Expr → Bool) : Bool := match o with
  | none => n
  | some x => f x
noncomputable def kw1 (l : List Keyword) (name : String) : Option PySem.Expr := match l with
  | [k] => if k.arg = some (Str.ofString name) then some k.value else none
  | _ => none
noncomputable def cintOf : ME → Option Int
  | .cint i => some i
  | _ => none
noncomputable def isLocal (k : Option NameKind) : Bool := decide (k = some .local)
noncomputable def isCs (s : String) (x : PySem.Expr) : Bool := decide ((node x).t = .cstr) && decide ((node x).s = Str.ofString s)
noncomputable def isCi (i : Int) (x : PySem.Expr) : Bool := decide ((node x).t = .cint) && decide (i = (node x).i)
noncomputable def isCi3 (i j k : Int) (l : List PySem.Expr) : Bool := match l with
  | [u, v, w] => isCi i u && (isCi j v && isCi k w)
  | _ => false
mutual
noncomputable def isE (S : Sc) : ME → PySem.Expr → Bool
  | .var i, x => decide ((node x).t = .name) && S.isVar i (node x).s
  | .glob g, x => decide ((node x).t = .name) && S.isGlob g (node x).s
  | .cint i, x => decide ((node x).t = .cint) && decide (i = (node x).i)
  | .cstr s, x => decide ((node x).t = .cstr) && decide ((node x).s = Str.ofString s)
  | .cbool b, x => decide ((node x).t = .cbool) && decide (b = (node x).bl)
  | .cnone, x => decide ((node x).t = .cnone)
  | .bin op a b, x => decide ((node x).t = .bin) && (opIs op (node x).op && isE S a (node x).a && isE S b (node x).b)
  | .neg a, x => decide ((node x).t = .neg) && isE S a (node x).a
  | .not a, x => decide ((node x).t = .not) && isE S a (node x).a
  | .and l, x => decide ((node x).t = .and) && isEs S l (node x).l
  | .or l, x => decide ((node x).t = .or) && isEs S l (node x).l
  | .cmp a ops es, x => decide ((node x).t = .cmp) && (isE S a (node x).a && copsIs ops (node x).os && isEs S es (node x).l)
  | .ite c a b, x => decide ((node x).t = .ife) && (isE S c (node x).a && isE S a (node x).b && isE S b (node x).c)
  | .idx a i, x => decide ((node x).t = .sub) && (isE S a (node x).a && isE S i (node x).b)
  | .slice a lo hi st, x => decide ((node x).t = .slc) && (isE S a (node x).a && optOk (node x).o1 lo.isNone (isE S lo) && optOk (node x).o2 hi.isNone (isE S hi) && optOk (node x).o3 st.isNone (isE S st))
  | .list l, x => decide ((node x).t = .list) && isEs S l (node x).l
  | .tuple l, x => decide ((node x).t = .tup) && isEs S l (node x).l
  | .dict0 _, x => decide ((node x).t = .dict0)
  | .dict _ _, _ => false
  | .dict3 a b c i j k, x => decide ((node x).t = .dict3) && (isCs a (node x).a && (isCs b (node x).b && (isCs c (node x).c && isCi3 i j k (node x).l)))
  | .call f args, x => callsG S f x && (S.funs.contains f && isEs S args (node x).l && decide (args.length ≤ 25))
  | .bi f args, x => (match f with
    | .sortedR => false
    | .maxD => false
    | .sortedSet => false
    | f => callsG S (biName f) x && (isEs S args (node x).l && decide (args.length ≤ 25)))
  | .isinst a t, x => callsG S "isinstance" x && (match (node x).l with | [y, z] => decide ((node z).t = .name) && S.isGlob (tyName t) (node z).s && isE S a y | _ => false)
  | .meth m o args, x => decide ((node x).t = .callA) && ((node x).kw.isEmpty && decide ((node x).s = Str.ofString (mmName m)) && decide ((node x).p2.endLine = (node x).p.line) && notCall0 (node x).a && isE S o (node x).a && isEs S args (node x).l && decide (args.length ≤ 25))
  | .comp elt t k its ifs, x => decide ((node x).t = .lc) && ((match srcArgs S k (node x).c with | some as => isEs S its as | none => false) && isOne t && innerOk S (node x).sc && decide (t.vars.Nodup) && decide ((tgtNames (node x).b).Nodup) && isTgt (S.inner t (node x).b (node x).sc.names) t (node x).b && (tgtNames (node x).b).all (fun y => isLocal ((node x).sc.names.lookup y)) &&
        isEs (S.inner t (node x).b (node x).sc.names) ifs (node x).l && isE (S.inner t (node x).b (node x).sc.names) elt (node x).a)
noncomputable def isEs (S : Sc) : List ME → List PySem.Expr → Bool
  | [], es => es.isEmpty
  | a :: r, es => (match es with | [] => false | e :: es => isE S a e && isEs S r es)
end
set_option genCtorIdx true in
inductive Tt where | other | asn | asx | expr | ret | ret0 | ite | for | while | pass
  | tri
  deriving DecidableEq
structure Ns where
  t : Tt
  a : PySem.Expr
  b : PySem.Expr
  c : PySem.Expr
  s : Str
  x : List PySem.Stmt
  y : List PySem.Stmt
  p : Pos
  p2 : Pos
  hs : List ExceptHandler
noncomputable def ns0 : Ns := ⟨.other, .Starred (.Name ⟨#[]⟩ default) default, .Starred (.Name ⟨#[]⟩ default) default, .Starred (.Name ⟨#[]⟩ default) default, ⟨#[]⟩, [], [], default, default, []⟩
noncomputable def nodeS (x : PySem.Stmt) : Ns := match x with
  | .Assign [.Name s np] v p => { ns0 with t := .asn, s := s, p2 := np, a := v, p := p }
  | .Assign [.Subscript o i sp] v p => { ns0 with t := .asx, b := o, c := i, p2 := sp, a := v, p := p }
  | .Expr v p => { ns0 with t := .expr, a := v, p := p }
  | .Return (some v) p => { ns0 with t := .ret, a := v, p := p }
  | .Return none p => { ns0 with t := .ret0, p := p }
  | .If c x y p => { ns0 with t := .ite, a := c, x := x, y := y, p := p }
  | .For tg it b [] p => { ns0 with t := .for, a := tg, b := it, x := b, p := p }
  | .While c b [] p => { ns0 with t := .while, a := c, x := b, p := p }
  | .Pass p => { ns0 with t := .pass, p := p }
  | .Try b hs [] [] p => { ns0 with t := .tri, x := b, hs := hs, p := p }
  | _ => ns0
noncomputable def buildS (n : Ns) (x : PySem.Stmt) : Tt → PySem.Stmt
  | .other => x
  | .asn => .Assign [.Name n.s n.p2] n.a n.p
  | .asx => .Assign [.Subscript n.b n.c n.p2] n.a n.p
  | .expr => .Expr n.a n.p
  | .ret => .Return (some n.a) n.p
  | .ret0 => .Return none n.p
  | .ite => .If n.a n.x n.y n.p
  | .for => .For n.a n.b n.x [] n.p
  | .while => .While n.a n.x [] n.p
  | .pass => .Pass n.p
  | .tri => .Try n.x n.hs [] [] n.p
theorem build_nodeS (x : PySem.Stmt) : buildS (nodeS x) x (nodeS x).t = x := by
  cases x <;> try rfl
  case Return v p => cases v <;> rfl
  case For tg it b e p => cases e <;> rfl
  case While c b e p => cases e <;> rfl
  case Try b hs o f p => cases o <;> cases f <;> rfl
  case Assign ts v p =>
    cases ts with
    | nil => rfl
    | cons t ts => cases t <;> cases ts <;> rfl
theorem A5 {x : PySem.Stmt} {t : Tt} (h : decide ((nodeS x).t = t) = true) : x = buildS (nodeS x) x t := by
  have := build_nodeS x
  rw [of_decide_eq_true h] at this
  exact this.symm
noncomputable def notComp (x : PySem.Expr) : Bool := !decide ((node x).t = .lc) && !decide ((node x).t = .other)
mutual
noncomputable def isS (S : Sc) : MS → PySem.Stmt → Bool
  | .assign i a, x => decide ((nodeS x).t = .asn) && (S.isSt i (nodeS x).s && isE S a (nodeS x).a)
  | .unpack _ _, _ => false
  | .setidx o i a, x => decide ((nodeS x).t = .asx) && (isE S o (nodeS x).b && isE S i (nodeS x).c && isE S a (nodeS x).a)
  | .expr a, x => decide ((nodeS x).t = .expr) && (notComp (nodeS x).a && isE S a (nodeS x).a)
  | .ret a, x => decide ((nodeS x).t = .ret) && isE S a (nodeS x).a
  | .ret0, x => decide ((nodeS x).t = .ret0)
  | .ite c a b, x => decide ((nodeS x).t = .ite) && (isE S c (nodeS x).a && isSs S a (nodeS x).x && isSs S b (nodeS x).y)
  | .for t k its body, x => decide ((nodeS x).t = .for) && ((match srcArgs S k (nodeS x).b with | some as => isEs S its as | none => false) && isTgt S t (nodeS x).a && isSs S body (nodeS x).x)
  | .while _ _, _ => false
  | .pass, x => decide ((nodeS x).t = .pass)
  | .opq chk, x => chk S.tab S.names x
  | .raise0, _ => true
  | .tri _, _ => false
noncomputable def isSs (S : Sc) : List MS → List PySem.Stmt → Bool
  | [], ss => ss.isEmpty
  | a :: r, ss => (match ss with | [] => false | s :: ss => isS S a s && isSs S r ss)
end
noncomputable def isFun (fd : MFun) (tab : List (Nat × Str)) (funs : List String) (params : Arguments) (body : List PySem.Stmt) (sc : Scope) : Bool :=
  params.posonlyargs.isEmpty && params.vararg.isNone && params.kwonlyargs.isEmpty && params.kwarg.isNone && params.defaults.isEmpty && params.kw_defaults.isEmpty &&
  decide (params.args.length = fd.n) && (params.args.map (·.arg)).zipIdx.all (fun p => tab.lookup p.2 == some p.1 && kindSt (sc.names.lookup p.1)) &&
  decide (sc.kind = .function) && !sc.isGenerator && !sc.isCoroutine &&
  decide ((tab.map (·.2)).Nodup) && decide ((tab.map (·.1)).Nodup) && decide ((sc.names.map (·.1)).Nodup) && decide ((params.args.map (·.arg)).Nodup) && sc.names.all (fun p => !isFree p.2) && isSs ⟨tab, sc.names, funs⟩ fd.body body
section
variable {S : Sc} {x : PySem.Expr}
theorem and2 {a b : Bool} (h : (a && b) = true) : a = true ∧ b = true := by simpa using h
theorem Bf {i : Nat} (h : isE S (.var i) x = true) : ∃ y p, x = .Name y p ∧ S.isVar i y = true := ⟨_, _, inv (and2 h).1, (and2 h).2⟩
theorem inv_glob {g : String} (h : isE S (.glob g) x = true) : ∃ y p, x = .Name y p ∧ S.isGlob g y = true := ⟨_, _, inv (and2 h).1, (and2 h).2⟩
theorem inv_cint {i : Int} (h : isE S (.cint i) x = true) : ∃ k p, x = .Constant (.int i) k p := ⟨(node x).k, (node x).p, by rw [of_decide_eq_true (and2 h).2]; exact inv (and2 h).1⟩
theorem inv_cstr {t : String} (h : isE S (.cstr t) x = true) : ∃ k p, x = .Constant (.str (Str.ofString t)) k p := ⟨(node x).k, (node x).p, by rw [← of_decide_eq_true (and2 h).2]; exact inv (and2 h).1⟩
theorem Gb {b : Bool} (h : isE S (.cbool b) x = true) : ∃ k p, x = .Constant (.bool b) k p := ⟨(node x).k, (node x).p, by rw [of_decide_eq_true (and2 h).2]; exact inv (and2 h).1⟩
theorem inv_cnone (h : isE S .cnone x = true) : ∃ k p, x = .Constant .none k p := ⟨_, _, inv h⟩
theorem inv_bin {op : BOp} {a b : ME} (h : isE S (.bin op a b) x = true) : ∃ l o r p, x = .BinOp l o r p ∧ (opIs op o && isE S a l && isE S b r) = true := ⟨_, _, _, _, inv (and2 h).1, (and2 h).2⟩
theorem inv_neg {a : ME} (h : isE S (.neg a) x = true) : ∃ y p, x = .UnaryOp .USub y p ∧ isE S a y = true := ⟨_, _, inv (and2 h).1, (and2 h).2⟩
theorem inv_not {a : ME} (h : isE S (.not a) x = true) : ∃ y p, x = .UnaryOp .Not y p ∧ isE S a y = true := ⟨_, _, inv (and2 h).1, (and2 h).2⟩
theorem Hq {l : List ME} (h : isE S (.and l) x = true) : ∃ xs p, x = .BoolOp .And xs p ∧ isEs S l xs = true := ⟨_, _, inv (and2 h).1, (and2 h).2⟩
theorem inv_or {l : List ME} (h : isE S (.or l) x = true) : ∃ xs p, x = .BoolOp .Or xs p ∧ isEs S l xs = true := ⟨_, _, inv (and2 h).1, (and2 h).2⟩
theorem Hp {a : ME} {ops : List COp} {es : List ME} (h : isE S (.cmp a ops es) x = true) : ∃ l os cs p, x = .Compare l os cs p ∧ (isE S a l && copsIs ops os && isEs S es cs) = true := ⟨_, _, _, _, inv (and2 h).1, (and2 h).2⟩
theorem inv_ite {c a b : ME} (h : isE S (.ite c a b) x = true) : ∃ t y z p, x = .IfExp t y z p ∧ (isE S c t && isE S a y && isE S b z) = true := ⟨_, _, _, _, inv (and2 h).1, (and2 h).2⟩
theorem inv_idx {a i : ME} (h : isE S (.idx a i) x = true) : ∃ v y p, x = .Subscript v y p ∧ (isE S a v && isE S i y) = true := ⟨_, _, _, inv (and2 h).1, (and2 h).2⟩
inductive SlParts (S : Sc) (a lo hi st : ME) (x : PySem.Expr) : Prop
  | mk (v : _) (l : _) (u : _) (t : _) (sp : _) (p : _) (e0 : x = .Subscript v (.Slice l u t sp) p) (e1 : (isE S a v && optOk l lo.isNone (isE S lo) && optOk u hi.isNone (isE S hi) && optOk t st.isNone (isE S st)) = true)
theorem inv_slice {a lo hi st : ME} (h : isE S (.slice a lo hi st) x = true) : SlParts S a lo hi st x := ⟨_, _, _, _, _, _, inv (and2 h).1, (and2 h).2⟩
theorem inv_list {l : List ME} (h : isE S (.list l) x = true) : ∃ xs p, x = .List xs p ∧ isEs S l xs = true := ⟨_, _, inv (and2 h).1, (and2 h).2⟩
theorem Ga {l : List ME} (h : isE S (.tuple l) x = true) : ∃ xs k p, x = .Tuple xs k p ∧ isEs S l xs = true := ⟨_, _, _, inv (and2 h).1, (and2 h).2⟩
theorem inv_dict0 {b : Bool} (h : isE S (.dict0 b) x = true) : ∃ p, x = .Dict [] [] p := ⟨_, inv h⟩
inductive D3Parts (a b c : String) (i j k : Int) (x : PySem.Expr) : Prop
  | mk (k1 : _) (p1 : _) (k2 : _) (p2 : _) (k3 : _) (p3 : _) (k4 : _) (p4 : _) (k5 : _) (p5 : _) (k6 : _) (p6 : _) (p : _) (e0 : x = .Dict [some (.Constant (.str (Str.ofString a)) k1 p1), some (.Constant (.str (Str.ofString b)) k2 p2), some (.Constant (.str (Str.ofString c)) k3 p3)] [.Constant (.int i) k4 p4, .Constant (.int j) k5 p5, .Constant (.int k) k6 p6] p)
theorem inv_cs {s : String} (h : isCs s x = true) : ∃ k p, x = .Constant (.str (Str.ofString s)) k p := ⟨(node x).k, (node x).p, by rw [← of_decide_eq_true (and2 h).2]; exact inv (and2 h).1⟩
theorem inv_ci {i : Int} (h : isCi i x = true) : ∃ k p, x = .Constant (.int i) k p := ⟨(node x).k, (node x).p, by rw [of_decide_eq_true (and2 h).2]; exact inv (and2 h).1⟩
theorem inv_ci3 {i j k : Int} {l : List PySem.Expr} (h : isCi3 i j k l = true) : ∃ u v w, l = [u, v, w] ∧ (isCi i u && (isCi j v && isCi k w)) = true := by
  cases l with
  | nil => exact (Bool.false_ne_true h).elim
  | cons u l => cases l with
    | nil => exact (Bool.false_ne_true h).elim
    | cons v l => cases l with
      | nil => exact (Bool.false_ne_true h).elim
      | cons w l => cases l with
        | nil => exact ⟨u, v, w, rfl, h⟩
        | cons _ _ => exact (Bool.false_ne_true h).elim
theorem inv_dict3 {a b c : String} {i j k : Int} (h : isE S (.dict3 a b c i j k) x = true) : D3Parts a b c i j k x := by
  obtain ⟨h0, h⟩ := and2 h
  obtain ⟨h1, h⟩ := and2 h
  obtain ⟨h2, h⟩ := and2 h
  obtain ⟨h3, h⟩ := and2 h
  obtain ⟨u, v, w, el, h⟩ := inv_ci3 h
  obtain ⟨h4, h⟩ := and2 h
  obtain ⟨h5, h6⟩ := and2 h
  have e : x = .Dict [some (node x).a, some (node x).b, some (node x).c] (node x).l (node x).p := inv h0
  obtain ⟨k1, p1, e1⟩ := inv_cs h1
  obtain ⟨k2, p2, e2⟩ := inv_cs h2
  obtain ⟨k3, p3, e3⟩ := inv_cs h3
  obtain ⟨k4, p4, e4⟩ := inv_ci h4
  obtain ⟨k5, p5, e5⟩ := inv_ci h5
  obtain ⟨k6, p6, e6⟩ := inv_ci h6
  rw [el, e1, e2, e3, e4, e5, e6] at e
  exact ⟨_, _, _, _, _, _, _, _, _, _, _, _, _, e⟩
theorem U7 {g : String} (h : callsG S g x = true) : ∃ y np p, x = .Call (.Name y np) (node x).l [] p ∧ S.isGlob g y = true := by
  obtain ⟨h1, h3⟩ := and2 h
  obtain ⟨h1, h2⟩ := and2 h1
  refine ⟨_, (node x).p2, (node x).p, (inv h1).trans ?_, h2⟩
  show Expr.Call _ _ (node x).kw _ = _
  rw [List.isEmpty_iff.mp h3]
theorem ifcall {nm : String} {as : List PySem.Expr} (h : (if callsG S nm x then some (node x).l else none) = some as) : ∃ g np p, x = .Call (.Name g np) as [] p ∧ S.isGlob nm g = true := by
  by_cases q : callsG S nm x = true
  · rw [if_pos q] at h; cases h; exact U7 q
  · rw [if_neg q] at h; cases h
theorem Co {f : String} {args : List ME} (h : isE S (.call f args) x = true) : ∃ y np xs p, x = .Call (.Name y np) xs [] p ∧ S.isGlob f y = true ∧ (S.funs.contains f && isEs S args xs && decide (args.length ≤ 25)) = true := by
  obtain ⟨y, np, p, e, hg⟩ := U7 (and2 h).1
  exact ⟨y, np, _, p, e, hg, (and2 h).2⟩
inductive IiParts (S : Sc) (a : ME) (t : TY) (x : PySem.Expr) : Prop
  | mk (g : _) (np : _) (y : _) (ty : _) (tp : _) (p : _) (e0 : x = .Call (.Name g np) [y, .Name ty tp] [] p) (e1 : S.isGlob "isinstance" g = true) (e2 : S.isGlob (tyName t) ty = true) (e3 : isE S a y = true)
theorem inv_isinst {a : ME} {t : TY} (h : isE S (.isinst a t) x = true) : IiParts S a t x := by
  obtain ⟨g, np, p, e, hg⟩ := U7 (and2 h).1
  have h2 := (and2 h).2
  generalize (node x).l = l at e h2
  match l, e, h2 with
  | [y, z], e, h2 =>
    obtain ⟨h3, h4⟩ := and2 h2
    obtain ⟨h3, h5⟩ := and2 h3
    have ez := inv h3
    refine ⟨g, np, y, _, (node z).p, p, e.trans ?_, hg, h5, h4⟩
    exact congrArg (fun q => Expr.Call (.Name g np) [y, q] [] p) ez
  | [], _, h2 => cases h2
  | [_], _, h2 => cases h2
  | _ :: _ :: _ :: _, _, h2 => cases h2
inductive MtParts (S : Sc) (m : MM) (o : ME) (args : List ME) (x : PySem.Expr) : Prop
  | mk (ov : _) (ap : _) (xs : _) (p : _) (e0 : x = .Call (.Attribute ov (Str.ofString (mmName m)) ap) xs [] p) (e1 : ap.endLine = p.line) (e2 : notCall0 ov = true) (e3 : isE S o ov = true) (e4 : isEs S args xs = true) (e5 : args.length ≤ 25)
theorem inv_meth {m : MM} {o : ME} {args : List ME} (h : isE S (.meth m o args) x = true) : MtParts S m o args x := by
  obtain ⟨h0, h⟩ := and2 h
  obtain ⟨h, h6⟩ := and2 h
  obtain ⟨h, h5⟩ := and2 h
  obtain ⟨h, h4⟩ := and2 h
  obtain ⟨h, h3⟩ := and2 h
  obtain ⟨h, h2⟩ := and2 h
  obtain ⟨h, h1⟩ := and2 h
  refine ⟨_, (node x).p2, _, (node x).p, (inv h0).trans ?_, of_decide_eq_true h2, h3, h4, h5, of_decide_eq_true h6⟩
  show Expr.Call (.Attribute (node x).a (node x).s (node x).p2) (node x).l (node x).kw (node x).p = _
  rw [List.isEmpty_iff.mp h, of_decide_eq_true h1]
noncomputable def plainBI : BI → Bool
  | .maxD | .sortedR | .sortedSet => false
  | _ => true
theorem inv_bi {f : BI} {l : List ME} (hp : plainBI f = true) (h : isE S (.bi f l) x = true) : ∃ g np as p, x = .Call (.Name g np) as [] p ∧ S.isGlob (biName f) g = true ∧ isEs S l as = true := by
  have h' : (callsG S (biName f) x && (isEs S l (node x).l && decide (l.length ≤ 25))) = true := by
    cases f <;> first | exact h | cases hp
  obtain ⟨y, np, p, e, hg⟩ := U7 (and2 h').1
  exact ⟨y, np, _, p, e, hg, (and2 (and2 h').2).1⟩
inductive CpParts (S : Sc) (elt : ME) (t : MT) (k : SK) (its ifs : List ME) (x : PySem.Expr) : Prop
  | mk (el : _) (tg : _) (iter : _) (ifs' : _) (sc : _) (p : _) (e0 : x = .ListComp el [⟨tg, iter, ifs', 0⟩] sc p) (e1 : (∃ as, srcArgs S k iter = some as ∧ isEs S its as = true)) (e2 : isOne t = true) (e3 : innerOk S sc = true) (e4 : t.vars.Nodup) (e5 : (tgtNames tg).Nodup) (e6 : isTgt (S.inner t tg sc.names) t tg = true) (e7 : (∀ y ∈ tgtNames tg, sc.names.lookup y = some .local)) (e8 : isEs (S.inner t tg sc.names) ifs ifs' = true) (e9 : isE (S.inner t tg sc.names) elt el = true)
theorem inv_comp {elt : ME} {t : MT} {k : SK} {its ifs : List ME} (h : isE S (.comp elt t k its ifs) x = true) : CpParts S elt t k its ifs x := by
  obtain ⟨h0, h⟩ := and2 h
  obtain ⟨h, h8⟩ := and2 h
  obtain ⟨h, h7⟩ := and2 h
  obtain ⟨h, h6⟩ := and2 h
  obtain ⟨h, h5⟩ := and2 h
  obtain ⟨h, h4⟩ := and2 h
  obtain ⟨h, h3⟩ := and2 h
  obtain ⟨h, h2⟩ := and2 h
  obtain ⟨h, h1⟩ := and2 h
  refine ⟨_, _, _, _, _, (node x).p, inv h0, ?_, h1, h2, of_decide_eq_true h3, of_decide_eq_true h4, h5, fun y hy => ?_, h7, h8⟩
  · cases q : srcArgs S k (node x).c with
    | none => rw [q] at h; cases h
    | some as => rw [q] at h; exact ⟨as, rfl, h⟩
  · exact of_decide_eq_true (List.all_eq_true.mp h6 y hy)
theorem Y9 {e : ME} {l : List ME} {x : PySem.Expr} {xs : List PySem.Expr} (h : isEs S (e :: l) (x :: xs) = true) : isE S e x = true ∧ isEs S l xs = true := and2 h
end
section
variable {S : Sc} {x : PySem.Stmt}
theorem Av {i : Nat} {a : ME} (h : isS S (.assign i a) x = true) : ∃ y py v p, x = .Assign [.Name y py] v p ∧ S.isSt i y = true ∧ isE S a v = true := ⟨_, _, _, _, A5 (and2 h).1, and2 (and2 h).2⟩
theorem Au {o i a : ME} (h : isS S (.setidx o i a) x = true) : ∃ ov iv sp v p, x = .Assign [.Subscript ov iv sp] v p ∧ (isE S o ov && isE S i iv && isE S a v) = true := ⟨_, _, _, _, _, A5 (and2 h).1, (and2 h).2⟩
theorem A4 {a : ME} (h : isS S (.expr a) x = true) : ∃ v p, x = .Expr v p ∧ notComp v = true ∧ isE S a v = true := ⟨_, _, A5 (and2 h).1, and2 (and2 h).2⟩
theorem Cp {a : ME} (h : isS S (.ret a) x = true) : ∃ v p, x = .Return (some v) p ∧ isE S a v = true := ⟨_, _, A5 (and2 h).1, (and2 h).2⟩
theorem invS_ret0 (h : isS S .ret0 x = true) : ∃ p, x = .Return none p := ⟨_, A5 h⟩
theorem invS_pass (h : isS S .pass x = true) : ∃ p, x = .Pass p := ⟨_, A5 h⟩
theorem Cq {c : ME} {a b : List MS} (h : isS S (.ite c a b) x = true) : ∃ t y z p, x = .If t y z p ∧ (isE S c t && isSs S a y && isSs S b z) = true := ⟨_, _, _, _, A5 (and2 h).1, (and2 h).2⟩
inductive FrParts (S : Sc) (t : MT) (k : SK) (its : List ME) (body : List MS) (x : PySem.Stmt) : Prop
  | mk (tg : _) (iter : _) (b : _) (p : _) (as : _) (e0 : x = .For tg iter b [] p) (e1 : srcArgs S k iter = some as) (e2 : isEs S its as = true) (e3 : isTgt S t tg = true) (e4 : isSs S body b = true)
theorem invS_for {t : MT} {k : SK} {its : List ME} {body : List MS} (h : isS S (.for t k its body) x = true) : FrParts S t k its body x := by
  obtain ⟨h0, h⟩ := and2 h
  obtain ⟨h, h2⟩ := and2 h
  obtain ⟨h, h1⟩ := and2 h
  cases q : srcArgs S k (nodeS x).b with
  | none => rw [q] at h; cases h
  | some as => rw [q] at h; exact ⟨_, _, _, _, as, A5 h0, q, h, h1, h2⟩
theorem Zk {e : MS} {l : List MS} {x : PySem.Stmt} {xs : List PySem.Stmt} (h : isSs S (e :: l) (x :: xs) = true) : isS S e x = true ∧ isSs S l xs = true := and2 h
end
end Mine
end
section
namespace Mine
open PySem PySem.Calls PyProof.Rows
inductive PostV (prog : Program) (w : World) (fz : List Addr) (μ : MH) (s : Shared) (Q : MQ) (v : Value) (s' : Shared) : Prop
  | mk (mv : MV) (μ' : MH) (q : Q mv μ') (rv : RepV s'.heap mv v) (r : RepH prog w μ' s'.heap) (g : Grow fz μ s μ' s')
structure OkA (d : Nat) (A : Around) : Prop where
  hand : A.handled = none
  depth : A.depth + d < recursionLimit
  units : A.units + 4 * d + 100 < cLine
section
variable {prog : Program} {w : World} {fz : List Addr} {μ : MH} {s : Shared} {Q : MQ} {A : Around} {E : Value → Shared → Prop}
theorem RepH.free {h : Heap} (r : RepH prog w μ h) {c : Addr} (hc : h.get? c = none) : μ c = none := by
  cases q : μ c with
  | none => rfl
  | some o => obtain ⟨x, hx, _⟩ := (r c o q).obj; rw [hc] at hx; cases hx
theorem FzIn.free (f : FzIn fz μ) {c : Addr} (hc : μ c = none) : c ∉ fz := fun m => f c m hc
theorem Za (h : Heap) : h.get? h.objs.size = none := by
  cases q : h.get? h.objs.size with
  | none => rfl
  | some o => exact absurd (Heap.lt_size q) (Nat.lt_irrefl _)
theorem Xp {mv : MV} {v : Value} {s' : Shared} (hq : Q mv μ) (r : RepH prog w μ s.heap) (hv : RepV s.heap mv v) (hh : s'.heap = s.heap) (ho : s'.os = s.os) (hg : s'.gens = s.gens) : PostV prog w fz μ s Q v s' :=
  ⟨mv, μ, hq, hh ▸ hv, hh ▸ r, ⟨fun b o _ e => ⟨hh ▸ e, rfl⟩, ho, hg⟩⟩
theorem Z8 {mv : MV} {v : Value} {h' : Heap} {tk : Nat} (hq : Q mv μ) (r : RepH prog w μ s.heap) (k : ∀ b o, s.heap.get? b = some o → h'.get? b = some o) (hv : RepV h' mv v) : PostV prog w fz μ s Q v { s with heap := h', toks := tk } :=
  ⟨mv, μ, hq, hv, r.ext k, .ext k⟩
theorem Zg {o : MO} {c : Addr} {h' : Heap} {tk : Nat} (ha : allocM fz μ o fun c μ' => Q (.ref c) μ') (r : RepH prog w μ s.heap) (f : FzIn fz μ) (hc : s.heap.get? c = none)
    (k : ∀ b o, s.heap.get? b = some o → h'.get? b = some o) (ho : RepO prog w h' c o) : PostV prog w fz μ s Q (.ref c) { s with heap := h', toks := tk } := by
  have hm := r.free hc
  exact ⟨.ref c, upd μ c o, ha c hm (f.free hm), rfl, r.alloc k ho, .alloc k hc⟩
theorem Zj {o : MO} {ob : Obj} {tk : Nat} (ha : allocM fz μ o fun c μ' => Q (.ref c) μ') (r : RepH prog w μ s.heap) (f : FzIn fz μ)
    (ho : RepO prog w (s.heap.push ob) s.heap.objs.size o) : PostV prog w fz μ s Q (.ref s.heap.objs.size) { s with heap := s.heap.push ob, toks := tk } :=
  Zg ha r f (Za _) (fun b x e => Heap.get?_push_of_some _ e) ho
theorem Zl {l : List MV} {vs : List Value} {h : Heap} (hv : RepVs h l vs) : RepO prog w (h.push { cls := .type "list", data := .seq vs.toArray }) h.objs.size (.list l) :=
  ⟨vs, ⟨0, Heap.get?_push_size _ rfl⟩, hv.keepT (.of_all fun b x e => Heap.get?_push_of_some _ e)⟩
theorem Y0 {n : Nat} (h : fits n) : n ≤ sizeLine := Nat.le_trans h (by decide)
theorem notPylong (x : Int) {y : Int} (h : small y) : Builtin.divisionGoesByPylong x y = false := by
  unfold Builtin.divisionGoesByPylong
  have h1 : y.natAbs < 2 ^ 64 := by have := h.1; have := h.2; lia
  have h2 : y.natAbs.log2 < 64 := by
    by_cases q : y.natAbs = 0
    · rw [q]; decide
    · exact (Nat.log2_lt q).mpr h1
  have h3 : (if (y == 0) = true then 0 else y.natAbs.log2 / 30 + 1) ≤ 300 := by split <;> (first | exact Nat.zero_le _ | lia)
  simp only [gt_iff_lt, Bool.and_eq_false_iff, decide_eq_false_iff_not, Nat.not_lt]
  exact .inl h3
theorem Jy {l : List MV} {vs : List Value} {h : Heap} (hv : RepVs h l vs) : RepV (h.push { cls := .type "tuple", data := .seq vs.toArray }) (.tup l) (.ref h.objs.size) := by
  simp only [RepV]
  exact ⟨_, vs, 0, rfl, Heap.get?_push_size _ rfl, hv.keepT (.of_all fun b x e => Heap.get?_push_of_some _ e)⟩
theorem U5 {a : Addr} {l : List MV} (r : RepH prog w μ s.heap) (e : lst μ a = some l) : ∃ vs : List Value, s.heap.PlainList a vs.toArray ∧ RepVs s.heap l vs ∧ μ a = some (.list l) := by
  unfold lst at e
  split at e
  · rename_i l' q; cases e
    obtain ⟨vs, h1, h2⟩ := r a _ q
    exact ⟨vs, h1, h2, q⟩
  · cases e
theorem op_bin {op : BOp} {o : Operator} {a b : MV} {va vb : Value} {d : Nat} (ho : opIs op o = true) (ha : RepV s.heap a va) (hb : RepV s.heap b vb) (r : RepH prog w μ s.heap) (f : FzIn fz μ) (hA : OkA d A)
    (h : binM fz op a b Q μ) : wpAny (model prog w) A (binaryOp o va vb) (PostV prog w fz μ s Q) E s := by
  obtain rfl := of_decide_eq_true ho
  cases op with
  | sub =>
    obtain ⟨x, y, rfl, rfl, h⟩ := Jp h
    obtain ⟨t, rfl⟩ := ha; obtain ⟨u, rfl⟩ := hb
    exact PyProof.Rows.sub_int' (Xp h r (by simp [RepV]) rfl rfl rfl)
  | mul =>
    obtain ⟨x, y, rfl, rfl, h⟩ := Jp h
    obtain ⟨t, rfl⟩ := ha; obtain ⟨u, rfl⟩ := hb
    obtain ⟨hs, h⟩ := h
    refine PyProof.Rows.mul_int (Xp h r (by simp [RepV]) rfl rfl rfl) ?_
    rcases hs with hs | hs
    · exact IntMulOk.of_left (intBits_le_64 (by have := hs.1; lia) (by have := hs.2; exact Int.lt_of_lt_of_le (by assumption) (by decide)))
    · exact IntMulOk.of_right (intBits_le_64 (by have := hs.1; lia) (by have := hs.2; exact Int.lt_of_lt_of_le (by assumption) (by decide)))
  | fdiv =>
    obtain ⟨x, y, rfl, rfl, h⟩ := Jp h
    obtain ⟨t, rfl⟩ := ha; obtain ⟨u, rfl⟩ := hb
    obtain ⟨hs, h⟩ := h
    exact PyProof.Rows.floordiv_int hs.1 (Xp h r (by simp [RepV]) rfl rfl rfl) (.inl (notPylong _ hs.2))
  | mod =>
    obtain ⟨x, y, rfl, rfl, h⟩ := Jp h
    obtain ⟨t, rfl⟩ := ha; obtain ⟨u, rfl⟩ := hb
    exact PyProof.Rows.mod_int' h.1 (Xp h.2 r (by simp [RepV]) rfl rfl rfl)
  | pow => exact h.elim
  | add =>
    cases a with
    | int x =>
      cases b with
      | int y =>
        obtain ⟨t, rfl⟩ := ha; obtain ⟨u, rfl⟩ := hb
        exact PyProof.Rows.add_int (Xp h r (by simp [RepV]) rfl rfl rfl)
      | _ => exact False.elim h
    | str x =>
      cases b with
      | str y =>
        obtain ⟨t, rfl⟩ := ha; obtain ⟨u, rfl⟩ := hb
        exact PyProof.Rows.add_str (fun t' tk => Xp h.2 r (by simp [RepV]) rfl rfl rfl) (Y0 h.1)
      | _ => exact False.elim h
    | tup x =>
      cases b with
      | tup y =>
        obtain ⟨hz, h⟩ := h
        have ha' := ha; have hb' := hb
        obtain ⟨p, vs, n1, rfl, h1, hv⟩ := ha; obtain ⟨q, ws, n2, rfl, h2, hw⟩ := hb
        have l1 := hv.length; have l2 := hw.length
        have hz := Y0 hz
        by_cases e1 : x = []
        · subst e1
          have e : vs = [] := by simpa using l1
          subst e
          exact concat_meets ⟨_, h1, rfl⟩ ⟨_, h2, rfl⟩ noFill_tuple_add seq_tuple_add F.slot_tuple_add F.entry_tuple_add (F.args_tuple_add_2 _ _) (AutoSeq1.tuple___add___tuple_tuple_0 p _ n1 q _ n2 rfl)
            ⟨h1, h2, Xp h r (by simpa using hb') rfl rfl rfl⟩
        · have e1' : ¬ vs.toArray.isEmpty = true := by simp; intro e; subst e; simp at l1; exact e1 (List.eq_nil_of_length_eq_zero l1.symm)
          by_cases e2 : y = []
          · subst e2
            have e : ws = [] := by simpa using l2
            subst e
            exact concat_meets ⟨_, h1, rfl⟩ ⟨_, h2, rfl⟩ noFill_tuple_add seq_tuple_add F.slot_tuple_add F.entry_tuple_add (F.args_tuple_add_2 _ _) (AutoSeq1.tuple___add___tuple_tuple_1 p _ n1 q _ n2 e1' rfl)
              ⟨h1, h2, Xp h r (by simpa using ha') rfl rfl rfl⟩
          · have e2' : ¬ ws.toArray.isEmpty = true := by simp; intro e; subst e; simp at l2; exact e2 (List.eq_nil_of_length_eq_zero l2.symm)
            refine P.add_tuple h1 h2 e1' e2' ?_ (by simp; simp [*])
            rw [show vs.toArray ++ ws.toArray = (vs ++ ws).toArray by simp]
            exact Z8 h r (fun b x e => Heap.get?_push_of_some _ e) (Jy (hv.append hw))
      | _ => exact False.elim h
    | ref p =>
      cases b with
      | ref q =>
        obtain ⟨x, y, hx, hy, hz, h⟩ := h
        obtain rfl : va = .ref p := ha
        obtain rfl : vb = .ref q := hb
        obtain ⟨vs, ⟨n1, h1⟩, hv, _⟩ := U5 r hx
        obtain ⟨ws, ⟨n2, h2⟩, hw, _⟩ := U5 r hy
        refine P.add_list h1 h2 ?_ (by have := hv.length; have := hw.length; have := Y0 hz; simp; simp [*])
        rw [show vs.toArray ++ ws.toArray = (vs ++ ws).toArray by simp]
        exact Zj h r f (Zl (hv.append hw))
      | _ => exact False.elim h
    | _ => exact False.elim h
end
end Mine
end
section
namespace Mine
open PySem PySem.Calls PyProof.Rows
section
variable {prog : Program} {w : World} {fz : List Addr} {μ : MH} {s : Shared} {Q : MQ} {A : Around} {E : Value → Shared → Prop} {d : Nat}
noncomputable def Still (s s' : Shared) : Prop := s'.heap = s.heap ∧ s'.os = s.os ∧ s'.gens = s.gens
theorem Still.refl : Still s s := ⟨rfl, rfl, rfl⟩
theorem Zv {mv : MV} {v : Value} {s' : Shared} (hq : Q mv μ) (r : RepH prog w μ s.heap) (hv : RepV s.heap mv v) (st : Still s s') : PostV prog w fz μ s Q v s' :=
  Xp hq r hv st.1 st.2.1 st.2.2
theorem Kt {v : MV} {x : Value} {b : Bool} (hv : RepV s.heap v x) (r : RepH prog w μ s.heap) (e : truthy μ v = some b) :
    wpAny (model prog w) A (PySem.truthy x) (fun b' s' => b' = b ∧ Still s s') E s := by
  cases v with
  | none => obtain rfl := Option.some.inj e; obtain rfl : x = .none := hv; exact truthy_none ⟨rfl, .refl⟩
  | bool c => obtain rfl := Option.some.inj e; obtain rfl : x = .bool c := hv; exact wpAny_truthy_bool ⟨rfl, .refl⟩
  | int i => obtain rfl := Option.some.inj e; obtain ⟨t, rfl⟩ := hv; exact PyProof.Rows.truthy_int ⟨by simp [bne, BEq.beq], .refl⟩
  | ref a =>
    obtain rfl : x = .ref a := hv
    replace e : truthyO (μ a) = some b := e
    cases q : μ a with
    | none => rw [q] at e; cases e
    | some mo =>
      rw [q] at e
      cases mo with
      | list l =>
        have e : (if l.length ≤ 2 ^ 20 then some (!l.isEmpty) else none) = some b := e
        by_cases hs : l.length ≤ 2 ^ 20
        · rw [if_pos hs] at e
          obtain rfl := Option.some.inj e
          obtain ⟨vs, h1, h2⟩ := r a _ q
          have hl := h2.length
          refine wpAny_truthy_list h1.isList (by simp; lia) ⟨?_, rfl, rfl, rfl⟩
          cases l <;> cases vs <;> first | rfl | cases hl
        · rw [if_neg hs] at e; cases e
      | idict l => cases e
      | sdict l => cases e
  | _ => cases e
noncomputable def DR (h : Heap) (n : Nat) (x : Value) (dd : PyData) : Prop := ∃ as, Reads h x dd as ∧ dd.canLay0 = true ∧ dd.depth ≤ n
noncomputable def DRs (h : Heap) (n : Nat) (vs : List Value) (ds : List PyData) : Prop := ∃ as, ReadsAll h vs ds as ∧ PyData.canLayAll0 ds = true ∧ PyData.depthAll ds ≤ n
theorem deep_all {n : Nat} (ih : ∀ (v : MV) (x : Value) (dd : PyData), deep μ n v = some dd → RepV s.heap v x → DR s.heap n x dd) : ∀ (l : List MV) (vs : List Value) (ds : List PyData), l.mapM (deep μ n) = some ds → RepVs s.heap l vs → DRs s.heap n vs ds := by
  intro l
  induction l with
  | nil =>
    intro vs ds e h
    cases vs with
    | cons _ _ => exact False.elim h
    | nil => obtain rfl : ([] : List PyData) = ds := Option.some.inj e; exact ⟨_, .nil, rfl, Nat.zero_le _⟩
  | cons v l il =>
    intro vs ds e h
    cases vs with
    | nil => exact False.elim h
    | cons x vs =>
      rw [List.mapM_cons] at e
      obtain ⟨d1, e1, e⟩ := Option.bind_eq_some_iff.mp e
      obtain ⟨d2, e2, e⟩ := Option.bind_eq_some_iff.mp e
      obtain rfl : d1 :: d2 = ds := Option.some.inj e
      obtain ⟨as, a1, a2, a3⟩ := ih v x d1 e1 h.1
      obtain ⟨bs, b1, b2, b3⟩ := il vs d2 e2 h.2
      exact ⟨_, .cons a1 b1, by simp only [PyData.canLayAll0, a2, b2, Bool.and_self], by simp only [PyData.depthAll]; exact Nat.max_le.mpr ⟨a3, b3⟩⟩
theorem deep_str {n : Nat} {i : Str} {x : Value} {dd : PyData} (e : deep μ n (.str i) = some dd) (h : RepV s.heap (.str i) x) : DR s.heap n x dd := by
  have e : (if PyData.strOk i then some (PyData.str i) else none) = some dd := by cases n <;> exact e
  by_cases ok : PyData.strOk i = true
  · rw [if_pos ok] at e
    obtain rfl := Option.some.inj e
    obtain ⟨t, rfl⟩ := h
    exact ⟨_, .str i t, by simpa [PyData.canLay0] using ok, by simp only [PyData.depth]; exact Nat.zero_le _⟩
  · rw [if_neg ok] at e; cases e
theorem deep_int {n : Nat} {i : Int} {x : Value} {dd : PyData} (e : deep μ n (.int i) = some dd) (h : RepV s.heap (.int i) x) : DR s.heap n x dd := by
  obtain rfl : PyData.int i = dd := Option.some.inj (by cases n <;> exact e)
  obtain ⟨t, rfl⟩ := h
  exact ⟨_, .int i t, rfl, by simp only [PyData.depth]; exact Nat.zero_le _⟩
theorem Gm {n : Nat} {b : Bool} {x : Value} {dd : PyData} (e : deep μ n (.bool b) = some dd) (h : RepV s.heap (.bool b) x) : DR s.heap n x dd := by
  obtain rfl : PyData.bool b = dd := Option.some.inj (by cases n <;> exact e)
  obtain rfl : x = .bool b := h
  exact ⟨_, .bool b, rfl, by simp only [PyData.depth]; exact Nat.zero_le _⟩
theorem Gl {n : Nat} {x : Value} {dd : PyData} (e : deep μ n .none = some dd) (h : RepV s.heap .none x) : DR s.heap n x dd := by
  obtain rfl : PyData.none = dd := Option.some.inj (by cases n <;> exact e)
  obtain rfl : x = .none := h
  exact ⟨_, .none, rfl, by simp only [PyData.depth]; exact Nat.zero_le _⟩
theorem Yk (r : RepH prog w μ s.heap) : ∀ (n : Nat) (v : MV) (x : Value) (dd : PyData), deep μ n v = some dd → RepV s.heap v x → DR s.heap n x dd := by
  intro n
  induction n with
  | zero =>
    intro v x dd e h
    cases v with
    | none => exact Gl e h
    | bool b => exact Gm e h
    | int i => exact deep_int e h
    | str i => exact deep_str e h
    | _ => cases e
  | succ n ih =>
    intro v x dd e h
    cases v with
    | none => exact Gl e h
    | bool b => exact Gm e h
    | int i => exact deep_int e h
    | str i => exact deep_str e h
    | tup l =>
      obtain ⟨a, vs, k, rfl, ho, hv⟩ := h
      obtain ⟨ds, hd, rfl⟩ := Option.map_eq_some_iff.mp e
      obtain ⟨as, h1, h2, h3⟩ := deep_all ih l vs ds hd hv
      exact ⟨_, .tuple ho rfl rfl (by simpa using h1), by simpa [PyData.canLay0] using h2, by simp only [PyData.depth]; exact Nat.succ_le_succ (by assumption)⟩
    | ref a =>
      have e : (match lst μ a with | some l => (l.mapM (deep μ n)).map PyData.list | none => none) = some dd := e
      cases q : lst μ a with
      | none => rw [q] at e; cases e
      | some l =>
        rw [q] at e
        obtain rfl : x = .ref a := h
        obtain ⟨vs, ⟨k, ho⟩, hv, _⟩ := U5 r q
        obtain ⟨ds, hd, rfl⟩ := Option.map_eq_some_iff.mp e
        obtain ⟨as, h1, h2, h3⟩ := deep_all ih l vs ds hd hv
        exact ⟨_, .list ho rfl rfl (by simpa using h1), by simpa [PyData.canLay0] using h2, by simp only [PyData.depth]; exact Nat.succ_le_succ (by assumption)⟩
    | _ => cases e
theorem op_eq {neg : Bool} {a b : MV} {x y : Value} {r' : Bool} (ha : RepV s.heap a x) (hb : RepV s.heap b y) (r : RepH prog w μ s.heap) (hA : OkA d A) (e : eqD μ a b = some r')
    {Q : Value → Shared → Prop} (h : Q (.bool (if neg then !r' else r')) s) : wpAny (model prog w) A (compareOp (if neg then .NotEq else .Eq) x y) Q E s := by
  unfold eqD at e
  split at e
  · rename_i d1 d2 e1 e2
    cases e
    obtain ⟨as, a1, a2, a3⟩ := Yk r 9 a x d1 e1 ha
    obtain ⟨bs, b1, b2, b3⟩ := Yk r 9 b y d2 e2 hb
    have hu : A.units + min d1.depth d2.depth < cLine := by have := hA.units; lia
    cases neg
    · exact SeqAt.compareEq_reads a1 b1 a2 b2 hu h
    · exact SeqAt.compareNe_reads a1 b1 a2 b2 hu h
  · cases e
theorem Js {K : Type} [DecidableEq K] {h : Heap} (k : K) : ∀ {l : List (K × MV)} {kvs : List (K × Value)}, RepKV h l kvs →
    (lookI l k = none ∧ valueAt kvs k = none) ∨ ∃ v x, lookI l k = some v ∧ valueAt kvs k = some x ∧ RepV h v x
  | [], [] => fun _ => .inl ⟨rfl, rfl⟩
  | m :: ms, v :: vs => fun x => by
    simp only [RepKV] at x
    obtain ⟨e, hv, hr⟩ := x
    unfold lookI valueAt
    by_cases q : v.1 = k
    · refine .inr ⟨m.2, v.2, ?_, ?_, hv⟩
      · simp [List.find?_cons, e, q]
      · simp [List.find?_cons, q]
    · have ih := Js k hr
      unfold lookI valueAt at ih
      simpa [List.find?_cons, e, q] using ih
  | [], _ :: _ => fun x => by simp [RepKV] at x
  | _ :: _, [] => fun x => by simp [RepKV] at x
theorem Ft {K : Type} [DecidableEq K] {h : Heap} (k : K) : ∀ {l : List (K × MV)} {kvs : List (K × Value)}, RepKV h l kvs → l.any (fun kv => kv.1 = k) = kvs.any (fun kv => kv.1 = k)
  | [], [] => fun _ => rfl
  | m :: ms, v :: vs => fun x => by simp only [RepKV] at x; simp [x.1, Ft k x.2.2]
  | [], _ :: _ => fun x => by simp [RepKV] at x
  | _ :: _, [] => fun x => by simp [RepKV] at x
theorem Fs {K : Type} [DecidableEq K] {h : Heap} (k : K) {v : MV} {x : Value} (hv : RepV h v x) : ∀ {l : List (K × MV)} {kvs : List (K × Value)}, RepKV h l kvs →
    RepKV h (l.map (fun kv => if kv.1 = k then (kv.1, v) else kv)) (kvs.map (fun kv => if kv.1 = k then (kv.1, x) else kv))
  | [], [] => fun _ => trivial
  | m :: ms, u :: vs => fun x => by
    simp only [RepKV] at x
    simp only [List.map_cons, RepKV]
    refine ⟨?_, ?_, Fs k hv x.2.2⟩
    · rw [x.1]; split <;> simp [x.1]
    · rw [x.1]; split
      · exact hv
      · exact x.2.1
  | [], _ :: _ => fun x => by simp [RepKV] at x
  | _ :: _, [] => fun x => by simp [RepKV] at x
theorem Ok {K : Type} {h : Heap} {m : K × MV} {x : K × Value} (e : m.1 = x.1) (hv : RepV h m.2 x.2) : ∀ {l : List (K × MV)} {kvs : List (K × Value)}, RepKV h l kvs → RepKV h (l ++ [m]) (kvs ++ [x])
  | [], [] => fun _ => by simp only [List.nil_append, RepKV]; exact ⟨e, hv, trivial⟩
  | _ :: ms, _ :: vs => fun y => by simp only [RepKV, List.cons_append] at y ⊢; exact ⟨y.1, y.2.1, Ok e hv y.2.2⟩
  | [], _ :: _ => fun x => by simp [RepKV] at x
  | _ :: _, [] => fun x => by simp [RepKV] at x
theorem Fr {K : Type} [DecidableEq K] {h : Heap} (k : K) {v : MV} {x : Value} (hv : RepV h v x) {l : List (K × MV)} {kvs : List (K × Value)} (r : RepKV h l kvs) : RepKV h (putI l k v) (stored kvs k x) := by
  unfold putI stored
  rw [Ft k r]
  split
  · exact Fs k hv r
  · exact Ok (m := (k, v)) (x := (k, x)) rfl hv r
theorem G4 {K : Type} [DecidableEq K] {h : Heap} (k : K) {l : List (K × MV)} {kvs : List (K × Value)} (hr : RepKV h l kvs) : (valueAt kvs k).isSome = (lookI l k).isSome := by
  rcases Js k hr with ⟨e1, e2⟩ | ⟨v, x, e1, e2, _⟩ <;> rw [e1, e2] <;> rfl
theorem op_in {neg : Bool} {a b : MV} {x y : Value} {r' : Bool} (ha : RepV s.heap a x) (hb : RepV s.heap b y) (r : RepH prog w μ s.heap) (hA : OkA d A) (e : inM μ a b = some r')
    {Q : Value → Shared → Prop} (h : ∀ s', Still s s' → Q (.bool (if neg then !r' else r')) s') : wpAny (model prog w) A (compareOp (if neg then .NotIn else .In) x y) Q E s := by
  cases b with
  | tup l =>
    obtain ⟨xs, dd, e1, e2, rfl⟩ := anyT_inv e
    obtain ⟨as, a1, a2, a3⟩ := Yk r 9 _ _ _ e1 hb
    obtain ⟨bs, b1, b2, b3⟩ := Yk r 9 _ _ _ e2 ha
    have hu : A.units + 1 + min (PyData.depthAll xs) dd.depth < cLine := by have := hA.units; lia
    have a2' : PyData.canLayAll0 xs = true := by simpa [PyData.canLay0] using a2
    cases neg
    · exact SeqAt.in_tuple_reads a1 b1 a2' b2 hu (h s .refl)
    · exact SeqAt.notIn_tuple_reads a1 b1 a2' b2 hu (h s .refl)
  | ref p =>
    have hp : y = .ref p := hb
    replace e : inO μ p a (μ p) = some r' := e
    cases q : μ p with
    | none => rw [q] at e; cases e
    | some mo =>
      rw [q] at e
      cases mo with
      | idict l =>
        cases a with
        | int k =>
          obtain rfl := Option.some.inj e
          obtain ⟨t, rfl⟩ := ha; subst hp
          obtain ⟨kvs, hd, hr, hs⟩ := r p _ q
          have hl := G4 k hr
          cases neg
          · exact wpAny_in_of (intKind_is prog w k t) hs hd.mapOf (by rw [hl]; exact h _ ⟨rfl, rfl, rfl⟩)
          · exact wpAny_notIn_of (intKind_is prog w k t) hs hd.mapOf (by rw [hl]; exact h _ ⟨rfl, rfl, rfl⟩)
        | _ => cases e
      | sdict l =>
        cases a with
        | str k =>
          obtain rfl := Option.some.inj e
          obtain ⟨t, rfl⟩ := ha; subst hp
          obtain ⟨kvs, hd, hr, hs⟩ := r p _ q
          have hl := G4 k hr
          cases neg
          · exact wpAny_in_of (strKind_is prog w k t) hs hd.mapOf (by rw [hl]; exact h _ ⟨rfl, rfl, rfl⟩)
          · exact wpAny_notIn_of (strKind_is prog w k t) hs hd.mapOf (by rw [hl]; exact h _ ⟨rfl, rfl, rfl⟩)
        | _ => cases e
      | list l =>
        obtain ⟨xs, dd, e1, e2, rfl⟩ := anyL_inv e
        obtain ⟨as, a1, a2, a3⟩ := Yk r 9 _ _ _ e1 hb
        obtain ⟨bs, b1, b2, b3⟩ := Yk r 9 _ _ _ e2 ha
        have hu : A.units + 1 + min (PyData.depthAll xs) dd.depth < cLine := by have := hA.units; lia
        have a2' : PyData.canLayAll0 xs = true := by simpa [PyData.canLay0] using a2
        cases neg
        · exact SeqAt.in_list_reads a1 b1 a2' b2 hu (h s .refl)
        · exact SeqAt.notIn_list_reads a1 b1 a2' b2 hu (h s .refl)
  | str y' =>
    cases a with
    | str x' =>
      have e : (if x'.length = 1 then some (y'.cps.toList.contains (x'.cps.toList.headD 0)) else none) = some r' := e
      by_cases hl : x'.length = 1
      · rw [if_pos hl] at e
        obtain rfl := Option.some.inj e
        obtain ⟨t, rfl⟩ := ha; obtain ⟨u, rfl⟩ := hb
        have hx : x' = ⟨#[x'.cps.toList.headD 0]⟩ := by
          obtain ⟨cps⟩ := x'
          obtain ⟨l⟩ := cps
          have hl' : l.length = 1 := hl
          match l, hl' with
          | [c], _ => rfl
        have hc : (!(Builtin.Str.occurrences y' x' 0 y'.length 1).isEmpty) = y'.cps.toList.contains (x'.cps.toList.headD 0) := by
          rw [hx, StrLaws.found_one]
          simp
        cases neg
        · exact P.in_str (by rw [hc]; exact h s .refl)
        · exact P.notIn_str (by rw [hc]; exact h s .refl)
      · rw [if_neg hl] at e; cases e
    | _ => cases e
  | _ => cases e
end
end Mine
end
section
namespace Mine
open PySem PySem.Calls PyProof.Rows
section
variable {prog : Program} {w : World} {fz : List Addr} {μ : MH} {s : Shared} {Q : MQ} {A : Around} {E : Value → Shared → Prop} {d : Nat}
theorem atI_seq {α : Type} {l : List α} {k : Int} {v : α} (e : atI l k = some v) : ∃ j, seqIndex? k l.length = some j ∧ l[j]? = some v ∧ -(l.length : Int) ≤ k ∧ k < l.length := by
  unfold atI at e
  unfold seqIndex?
  split at e
  · rename_i h0
    have hlt : k.toNat < l.length := by
      cases q : l[k.toNat]? with
      | none => rw [q] at e; cases e
      | some _ => exact (List.getElem?_eq_some_iff.mp q).1
    refine ⟨k.toNat, ?_, e, by lia, by lia⟩
    have : ¬ k < 0 := by simp [*]
    simp [this, h0]; lia
  · split at e
    · rename_i h0 h1
      have hlt : (k + l.length).toNat < l.length := by
        cases q : l[(k + l.length).toNat]? with
        | none => rw [q] at e; cases e
        | some _ => exact (List.getElem?_eq_some_iff.mp q).1
      refine ⟨(k + l.length).toNat, ?_, e, by lia, by lia⟩
      have : k < 0 := by lia
      simp [this, h1]; lia
    · cases e
theorem H8 {p : Addr} {l : List MV} {vs : List Value} {k : Int} {t : Tok} {v : MV} {Q : Value → Shared → Prop} (h1 : s.heap.PlainList p vs.toArray) (hv : RepVs s.heap l vs) (hz : l.length ≤ 2 ^ 20) (e : atI l k = some v)
    (h : ∀ z, RepV s.heap v z → Q z s) : wpAny (model prog w) A (getItem (.ref p) (.int k t)) Q E s := by
  have hl := hv.length
  unfold atI at e
  split at e
  · rename_i h0
    obtain ⟨z, hz1, hz2⟩ := hv.get e
    have := (List.getElem?_eq_some_iff.mp hz1).1
    exact wpAny_getItem_list h1.isList h0 (by lia) (by simpa using hz1) (h z hz2)
  · split at e
    · rename_i h0 h2
      obtain ⟨z, hz1, hz2⟩ := hv.get e
      refine wpAny_getItem_list_neg h1.isList (by lia) (by simp; lia) (by lia) (x := z) ?_ (h z hz2)
      simp only [List.size_toArray, hl]; simpa using hz1
    · cases e
theorem op_item {a i v : MV} {x y : Value} {value slice : PySem.Expr} {Q : Value → Shared → Prop} (ha : RepV s.heap a x) (hi : RepV s.heap i y) (r : RepH prog w μ s.heap) (e : idxM μ a i = some v)
    (hs : ∀ o i, subscripted slice false o i = operate [o, i] (getItem o i)) (h : ∀ z s', RepV s.heap v z → Still s s' → Q z s') : wpAny (model prog w) A (subscriptTail value slice x y) Q E s := by
  cases a with
  | tup l =>
    replace e := P3 e; obtain ⟨k, rfl, e⟩ := e
    replace e := P0 e; obtain ⟨hz, e⟩ := e
    obtain ⟨p, vs, n, rfl, h1, hv⟩ := ha; obtain ⟨t, rfl⟩ := hi
    have hl := hv.length
    obtain ⟨j, e1, e2, e3, e4⟩ := atI_seq e
    obtain ⟨z, hz1, hz2⟩ := hv.get e2
    exact tail_any ⟨_, h1, rfl⟩ F.slot_tuple_getitem.lookup (P.getItem_tuple h1 (by lia) (by lia) (by simpa [hl] using e1) (by simpa using hz1) (h z s hz2 .refl)) (hs _ _)
  | str st =>
    replace e := P3 e; obtain ⟨k, rfl, e⟩ := e
    replace e := P0 e; obtain ⟨hz, e⟩ := e
    obtain ⟨c, e', rfl⟩ := Option.map_eq_some_iff.mp e
    obtain ⟨u, rfl⟩ := ha; obtain ⟨t, rfl⟩ := hi
    obtain ⟨j, e1, e2, e3, e4⟩ := atI_seq e'
    have hz' : st.cps.toList.length ≤ 2 ^ 20 := by simpa [Str.length] using hz
    refine tail_any (typeIs_str s st u) F.slot_str_getitem.lookup (P.getItem_str (c := c) ?_ ?_ (h _ _ ⟨_, rfl⟩ ⟨rfl, rfl, rfl⟩)) (hs _ _)
    · simp; lia
    · rw [show st.length = st.cps.toList.length by simp [Str.length], e1]; simpa using e2
  | ref p =>
    obtain rfl : x = .ref p := ha
    replace e : idxO (μ p) i = some v := e
    cases q : μ p with
    | none => rw [q] at e; cases e
    | some mo =>
      rw [q] at e
      cases mo with
      | list l =>
        replace e := P3 e; obtain ⟨k, rfl, e⟩ := e
        replace e := P0 e; obtain ⟨hz, e⟩ := e
        obtain ⟨t, rfl⟩ := hi
        obtain ⟨vs, h1, hv⟩ := r p _ q
        exact tail_any h1.isList.typeIs slot_list_getitem.lookup (H8 h1 hv hz e fun z hz => h z s hz .refl) (hs _ _)
      | idict l =>
        replace e := P3 e; obtain ⟨k, rfl, e⟩ := e
        obtain ⟨t, rfl⟩ := hi
        obtain ⟨kvs, hd, hr, _⟩ := r p _ q
        rcases Js k hr with ⟨e1, e2⟩ | ⟨v', z, e1, e2, hz⟩
        · rw [e1] at e; cases e
        · obtain rfl := Option.some.inj (e1.symm.trans e)
          exact tail_any hd.typeIs slot_dict_getitem.lookup (wpAny_getItem_of (intKind_is prog w k t) hd.mapOf e2 (h z _ hz ⟨rfl, rfl, rfl⟩)) (hs _ _)
      | sdict l =>
        replace e := strO_inv e; obtain ⟨k, rfl, e⟩ := e
        obtain ⟨t, rfl⟩ := hi
        obtain ⟨kvs, hd, hr, _⟩ := r p _ q
        rcases Js k hr with ⟨e1, e2⟩ | ⟨v', z, e1, e2, hz⟩
        · rw [e1] at e; cases e
        · obtain rfl := Option.some.inj (e1.symm.trans e)
          exact tail_any hd.typeIs slot_dict_getitem.lookup (wpAny_getItem_of (strKind_is prog w k t) hd.mapOf e2 (h z _ hz ⟨rfl, rfl, rfl⟩)) (hs _ _)
  | _ => cases e
theorem Br {h : Heap} {l : List MV} {vs : List Value} (hv : RepVs h l vs) : ∀ (js : List Nat), RepVs h (js.filterMap (l[·]?)) (js.filterMap (vs[·]?))
  | [] => trivial
  | j :: js => by
    have ih := Br hv js
    have hl := hv.length
    simp only [List.filterMap_cons]
    cases q : l[j]? with
    | none =>
      have : vs[j]? = none := by rw [List.getElem?_eq_none_iff] at q ⊢; simp [*]
      rw [this]; exact ih
    | some m =>
      obtain ⟨z, h1, h2⟩ := hv.get q
      rw [h1]; simp only [RepVs]; exact ⟨h2, ih⟩
theorem A3 {m : MV} {v : Value} {o : Option Int} (hr : RepV s.heap m v) (e : partI m = some o) : IsPart v o ∧ ∃ p : Option (Int × Tok), v = partValue p ∧ p.map (·.1) = o := by
  cases m with
  | none => obtain rfl := Option.some.inj e; obtain rfl : v = .none := hr; exact ⟨.none, none, rfl, rfl⟩
  | int i => obtain rfl := Option.some.inj e; obtain ⟨t, rfl⟩ := hr; exact ⟨.int _ _, some (_, t), rfl, rfl⟩
  | _ => cases e
theorem pickN_str (n : Nat) (lo hi st : Option Int) : Builtin.Str.strSliceIndices lo hi (st.getD 1) n = pickN n lo hi st := by
  unfold Builtin.Str.strSliceIndices pickN sliceBounds
  cases lo <;> cases hi <;> cases st <;> rfl
theorem sliceRange_one (a b : Int) : sliceRange a b 1 = (List.range (b - a).toNat).map fun (k : Nat) => (a + k).toNat := by
  show (List.range (if a < b then (b - a + 1 - 1) / 1 else 0).toNat).map (fun (k : Nat) => (a + 1 * (k : Int)).toNat) = _
  rw [Int.ediv_one, Int.add_sub_cancel]
  have e : (if a < b then b - a else 0).toNat = (b - a).toNat := by
    by_cases h : a < b
    · rw [if_pos h]
    · rw [if_neg h, Int.toNat_of_nonpos (Int.sub_nonpos_of_le (Int.not_lt.mp h))]; rfl
  rw [e]
  exact List.map_congr_left fun k _ => by rw [Int.one_mul]
theorem sb_pos {n : Nat} {lo hi st : Option Int} (h : st.getD 1 > 0) : 0 ≤ (sliceBounds lo hi st n).1 ∧ (sliceBounds lo hi st n).2.1 ≤ n := by
  constructor
  · cases lo with
    | none => exact Int.le_of_eq (if_pos h).symm
    | some i => exact Int.le_trans (Int.le_max_left 0 _) (Int.le_of_eq (if_pos h).symm)
  · cases hi with
    | none => exact Int.le_of_eq (if_pos h)
    | some i => exact Int.le_trans (Int.le_of_eq (if_pos h)) (Int.max_le.mpr ⟨Int.natCast_nonneg n, Int.min_le_right ..⟩)
theorem sb_neg {n : Nat} {lo hi st : Option Int} (h : ¬ st.getD 1 > 0) : (sliceBounds lo hi st n).1 ≤ (n : Int) - 1 ∧ -1 ≤ (sliceBounds lo hi st n).2.1 := by
  constructor
  · cases lo with
    | none => exact Int.le_of_eq (if_neg h)
    | some i => exact Int.le_trans (Int.le_of_eq (if_neg h)) (Int.max_le.mpr ⟨Int.sub_le_sub_right (Int.natCast_nonneg n) 1, Int.min_le_right ..⟩)
  · cases hi with
    | none => exact Int.le_of_eq (if_neg h).symm
    | some i => exact Int.le_trans (Int.le_max_left (-1) _) (Int.le_of_eq (if_neg h).symm)
theorem full_at {a b : Int} {n k : Nat} (ha : 0 ≤ a) (hb : b ≤ n) (hl : (b - a).toNat = n) (hk : k < n) : (a + k).toNat = k := by
  obtain ⟨m, rfl⟩ := Int.eq_ofNat_of_zero_le ha
  cases q : b - (m : Int) with
  | ofNat c =>
    rw [q] at hl
    obtain rfl : c = n := hl
    rw [← Int.sub_add_cancel b m, q] at hb
    obtain rfl := Nat.le_zero.mp (Nat.le_of_add_le_add_left (Int.ofNat_le.mp hb : c + m ≤ c + 0))
    exact Nat.zero_add k
  | negSucc c => rw [q] at hl; exact absurd hk (hl ▸ Nat.not_lt_zero _)
theorem pickN_full {n : Nat} {lo hi st : Option Int} (h1 : st.getD 1 = 1) (hl : (pickN n lo hi st).length = n) : pickN n lo hi st = List.range n := by
  obtain ⟨b1, b2⟩ := sb_pos (n := n) (lo := lo) (hi := hi) (st := st) (by rw [h1]; decide)
  have b3 : (sliceBounds lo hi st n).2.2 = 1 := h1
  unfold pickN at hl ⊢
  rw [b3, sliceRange_one] at hl ⊢
  rw [List.length_map, List.length_range] at hl
  rw [hl]
  exact (List.map_congr_left fun k hk => full_at b1 b2 hl (List.mem_range.mp hk)).trans (List.map_id _)
theorem pickN_le (n : Nat) (lo hi st : Option Int) : (pickN n lo hi st).length ≤ n := sliceRange_length_le _ _ _ _ sb_pos sb_neg
theorem Bt {h : Heap} : ∀ {l : List MV} {vs : List Value} (n : Nat), RepVs h l vs → RepVs h (l.drop n) (vs.drop n)
  | _, _, 0 => fun x => x
  | [], [], n + 1 => fun _ => trivial
  | _ :: _, _ :: _, n + 1 => fun x => by simp only [RepVs] at x; exact Bt n x.2
  | [], _ :: _, _ + 1 => fun x => by simp [RepVs] at x
  | _ :: _, [], _ + 1 => fun x => by simp [RepVs] at x
theorem Un {α : Type} : ∀ (l : List α), (List.range l.length).filterMap (l[·]?) = l
  | [] => rfl
  | x :: l => by
    have ih := Un l
    rw [List.length_cons, List.range_succ_eq_map, List.filterMap_cons]
    simp only [List.getElem?_cons_zero, List.filterMap_map]
    congr 1
theorem op_slice {a lo hi st : MV} {x vl vh vs : Value} {value : PySem.Expr} {l u t : Option PySem.Expr} {p : Pos} {sl : Addr} {μ₀ : MH} {s₀ : Shared} (ha : RepV s.heap a x) (hlo : RepV s.heap lo vl) (hhi : RepV s.heap hi vh) (hst : RepV s.heap st vs)
    (r : RepH prog w μ s.heap) (f : FzIn fz μ) (h : sliceM fz a lo hi st Q μ) (hs : s.heap.get? sl = some { cls := .type "slice", data := .fields #[vl, vh, vs] }) :
    wpAny (model prog w) A (subscriptTail value (.Slice l u t p) x (.ref sl)) (PostV prog w fz μ s Q) E s := by
  obtain ⟨ol, oh, os, e1, e2, e3, e0, h⟩ := h
  obtain ⟨pl, ql, rfl, rfl⟩ := A3 hlo e1
  obtain ⟨ph, qh, rfl, rfl⟩ := A3 hhi e2
  obtain ⟨ps, qs, rfl, rfl⟩ := A3 hst e3
  have hsub : ∀ o, ∃ ops, subscripted (.Slice l u t p) false o (.ref sl) = operate ops (getItem o (.ref sl)) := fun o => by
    cases t
    · exact ⟨_, rfl⟩
    · exact ⟨_, rfl⟩
  cases a with
  | tup x' =>
    obtain ⟨a, q1, q2, q3, ⟨h1, h2⟩, hz, h⟩ := h
    obtain ⟨q, ws, n, rfl, ht, hv⟩ := ha
    have hl := hv.length
    obtain ⟨ops, hop⟩ := hsub (.ref q)
    have eh : qh = none := by simpa using q2
    have es : qs = none := by simpa using q3
    obtain ⟨tk, el⟩ : ∃ tk, ql = some ((a : Int), tk) := by
      cases ql with
      | none => simp at q1
      | some y => obtain ⟨y1, y2⟩ := y; simp at q1; exact ⟨y2, by rw [q1]⟩
    subst eh; subst es; subst el
    refine tail_any ⟨_, ht, rfl⟩ F.slot_tuple_getitem.lookup (getItem_tuple_from (a := a) (u := tk) (items := ws.toArray) ⟨_, ht, rfl, _, rfl⟩ ⟨_, hs, rfl, rfl⟩ h1 (by simp; simp [*]) ?_ (by have := Y0 hz; simp; simp [*])) hop
    exact Z8 h r (fun b x e => Heap.get?_push_of_some _ e) (Jy (Bt a hv))
  | str x' =>
    obtain ⟨hz, h⟩ := h
    obtain ⟨tk, rfl⟩ := ha
    obtain ⟨ops, hop⟩ := hsub (.str x' tk)
    have h0 : ((qs.map (·.1)).getD 1 == 0) = false := by
      cases q : qs with
      | none => rfl
      | some c => rw [q] at e0; simp at e0 ⊢; exact e0
    refine tail_any (typeIs_str s x' tk) F.slot_str_getitem.lookup (wpAny_getItem_str_slice (l := ql) (u := qh) (st := qs) ⟨_, hs, rfl, rfl⟩ h0 ?_) hop
    have hp : slicePicked x' ql qh qs = pickN x'.length (ql.map (·.1)) (qh.map (·.1)) (qs.map (·.1)) := pickN_str _ _ _ _
    have hlen : x'.length = x'.cps.toList.length := by simp [Str.length]
    unfold sliceMade
    split
    · rename_i hc
      simp only [Bool.and_eq_true, beq_iff_eq] at hc
      have hfull := pickN_full (n := x'.length) (lo := ql.map (·.1)) (hi := qh.map (·.1)) (st := qs.map (·.1)) hc.1 (by rw [← hp]; exact hc.2)
      have hx : (⟨(pick x'.cps.toList (ql.map (·.1)) (qh.map (·.1)) (qs.map (·.1))).toArray⟩ : Str) = x' := by
        unfold pick
        rw [← hlen, hfull, hlen, Un]
      rw [hx] at h
      exact Xp h r (by simp only [RepV]; exact ⟨_, rfl⟩) rfl rfl rfl
    · have hx : ((slicePicked x' ql qh qs).filterMap (x'.cps[·]?)).toArray = (pick x'.cps.toList (ql.map (·.1)) (qh.map (·.1)) (qs.map (·.1))).toArray := by
        unfold pick
        rw [hp, hlen]
        congr 2
        funext i
        simp
      rw [hx]
      refine ⟨?_, Xp h r (by simp only [RepV]; exact ⟨_, rfl⟩) rfl rfl rfl⟩
      have h1 : (pick x'.cps.toList (ql.map (·.1)) (qh.map (·.1)) (qs.map (·.1))).length ≤ x'.length := by
        unfold pick
        rw [← hlen]
        exact Nat.le_trans (List.length_filterMap_le _ _) (pickN_le _ _ _ _)
      have h2 := Y0 hz
      simp only [Str.length, List.size_toArray] at h1 h2 ⊢
      lia
  | ref q =>
    obtain ⟨y, hy, hz, h⟩ := h
    obtain rfl : x = .ref q := ha
    obtain ⟨ops, hop⟩ := hsub (.ref q)
    obtain ⟨vs', h1, hv, _⟩ := U5 r hy
    have hl := hv.length
    refine tail_any h1.isList.typeIs slot_list_getitem.lookup (wpAny_getItem_list_slice h1.isList (sl := sl) ⟨_, hs, rfl, rfl⟩ pl ph ps e0 ?_ (by have := Y0 hz; simp; simp [*])) hop
    have hx : slicePick vs'.toArray (ql.map (·.1)) (qh.map (·.1)) (qs.map (·.1)) = ((pickN y.length (ql.map (·.1)) (qh.map (·.1)) (qs.map (·.1))).filterMap (vs'[·]?)).toArray := by
      unfold slicePick pickN
      simp only [List.size_toArray, hl]
      congr 2
      funext i
      simp
    rw [hx]
    exact Zj h r f (Zl (Br hv _))
  | _ => exact False.elim h
end
end Mine
end
section
namespace Mine
open PySem PySem.Calls PyProof.Rows PySem.W
section
variable {prog : Program} {w : World} {fz : List Addr} {μ : MH} {s : Shared} {Q : MQ} {A : Around} {E : Value → Shared → Prop} {d : Nat}
theorem U2 {h : Heap} : ∀ {l : List MV} {vs : List Value}, vs.length = l.length → (∀ (j : Nat) (v : Value), vs[j]? = some v → ∃ m, l[j]? = some m ∧ RepV h m v) → RepVs h l vs
  | [], [] => fun _ _ => trivial
  | m :: l, v :: vs => fun hl hg => by
    simp only [RepVs]
    obtain ⟨m', h1, h2⟩ := hg 0 v rfl
    simp at h1; subst h1
    exact ⟨h2, U2 (by simpa using hl) fun j u e => by simpa using hg (j + 1) u (by simpa using e)⟩
  | [], _ :: _ => fun hl _ => by simp at hl
  | _ :: _, [] => fun hl _ => by simp at hl
theorem Kq {K : Type} {h : Heap} : ∀ {l : List (K × MV)} {kvs : List (K × Value)} {i : Nat} {kv : K × Value}, RepKV h l kvs → kvs[i]? = some kv → ∃ m, l[i]? = some (kv.1, m) ∧ RepV h m kv.2
  | [], [], i, kv => fun _ e => by simp at e
  | m :: ms, y :: ys, 0, kv => fun r e => by
    simp only [RepKV] at r; simp at e; subst e
    exact ⟨m.2, by simp [← r.1], r.2.1⟩
  | m :: ms, y :: ys, i + 1, kv => fun r e => by simp only [RepKV] at r; exact Kq (i := i) r.2.2 (by simpa using e)
  | [], _ :: _, _, _ => fun r _ => by simp [RepKV] at r
  | _ :: _, [], _, _ => fun r _ => by simp [RepKV] at r
structure DSrc (prog : Program) (w : World) (s : Shared) (x : Value) (l : List MV) (da : Addr) : Prop where
  ex : ∃ T r n P OK, x = .ref r ∧ KdlSrc prog w T r da n P OK ∧ OK s.heap ∧ n = l.length ∧ ∀ i v, P i v → ∀ h', KeepsT s.heap h' → ∃ m, l[i]? = some m ∧ RepV h' m v
inductive DsrcIs (prog : Program) (w : World) (s : Shared) (x : Value) (l : List MV) : Prop
  | seq (a : Addr) (vs : List Value) (n : Nat) (hx : x = .ref a) (ho : s.heap.get? a = some { cls := .type "list", data := .seq (List.toArray vs) n } ∨ s.heap.get? a = some { cls := .type "tuple", data := .seq (List.toArray vs) n }) (hr : RepVs s.heap l vs)
  | str (st : Str) (t : Tok) (hx : x = .str st t)
  | dict (da : Addr) (hd : DSrc prog w s x l da)
theorem Gk {K : Type} [DecidableEq K] (knd : PySem.KeyKind prog w K) (enc : K → MV) (he : ∀ k u h', knd.is k u = true → RepV h' (enc k) u) (a : Addr) (kv : List (K × MV)) (kvs : List (K × Value)) (hD : s.heap.DictOf knd a kvs) (hk : RepKV s.heap kv kvs) (hs : (a == sysModules) = false) : DSrc prog w s (.ref a) (kv.map fun p => enc p.1) a := by
  obtain ⟨ep, hat⟩ := hD.dictAt
  refine ⟨_, a, _, _, _, rfl, kdl_dict (knd := knd) (kvs := kvs) (ep := ep) hs, hat, by rw [List.length_map, hk.length], ?_⟩
  rintro i u ⟨k, y, h1, h2⟩ h' kt
  obtain ⟨m, h3, h4⟩ := Kq hk h1
  exact ⟨enc k, by rw [List.getElem?_map, h3]; rfl, he k u h' h2⟩
theorem Gj {K : Type} [DecidableEq K] (knd : PySem.KeyKind prog w K) (enc : K → MV) (he : ∀ k u h', knd.is k u = true → RepV h' (enc k) u) (a : Addr) (kv : List (K × MV)) (kvs : List (K × Value)) (hD : s.heap.DictOf knd a kvs) (hk : RepKV s.heap kv kvs) (r : Addr) (hr : KeysView s.heap r a) : DSrc prog w s (.ref r) (kv.map fun p => enc p.1) a := by
  obtain ⟨ep, hat⟩ := hD.dictAt
  refine ⟨_, r, _, _, _, rfl, kdl_keys (knd := knd) (kvs := kvs) (ep := ep), ⟨hr, hat⟩, by rw [List.length_map, hk.length], ?_⟩
  rintro i u ⟨k, y, h1, h2⟩ h' kt
  obtain ⟨m, h3, h4⟩ := Kq hk h1
  exact ⟨enc k, by rw [List.getElem?_map, h3]; rfl, he k u h' h2⟩
theorem Gi {K : Type} [DecidableEq K] (knd : PySem.KeyKind prog w K) (a : Addr) (kv : List (K × MV)) (kvs : List (K × Value)) (hD : s.heap.DictOf knd a kvs) (hk : RepKV s.heap kv kvs) (r : Addr) (hr : s.heap.IsValuesView r a) : DSrc prog w s (.ref r) (kv.map fun p => p.2) a := by
  obtain ⟨ep, hat⟩ := hD.dictAt
  refine ⟨_, r, _, _, _, rfl, kdl_values (knd := knd) (kvs := kvs) (ep := ep), ⟨hr, hat⟩, by rw [List.length_map, hk.length], ?_⟩
  rintro i u ⟨k, h1⟩ h' kt
  obtain ⟨m, h3, h4⟩ := Kq hk h1
  exact ⟨m, by rw [List.getElem?_map, h3]; rfl, h4.keepT kt⟩
theorem encI (k : Int) (u : Value) (h' : Heap) (hi : (intKind prog w).is k u = true) : RepV h' (.int k) u := Value.isInt_shape hi
theorem encS (k : Str) (u : Value) (h' : Heap) (hi : (strKind prog w).is k u = true) : RepV h' (.str k) u := Value.isStrOf_shape hi
theorem dsrc_of {v : MV} {x : Value} {l : List MV} (r : RepH prog w μ s.heap) (hv : RepV s.heap v x) (e : items μ v = some l) : DsrcIs prog w s x l := by
  cases v with
  | tup l' =>
    obtain rfl := Option.some.inj e
    obtain ⟨a, vs, n, rfl, h1, h2⟩ := hv
    exact .seq a vs n rfl (.inr h1) h2
  | str st =>
    obtain ⟨t, rfl⟩ := hv
    exact .str st t rfl
  | ref a =>
    obtain rfl : x = .ref a := hv
    replace e : itemsO (μ a) = some l := e
    cases q : μ a with
    | none => rw [q] at e; cases e
    | some mo =>
      rw [q] at e
      cases mo with
      | list l' => obtain rfl := Option.some.inj e; obtain ⟨vs, ⟨n, h1⟩, h2⟩ := r a _ q; exact .seq a vs n rfl (.inl h1) h2
      | idict l' => obtain rfl := Option.some.inj e; obtain ⟨kvs, h1, h2, h3⟩ := r a _ q; exact .dict a (Gk _ _ encI a l' kvs h1 h2 h3)
      | sdict l' => obtain rfl := Option.some.inj e; obtain ⟨kvs, h1, h2, h3⟩ := r a _ q; exact .dict a (Gk _ _ encS a l' kvs h1 h2 h3)
  | keys a =>
    obtain ⟨p, rfl, hp⟩ := hv
    replace e : keysO (μ a) = some l := e
    cases q : μ a with
    | none => rw [q] at e; cases e
    | some mo =>
      rw [q] at e
      cases mo with
      | list l' => cases e
      | idict l' => obtain rfl := Option.some.inj e; obtain ⟨kvs, h1, h2, h3⟩ := r a _ q; exact .dict a (Gj _ _ encI a l' kvs h1 h2 p hp)
      | sdict l' => obtain rfl := Option.some.inj e; obtain ⟨kvs, h1, h2, h3⟩ := r a _ q; exact .dict a (Gj _ _ encS a l' kvs h1 h2 p hp)
  | vals a =>
    obtain ⟨p, rfl, hp⟩ := hv
    replace e : valsO (μ a) = some l := e
    cases q : μ a with
    | none => rw [q] at e; cases e
    | some mo =>
      rw [q] at e
      cases mo with
      | list l' => cases e
      | idict l' => obtain rfl := Option.some.inj e; obtain ⟨kvs, h1, h2, h3⟩ := r a _ q; exact .dict a (Gi _ a l' kvs h1 h2 p hp)
      | sdict l' => obtain rfl := Option.some.inj e; obtain ⟨kvs, h1, h2, h3⟩ := r a _ q; exact .dict a (Gi _ a l' kvs h1 h2 p hp)
  | _ => cases e
theorem C3 {v : MV} {x : Value} {l : List MV} {R : List Value → Shared → Prop} (r : RepH prog w μ s.heap) (hv : RepV s.heap v x) (e : items μ v = some l) (hn : fits l.length) (hA : A.handled = none) (hns : ∀ st, v ≠ .str st)
    (h : ∀ vs h' tk, (∀ b o, s.heap.get? b = some o → h'.get? b = some o) → RepVs h' l vs → R vs { s with heap := h', toks := tk }) : wpAny (model prog w) A (collect x) R E s := by
  rcases dsrc_of r hv e with ⟨a, vs, n, rfl, ho, hr⟩ | ⟨st, t, rfl⟩ | ⟨da, ⟨T, p, n, P, OK, rfl, K, ok, rfl, hP⟩⟩
  · have hl := hr.length
    rcases ho with ho | ho
    · exact wpAny_collect_seq a (.inl rfl) ho rfl rfl (fun h' k => h vs h' s.toks k (hr.keepT (.of_all k))) (by have := Y0 hn; simp; simp [*])
    · exact wpAny_collect_seq a (.inr rfl) ho rfl rfl (fun h' k => h vs h' s.toks k (hr.keepT (.of_all k))) (by have := Y0 hn; simp; simp [*])
  · cases v <;> simp [RepV] at hv
    exact absurd rfl (hns _)
  · refine kdu_collect K hA ok (Y0 hn) fun h' tk acc k ha => h _ h' tk k (U2 (by rw [Array.length_toList]; exact ha.1) fun j u hj => ?_)
    exact hP j u (ha.2 j u (by rw [← Array.getElem?_toList]; exact hj)) h' (.of_all k)
theorem O1 {h : Heap} : ∀ {l : List MV} {vs : List Value} {ns : List Int}, RepVs h l vs → intsOf l = some ns → IntsAre vs ns
  | [], [], ns => fun _ e => by simp [intsOf] at e; subst e; exact .nil
  | m :: l, v :: vs, ns => fun r e => by
    simp only [RepVs] at r
    unfold intsOf at e
    rw [List.mapM_cons] at e
    simp only [Option.bind_eq_bind, Option.bind_eq_some_iff, Option.pure_def, Option.some.injEq] at e
    obtain ⟨i, e1, ns', e2, rfl⟩ := e
    cases m <;> simp at e1
    subst e1
    simp only [RepV] at r
    obtain ⟨⟨t, rfl⟩, hr⟩ := r
    exact .cons _ t (O1 hr e2)
  | [], _ :: _, _ => fun r _ => by simp [RepVs] at r
  | _ :: _, [], _ => fun r _ => by simp [RepVs] at r
theorem U3 {h : Heap} : ∀ {vs : List Value} {ns : List Int}, IntsAre vs ns → RepVs h (ns.map .int) vs
  | _, _, .nil => trivial
  | _, _, .cons n t r => by simp only [List.map_cons, RepVs, RepV]; exact ⟨⟨t, rfl⟩, U3 r⟩
theorem U1 {ns ns' : List Int} (hp : ns'.Perm ns) (hs : ns'.Pairwise (· ≤ ·)) : ns' = sortI ns := by
  have h1 : (sortI ns).Perm ns := List.mergeSort_perm _ _
  have h2 : (sortI ns).Pairwise (fun a b => decide (a ≤ b) = true) := List.pairwise_mergeSort (by intro a b c; simp; solve_by_elim (maxDepth := 3) only [*, Int.le_trans, Int.lt_of_lt_of_le, Int.lt_of_le_of_lt, Int.le_of_lt]) (by intro a b; simp; lia) ns
  refine List.Perm.eq_of_pairwise (le := fun a b => a ≤ b) ?_ hs (h2.imp (by intro a b h; simpa using h)) (hp.trans h1.symm)
  intro a b _ _ h3 h4; lia
theorem N4 {ns : List Int} (h : ns.Pairwise (· ≥ ·)) : ns.reverse.Pairwise (· ≤ ·) := by
  rw [List.pairwise_reverse]; exact h
theorem op_sorted {b : Bool} {v : MV} {x : Value} {l : List MV} {ns : List Int} (r : RepH prog w μ s.heap) (f : FzIn fz μ) (hv : RepV s.heap v x) (e : items μ v = some l) (hi : intsOf l = some ns) (hn : l.length < 64) (hA : A.handled = none) (hns : ∀ st, v ≠ .str st)
    (h : allocM fz μ (.list ((if b then (sortI ns).reverse else sortI ns).map .int)) fun c μ' => Q (.ref c) μ') :
    (b = false → wpAny (model prog w) A (call (.builtin "sorted") [x]) (PostV prog w fz μ s Q) E s) ∧ wpAny (model prog w) A (call (.builtin "sorted") [x] [(Str.ofString "reverse", .bool b)]) (PostV prog w fz μ s Q) E s := by
  have hf : fits l.length := Nat.le_trans (Nat.le_of_lt hn) (by decide)
  have fin : ∀ (vs : List Value) (h' : Heap) (tk : Nat) (out : Array Value) (ns' : List Int), (∀ b o, s.heap.get? b = some o → h'.get? b = some o) → IntsAre out.toList ns' → ns' = (if b then (sortI ns).reverse else sortI ns) →
      PostV prog w fz μ s Q (.ref h'.objs.size) { s with heap := sortedHeap (h'.push (seqObj "list" vs.toArray 0)) h'.objs.size vs out, toks := tk } := by
    intro vs h' tk out ns' k hI hns'
    have hnew : s.heap.get? h'.objs.size = none := by
      cases q : s.heap.get? h'.objs.size with
      | none => rfl
      | some o => exact absurd (Heap.lt_size (k _ _ q)) (Nat.lt_irrefl _)
    have k2 : ∀ b o, s.heap.get? b = some o → (sortedHeap (h'.push (seqObj "list" vs.toArray 0)) h'.objs.size vs out).get? b = some o := fun b o e => by
      have e' := k b o e
      have hlt := Heap.lt_size e'
      rw [sortedHeap_old (Nat.ne_of_lt hlt) (by rw [Heap.size_push]; exact Nat.lt_succ_of_lt hlt)]
      exact Heap.get?_push_of_some _ e'
    refine Zg h r f hnew k2 ?_
    obtain ⟨ep, he⟩ := sortedHeap_at (h := h'.push (seqObj "list" vs.toArray 0)) (a := h'.objs.size) (vs := vs) (n := 0) (out := out) (Heap.get?_push_size _ rfl)
    refine ⟨out.toList, ⟨ep, by simpa [seqObj] using he⟩, ?_⟩
    rw [← hns']
    exact U3 hI
  refine ⟨fun hb => ?_, ?_⟩
  · subst hb
    refine Calls.call_function_entry kind_sorted plain_sorted entry_sorted (args_sorted1 _) ?_
    unfold Builtin.«sorted»
    refine wpAny_bind (m := checkCount "sorted" 1 1 _) (wpAny_pure ?_)
    refine wpAny_bind (C3 (A := A.in1) r hv e hf hA hns fun vs h' tk k hr => ?_)
    have hl := hr.length
    refine wpAny_bind (wpAny_newList ?_ (by have := Y0 hf; simp [*]))
    have hoL : (h'.push (seqObj "list" vs.toArray 0)).get? h'.objs.size = some (seqObj "list" vs.toArray 0) := Heap.get?_push_size _ rfl
    refine wpAny_bind (wpAny_holding (wpAny_call_entry slot_list_sort ⟨_, hoL, rfl⟩ entry_list_sort (list_sort_tree hoL (O1 hr hi) (by simp [*]) fun out ns' a1 a2 a3 => ⟨_, rfl, ?_⟩) (args_list_sort _)))
    exact wpAny_pure ⟨_, rfl, fin vs h' tk out ns' k a1 (U1 a2 a3)⟩
  · refine call_function_entry_kw kind_sorted plain_sorted entry_sorted (args_sorted_rev _ _) ?_
    unfold Builtin.«sorted»
    refine wpAny_bind (m := checkCount "sorted" 1 1 _) (wpAny_pure ?_)
    refine wpAny_bind (C3 (A := A.in1) r hv e hf hA hns fun vs h' tk k hr => ?_)
    have hl := hr.length
    refine wpAny_bind (wpAny_newList ?_ (by have := Y0 hf; simp [*]))
    have hoL : (h'.push (seqObj "list" vs.toArray 0)).get? h'.objs.size = some (seqObj "list" vs.toArray 0) := Heap.get?_push_size _ rfl
    refine wpAny_bind (wpAny_holding (wpAny_call_entry_kw slot_list_sort ⟨_, hoL, rfl⟩ entry_list_sort (list_sort_tree_rev hoL (O1 hr hi) (by simp [*]) fun out ns' a1 a2 a3 => ⟨_, rfl, ?_⟩) (args_list_sort_rev _ _)))
    refine wpAny_pure ⟨_, rfl, fin vs h' tk out ns' k a1 ?_⟩
    cases b
    · exact U1 a2 a3
    · have := U1 ((List.reverse_perm ns').trans a2) (N4 a3)
      simp only [if_true]
      rw [← this, List.reverse_reverse]
end
end Mine
end
section
set_option maxRecDepth 100000
namespace Mine
open PySem PySem.Calls PyProof.Rows PySem.W
theorem C8 : typeLookup (.type "list") "keys" = pure none := by rw [typeLookup_type, builtinLookup_eq_fast]; kernel_rfl
theorem K4 : entryFor table "dict.update.loop" = some Builtin.«dict.update.loop» := entryFor_of_tree (by kernel_rfl)
theorem Yy : plainId "dict.update.loop" = true := by decide +kernel
section
variable {prog : Program} {w : World} {A : Around} {E : Value → Shared → Prop}
theorem V9 {s : Shared} {a : Addr} {xs : Array Value} {k : Nat} {Q : Option Value → Shared → Prop} (hx : s.heap.get? a = some { cls := .type "list", data := .seq xs k }) (hA : A.handled = none)
    (h : ∀ h' tk, (∀ b o, s.heap.get? b = some o → h'.get? b = some o) → Q none { s with heap := h', toks := tk }) :
    wpAny (model prog w) A (getAttr? (.ref a) "keys") Q E s := by
  obtain ⟨hp, g, d, tk, os⟩ := s
  have hT : ∀ tk', (⟨hp, g, d, tk', os⟩ : Shared).TypeIs (.ref a) "list" := fun _ => ⟨_, hx, rfl⟩
  have f1 := sub_AttributeError
  have f3 := F.slot_list_getattribute.lookup
  have f4 := F.slot_list_getattribute.bind (.ref a)
  have f5 := am_list_getattr_none
  unfold getAttr? getAttrBy? getAttrBy
  repeat (any_goals (first | assumption | exact hT _ | ((with_reducible show wpAny _ _ (call (Value.builtin "list.__getattribute__") _ _) _ _ _); refine call_meets F.slot_list_getattribute (hT _) am_entry_list_getattribute (F.args_list_getattribute_2 _ _) (meets_getattribute_miss_list a xs k #[] "keys" _ C8 (by decide +kernel) (by decide +kernel)) ⟨hx, hA, fun h₁ tk₁ e₁ hx₁ => ?_⟩) | wp_step))
  obtain ⟨t', u', he⟩ := hx₁.there
  have hTe : ∀ tk', (⟨h₁, g, d, tk', os⟩ : Shared).TypeIs (.ref e₁) "AttributeError" := fun _ => ⟨_, he, rfl⟩
  show wpAny _ _ (getattributeRaised _ _ _ _ _ _ _) _ _ _
  unfold getattributeRaised
  refine wpAny_bind (wpAny_isInstance (hTe _) f1 ?_)
  simp only [if_true]
  show wpAny _ _ (hookBehind _ _ >>= _) _ _ _
  refine wpAny_bind (wpAny_of_eq (show hookBehind (.type "list") none = pure none from f5) ?_)
  show wpAny _ _ (throw _) _ _ _
  refine wpAny_throw ?_
  show wpAny _ _ (isInstance _ _ >>= _) _ _ _
  refine wpAny_bind (wpAny_isInstance (hTe _) f1 ?_)
  simp only [if_true]
  exact wpAny_pure (h h₁ _ hx₁.keeps)
end
end Mine
end
section
set_option maxRecDepth 100000
namespace Mine
open PySem PySem.Calls PyProof.Rows PySem.W
section
variable {prog : Program} {w : World} {A : Around} {E : Value → Shared → Prop} {fz : List Addr} {μ : MH} {s : Shared} {Q : MQ} {d : Nat}
noncomputable def PairAt (h : Heap) (x : Value) (kv : Int × Value) : Prop := ∃ a t n, x = .ref a ∧ h.get? a = some { cls := .type "tuple", data := .seq #[.int kv.1 t, kv.2] n }
noncomputable def storedAll (acc ps : List (Int × Value)) : List (Int × Value) := ps.foldl (fun d kv => stored d kv.1 kv.2) acc
theorem Pv {kvs : List (Int × Value)} {k : Int} {v : Value} : (stored kvs k v).length ≤ kvs.length + 1 := by
  unfold stored; split <;> simp
theorem Am {R : Result → Shared → Prop} {I l D : Addr} {items : Array Value} (hh : A.handled = none) (hDI : D ≠ I) (hDl : D ≠ l) (hIl : l ≠ I) :
    ∀ (ps : List (Int × Value)) (i : Nat) (acc : List (Int × Value)) (s : Shared), items.size = i + ps.length → s.heap.IsListIter I l i → s.heap.IsList l items → (∀ (j : Nat) (kv : Int × Value), ps[j]? = some kv → ∃ x, items[i + j]? = some x ∧ PairAt s.heap x kv) →
      s.heap.DictOf (intKind prog w) D acc → acc.length + ps.length ≤ sizeLine →
      (∀ h' tk, h'.DictOf (intKind prog w) D (storedAll acc ps) → (∀ b o, b ≠ D → b ≠ I → s.heap.get? b = some o → h'.get? b = some o) → R (.ok (.ret .none)) { s with heap := h', toks := tk }) →
      codeAny (model prog w) A (.builtin "dict.update.loop" ⟨[.ref D, .ref I, .int i 0, .none], []⟩) R s
  | [], i, acc, s, hn, hit, hl, hp, hd, hsz, hR => by
    refine codeAny_builtin K4 ?_
    rw [Around.under_plainId Yy _]
    show wpAny _ A.in1 (pyNext (.ref I) >>= _) _ _ s
    have hnone : items[i]? = none := by simp at hn; simp [hn]
    refine wpAny_bind (wpAny_pyNext_list_end (A := A.in1) hh hit hl hnone fun h' he => ?_)
    show wpAny _ _ (Builtin.Dict.addKeywords D [] >>= _) _ _ _
    refine wpAny_bind (wpAny_pure (wpAny_pure ?_))
    have k : ∀ b o, b ≠ I → s.heap.get? b = some o → h'.get? b = some o := fun b o hb e => he b o hb e
    refine hR h' s.toks ?_ (fun b o h1 h2 e => k b o h2 e)
    obtain ⟨o, es, ep, ho, r⟩ := hd
    exact ⟨o, es, ep, k _ _ hDI ho, r⟩
  | kv :: ps, i, acc, s, hn, hit, hl, hp, hd, hsz, hR => by
    obtain ⟨x, hx, a, t, n, rfl, ha⟩ := hp 0 kv rfl
    rw [Nat.add_zero] at hx
    refine codeAny_builtin K4 ?_
    rw [Around.under_plainId Yy _]
    show wpAny _ A.in1 (pyNext (.ref I) >>= _) _ _ s
    refine wpAny_bind (wpAny_pyNext_list_item (A := A.in1) hit hl hx fun h₁ hit₁ hs₁ => ?_)
    have aI : a ≠ I := fun e => by obtain ⟨o, ho, hc, _⟩ := hit; rw [← e, ha] at ho; cases ho; simp at hc
    have ha₁ := (hs₁.2 a aI).trans ha
    show wpAny _ _ (holding [.ref a] _ >>= _) _ _ _
    refine wpAny_bind (wpAny_holding ?_)
    refine wpAny_bind (m := Sem.tryCatch (Builtin.Dict.pairItems (.ref a)) _) ?_
    refine wpAny_tryCatch ?_
    unfold Builtin.Dict.pairItems
    refine wpAny_bind (wpAny_typeOf (T := "tuple") ⟨_, ha₁, rfl⟩ ?_)
    rw [if_pos (by decide)]
    refine wpAny_bind (wpAny_seqItems ha₁ rfl (wpAny_pure ?_))
    show wpAny _ _ (holding [.int kv.1 t, kv.2] (dictSet D (.int kv.1 t) kv.2)) _ _ _
    have hd₁ : h₁.DictOf (intKind prog w) D acc := by
      obtain ⟨o, es, ep, ho, r⟩ := hd
      exact ⟨o, es, ep, (hs₁.2 D hDI).trans ho, r⟩
    simp only [List.length_cons] at hsz hn
    refine wpAny_holding (wpAny_dictSet_pairs (intKind_is prog w kv.1 t) hd₁ (fun h₂ hd₂ hs₂ => ?_) (by lia))
    refine wpAny_pure ⟨plainId_quiet Yy _, ?_⟩
    have k2 : ∀ b o, b ≠ D → b ≠ I → s.heap.get? b = some o → h₂.get? b = some o := fun b o h1 h2 e => (hs₂.2 b h1).trans ((hs₁.2 b h2).trans e)
    have hI2 : h₂.IsListIter I l (i + 1) := by
      obtain ⟨o, ho, r⟩ := hit₁
      exact ⟨o, (hs₂.2 I (Ne.symm hDI)).trans ho, r⟩
    have hl2 : h₂.IsList l items := by
      obtain ⟨o, ho, r⟩ := hl
      exact ⟨o, k2 l o (Ne.symm hDl) hIl ho, r⟩
    have key := Am (R := R) (items := items) hh hDI hDl hIl ps (i + 1) (stored acc kv.1 kv.2) { s with heap := h₂, toks := s.toks + 1 } (by lia) hI2 hl2 (fun j kv' hj => ?_) hd₂
      (by have := Pv (kvs := acc) (k := kv.1) (v := kv.2); lia) (fun h' tk hd' hk' => hR h' tk hd' fun b o h1 h2 e => hk' b o h1 h2 (k2 b o h1 h2 e))
    · simpa [rawInt] using key
    · obtain ⟨x', hx', a', t', n', rfl, ha'⟩ := hp (j + 1) kv' (by simpa using hj)
      have aI' : a' ≠ I := fun e => by obtain ⟨o, ho, hc, _⟩ := hit; rw [← e, ha'] at ho; cases ho; simp at hc
      have aD' : a' ≠ D := fun e => by obtain ⟨o, es, ep, ho, hc, _⟩ := hd; rw [← e, ha'] at ho; cases ho; exact absurd hc.1 (by simp)
      exact ⟨_, by rw [← hx']; congr 1; lia, a', t', n', rfl, k2 _ _ aD' aI' ha'⟩
theorem pairs_at {h : Heap} : ∀ {l : List MV} {vs : List Value} {ps : List (Int × MV)}, RepVs h l vs → pairsI l = some ps → ∃ kvs : List (Int × Value), RepKV h ps kvs ∧ kvs.length = l.length ∧ ∀ (j : Nat) (kv : Int × Value), kvs[j]? = some kv → ∃ x, vs[j]? = some x ∧ PairAt h x kv
  | [], [], ps => fun _ e => by simp [pairsI] at e; subst e; exact ⟨[], trivial, rfl, fun j kv e => by simp at e⟩
  | m :: l, v :: vs, ps => fun r e => by
    simp only [RepVs] at r
    unfold pairsI at e
    rw [List.mapM_cons] at e
    simp only [Option.bind_eq_bind, Option.bind_eq_some_iff, Option.pure_def, Option.some.injEq] at e
    obtain ⟨p, e1, ps', e2, rfl⟩ := e
    obtain ⟨kvs, h1, h2, h3⟩ := pairs_at r.2 e2
    have : ∃ k x, m = .tup [.int k, x] ∧ p = (k, x) := by
      split at e1
      · rename_i k x; cases e1; exact ⟨k, x, rfl, rfl⟩
      · cases e1
    obtain ⟨k, x, rfl, rfl⟩ := this
    have r1 := r.1
    simp only [RepV] at r1
    obtain ⟨a, us, n, rfl, ha, hu⟩ := r1
    match us, hu with
    | [u1, u2], hu =>
      simp only [RepVs, RepV, and_true] at hu
      obtain ⟨⟨t, rfl⟩, hx⟩ := hu
      refine ⟨(k, u2) :: kvs, by simp only [RepKV]; exact ⟨trivial, hx, h1⟩, by simp [h2], fun j kv hj => ?_⟩
      cases j with
      | zero => simp at hj; subst hj; exact ⟨_, rfl, a, t, n, rfl, ha⟩
      | succ j => exact h3 j kv (by simpa using hj)
    | [], hu => simp [RepVs] at hu
    | [_], hu => simp [RepVs] at hu
    | _ :: _ :: _ :: _, hu => simp [RepVs] at hu
  | [], _ :: _, _ => fun r _ => by simp [RepVs] at r
  | _ :: _, [], _ => fun r _ => by simp [RepVs] at r
theorem Ul {h : Heap} : ∀ {ps : List (Int × MV)} {kvs : List (Int × Value)} {acc : List (Int × MV)} {acc' : List (Int × Value)}, RepKV h ps kvs → RepKV h acc acc' → RepKV h (ps.foldl (fun d kv => putI d kv.1 kv.2) acc) (storedAll acc' kvs)
  | [], [], _, _ => fun _ r => r
  | p :: ps, k :: kvs, acc, acc' => fun x r => by
    simp only [RepKV] at x
    simp only [List.foldl_cons, storedAll]
    rw [x.1]
    exact Ul x.2.2 (Fr k.1 x.2.1 r)
  | [], _ :: _, _, _ => fun x _ => by simp [RepKV] at x
  | _ :: _, [], _, _ => fun x _ => by simp [RepKV] at x
theorem F1 {a : Addr} {l : List MV} {ps : List (Int × MV)} (r : RepH prog w μ s.heap) (f : FzIn fz μ) (q : μ a = some (.list l)) (e : pairsI l = some ps) (hn : fits l.length) (hA : A.handled = none) (hm : sysModules < s.heap.objs.size)
    (h : allocM fz μ (.idict (ps.foldl (fun d kv => putI d kv.1 kv.2) [])) fun c μ' => Q (.ref c) μ') :
    wpAny (model prog w) A (call (.type "dict") [.ref a]) (PostV prog w fz μ s Q) E s := by
  obtain ⟨vs, ⟨n, ha⟩, hv⟩ := r a _ q
  obtain ⟨kvs, hk, hkl, hp⟩ := pairs_at hv e
  have hvl := hv.length
  have hfit := Y0 hn
  refine callType_codes (Q₁ := fun obj s₁ => obj = .ref s.heap.objs.size ∧ s₁ = { s with heap := s.heap.push { cls := .type "dict", data := .dict #[] } }) F.kt_called_dict (F.kt_typeCall_dict_1 _) F.entry_dict_init (kt_code_dict_new _ ⟨rfl, rfl⟩) ?_
  rintro obj s₁ ⟨rfl, rfl⟩
  have hnew : (s.heap.push { cls := .type "dict", data := .dict #[] }).DictOf (intKind prog w) s.heap.objs.size [] := Heap.DictOf.new s.heap
  have push1 : ∀ b o, s.heap.get? b = some o → (s.heap.push { cls := .type "dict", data := .dict #[] }).get? b = some o := fun b o e => Heap.get?_push_of_some _ e
  refine ⟨hnew.typeIs, F.args_dict_init_2 _ _, ?_⟩
  unfold Builtin.«dict.__init__»
  refine wpAny_bind ?_
  unfold Builtin.Dict.selfAndRest
  refine wpAny_bind (wpAny_notOrdered_dict hnew.typeIs ?_)
  show wpAny _ _ (pure (s.heap.objs.size, [Value.ref a])) _ _ _
  refine wpAny_pure ?_
  show wpAny _ _ (Builtin.Dict.updateFrom "dict.__init__" s.heap.objs.size (.ref a) [] .none) _ _ _
  unfold Builtin.Dict.updateFrom
  refine wpAny_bind (wpAny_typeOf (T := "list") ⟨_, push1 _ _ ha, rfl⟩ ?_)
  rw [if_pos (by decide)]
  refine wpAny_bind (V9 (push1 _ _ ha) hA fun h₁ tk₁ k₁ => ?_)
  simp only [Option.isNone_none, if_true]
  refine wpAny_bind (wpAny_rule ?_)
  have hl₁ : h₁.IsList a vs.toArray := ⟨_, k₁ _ _ (push1 _ _ ha), rfl, n, rfl⟩
  refine wpAny_bind (wpAny_pyIter_list hl₁ ?_)
  have push2 : ∀ b o, h₁.get? b = some o → (h₁.push { cls := .type "list_iterator", data := .fields #[.ref a, .int 0 0] }).get? b = some o := fun b o e => Heap.get?_push_of_some _ e
  have lt1 : s.heap.objs.size < h₁.objs.size := by
    obtain ⟨o, es, ep, ho, _⟩ := hnew
    exact Heap.lt_size (k₁ _ _ ho)
  have lta : a < s.heap.objs.size := Heap.lt_size ha
  refine wpAny_pure ⟨plainId_quiet Yy _, Am (A := A.in1) (items := vs.toArray) (l := a) hA (Nat.ne_of_lt lt1) (Nat.ne_of_gt lta) (Nat.ne_of_lt (Nat.lt_trans lta lt1)) kvs 0 [] _ (by simp; simp [*]) ?_ ?_ ?_ ?_ (by simp; simp [*]) ?_⟩
  · exact ⟨_, Heap.get?_push_size _ rfl, rfl, rfl⟩
  · exact ⟨_, push2 _ _ (k₁ _ _ (push1 _ _ ha)), rfl, n, rfl⟩
  · intro j kv hj
    obtain ⟨x, hx, b, t, m, rfl, hb⟩ := hp j kv hj
    exact ⟨_, by simpa using hx, b, t, m, rfl, push2 _ _ (k₁ _ _ (push1 _ _ hb))⟩
  · obtain ⟨o, es, ep, ho, r⟩ := hnew
    exact ⟨o, es, ep, push2 _ _ (k₁ _ _ ho), r⟩
  · intro h' tk hd' k'
    have kall : ∀ b o, s.heap.get? b = some o → h'.get? b = some o := fun b o e => by
      have hlt := Heap.lt_size e
      exact k' b o (Nat.ne_of_lt hlt) (Nat.ne_of_lt (Nat.lt_trans hlt lt1)) (push2 _ _ (k₁ _ _ (push1 _ _ e)))
    refine ⟨rfl, Zg h r f (Za _) kall ⟨_, hd', Ul (hk.keepT (.of_all kall)) trivial, ?_⟩⟩
    have : s.heap.objs.size ≠ sysModules := Nat.ne_of_gt hm
    simpa using this
theorem H9 {a : Addr} {l : List (Int × MV)} (r : RepH prog w μ s.heap) (f : FzIn fz μ) (q : μ a = some (.idict l)) (hn : fits l.length) (hm : sysModules < s.heap.objs.size)
    (h : allocM fz μ (.idict l) fun c μ' => Q (.ref c) μ') : wpAny (model prog w) A (call (.type "dict") [.ref a]) (PostV prog w fz μ s Q) E s := by
  obtain ⟨kvs, hd, hk, hs⟩ := r a _ q
  have hl := hk.length
  refine kt_call_dict hs hd (by have := Y0 hn; simp [*]) fun h' hd' hs' => ?_
  have kall : ∀ b o, s.heap.get? b = some o → h'.get? b = some o := fun b o e => (hs'.2 b (Nat.ne_of_lt (Heap.lt_size e))).trans (Heap.get?_push_of_some _ e)
  refine Zg (tk := s.toks) h r f (Za _) kall ⟨_, hd', hk.keepT (.of_all kall), ?_⟩
  have : s.heap.objs.size ≠ sysModules := Nat.ne_of_gt hm
  simpa using this
end
end Mine
end
section
set_option maxRecDepth 100000
namespace Mine
open PySem PySem.Calls PyProof.Rows PySem.W
section
variable {prog : Program} {w : World} {A : Around} {E : Value → Shared → Prop} {fz : List Addr} {μ : MH} {s : Shared} {Q : MQ} {d : Nat}
theorem op_isinst {t : TY} {v : MV} {x : Value} {b : Bool} (hv : RepV s.heap v x) (r : RepH prog w μ s.heap) (e : isTy μ t v = some b) {Q : Value → Shared → Prop} (h : ∀ s', Still s s' → Q (.bool b) s') :
    wpAny (model prog w) A (call (.builtin "isinstance") [x, .type (tyName t)]) Q E s := by
  cases v with
  | none =>
    obtain rfl := Option.some.inj e; obtain rfl : x = .none := hv
    cases t
    · exact IsiPair.NoneType_int (h _ ⟨rfl, rfl, rfl⟩)
    · exact IsiPair.NoneType_bool (h _ ⟨rfl, rfl, rfl⟩)
    · exact IsiPair.NoneType_str (h _ ⟨rfl, rfl, rfl⟩)
    · exact IsiPair.NoneType_tuple (h _ ⟨rfl, rfl, rfl⟩)
    · exact IsiPair.NoneType_list (h _ ⟨rfl, rfl, rfl⟩)
    · exact IsiPair.NoneType_dict (h _ ⟨rfl, rfl, rfl⟩)
  | bool bb =>
    obtain rfl := Option.some.inj e; obtain rfl : x = .bool bb := hv
    cases t
    · exact IsiPair.bool_int (h _ ⟨rfl, rfl, rfl⟩)
    · exact IsiPair.bool_bool (h _ ⟨rfl, rfl, rfl⟩)
    · exact IsiPair.bool_str (h _ ⟨rfl, rfl, rfl⟩)
    · exact IsiPair.bool_tuple (h _ ⟨rfl, rfl, rfl⟩)
    · exact IsiPair.bool_list (h _ ⟨rfl, rfl, rfl⟩)
    · exact IsiPair.bool_dict (h _ ⟨rfl, rfl, rfl⟩)
  | int ii =>
    obtain rfl := Option.some.inj e; obtain ⟨u, rfl⟩ := hv
    cases t
    · exact IsiPair.int_int (h _ ⟨rfl, rfl, rfl⟩)
    · exact IsiPair.int_bool (h _ ⟨rfl, rfl, rfl⟩)
    · exact IsiPair.int_str (h _ ⟨rfl, rfl, rfl⟩)
    · exact IsiPair.int_tuple (h _ ⟨rfl, rfl, rfl⟩)
    · exact IsiPair.int_list (h _ ⟨rfl, rfl, rfl⟩)
    · exact IsiPair.int_dict (h _ ⟨rfl, rfl, rfl⟩)
  | str ss =>
    obtain rfl := Option.some.inj e; obtain ⟨u, rfl⟩ := hv
    cases t
    · exact IsiPair.str_int (h _ ⟨rfl, rfl, rfl⟩)
    · exact IsiPair.str_bool (h _ ⟨rfl, rfl, rfl⟩)
    · exact IsiPair.str_str (h _ ⟨rfl, rfl, rfl⟩)
    · exact IsiPair.str_tuple (h _ ⟨rfl, rfl, rfl⟩)
    · exact IsiPair.str_list (h _ ⟨rfl, rfl, rfl⟩)
    · exact IsiPair.str_dict (h _ ⟨rfl, rfl, rfl⟩)
  | tup ll =>
    obtain rfl := Option.some.inj e; obtain ⟨a, vs, n, rfl, ho, _⟩ := hv
    cases t
    · exact IsiPair.tuple_int ho rfl (h _ ⟨rfl, rfl, rfl⟩)
    · exact IsiPair.tuple_bool ho rfl (h _ ⟨rfl, rfl, rfl⟩)
    · exact IsiPair.tuple_str ho rfl (h _ ⟨rfl, rfl, rfl⟩)
    · exact IsiPair.tuple_tuple ho rfl (h _ ⟨rfl, rfl, rfl⟩)
    · exact IsiPair.tuple_list ho rfl (h _ ⟨rfl, rfl, rfl⟩)
    · exact IsiPair.tuple_dict ho rfl (h _ ⟨rfl, rfl, rfl⟩)
  | ref a =>
    obtain rfl : x = .ref a := hv
    have dicts : ∀ o, s.heap.get? a = some o → o.cls = .type "dict" → b = decide (t = .dict) → wpAny (model prog w) A (call (.builtin "isinstance") [.ref a, .type (tyName t)]) Q E s := by
      intro o ho hc hb
      subst hb
      cases t
      · exact IsiPair.dict_int ho hc (h _ ⟨rfl, rfl, rfl⟩)
      · exact IsiPair.dict_bool ho hc (h _ ⟨rfl, rfl, rfl⟩)
      · exact IsiPair.dict_str ho hc (h _ ⟨rfl, rfl, rfl⟩)
      · exact IsiPair.dict_tuple ho hc (h _ ⟨rfl, rfl, rfl⟩)
      · exact IsiPair.dict_list ho hc (h _ ⟨rfl, rfl, rfl⟩)
      · exact IsiPair.dict_dict ho hc (h _ ⟨rfl, rfl, rfl⟩)
    replace e : isTyO t (μ a) = some b := e
    cases q : μ a with
    | none => rw [q] at e; cases e
    | some mo =>
      rw [q] at e
      cases mo with
      | list l =>
        obtain rfl := Option.some.inj e
        obtain ⟨vs, ⟨n, ho⟩, _⟩ := r a _ q
        cases t
        · exact IsiPair.list_int ho rfl (h _ ⟨rfl, rfl, rfl⟩)
        · exact IsiPair.list_bool ho rfl (h _ ⟨rfl, rfl, rfl⟩)
        · exact IsiPair.list_str ho rfl (h _ ⟨rfl, rfl, rfl⟩)
        · exact IsiPair.list_tuple ho rfl (h _ ⟨rfl, rfl, rfl⟩)
        · exact IsiPair.list_list ho rfl (h _ ⟨rfl, rfl, rfl⟩)
        · exact IsiPair.list_dict ho rfl (h _ ⟨rfl, rfl, rfl⟩)
      | idict l => obtain ⟨kvs, ⟨o, es, ep, ho, hc, _⟩, _⟩ := r a _ q; exact dicts o ho hc.1 (Option.some.inj e).symm
      | sdict l => obtain ⟨kvs, ⟨o, es, ep, ho, hc, _⟩, _⟩ := r a _ q; exact dicts o ho hc.1 (Option.some.inj e).symm
  | _ => cases e
theorem op_len {v : MV} {x : Value} (hv : RepV s.heap v x) (r : RepH prog w μ s.heap) (h : lenM v Q μ) : wpAny (model prog w) A (call (.builtin "len") [x]) (PostV prog w fz μ s Q) E s := by
  have f63 : ∀ {n : Nat}, fits n → (n : Int) < 2 ^ 63 := fun h => by unfold fits at h; lia
  cases v with
  | tup l =>
    obtain ⟨a, vs, n, rfl, ho, hr⟩ := hv
    have hl := hr.length
    refine P.len_tuple ho (by have := f63 h.1; simp; lia) ?_
    rw [show vs.toArray.size = l.length by simp [hl]]
    exact Xp h.2 r (by simp [RepV]) rfl rfl rfl
  | str st =>
    obtain ⟨t, rfl⟩ := hv
    exact P.len_str (by have := f63 h.1; lia) (Xp h.2 r (by simp [RepV]) rfl rfl rfl)
  | ref a =>
    obtain rfl : x = .ref a := hv
    replace h : lenO (μ a) fun n => Q (.int n) μ := h
    cases q : μ a with
    | none => rw [q] at h; exact False.elim h
    | some mo =>
      rw [q] at h
      cases mo with
      | list l =>
        obtain ⟨vs, h1, hr⟩ := r a _ q
        have hl := hr.length
        refine Calls.call_len_list h1.isList (by have := f63 h.1; simp; lia) ?_
        rw [show vs.toArray.size = l.length by simp [hl]]
        exact Xp h.2 r (by simp [RepV]) rfl rfl rfl
      | idict l =>
        obtain ⟨kvs, hd, hk, hs⟩ := r a _ q
        have hl := hk.length
        refine call_len_dict hs hd (by have := f63 h.1; lia) ?_
        rw [hl]
        exact Xp h.2 r (by simp [RepV]) rfl rfl rfl
      | sdict l =>
        obtain ⟨kvs, hd, hk, hs⟩ := r a _ q
        have hl := hk.length
        refine call_len_dict hs hd (by have := f63 h.1; lia) ?_
        rw [hl]
        exact Xp h.2 r (by simp [RepV]) rfl rfl rfl
  | _ => exact False.elim h
theorem op_min2 {x y : Int} {t u : Tok} (hA : A.handled = none) (r : RepH prog w μ s.heap) (h : Q (.int (min x y)) μ) : wpAny (model prog w) A (call (.builtin "min") [.int x t, .int y u]) (PostV prog w fz μ s Q) E s := by
  refine min_two_ints hA fun h' tk k => ?_
  by_cases c : y < x
  · rw [if_pos c]; exact Z8 h r k (by simp only [RepV]; exact ⟨u, by congr 1; lia⟩)
  · rw [if_neg c]; exact Z8 h r k (by simp only [RepV]; exact ⟨t, by congr 1; lia⟩)
theorem op_max2 {x y : Int} {t u : Tok} (hA : A.handled = none) (r : RepH prog w μ s.heap) (h : Q (.int (max x y)) μ) : wpAny (model prog w) A (call (.builtin "max") [.int x t, .int y u]) (PostV prog w fz μ s Q) E s := by
  refine max_two_ints hA fun h' tk k => ?_
  by_cases c : y > x
  · rw [if_pos c]; exact Z8 h r k (by simp only [RepV]; exact ⟨u, by congr 1; lia⟩)
  · rw [if_neg c]; exact Z8 h r k (by simp only [RepV]; exact ⟨t, by congr 1; lia⟩)
theorem op_list {v : MV} {x : Value} {l : List MV} (hA : A.handled = none) (hv : RepV s.heap v x) (r : RepH prog w μ s.heap) (f : FzIn fz μ) (e : items μ v = some l) (hn : fits l.length) (hns : ∀ st, v ≠ .str st)
    (h : allocM fz μ (.list l) fun c μ' => Q (.ref c) μ') : wpAny (model prog w) A (call (.type "list") [x]) (PostV prog w fz μ s Q) E s := by
  rcases dsrc_of r hv e with ⟨a, vs, n, rfl, ho, hr⟩ | ⟨st, t, rfl⟩ | ⟨da, ⟨T, p, n, P, OK, rfl, K, ok, rfl, hP⟩⟩
  · have hl := hr.length
    have fin : ∀ h' c', (∀ b o', s.heap.get? b = some o' → h'.get? b = some o') → h'.get? s.heap.objs.size = some { cls := .type "list", dict := none, data := .seq vs.toArray c', slots := #[] } → PostV prog w fz μ s Q (.ref s.heap.objs.size) { s with heap := h' } :=
      fun h' c' k hg => Zg (tk := s.toks) h r f (Za _) k ⟨vs, ⟨c', hg⟩, hr.keepT (.of_all k)⟩
    rcases ho with ho | ho
    · exact call_list_seq a (.inl rfl) ho rfl rfl fin (by have := Y0 hn; simp; simp [*])
    · exact call_list_seq a (.inr rfl) ho rfl rfl fin (by have := Y0 hn; simp; simp [*])
  · cases v <;> simp [RepV] at hv
    exact absurd rfl (hns _)
  · refine kdl_call K hA ok (Y0 hn) fun h' tk acc c k hg ha => Zg h r f (Za _) k ⟨acc.toList, ⟨c, by simpa using hg⟩, U2 (by rw [Array.length_toList]; exact ha.1) fun j u hj => ?_⟩
    exact hP j u (ha.2 j u (by rw [← Array.getElem?_toList]; exact hj)) h' (.of_all k)
end
end Mine
end
section
set_option maxRecDepth 100000
namespace Mine
open PySem PySem.Calls PyProof.Rows PySem.W
section
variable {prog : Program} {w : World} {A : Around} {E : Value → Shared → Prop} {fz : List Addr} {μ : MH} {s : Shared} {Q : MQ} {d : Nat}
theorem G8 {v : MV} (h : isStrV v = false) : ∀ st, v ≠ .str st := fun st e => by subst e; simp [isStrV] at h
theorem Bm {h : Heap} : ∀ {l : List MV} {vs : List Value} {ns : List Str}, RepVs h l vs → strsOf l = some ns → StrsAre vs ns
  | [], [], ns => fun _ e => by simp [strsOf] at e; subst e; exact .nil
  | m :: l, v :: vs, ns => fun r e => by
    simp only [RepVs] at r
    unfold strsOf at e
    rw [List.mapM_cons] at e
    simp only [Option.bind_eq_bind, Option.bind_eq_some_iff, Option.pure_def, Option.some.injEq] at e
    obtain ⟨i, e1, ns', e2, rfl⟩ := e
    cases m <;> simp at e1
    subst e1
    simp only [RepV] at r
    obtain ⟨⟨t, rfl⟩, hr⟩ := r
    exact .cons _ t (Bm hr e2)
  | [], _ :: _, _ => fun r _ => by simp [RepVs] at r
  | _ :: _, [], _ => fun r _ => by simp [RepVs] at r
noncomputable def MethOk (prog : Program) (w : World) (s : Shared) (name : Str) (ov : Value) (id : String) : Prop :=
  ∃ T, PlainAttrs T ∧ Slot T name id ∧ typeOf (.builtin id) = pure (.type "method_descriptor") ∧ s.TypeIs ov T ∧ (∀ a, ov = .ref a → ∃ ob, s.heap.get? a = some ob ∧ ob.dict = none)
theorem ty_append : typeOf (.builtin "list.append") = pure (.type "method_descriptor") := by show builtinType _ = _; rw [builtinType_eq_fast]; kernel_rfl
theorem ty_keys : typeOf (.builtin "dict.keys") = pure (.type "method_descriptor") := by show builtinType _ = _; rw [builtinType_eq_fast]; kernel_rfl
theorem ty_split : typeOf (.builtin "str.split") = pure (.type "method_descriptor") := by show builtinType _ = _; rw [builtinType_eq_fast]; kernel_rfl
theorem ty_join : typeOf (.builtin "str.join") = pure (.type "method_descriptor") := by show builtinType _ = _; rw [builtinType_eq_fast]; kernel_rfl
noncomputable def methId : MM → String
  | .append => "list.append" | .extend => "list.extend" | .keys => "dict.keys" | .values => "dict.values" | .get2 => "dict.get" | .join => "str.join"
  | .pop2 => "dict.pop" | .clear => "dict.clear" | .update => "dict.update" | .count => "list.count" | .index => "list.index" | .split => "str.split"
theorem meth_ok {m : MM} {o : MV} {x : Value} (hv : RepV s.heap o x) (r : RepH prog w μ s.heap) (e : mmKind m μ o = true) : MethOk prog w s (Str.ofString (mmName m)) x (methId m) := by
  have lists : ∀ a, isListO (μ a) = true → s.TypeIs (.ref a) "list" ∧ (∀ b, Value.ref a = .ref b → ∃ ob, s.heap.get? b = some ob ∧ ob.dict = none) := by
    intro a q
    obtain ⟨l, q⟩ := isListO_inv q
    obtain ⟨vs, ⟨n, ho⟩, _⟩ := r a _ q
    exact ⟨⟨_, ho, rfl⟩, fun b e => by cases e; exact ⟨_, ho, rfl⟩⟩
  have dicts : ∀ a, isDictO (μ a) = true → s.TypeIs (.ref a) "dict" ∧ (∀ b, Value.ref a = .ref b → ∃ ob, s.heap.get? b = some ob ∧ ob.dict = none) := by
    intro a q
    rcases At q with ⟨l, hq⟩ | ⟨l, hq⟩
    · obtain ⟨kvs, ⟨o, es, ep, ho, hc, _⟩, _⟩ := r a _ hq
      exact ⟨⟨_, ho, hc.1⟩, fun b e => by cases e; exact ⟨_, ho, hc.2.1⟩⟩
    · obtain ⟨kvs, ⟨o, es, ep, ho, hc, _⟩, _⟩ := r a _ hq
      exact ⟨⟨_, ho, hc.1⟩, fun b e => by cases e; exact ⟨_, ho, hc.2.1⟩⟩
  cases m with
  | append => replace e := refB_inv e; obtain ⟨a, rfl, e⟩ := e; obtain rfl : x = .ref a := hv; exact ⟨_, F.plainAttrs_list, F.slot_list_append, ty_append, lists a e⟩
  | keys => replace e := refB_inv e; obtain ⟨a, rfl, e⟩ := e; obtain rfl : x = .ref a := hv; exact ⟨_, F.plainAttrs_dict, F.slot_dict_keys, ty_keys, dicts a e⟩
  | join => replace e := Cm e; obtain ⟨y, rfl⟩ := e; obtain ⟨t, rfl⟩ := hv; exact ⟨_, F.plainAttrs_str, F.slot_str_join, ty_join, typeIs_str _ _ _, fun b e => by cases e⟩
  | split => replace e := Cm e; obtain ⟨y, rfl⟩ := e; obtain ⟨t, rfl⟩ := hv; exact ⟨_, F.plainAttrs_str, F.slot_str_split, ty_split, typeIs_str _ _ _, fun b e => by cases e⟩
  | _ => exact (Bool.false_ne_true e).elim
theorem RepVs.none {h : Heap} {vs : List Value} (r : RepVs h [] vs) : vs = [] := by
  cases vs with
  | nil => rfl
  | cons _ _ => exact False.elim r
theorem RepVs.one {h : Heap} {m : MV} {vs : List Value} (r : RepVs h [m] vs) : ∃ v, vs = [v] ∧ RepV h m v := by
  cases vs with
  | nil => exact False.elim r
  | cons v vs => obtain rfl := RepVs.none r.2; exact ⟨v, rfl, r.1⟩
theorem RepVs.two {h : Heap} {m n : MV} {vs : List Value} (r : RepVs h [m, n] vs) : ∃ v u, vs = [v, u] ∧ RepV h m v ∧ RepV h n u := by
  cases vs with
  | nil => exact False.elim r
  | cons v vs => obtain ⟨u, rfl, ru⟩ := RepVs.one r.2; exact ⟨v, u, rfl, r.1, ru⟩
theorem Bs {h : Heap} : ∀ {k : Nat} {l : List Str}, RepVs h (l.map .str) (strsFrom k l)
  | _, [] => trivial
  | k, _ :: _ => ⟨⟨k, rfl⟩, Bs⟩
theorem op_split {x y : Str} {t u : Tok} (hy : y.length = 1) (hf : fits (x.length + 2)) (h : allocM fz μ (.list ((Txt.split x y).map .str)) fun c μ' => Q (.ref c) μ') (r : RepH prog w μ s.heap) (f : FzIn fz μ) :
    wpAny (model prog w) A (call (.builtin "str.split") [.str x t, .str y u]) (PostV prog w fz μ s Q) E s := by
  have hy0 : (y.length == 0) = false := by rw [hy]; rfl
  have fl := Y0 hf
  have hsz : x.length ≤ sizeLine := Nat.le_trans (Nat.le_add_right ..) fl
  have one : [x] = Txt.split x y → PostV prog w fz μ s Q (.ref s.heap.objs.size) { s with heap := s.heap.push { cls := .type "list", data := .seq [Value.str x t].toArray } } := fun e => by
    rw [← e] at h
    exact Zj (tk := s.toks) h r f ⟨[.str x t], ⟨_, Heap.get?_push_size _ rfl⟩, ⟨t, rfl⟩, trivial⟩
  cases h1 : (decide (x.length < y.length) || decide (PySem.Builtin.Str.strKind x < PySem.Builtin.Str.strKind y))
  · cases he : (PySem.Builtin.Str.occurrences x y 0 x.length (x.length + 1)).isEmpty
    · have e : PySem.Builtin.Str.partsBetween x (PySem.Builtin.Str.occurrences x y 0 x.length (x.length + 1)) y.length = Txt.split x y := ((if_neg (ne_true_of_eq_false h1)).trans (if_neg (ne_true_of_eq_false he))).symm
      refine call_meets F.slot_str_split (typeIs_str _ _ _) F.entry_str_split (F.args_str_split_2 _ _) (meets_str_split_sep x y t u h1 hy0 he hsz (by rw [e]; exact Nat.le_trans (split_le x y) fl)) ?_
      rw [e]
      exact Zj h r f ⟨_, ⟨_, Heap.get?_push_size _ rfl⟩, Bs⟩
    · exact call_meets F.slot_str_split (typeIs_str _ _ _) F.entry_str_split (F.args_str_split_2 _ _) (meets_str_split_not_found x y t u h1 hy0 he) (one ((if_neg (ne_true_of_eq_false h1)).trans (if_pos he)).symm)
  · exact call_meets F.slot_str_split (typeIs_str _ _ _) F.entry_str_split (F.args_str_split_2 _ _) (meets_str_split_cannot_occur x y t u h1) (one (if_pos h1).symm)
theorem op_meth {m : MM} {o : MV} {x : Value} {args : List MV} {vals : List Value} (hA : OkA d A) (hv : RepV s.heap o x) (ha : RepVs s.heap args vals) (r : RepH prog w μ s.heap) (f : FzIn fz μ) (h : methM fz m o args Q μ) :
    wpAny (model prog w) A (call (.builtin (methId m)) (x :: vals)) (PostV prog w fz μ s Q) E s := by
  cases m with
  | append =>
    replace h := V4 h; obtain ⟨a, rfl, h⟩ := h
    replace h := Ko h; obtain ⟨v, rfl, l, q, hf, hn, h⟩ := h
    obtain rfl : x = .ref a := hv
    replace ha := ha.one; obtain ⟨y, rfl, ha⟩ := ha
    obtain ⟨vs, h1, hr⟩ := r a _ q
    have hl := hr.length
    refine wpAny_list_append_plain h1 (fun h' hp hs => ?_) (by have := Y0 hn; rw [List.size_toArray, hl]; assumption)
    have k : ∀ b o, b ≠ a → s.heap.get? b = some o → h'.get? b = some o := fun b o hb e => (hs.2 b hb).trans e
    refine ⟨.none, _, h, rfl, r.update q k fun kt => ⟨vs ++ [y], by simpa using hp, (hr.append (m' := [v]) (v' := [y]) ⟨ha, trivial⟩).keepT kt⟩, ?_⟩
    exact Grow.update (tk := s.toks) q hf k
  | keys =>
    replace h := V4 h; obtain ⟨a, rfl, h⟩ := h
    replace h := a0_inv h; obtain ⟨rfl, hk, h⟩ := h
    obtain rfl : x = .ref a := hv
    obtain rfl := ha.none
    rcases At hk with ⟨l, q⟩ | ⟨l, q⟩
    · obtain ⟨kvs, hd, hk, hs⟩ := r a _ q
      exact call_meetsIn F.slot_dict_keys hd.typeIs F.entry_dict_keys (F.args_dict_keys_1 _) (kdl_meets_keys (intKind prog w) a hs) ⟨⟨_, hd⟩, Z8 h r (fun b o e => Heap.get?_push_of_some _ e) ⟨_, rfl, _, Heap.get?_push_size _ rfl, rfl, rfl⟩⟩
    · obtain ⟨kvs, hd, hk, hs⟩ := r a _ q
      exact call_meetsIn F.slot_dict_keys hd.typeIs F.entry_dict_keys (F.args_dict_keys_1 _) (kdl_meets_keys (strKind prog w) a hs) ⟨⟨_, hd⟩, Z8 h r (fun b o e => Heap.get?_push_of_some _ e) ⟨_, rfl, _, Heap.get?_push_size _ rfl, rfl, rfl⟩⟩
  | join =>
    replace h := Bn h; obtain ⟨x', rfl, h⟩ := h
    replace h := Ko h; obtain ⟨v, rfl, h⟩ := h
    replace h := V4 h; obtain ⟨a, rfl, l, ss, hl, hss, hx, hw, h⟩ := h
    obtain ⟨t, rfl⟩ := hv
    replace ha := ha.one; obtain ⟨y, rfl, ha⟩ := ha
    obtain rfl : y = .ref a := ha
    obtain ⟨vs, h1, hr, _⟩ := U5 r hl
    exact join_listW h1.isList (by simpa using Bm hr hss) hx hw fun t' k => Xp h r ⟨t', rfl⟩ rfl rfl rfl
  | split =>
    replace h := Bn h; obtain ⟨x', rfl, h⟩ := h
    replace h := Ko h; obtain ⟨v, rfl, h⟩ := h
    replace h := Bn h; obtain ⟨y', rfl, hy, hf, h⟩ := h
    obtain ⟨t, rfl⟩ := hv
    replace ha := ha.one; obtain ⟨z, rfl, ha⟩ := ha
    obtain ⟨u, rfl⟩ := ha
    exact op_split hy hf h r f
  | _ => exact False.elim h
end
end Mine
end
section
set_option maxRecDepth 100000
namespace Mine
open PySem PySem.Calls PyProof.Rows PySem.W
section
variable {prog : Program} {w : World} {A : Around} {E : Value → Shared → Prop} {fz : List Addr} {μ : MH} {s : Shared} {d : Nat}
inductive PostS (prog : Program) (w : World) (fz : List Addr) (μ : MH) (s : Shared) (Q : MH → Prop) (s' : Shared) : Prop
  | mk (μ' : MH) (q : Q μ') (r : RepH prog w μ' s'.heap) (g : Grow fz μ s μ' s')
theorem store_list {l : Addr} {items : Array Value} {n : Nat} {k : Int} {t : Tok} {v : Value} {j : Nat} {Q : Unit → Shared → Prop} (hl : s.heap.get? l = some { cls := .type "list", data := .seq items n })
    (hk : -(2 ^ 63) ≤ k ∧ k < 2 ^ 63) (hj : j < items.size) (hkj : k = j ∨ (k < 0 ∧ k + items.size = j))
    (hQ : Q () { s with heap := s.heap.update l (Obj.mapSeq (·.setIfInBounds j v)) }) : wpAny (model prog w) A (setItem (.ref l) (.int k t) v) Q E s := by
  have hL : s.heap.IsList l items := ⟨_, hl, rfl, n, rfl⟩
  unfold setItem
  try with_reducible refine wpAny_holding ?_
  first | refine wpAny_bind (wpAny_pure ?_) | skip
  refine wpAny_bind (wpAny_sequenceKey hL.typeIs (by decide) ?_)
  refine wpAny_bind (wpAny_callSpecial?_slot (name := Str.ofString "__setitem__") hL.typeIs slot_list_setitem
    (wpAny_call_entry slot_list_setitem hL.typeIs entry_list_setitem ?_ (args_list_setitem _ _ _)))
  show wpAny _ _ (Builtin.List.listSubscript? (.int k t) >>= _) _ _ s
  refine wpAny_bind (wpAny_listSubscript_int (by unfold Builtin.List.listFitsIndex; simp; assumption) ?_)
  have hx' : items[j]? = some items[j] := Array.getElem?_eq_getElem hj
  have fin : wpAny (model prog w) A.in1 (setSeqItemAt l j v) (fun _ s' => Q () s') E s := wpAny_setSeqItemAt hl rfl hQ
  cases k with
  | ofNat i =>
    have : i = j := by rcases hkj with h | h <;> simp at h <;> lia
    subst this
    show wpAny _ _ ((seqItemAt l i >>= fun r => pure (r.map (i, ·))) >>= _) _ _ s
    refine wpAny_bind (wpAny_bind (wpAny_seqItemAt hl rfl (wpAny_pure ?_)))
    rw [hx']
    show wpAny _ _ (setSeqItemAt l i v >>= _) _ _ s
    refine wpAny_bind (wpAny_mono fin (fun _ s' hq => ?_) fun _ _ e => e)
    first
      | exact wpAny_bind (wpAny_pure (wpAny_pure ⟨.none, rfl, wpAny_pure hq⟩))
      | exact wpAny_pure ⟨.none, rfl, wpAny_pure hq⟩
  | negSucc i =>
    have hidx : seqIndex? (Int.negSucc i) items.size = some j := by
      unfold seqIndex?
      have h1 : Int.negSucc i < 0 := Int.negSucc_lt_zero i
      have h2 : Int.negSucc i + items.size = j := by rcases hkj with h | h; · lia
                                                     · exact h.2
      simp only [h1, if_true, h2]
      simp; assumption
    show wpAny _ _ ((Builtin.List.listItems (.ref l) >>= fun xs => pure ((seqIndex? (Int.negSucc i) xs.size).bind fun i => xs[i]?.map (i, ·))) >>= _) _ _ s
    refine wpAny_bind (wpAny_bind ?_)
    show wpAny _ _ (seqItems? (.ref l) >>= _) _ _ s
    refine wpAny_bind (wpAny_seqItems hl rfl (wpAny_pure (wpAny_pure ?_)))
    rw [hidx]
    simp only [Option.bind_some, hx', Option.map_some]
    show wpAny _ _ (setSeqItemAt l j v >>= _) _ _ s
    refine wpAny_bind (wpAny_mono fin (fun _ s' hq => ?_) fun _ _ e => e)
    first
      | exact wpAny_bind (wpAny_pure (wpAny_pure ⟨.none, rfl, wpAny_pure hq⟩))
      | exact wpAny_pure ⟨.none, rfl, wpAny_pure hq⟩
theorem Fq {h : Heap} {m : MV} {v : Value} (hv : RepV h m v) : ∀ {l : List MV} {vs : List Value} (i : Nat), RepVs h l vs → RepVs h (l.set i m) (vs.set i v)
  | [], [], i => fun _ => trivial
  | _ :: _, _ :: _, 0 => fun x => by simp only [RepVs, List.set_cons_zero] at x ⊢; exact ⟨hv, x.2⟩
  | _ :: _, _ :: _, i + 1 => fun x => by simp only [RepVs, List.set_cons_succ] at x ⊢; exact ⟨x.1, Fq hv i x.2⟩
  | [], _ :: _, _ => fun x => by simp [RepVs] at x
  | _ :: _, [], _ => fun x => by simp [RepVs] at x
theorem op_set {o i v : MV} {x y z : Value} {Q : MH → Prop} (ho : RepV s.heap o x) (hi : RepV s.heap i y) (hv : RepV s.heap v z) (r : RepH prog w μ s.heap) (h : setM fz o i v Q μ) :
    wpAny (model prog w) A (setItem x y z) (fun _ s' => PostS prog w fz μ s Q s') E s := by
  replace h := V4 h; obtain ⟨a, rfl, hf, h⟩ := h
  obtain rfl : x = .ref a := ho
  cases q : μ a with
  | none => rw [q] at h; exact False.elim h
  | some mo =>
    rw [q] at h
    cases mo with
    | list l =>
      replace h := intV_inv h; obtain ⟨k, rfl, h⟩ := h
      obtain ⟨hn, l', hs, h⟩ := h
      obtain ⟨t, rfl⟩ := hi
      obtain ⟨vs, ⟨n, h1⟩, hr⟩ := r a _ q
      have hl := hr.length
      have hfit := Y0 hn
      have key : ∃ j, j < vs.length ∧ l' = l.set j v ∧ (k = j ∨ (k < 0 ∧ k + vs.length = j)) := by
        unfold setAt at hs
        split at hs
        · split at hs
          · cases hs; exact ⟨k.toNat, by simp [*], rfl, .inl (by lia)⟩
          · cases hs
        · split at hs
          · cases hs; exact ⟨(k + l.length).toNat, by lia, rfl, .inr ⟨by lia, by lia⟩⟩
          · cases hs
      obtain ⟨j, hj, rfl, hkj⟩ := key
      unfold fits at hn
      refine store_list h1 (by lia) (j := j) (by simpa using hj) (by simpa using hkj) ?_
      have kk : ∀ b o, b ≠ a → s.heap.get? b = some o → (s.heap.update a (Obj.mapSeq (·.setIfInBounds j z))).get? b = some o := fun b o hb e => (Heap.get?_update_other _ _ (Ne.symm hb)).trans e
      refine ⟨_, h, r.update q kk fun kt => ⟨vs.set j z, ?_, (Fq hv j hr).keepT kt⟩, Grow.update (tk := s.toks) q hf kk⟩
      have := Heap.get?_update_self (Obj.mapSeq (·.setIfInBounds j z)) h1 rfl
      refine ⟨n, ?_⟩
      rw [this]
      simp [Obj.mapSeq]
    | idict l =>
      replace h := intV_inv h; obtain ⟨k, rfl, h⟩ := h
      obtain ⟨hn, h⟩ := h
      obtain ⟨t, rfl⟩ := hi
      obtain ⟨kvs, hd, hk, hs⟩ := r a _ q
      have hl := hk.length
      refine wpAny_setItem_pairs (intKind_is prog w k t) hd (fun h' hd' hs' => ?_) (by have := Y0 hn; simp [*])
      have kk : ∀ b o, b ≠ a → s.heap.get? b = some o → h'.get? b = some o := fun b o hb e => (hs'.2 b hb).trans e
      exact ⟨_, h, r.update q kk fun kt => ⟨_, hd', (Fr k hv hk).keepT kt, hs⟩, Grow.update q hf kk⟩
    | sdict l => exact False.elim h
theorem eqAt_of {a b : MV} {x y : Value} {r' : Bool} (hA : OkA d A) (ha : RepV s.heap a x) (hb : RepV s.heap b y) (r : RepH prog w μ s.heap) (e : eqD μ a b = some r') : SeqAt.EqAt A.in1 s x y r' := by
  unfold eqD at e
  split at e
  · rename_i d1 d2 e1 e2
    cases e
    obtain ⟨as, a1, a2, a3⟩ := Yk r 9 a x d1 e1 ha
    obtain ⟨bs, b1, b2, b3⟩ := Yk r 9 b y d2 e2 hb
    exact SeqAt.eqAt_reads d1 d2 A.in1 s x y as bs a1 b1 a2 b2 (by have := hA.units; simp; lia)
  · cases e
theorem hits_of {K : Type} [DecidableEq K] (hA : OkA d A) (r : RepH prog w μ s.heap) {y : List (K × MV)} {kb : List (K × Value)} (hy : RepKV s.heap y kb) :
    ∀ {x : List (K × MV)} {ka : List (K × Value)} {bs : List Bool}, RepKV s.heap x ka → (x.mapM fun (kv : K × MV) => match lookI y kv.1 with | some v => eqD μ kv.2 v | none => some false) = some bs → KeqHits A.in1 s kb ka (bs.all id)
  | [], [], bs => fun _ e => by simp at e; subst e; exact .nil
  | m :: ms, v :: vs, bs => fun h e => by
    simp only [RepKV] at h
    rw [List.mapM_cons] at e
    simp only [Option.bind_eq_bind, Option.bind_eq_some_iff, Option.pure_def, Option.some.injEq] at e
    obtain ⟨b, e1, bs', e2, rfl⟩ := e
    have ih := hits_of hA r hy h.2.2 e2
    rcases Js v.1 hy with ⟨q1, q2⟩ | ⟨m', u, q1, q2, hu⟩
    · rw [h.1, q1] at e1
      cases e1
      simp only [List.all_cons, id, Bool.false_and]
      exact .miss (k := v.1) (v := v.2) q2
    · rw [h.1, q1] at e1
      simp only [List.all_cons, id]
      exact .hit (k := v.1) (v := v.2) q2 (eqAt_of hA h.2.1 hu r e1) ih
  | [], _ :: _, _ => fun h _ => by simp [RepKV] at h
  | _ :: _, [], _ => fun h _ => by simp [RepKV] at h
theorem op_eqM {neg : Bool} {a b : MV} {x y : Value} {r' : Bool} (ha : RepV s.heap a x) (hb : RepV s.heap b y) (r : RepH prog w μ s.heap) (hA : OkA d A) (e : eqM μ a b = some r')
    {Q : Value → Shared → Prop} (h : Q (.bool (if neg then !r' else r')) s) : wpAny (model prog w) A (compareOp (if neg then .NotEq else .Eq) x y) Q E s := by
  have dicts : ∀ {K : Type} [DecidableEq K] (knd : PySem.KeyKind prog w K) (p q : Addr) (lx ly : List (K × MV)) (ka kb : List (K × Value)), x = .ref p → y = .ref q → s.heap.DictOf knd p ka → s.heap.DictOf knd q kb → RepKV s.heap lx ka → RepKV s.heap ly kb →
      (p == sysModules) = false → (q == sysModules) = false → eqDicts μ lx ly = some r' → wpAny (model prog w) A (compareOp (if neg then .NotEq else .Eq) x y) Q E s := by
    intro K _ knd p q lx ly ka kb hx hy da db ra rb sa sb e
    subst hx; subst hy
    have hu : A.units < cLine := by have := hA.units; lia
    have la := ra.length; have lb := rb.length
    unfold eqDicts at e
    split at e
    · rename_i hl
      obtain ⟨bs, hbs, rfl⟩ := Option.map_eq_some_iff.mp e
      have hits := hits_of hA r rb ra hbs
      have hr : (ka.length == kb.length && bs.all id) = bs.all id := by
        have : (ka.length == kb.length) = true := by simp; simp [*]
        rw [this, Bool.true_and]
      cases neg
      · exact keq_eq sa sb da db hu (fun _ => hits) (by rw [hr]; exact h)
      · exact keq_ne sa sb da db hu (fun _ => hits) (by rw [hr]; exact h)
    · rename_i hl
      cases e
      have hne : ka.length ≠ kb.length := by simp [*]
      have hr : (ka.length == kb.length && false) = false := by simp
      cases neg
      · exact keq_eq (r := false) sa sb da db hu (fun q => absurd q hne) (by rw [hr]; exact h)
      · exact keq_ne (r := false) sa sb da db hu (fun q => absurd q hne) (by rw [hr]; exact h)
  unfold eqM at e
  split at e
  · rename_i p q
    simp only [RepV] at ha hb
    split at e
    · rename_i lx ly h1 h2
      obtain ⟨ka, da, ra, sa⟩ := r p _ h1
      obtain ⟨kb, db, rb, sb⟩ := r q _ h2
      exact dicts _ p q lx ly ka kb ha hb da db ra rb sa sb e
    · rename_i lx ly h1 h2
      obtain ⟨ka, da, ra, sa⟩ := r p _ h1
      obtain ⟨kb, db, rb, sb⟩ := r q _ h2
      exact dicts _ p q lx ly ka kb ha hb da db ra rb sa sb e
    · exact op_eq (by simpa only [RepV] using ha) (by simpa only [RepV] using hb) r hA e h
  · exact op_eq ha hb r hA e h
theorem Ar {a b : MV} {r : Bool} (e : isNoneO a b = some r) : b = .none ∧ isNoneO a .none = some r := by
  cases b <;> first | (cases e; done) | exact ⟨rfl, e⟩
theorem noneV {h : Heap} {a : MV} {x : Value} {r : Bool} (ha : RepV h a x) (e : isNoneO a .none = some r) : (x == Value.none) = r := by
  cases a with
  | none => obtain rfl : x = .none := ha; exact Option.some.inj e
  | bool b => obtain rfl : x = .bool b := ha; exact Option.some.inj e
  | int i => obtain ⟨t, rfl⟩ := ha; exact Option.some.inj e
  | str i => obtain ⟨t, rfl⟩ := ha; exact Option.some.inj e
  | tup l => obtain ⟨p, _, _, rfl, _⟩ := ha; exact Option.some.inj e
  | ref p => obtain rfl : x = .ref p := ha; exact Option.some.inj e
  | keys p => cases e
  | vals p => cases e
theorem Ha {op : COp} {o : CmpOp} {a b : MV} {x y : Value} {r' : Bool} (ho : copIs op o = true) (ha : RepV s.heap a x) (hb : RepV s.heap b y) (r : RepH prog w μ s.heap) (hA : OkA d A) (e : cmpM op μ a b = some r')
    {Q : Value → Shared → Prop} (h : ∀ s', Still s s' → Q (.bool r') s') : wpAny (model prog w) A (compareOp o x y) Q E s := by
  obtain rfl := of_decide_eq_true ho
  cases op with
  | eq => exact op_eqM (neg := false) ha hb r hA e (h s .refl)
  | ne =>
    obtain ⟨r'', e', rfl⟩ := Option.map_eq_some_iff.mp e
    exact op_eqM (neg := true) ha hb r hA e' (h s .refl)
  | isin => exact op_in (neg := false) ha hb r hA e h
  | notin =>
    obtain ⟨r'', e', rfl⟩ := Option.map_eq_some_iff.mp e
    exact op_in (neg := true) ha hb r hA e' h
  | lt =>
    obtain ⟨_, _, rfl, rfl, rfl⟩ := Vz e
    obtain ⟨t, rfl⟩ := ha; obtain ⟨u, rfl⟩ := hb
    exact PyProof.Rows.lt_int (h s .refl)
  | le =>
    obtain ⟨_, _, rfl, rfl, rfl⟩ := Vz e
    obtain ⟨t, rfl⟩ := ha; obtain ⟨u, rfl⟩ := hb
    exact PyProof.Rows.le_int (h s .refl)
  | gt =>
    obtain ⟨_, _, rfl, rfl, rfl⟩ := Vz e
    obtain ⟨t, rfl⟩ := ha; obtain ⟨u, rfl⟩ := hb
    exact PyProof.Rows.gt_int (h s .refl)
  | ge =>
    obtain ⟨_, _, rfl, rfl, rfl⟩ := Vz e
    obtain ⟨t, rfl⟩ := ha; obtain ⟨u, rfl⟩ := hb
    exact PyProof.Rows.ge_int (h s .refl)
  | is =>
    obtain ⟨rfl, e2⟩ := Ar e
    obtain rfl : y = .none := hb
    exact is_none_gen (by rw [noneV ha e2]; exact h s .refl)
  | isnot =>
    obtain ⟨r'', e', rfl⟩ := Option.map_eq_some_iff.mp e
    obtain ⟨rfl, e2⟩ := Ar e'
    obtain rfl : y = .none := hb
    exact isnot_none_gen (by rw [noneV ha e2]; exact h s .refl)
end
end Mine
end
section
namespace Mine
open PySem PySem.Calls PyProof.Rows PySem.W
noncomputable def biTab : List (String × Value) := [("len", .builtin "len"), ("min", .builtin "min"), ("max", .builtin "max"), ("sorted", .builtin "sorted"), ("all", .builtin "all"), ("isinstance", .builtin "isinstance"),
  ("list", .type "list"), ("dict", .type "dict"), ("int", .type "int"), ("bool", .type "bool"), ("str", .type "str"), ("tuple", .type "tuple"), ("range", .type "range"), ("reversed", .type "reversed"), ("zip", .type "zip"), ("set", .type "set")]
structure PG (prog : Program) (w : World) (G : String → Option MV) (Γ : String → Option MFun) (h₀ : Heap) (mg mb : Str → Option Value) : Prop where
  g : h₀.Ns mainGlobals mg
  b : h₀.Ns builtinsNs mb
  nolimit : h₀.NoLimit
  bi : ∀ p ∈ biTab, mg (Str.ofString p.1) = none ∧ mb (Str.ofString p.1) = some p.2
  fn : ∀ f fd, Γ f = some fd → ∃ a o pm code doc params body scope tab funs, mg (Str.ofString f) = some (.ref a) ∧ h₀.get? a = some o ∧ o.data = .func (docDef (Str.ofString f) params body scope pm code doc) ∧
    h₀.CodeRec code (Str.ofString f) ∧ isFun fd tab funs params body scope = true ∧ ∀ g ∈ funs, ∃ fd', Γ g = some fd'
  const : ∀ g v, G g = some v → ∃ val, mg (Str.ofString g) = some val ∧ ((∃ i t, v = .int i ∧ val = .int i t) ∨ ∃ x t, v = .str x ∧ val = .str x t)
noncomputable def VarAt (env : Env) (m : Str → Option Value) (h : Heap) (x : Str) (v : Value) : Prop := match env.kindOf x with
  | some .local => m x = some v
  | some .cell => ∃ c, env.cells.lookup x = some c ∧ h.IsCell c (some v)
  | some .free => ∃ c, env.cells.lookup x = some c ∧ h.IsCell c (some v)
  | _ => False
structure RepF (S : Sc) (env : Env) (vars : MVars) (μ : MH) (h : Heap) : Prop where
  names : env.scope.names = S.names
  inj : ∀ i j x, S.tab.lookup i = some x → S.tab.lookup j = some x → i = j
  nk : (S.tab.map (·.1)).Nodup
  nv : (S.tab.map (·.2)).Nodup
  kind : env.scope.kind = .function
  glob : env.globals = mainGlobals
  bui : env.builtins = builtinsNs
  ns : ∃ m, h.Ns env.locals m ∧ ∀ i x mv, S.tab.lookup i = some x → kindVar (S.names.lookup x) = true → vars i = some mv → ∃ v, RepV h mv v ∧ VarAt env m h x v
  cells : ∀ x, (env.kindOf x = some .cell ∨ env.kindOf x = some .free) → ∃ c, env.cells.lookup x = some c
  apart : env.cells.Pairwise fun x y => x.2 ≠ y.2
  fixl : μ env.locals = none
  fixc : ∀ x c, (x, c) ∈ env.cells → μ c = none ∧ c ≠ env.locals ∧ ∃ v, h.IsCell c v
theorem RepF.keep {S : Sc} {env : Env} {vars : MVars} {μ μ' : MH} {h h' : Heap} (F : RepF S env vars μ h) (kt : KeepsT h h') (kl : ∀ o, h.get? env.locals = some o → h'.get? env.locals = some o ∧ μ' env.locals = none) (kc : ∀ x c, (x, c) ∈ env.cells → ∀ o, h.get? c = some o → h'.get? c = some o ∧ μ' c = none) : RepF S env vars μ' h' where
  names := F.names
  inj := F.inj
  nk := F.nk
  nv := F.nv
  kind := F.kind
  glob := F.glob
  bui := F.bui
  ns := by
    obtain ⟨m, hn, hv⟩ := F.ns
    refine ⟨m, hn.at' fun o e => (kl o e).1, fun i x mv h1 h2 h3 => ?_⟩
    obtain ⟨v, r, va⟩ := hv i x mv h1 h2 h3
    refine ⟨v, r.keepT kt, ?_⟩
    unfold VarAt at va ⊢
    split at va
    · exact va
    · obtain ⟨c, e, o, ho, hd⟩ := va; exact ⟨c, e, o, (kc _ _ (mem_of_lookup e) o ho).1, hd⟩
    · obtain ⟨c, e, o, ho, hd⟩ := va; exact ⟨c, e, o, (kc _ _ (mem_of_lookup e) o ho).1, hd⟩
    · exact va.elim
  cells := F.cells
  apart := F.apart
  fixl := by obtain ⟨m, ⟨o, es, ep, ho, _⟩, _⟩ := F.ns; exact (kl o ho).2
  fixc := fun x c hm => by
    obtain ⟨h1, h2, v, o, ho, hd⟩ := F.fixc x c hm
    exact ⟨(kc x c hm o ho).2, h2, v, o, (kc x c hm o ho).1, hd⟩
noncomputable def Base (h₀ : Heap) (fz : List Addr) (μ : MH) (s : Shared) : Prop := ∀ b o, h₀.get? b = some o → s.heap.get? b = some o ∧ (μ b = none ∨ b ∈ fz)
theorem Base.grow {h₀ : Heap} {fz : List Addr} {μ μ' : MH} {s s' : Shared} (B : Base h₀ fz μ s) (g : Grow fz μ s μ' s') : Base h₀ fz μ' s' := fun b o e => by
  obtain ⟨e1, f⟩ := B b o e
  obtain ⟨e2, q⟩ := g.keep b o f e1
  exact ⟨e2, f.imp (fun z => q.trans z) id⟩
noncomputable def FnAt (h₀ : Heap) (f : String) (fa : Addr) : Prop := ∃ m, h₀.Ns mainGlobals m ∧ m (Str.ofString f) = some (.ref fa) ∧ ∃ o fd, h₀.get? fa = some o ∧ o.data = .func fd
structure Cur (prog : Program) (w : World) (h₀ : Heap) (S : Sc) (env : Env) (vars : MVars) (fz : List Addr) (μ : MH) (s : Shared) : Prop where
  base : Base h₀ fz μ s
  heap : RepH prog w μ s.heap
  fzin : FzIn fz μ
  fr : RepF S env vars μ s.heap
  newl : h₀.get? env.locals = none
  newc : ∀ x c, (x, c) ∈ env.cells → h₀.get? c = none
  known : ∀ f ∈ S.funs, ∃ fa, FnAt h₀ f fa
theorem Cur.grow {prog : Program} {w : World} {h₀ : Heap} {S : Sc} {env : Env} {vars : MVars} {fz : List Addr} {μ μ' : MH} {s s' : Shared} (C : Cur prog w h₀ S env vars fz μ s) (g : Grow fz μ s μ' s') (r : RepH prog w μ' s'.heap) :
    Cur prog w h₀ S env vars fz μ' s' where
  base := C.base.grow g
  heap := r
  fzin := C.fzin.grow C.heap g
  fr := C.fr.keep (g.keepT C.heap) (fun o e => (g.keep _ o (.inl C.fr.fixl) e).imp id fun q => q.trans C.fr.fixl) fun x c hm o e => (g.keep c o (.inl (C.fr.fixc x c hm).1) e).imp id fun q => q.trans (C.fr.fixc x c hm).1
  newl := C.newl
  newc := C.newc
  known := C.known
structure GrowS (env : Env) (fz : List Addr) (μ : MH) (s : Shared) (μ' : MH) (s' : Shared) : Prop where
  keep : ∀ b o, (μ b = none ∨ b ∈ fz) → b ≠ env.locals → (∀ x c, (x, c) ∈ env.cells → b ≠ c) → s.heap.get? b = some o → s'.heap.get? b = some o ∧ μ' b = μ b
  os : s'.os = s.os
  gens : s'.gens = s.gens
theorem GrowS.refl {env : Env} {fz : List Addr} {μ : MH} {s : Shared} : GrowS env fz μ s μ s := ⟨fun _ _ _ _ _ e => ⟨e, rfl⟩, rfl, rfl⟩
theorem GrowS.trans {env : Env} {fz : List Addr} {μ μ₁ μ₂ : MH} {s s₁ s₂ : Shared} (x : GrowS env fz μ s μ₁ s₁) (y : GrowS env fz μ₁ s₁ μ₂ s₂) : GrowS env fz μ s μ₂ s₂ :=
  ⟨fun b o f l c e => by
    obtain ⟨e1, q1⟩ := x.keep b o f l c e
    obtain ⟨e2, q2⟩ := y.keep b o (f.imp (fun z => q1.trans z) id) l c e1
    exact ⟨e2, q2.trans q1⟩, y.os.trans x.os, y.gens.trans x.gens⟩
theorem Grow.toS {env : Env} {fz : List Addr} {μ μ' : MH} {s s' : Shared} (x : Grow fz μ s μ' s') : GrowS env fz μ s μ' s' := ⟨fun b o f _ _ e => x.keep b o f e, x.os, x.gens⟩
theorem GrowS.weak {env : Env} {fz cs : List Addr} {μ μ' : MH} {s s' : Shared} (x : GrowS env (cs ++ fz) μ s μ' s') : GrowS env fz μ s μ' s' :=
  ⟨fun b o f l c e => x.keep b o (f.imp id fun m => List.mem_append_right _ m) l c e, x.os, x.gens⟩
section
variable {prog : Program} {w : World} {h₀ : Heap} {S : Sc} {env : Env} {vars : MVars} {fz : List Addr} {μ : MH} {s : Shared} {A : Around} {E : Value → Shared → Prop}
theorem O0 {l : List (Str × Addr)} (h : l.Pairwise fun x y => x.2 ≠ y.2) {x y : Str} {c : Addr} (h1 : l.lookup x = some c) (h2 : l.lookup y = some c) : x = y := name_of_addr h (mem_of_lookup h1) (mem_of_lookup h2)
theorem Ot {M : Model} {i : Nat} {x : Str} {mv : MV} {Q : Value → Shared → Prop} (C : Cur prog w h₀ S env vars fz μ s) (ht : S.isVar i x = true) (hv : vars i = some mv)
    (h : ∀ v, RepV s.heap mv v → Q v s) : wpAny M A (loadName env x) Q E s := by
  unfold Sc.isVar notDebug at ht
  simp only [Bool.and_eq_true, beq_iff_eq, Bool.not_eq_true'] at ht
  obtain ⟨⟨ht, hk⟩, hd, hcd⟩ := ht
  obtain ⟨m, hn, hm⟩ := C.fr.ns
  obtain ⟨v, r, va⟩ := hm i x mv ht hk hv
  unfold VarAt at va
  split at va
  · rename_i q; exact wpAny_loadName_local C.fr.kind q hn va (h v r)
  · rename_i q; obtain ⟨c, e, hc⟩ := va; exact wpAny_loadName_cell C.fr.kind q e hc (h v r)
  · rename_i q
    obtain ⟨c, e, hc⟩ := va
    exact wpAny_loadName_free C.fr.kind q e hc (h v r) hcd
  · exact va.elim
theorem Zu {M : Model} {i : Nat} {x : Str} {mv : MV} {v : Value} {Q : Unit → Shared → Prop} (C : Cur prog w h₀ S env vars fz μ s) (ht : S.isSt i x = true) (hv : RepV s.heap mv v)
    (h : ∀ s', Cur prog w h₀ S env (setv vars i mv) fz μ s' → GrowS env fz μ s μ s' → KeepsT s.heap s'.heap → (S.names.lookup x = some .local → ∀ b o, b ≠ env.locals → s.heap.get? b = some o → s'.heap.get? b = some o) → Q () s') : wpAny M A (storeName env x v) Q E s := by
  unfold Sc.isSt at ht
  simp only [Bool.and_eq_true, beq_iff_eq] at ht
  obtain ⟨ht, hk⟩ := ht
  have hko : env.kindOf x = S.names.lookup x := by unfold Env.kindOf; rw [C.fr.names]
  obtain ⟨m, hn, hm⟩ := C.fr.ns
  have fin : ∀ (c : Addr) (h' : Heap) (tk : Nat), (c = env.locals ∨ ∃ y, (y, c) ∈ env.cells) → (∃ o, s.heap.get? c = some o ∧ ¬ ImmCls o) → (∀ b, b ≠ c → h'.get? b = s.heap.get? b) → (S.names.lookup x = some .local → c = env.locals) →
      (KeepsT s.heap h' → RepF S env (setv vars i mv) μ h') → Q () { s with heap := h', toks := tk } := by
    intro c h' tk hc hobj hs hloc hF
    obtain ⟨oc, hoc, hni⟩ := hobj
    have mc : μ c = none := by rcases hc with rfl | ⟨y, hy⟩; exact C.fr.fixl; exact (C.fr.fixc y c hy).1
    have kt : KeepsT s.heap h' := fun b o e hi => by
      by_cases q : b = c
      · subst q; rw [hoc] at e; cases e; exact absurd hi hni
      · rw [hs b q]; exact e
    have h0 : h₀.get? c = none := by rcases hc with rfl | ⟨y, hy⟩; exact C.newl; exact C.newc y c hy
    refine h _ ⟨fun b o e => ?_, fun a o e => ?_, C.fzin, hF kt, C.newl, C.newc, C.known⟩ ⟨fun b o f l hcs e => ?_, rfl, rfl⟩ kt fun hl b o hb e => by show h'.get? b = some o; rw [hs b (fun q => hb (q.trans (hloc hl)))]; exact e
    · have := C.base b o e
      refine ⟨?_, this.2⟩
      show h'.get? b = some o
      rw [hs b (fun q => by rw [q, h0] at e; cases e)]; exact this.1
    · have hac : a ≠ c := fun q => by rw [q, mc] at e; cases e
      exact (C.heap a o e).keeps kt fun y hy => by show h'.get? a = some y; rw [hs a hac]; exact hy
    · refine ⟨?_, rfl⟩
      show h'.get? b = some o
      rw [hs b (fun q => by subst q; rcases hc with q | ⟨y, hy⟩; exact l q; exact hcs y b hy rfl)]; exact e
  have base := C.fr
  have hk : S.names.lookup x = some .local ∨ S.names.lookup x = some .cell := by simpa only [kindSt, Bool.or_eq_true, decide_eq_true_eq] using hk
  rcases hk with q | q
  · skip
    have hl : env.kindOf x = some .local := hko.trans q
    obtain ⟨ol, es, ep, hol, hdl, _⟩ := id hn
    refine wpAny_storeName_local hl hn (fun h' hn' hs' => fin env.locals h' _ (.inl rfl) ⟨ol, hol, by rintro (⟨_, _, _, q⟩ | ⟨_, _, q⟩ | ⟨_, _, q⟩) <;> rw [hdl] at q <;> cases q⟩ hs'.2 (fun _ => rfl) fun kt => ?_) (by rw [C.fr.kind]; rfl)
    refine { names := base.names, inj := base.inj, nk := base.nk, nv := base.nv, kind := base.kind, glob := base.glob, bui := base.bui, cells := base.cells, apart := base.apart, fixl := base.fixl, fixc := ?fx, ns := ⟨_, hn', fun j y mv' h1 h2 h3 => ?nn⟩ }
    case fx =>
      intro y c hm'
      obtain ⟨a1, a2, u, o, ho, hd⟩ := base.fixc y c hm'
      exact ⟨a1, a2, u, o, by rw [hs'.2 c a2]; exact ho, hd⟩
    case nn =>
      by_cases hji : j = i
      · subst hji
        rw [ht] at h1; cases h1
        simp only [setv, if_true, Option.some.injEq] at h3
        subst h3
        refine ⟨v, hv.keepT kt, ?_⟩
        unfold VarAt; rw [hl]; simp
      · simp only [setv, if_neg hji] at h3
        obtain ⟨u, r, va⟩ := hm j y mv' h1 h2 h3
        refine ⟨u, r.keepT kt, ?_⟩
        have hyx : y ≠ x := fun e => hji (base.inj j i x (e ▸ h1) ht)
        unfold VarAt at va ⊢
        split at va
        · simp only [if_neg hyx]; exact va
        · obtain ⟨c, e, o, ho, hd⟩ := va
          exact ⟨c, e, o, by rw [hs'.2 c (base.fixc _ _ (mem_of_lookup e)).2.1]; exact ho, hd⟩
        · obtain ⟨c, e, o, ho, hd⟩ := va
          exact ⟨c, e, o, by rw [hs'.2 c (base.fixc _ _ (mem_of_lookup e)).2.1]; exact ho, hd⟩
        · exact va.elim
  · skip
    have hl : env.kindOf x = some .cell := hko.trans q
    obtain ⟨c, hc⟩ := base.cells x (.inl hl)
    obtain ⟨a1, a2, u0, hu0⟩ := base.fixc x c (mem_of_lookup hc)
    obtain ⟨oc, hoc, hdc⟩ := id hu0
    refine wpAny_storeName_cell C.fr.kind hl hc hu0 fun h' hc' hs' => fin c h' s.toks (.inr ⟨x, mem_of_lookup hc⟩) ⟨oc, hoc, by rintro (⟨_, _, _, q⟩ | ⟨_, _, q⟩ | ⟨_, _, q⟩) <;> rw [hdc] at q <;> cases q⟩ hs'.2 (fun q' => by rw [q] at q'; cases q') fun kt => ?_
    refine { names := base.names, inj := base.inj, nk := base.nk, nv := base.nv, kind := base.kind, glob := base.glob, bui := base.bui, cells := base.cells, apart := base.apart, fixl := base.fixl, fixc := ?fx, ns := ⟨m, hn.at' fun o e => by rw [hs'.2 _ (Ne.symm a2)]; exact e, fun j y mv' h1 h2 h3 => ?nn⟩ }
    case fx =>
      intro y c' hm'
      obtain ⟨b1, b2, u, o, ho, hd⟩ := base.fixc y c' hm'
      by_cases hcc : c' = c
      · subst hcc; obtain ⟨o', ho', hd'⟩ := hc'; exact ⟨b1, b2, _, o', ho', hd'⟩
      · exact ⟨b1, b2, u, o, by rw [hs'.2 c' hcc]; exact ho, hd⟩
    case nn =>
      by_cases hji : j = i
      · subst hji
        rw [ht] at h1; cases h1
        simp only [setv, if_true, Option.some.injEq] at h3
        subst h3
        refine ⟨v, hv.keepT kt, ?_⟩
        unfold VarAt; rw [hl]; exact ⟨c, hc, hc'⟩
      · simp only [setv, if_neg hji] at h3
        obtain ⟨u, r, va⟩ := hm j y mv' h1 h2 h3
        refine ⟨u, r.keepT kt, ?_⟩
        have hyx : y ≠ x := fun e => hji (base.inj j i x (e ▸ h1) ht)
        unfold VarAt at va ⊢
        split at va
        · exact va
        · obtain ⟨c', e, o, ho, hd⟩ := va
          exact ⟨c', e, o, by rw [hs'.2 c' (fun q => hyx (O0 base.apart e (q ▸ hc)))]; exact ho, hd⟩
        · obtain ⟨c', e, o, ho, hd⟩ := va
          exact ⟨c', e, o, by rw [hs'.2 c' (fun q => hyx (O0 base.apart e (q ▸ hc)))]; exact ho, hd⟩
        · exact va.elim
end
end Mine
end
section
namespace Mine
open PySem PySem.Calls PyProof.Rows PySem.W
noncomputable def X0 : MX := fun _ _ => False
section
variable (prog : Program) (w : World) (G : String → Option MV) (h₀ : Heap) (Φ : CallSpec) (d : Nat)
inductive PostB (fz : List Addr) (μ : MH) (s : Shared) (F : Bool → MH → Prop) (b : Bool) (s' : Shared) : Prop
  | mk (μ' : MH) (q : F b μ') (r : RepH prog w μ' s'.heap) (g : Grow fz μ s μ' s')
inductive PostL (fz : List Addr) (μ : MH) (s : Shared) (Q : List MV → MH → Prop) (vs : List Value) (s' : Shared) : Prop
  | mk (ms : List MV) (μ' : MH) (q : Q ms μ') (rv : RepVs s'.heap ms vs) (r : RepH prog w μ' s'.heap) (g : Grow fz μ s μ' s')
noncomputable def SC : Prop := ∀ (f : String) (vs : List MV) (vals : List Value) (fz : List Addr) (μ : MH) (s : Shared) (Q : MQ) (A : Around) (E : Value → Shared → Prop) (fa : Addr), OkA d A → Base h₀ fz μ s → RepH prog w μ s.heap → FzIn fz μ →
  RepVs s.heap vs vals → FnAt h₀ f fa → Φ f vs fz Q X0 μ → wpAny (model prog w) A (call (.ref fa) vals) (PostV prog w fz μ s Q) E s
noncomputable def SE (e : ME) : Prop := ∀ (S : Sc) (x : PySem.Expr) (env : Env) (vars : MVars) (fz : List Addr) (μ : MH) (s : Shared) (Q : MQ) (A : Around) (E : Value → Shared → Prop), isE S e x = true → OkA d A → Cur prog w h₀ S env vars fz μ s →
  ev G Φ X0 e fz vars Q μ → wpAny (model prog w) A (eval x env) (PostV prog w fz μ s Q) E s
noncomputable def ST (e : ME) : Prop := ∀ (S : Sc) (x : PySem.Expr) (env : Env) (vars : MVars) (fz : List Addr) (μ : MH) (s : Shared) (F : Bool → MH → Prop) (A : Around) (E : Value → Shared → Prop), isE S e x = true → OkA d A → Cur prog w h₀ S env vars fz μ s →
  ev G Φ X0 e fz vars (fun v μ' => ∃ b, truthy μ' v = some b ∧ F b μ') μ → wpAny (model prog w) A (isTrue x env (eval x env)) (PostB prog w fz μ s F) E s
noncomputable def SS (e : ME) : Prop := SE prog w G h₀ Φ d e ∧ ST prog w G h₀ Φ d e
end
section
variable {prog : Program} {w : World} {G : String → Option MV} {Γ : String → Option MFun} {h₀ : Heap} {mg mb : Str → Option Value} {Φ : CallSpec} {d : Nat}
  {S : Sc} {env : Env} {vars : MVars} {fz : List Addr} {μ : MH} {s : Shared} {A : Around} {E : Value → Shared → Prop}
theorem PostV.trans {Q : MQ} {μ₁ : MH} {s₁ : Shared} (g : Grow fz μ s μ₁ s₁) {v : Value} {s' : Shared} (h : PostV prog w fz μ₁ s₁ Q v s') : PostV prog w fz μ s Q v s' :=
  let ⟨mv, μ', q, r, hr, g'⟩ := h; ⟨mv, μ', q, r, hr, g.trans g'⟩
theorem PostB.trans {F : Bool → MH → Prop} {μ₁ : MH} {s₁ : Shared} (g : Grow fz μ s μ₁ s₁) {b : Bool} {s' : Shared} (h : PostB prog w fz μ₁ s₁ F b s') : PostB prog w fz μ s F b s' :=
  let ⟨μ', q, hr, g'⟩ := h; ⟨μ', q, hr, g.trans g'⟩
theorem PostL.trans {Q : List MV → MH → Prop} {μ₁ : MH} {s₁ : Shared} (g : Grow fz μ s μ₁ s₁) {v : List Value} {s' : Shared} (h : PostL prog w fz μ₁ s₁ Q v s') : PostL prog w fz μ s Q v s' :=
  let ⟨mv, μ', q, r, hr, g'⟩ := h; ⟨mv, μ', q, r, hr, g.trans g'⟩
theorem Still.grow {s' : Shared} (st : Still s s') : Grow fz μ s μ s' := ⟨fun b o _ e => ⟨by rw [st.1]; exact e, rfl⟩, st.2.1, st.2.2⟩
theorem isE_starred (e : ME) (v : PySem.Expr) (p : Pos) : isE S e (.Starred v p) = false := by
  cases e <;> (try rfl)
  rename_i f args; cases f <;> rfl
theorem isE_slice (e : ME) (l u t : Option PySem.Expr) (p : Pos) : isE S e (.Slice l u t p) = false := by
  cases e <;> (try rfl)
  rename_i f args; cases f <;> rfl
theorem isE_set (e : ME) (l : List PySem.Expr) (k : Nat) (p : Pos) : isE S e (.Set l k p) = false := by
  cases e <;> (try rfl)
  rename_i f args; cases f <;> rfl
theorem sub_plain {e : ME} {x : PySem.Expr} (h : isE S e x = true) (o i : Value) : subscripted x false o i = operate [o, i] (getItem o i) := by
  cases x <;> first
    | rfl
    | (rw [isE_slice] at h; cases h)
theorem Bo {e : ME} {x : PySem.Expr} (h : isE S e x = true) (rest : List PySem.Expr) (env : Env) : starEach (x :: rest) env = (false, eval x env) :: starEach rest env := by
  cases x <;> first
    | rfl
    | (rw [isE_starred] at h; cases h)
theorem marks_none {e : ME} {x : PySem.Expr} (h : isE S e x = true) (op : CmpOp) : behindInMarks op x = false := by
  cases x <;> first
    | rfl
    | (rw [isE_set] at h; cases h)
theorem folded_none {e : ME} {x : PySem.Expr} (h : isE S e x = true) (env : Env) (v : Value) : foldedSetIterable x env v = pure v := by
  cases x <;> first
    | rfl
    | (rw [isE_set] at h; cases h)
theorem Z1 : ∀ {l : List ME} {xs : List PySem.Expr} (pos : Pos), isEs S l xs = true → backTo pos (starEach xs env) = xs.map fun x => (false, eval x env)
  | [], [] => fun _ _ => rfl
  | e :: l, x :: xs => fun pos h => by
    replace h := Y9 h
    rw [Bo h.1]
    show (false, _) :: backTo pos (starEach xs env) = _
    rw [Z1 pos h.2]; rfl
  | [], _ :: _ => fun _ h => (Bool.false_ne_true h).elim
  | _ :: _, [] => fun _ h => (Bool.false_ne_true h).elim
theorem As : ∀ {l : List ME} {xs : List PySem.Expr}, isEs S l xs = true → xs.length = l.length
  | [], [] => fun _ => rfl
  | e :: l, x :: xs => fun h => by replace h := Y9 h; simp [As h.2]
  | [], _ :: _ => fun h => (Bool.false_ne_true h).elim
  | _ :: _, [] => fun h => (Bool.false_ne_true h).elim
theorem Zi : ∀ {l : List ME} (hl : ∀ e ∈ l, SS prog w G h₀ Φ d e) {xs : List PySem.Expr} {μ : MH} {s : Shared} {Q : List MV → MH → Prop}, isEs S l xs = true → OkA d A → Cur prog w h₀ S env vars fz μ s → evs G Φ X0 l fz vars Q μ →
    wpAny (model prog w) A (spliced (xs.map fun x => (false, eval x env))) (PostL prog w fz μ s Q) E s
  | [], _, [], μ, s, Q => fun h hA C hq => by
    have hq := hq
    exact Calls.spliced_nil ⟨[], μ, hq, trivial, C.heap, .refl⟩
  | e :: l, hl, x :: xs, μ, s, Q => fun h hA C hq => by
    replace h := Y9 h
    have hq := hq
    refine Calls.spliced_cons (wpAny_mono ((hl e (.head _)).1 S x env vars fz μ s _ A E h.1 hA C hq) (fun v s₁ h₁ => ?_) fun _ _ e => e)
    obtain ⟨mv, μ₁, hq₁, rv, r₁, g₁⟩ := h₁
    refine wpAny_mono (Zi (fun e' he' => hl e' (.tail _ he')) h.2 hA (C.grow g₁ r₁) hq₁) (fun vs s₂ h₂ => ?_) fun _ _ e => e
    obtain ⟨ms, μ₂, hq₂, rs, r₂, g₂⟩ := h₂
    exact ⟨mv :: ms, μ₂, hq₂, by simp only [RepVs]; exact ⟨rv.keepT (g₂.keepT r₁), rs⟩, r₂, g₁.trans g₂⟩
  | [], _, _ :: _, _, _, _ => fun h _ _ _ => (Bool.false_ne_true h).elim
  | _ :: _, _, [], _, _, _ => fun h _ _ _ => (Bool.false_ne_true h).elim
theorem Yc {M : Model} {f : Value} {trees : List (Bool × Sem Value)} {Q : Args → Shared → Prop} (hp : trees.any (·.1) = false) (h : wpAny M A (spliced trees) (fun vs s' => Q ⟨vs, []⟩ s') E s) : wpAny M A (evalArgs f true trees []) Q E s := by
  cases trees with
  | nil =>
    unfold evalArgs
    show wpAny M A (spliced [] >>= _) Q E s
    refine wpAny_bind (wpAny_mono h (fun vs s' h' => ?_) fun _ _ e => e)
    refine wpAny_bind (wpAny_pure (wpAny_holding ?_))
    exact wpAny_bind (wpAny_pure (wpAny_bind (wpAny_pure (wpAny_pure h'))))
  | cons t rest =>
    obtain ⟨b, x⟩ := t
    simp only [List.any_cons, Bool.or_eq_false_iff] at hp
    obtain rfl : b = false := hp.1
    exact evalArgs_plain h
theorem Yb (xs : List PySem.Expr) : (xs.map fun x => (false, eval x env)).any (·.1) = false := by induction xs with | nil => rfl | cons x xs ih => simpa using ih
theorem truthyT {x : PySem.Expr} {e : ME} (hE : SE prog w G h₀ Φ d e) (hT : ∀ whole, isTrue x env whole = (do let v ← whole; standAt x.pos; holding [v] (PySem.truthy v))) {F : Bool → MH → Prop} (h : isE S e x = true) (hA : OkA d A) (C : Cur prog w h₀ S env vars fz μ s)
    (hq : ev G Φ X0 e fz vars (fun v μ' => ∃ b, truthy μ' v = some b ∧ F b μ') μ) : wpAny (model prog w) A (isTrue x env (eval x env)) (PostB prog w fz μ s F) E s := by
  rw [hT]
  refine wpAny_bind (wpAny_mono (hE S x env vars fz μ s _ A E h hA C hq) (fun v s₁ h₁ => ?_) fun _ _ e => e)
  obtain ⟨mv, μ₁, ⟨b, hb, hF⟩, rv, r₁, g₁⟩ := h₁
  refine wpAny_bind (wpAny_standAt (wpAny_holding (wpAny_mono (Kt rv r₁ hb) (fun b' s₂ h₂ => ?_) fun _ _ e => e)))
  obtain ⟨rfl, st⟩ := h₂
  exact ⟨μ₁, hF, by rw [st.1]; exact r₁, g₁.trans st.grow⟩
end
end Mine
end
section
namespace Mine
open PySem PySem.Calls PyProof.Rows PySem.W
section
variable {prog : Program} {w : World} {G : String → Option MV} {Γ : String → Option MFun} {h₀ : Heap} {mg mb : Str → Option Value} {Φ : CallSpec} {d : Nat}
theorem K0 {S : Sc} {i : Nat} {x : Str} (h : S.isVar i x = true) : (x == ("__debug__" : Str)) = false := by
  unfold Sc.isVar notDebug at h
  simp only [Bool.and_eq_true, beq_iff_eq, Bool.not_eq_true'] at h
  exact h.2.1
theorem Jo {S : Sc} {g : String} {x : Str} (h : S.isGlob g x = true) : x = Str.ofString g ∧ S.names.lookup x = some .globalImplicit ∧ (x == ("__debug__" : Str)) = false := by
  unfold Sc.isGlob notDebug isGlobK at h
  simp only [Bool.and_eq_true, beq_iff_eq, Bool.not_eq_true'] at h
  refine ⟨h.1.1, ?_, h.2.1⟩
  exact of_decide_eq_true h.1.2
theorem Jn {M : Model} {S : Sc} {env : Env} {vars : MVars} {fz : List Addr} {μ : MH} {s : Shared} {A : Around} {E : Value → Shared → Prop} {g : String} {x : Str} {p : Pos} {v : Value} {Q : Value → Shared → Prop} (pg : PG prog w G Γ h₀ mg mb) (C : Cur prog w h₀ S env vars fz μ s) (h : S.isGlob g x = true)
    (hv : mg (Str.ofString g) = some v) (hq : Q v s) : wpAny M A (eval (.Name x p) env) Q E s := by
  obtain ⟨rfl, hk, hd⟩ := Jo h
  refine Name_function_global C.fr.kind (by unfold Env.kindOf; rw [C.fr.names]; exact hk) (loadGlobal_global (mg := mg) ?_ hv hq) hd
  rw [C.fr.glob]
  exact pg.g.keeps fun b o e => (C.base b o e).1
theorem Ou {M : Model} {S : Sc} {env : Env} {vars : MVars} {fz : List Addr} {μ : MH} {s : Shared} {A : Around} {E : Value → Shared → Prop} {g : String} {x : Str} {p : Pos} {v : Value} {Q : Value → Shared → Prop} (pg : PG prog w G Γ h₀ mg mb) (C : Cur prog w h₀ S env vars fz μ s) (h : S.isGlob g x = true)
    (hv : (g, v) ∈ biTab) (hq : Q v s) : wpAny M A (eval (.Name x p) env) Q E s := by
  obtain ⟨rfl, hk, hd⟩ := Jo h
  refine Name_function_global C.fr.kind (by unfold Env.kindOf; rw [C.fr.names]; exact hk) (loadGlobal_builtin (mg := mg) (mb := mb) ?_ (pg.bi _ hv).1 ?_ (pg.bi _ hv).2 hq) hd
  · rw [C.fr.glob]; exact pg.g.keeps fun b o e => (C.base b o e).1
  · rw [C.fr.bui]; exact pg.b.keeps fun b o e => (C.base b o e).1
theorem se_var (i : Nat) : SE prog w G h₀ Φ d (.var i) := fun S x env vars fz μ s Q A E h hA C hq => by
  replace h := Bf h
  obtain ⟨y, p, rfl, h⟩ := h
  obtain ⟨v, hv, hq⟩ := hq
  exact wpAny_Name (Ot C h hv fun u r => Xp hq C.heap r rfl rfl rfl) (K0 h)
theorem se_glob (pg : PG prog w G Γ h₀ mg mb) (g : String) : SE prog w G h₀ Φ d (.glob g) := fun S x env vars fz μ s Q A E h hA C hq => by
  replace h := inv_glob h
  obtain ⟨y, p, rfl, h⟩ := h
  obtain ⟨v, hv, hq⟩ := hq
  obtain ⟨val, hval, hr⟩ := pg.const g v hv
  refine Jn pg C h hval (Xp hq C.heap ?_ rfl rfl rfl)
  rcases hr with ⟨i, t, rfl, rfl⟩ | ⟨y, t, rfl, rfl⟩ <;> simp [RepV]
theorem se_cint (i : Int) : SE prog w G h₀ Φ d (.cint i) := fun S x env vars fz μ s Q A E h hA C hq => by
  replace h := inv_cint h
  obtain ⟨k, p, rfl⟩ := h
  exact wpAny_Constant_int (Xp hq C.heap (by simp [RepV]) rfl rfl rfl)
theorem se_cstr (t : String) : SE prog w G h₀ Φ d (.cstr t) := fun S x env vars fz μ s Q A E h hA C hq => by
  replace h := inv_cstr h
  obtain ⟨k, p, rfl⟩ := h
  exact Calls.Constant_str (Xp hq C.heap (by simp [RepV]) rfl rfl rfl)
theorem se_cbool (b : Bool) : SE prog w G h₀ Φ d (.cbool b) := fun S x env vars fz μ s Q A E h hA C hq => by
  replace h := Gb h
  obtain ⟨k, p, rfl⟩ := h
  exact wpAny_pure (Xp hq C.heap (by simp [RepV]) rfl rfl rfl)
theorem se_cnone : SE prog w G h₀ Φ d .cnone := fun S x env vars fz μ s Q A E h hA C hq => by
  replace h := inv_cnone h
  obtain ⟨k, p, rfl⟩ := h
  exact wpAny_pure (Xp hq C.heap (by simp [RepV]) rfl rfl rfl)
theorem se_bin {op : BOp} {a b : ME} (ha : SE prog w G h₀ Φ d a) (hb : SE prog w G h₀ Φ d b) : SE prog w G h₀ Φ d (.bin op a b) := fun S x env vars fz μ s Q A E h hA C hq => by
  replace h := inv_bin h
  obtain ⟨l, o, r, p, rfl, h⟩ := h
  simp only [Bool.and_eq_true] at h
  refine wpAny_BinOp (wpAny_mono (ha S _ env vars fz μ s _ A E h.1.2 hA C hq) (fun v s₁ h₁ => ?_) fun _ _ e => e)
  obtain ⟨mv, μ₁, hq₁, rv, r₁, g₁⟩ := h₁
  have C₁ := C.grow g₁ r₁
  refine wpAny_mono (hb S _ env vars fz μ₁ s₁ _ A E h.2 hA C₁ hq₁) (fun u s₂ h₂ => ?_) fun _ _ e => e
  obtain ⟨mu, μ₂, hq₂, ru, r₂, g₂⟩ := h₂
  refine wpAny_mono (op_bin h.1.1 (rv.keepT (g₂.keepT r₁)) ru r₂ (C₁.grow g₂ r₂).fzin hA hq₂) (fun v' s₃ h₃ => (h₃.trans g₂).trans g₁) fun _ _ e => e
theorem se_neg {a : ME} (ha : SE prog w G h₀ Φ d a) : SE prog w G h₀ Φ d (.neg a) := fun S x env vars fz μ s Q A E h hA C hq => by
  replace h := inv_neg h
  obtain ⟨y, p, rfl, h⟩ := h
  refine wpAny_UnaryOp (wpAny_mono (ha S _ env vars fz μ s _ A E h hA C hq) (fun v s₁ h₁ => ?_) fun _ _ e => e)
  obtain ⟨mv, μ₁, ⟨i, rfl, hq₁⟩, rv, r₁, g₁⟩ := h₁
  simp only [RepV] at rv; obtain ⟨t, rfl⟩ := rv
  exact PyProof.Rows.neg_int (PostV.trans g₁ (Xp (mv := .int (-i)) hq₁ r₁ (by simp only [RepV]; exact ⟨_, rfl⟩) rfl rfl rfl))
theorem se_not {a : ME} (ha : SE prog w G h₀ Φ d a) : SE prog w G h₀ Φ d (.not a) := fun S x env vars fz μ s Q A E h hA C hq => by
  replace h := inv_not h
  obtain ⟨y, p, rfl, h⟩ := h
  refine wpAny_UnaryOp (wpAny_mono (ha S _ env vars fz μ s _ A E h hA C hq) (fun v s₁ h₁ => ?_) fun _ _ e => e)
  obtain ⟨mv, μ₁, ⟨b, hb, hq₁⟩, rv, r₁, g₁⟩ := h₁
  refine not_of (wpAny_mono (Kt rv r₁ hb) (fun b' s₂ h₂ => ?_) fun _ _ e => e)
  obtain ⟨rfl, st⟩ := h₂
  exact (Zv hq₁ r₁ (by simp [RepV]) st : PostV prog w fz μ₁ s₁ Q _ _).trans g₁
theorem bool_list {op : BoolOp} (isOr : Bool) (ho : op = if isOr then .Or else .And) : ∀ {l : List ME} (hl : ∀ e ∈ l, SE prog w G h₀ Φ d e) {S : Sc} {env : Env} {vars : MVars} {fz : List Addr} {xs : List PySem.Expr} {μ : MH} {s : Shared} {Q : MQ} {A : Around} {E : Value → Shared → Prop} {pos : Pos}, isEs S l xs = true → OkA d A → Cur prog w h₀ S env vars fz μ s →
    (if isOr then evOr G Φ X0 l fz vars Q μ else evAnd G Φ X0 l fz vars Q μ) → wpAny (model prog w) A (boolOp pos op (evalEach xs env)) (PostV prog w fz μ s Q) E s
  | [], _, S, env, vars, fz, [], μ, s, Q, A, E, pos => fun h hA C hq => by cases isOr <;> exact False.elim hq
  | [e], hl, S, env, vars, fz, [x], μ, s, Q, A, E, pos => fun h hA C hq => by
    replace h := (Y9 h).1
    have hq' : ev G Φ X0 e fz vars Q μ := by cases isOr <;> exact hq
    exact hl e (.head _) S x env vars fz μ s Q A E h hA C hq'
  | e :: e' :: l, hl, S, env, vars, fz, x :: x' :: xs, μ, s, Q, A, E, pos => fun h hA C hq => by
    have h' : isE S e x = true ∧ isEs S (e' :: l) (x' :: xs) = true := Y9 h
    show wpAny _ A (eval x env >>= _) _ _ s
    have key : ev G Φ X0 e fz vars (fun v μ' => ∃ b, truthy μ' v = some b ∧ if b = isOr then Q v μ' else (if isOr then evOr G Φ X0 (e' :: l) fz vars Q μ' else evAnd G Φ X0 (e' :: l) fz vars Q μ')) μ := by
      cases isOr
      · simp only [Bool.false_eq_true, if_false] at hq ⊢
        have q : (fun (v : MV) (μ' : MH) => ∃ b, truthy μ' v = some b ∧ if b = false then Q v μ' else evAnd G Φ X0 (e' :: l) fz vars Q μ') = (fun v μ' => ∃ b, truthy μ' v = some b ∧ if b = true then evAnd G Φ X0 (e' :: l) fz vars Q μ' else Q v μ') := by
          funext v μ'
          apply propext
          constructor <;> rintro ⟨b, hb, hh⟩ <;> refine ⟨b, hb, ?_⟩ <;> cases b <;> simpa using hh
        rw [q]; exact hq
      · simp only [if_true] at hq ⊢
        exact hq
    refine wpAny_bind (wpAny_mono (hl e (.head _) S x env vars fz μ s _ A E h'.1 hA C key) (fun v s₁ h₁ => ?_) fun _ _ e => e)
    obtain ⟨mv, μ₁, ⟨b, hb, hq₁⟩, rv, r₁, g₁⟩ := h₁
    refine wpAny_bind (wpAny_standAt (wpAny_bind (wpAny_holding (wpAny_mono (Kt rv r₁ hb) (fun b' s₂ h₂ => ?_) fun _ _ e => e))))
    obtain ⟨rfl, st⟩ := h₂
    have r₂ : RepH prog w μ₁ s₂.heap := by rw [st.1]; exact r₁
    have C₂ := C.grow (g₁.trans st.grow) r₂
    subst ho
    by_cases hbo : b' = isOr
    · subst hbo
      simp only [if_true] at hq₁
      cases b' <;> exact wpAny_pure ((Zv hq₁ r₁ rv st : PostV prog w fz μ₁ s₁ Q _ _).trans g₁)
    · rw [if_neg hbo] at hq₁
      have rest := bool_list (op := if isOr then .Or else .And) isOr rfl (fun e'' he => hl e'' (.tail _ he)) (pos := pos) (E := E) h'.2 hA C₂ hq₁
      cases b' <;> cases isOr <;> first
        | exact absurd rfl hbo
        | exact wpAny_mono rest (fun v' s₃ h₃ => h₃.trans (g₁.trans st.grow)) fun _ _ e => e
  | [], _, S, env, vars, fz, _ :: _, μ, s, Q, A, E, pos => fun h hA C hq => (Bool.false_ne_true h).elim
  | _ :: _, _, S, env, vars, fz, [], μ, s, Q, A, E, pos => fun h hA C hq => (Bool.false_ne_true h).elim
  | [_], _, S, env, vars, fz, _ :: _ :: _, μ, s, Q, A, E, pos => fun h hA C hq => (Bool.false_ne_true (Y9 h).2).elim
  | _ :: _ :: _, _, S, env, vars, fz, [_], μ, s, Q, A, E, pos => fun h hA C hq => (Bool.false_ne_true (Y9 h).2).elim
end
end Mine
end
section
namespace Mine
open PySem PySem.Calls PyProof.Rows PySem.W
section
variable {prog : Program} {w : World} {G : String → Option MV} {Γ : String → Option MFun} {h₀ : Heap} {mg mb : Str → Option Value} {Φ : CallSpec} {d : Nat}
theorem se_and {l : List ME} (hl : ∀ e ∈ l, SE prog w G h₀ Φ d e) : SE prog w G h₀ Φ d (.and l) := fun S x env vars fz μ s Q A E h hA C hq => by
  replace h := Hq h
  obtain ⟨xs, p, rfl, h⟩ := h
  exact bool_list false rfl hl h hA C hq
theorem se_or {l : List ME} (hl : ∀ e ∈ l, SE prog w G h₀ Φ d e) : SE prog w G h₀ Φ d (.or l) := fun S x env vars fz μ s Q A E h hA C hq => by
  replace h := inv_or h
  obtain ⟨xs, p, rfl, h⟩ := h
  exact bool_list true rfl hl h hA C hq
theorem Zo {S : Sc} : ∀ {es : List ME} {xs : List PySem.Expr} (os : List CmpOp), isEs S es xs = true → lastMarks os xs = false
  | [], [], os => fun _ => by cases os <;> simp [lastMarks]
  | e :: es, x :: xs, [] => fun _ => by simp [lastMarks]
  | e :: es, x :: xs, o :: os => fun h => by
    replace h := Y9 h
    have ih := Zo os h.2
    have hm := marks_none h.1 o
    cases os <;> cases xs <;> simp_all [lastMarks]
  | [], _ :: _, _ => fun h => (Bool.false_ne_true h).elim
  | _ :: _, [], _ => fun h => (Bool.false_ne_true h).elim
theorem cmp_list : ∀ {es : List ME} (hl : ∀ e ∈ es, SE prog w G h₀ Φ d e) {S : Sc} {env : Env} {vars : MVars} {fz : List Addr} {ops : List COp} {os : List CmpOp} {xs : List PySem.Expr} {a : MV} {va : Value} {μ : MH} {s : Shared} {Q : MQ} {A : Around} {E : Value → Shared → Prop} {pos : Pos}, copsIs ops os = true → isEs S es xs = true → OkA d A → Cur prog w h₀ S env vars fz μ s →
    RepV s.heap a va → evCmp G Φ X0 es ops a fz vars Q μ → wpAny (model prog w) A (compareChain pos va os (evalEach xs env)) (PostV prog w fz μ s Q) E s
  | e :: es, hl, S, env, vars, fz, op :: ops, o :: os, x :: xs, a, va, μ, s, Q, A, E, pos => fun ho h hA C ra hq => by
    simp only [copsIs, Bool.and_eq_true] at ho
    replace h := Y9 h
    have step := hl e (.head _) S x env vars fz μ s _ A E h.1 hA C hq
    cases es with
    | nil =>
      cases xs with
      | cons _ _ => simp [isEs] at h
      | nil =>
      cases ops with
      | cons _ _ =>
        cases os with
        | nil => simp [copsIs] at ho
        | cons o' os =>
          show wpAny _ A (holding [va] (eval x env) >>= _) _ _ s
          refine wpAny_bind (wpAny_holding (wpAny_mono step (fun v s₁ h₁ => ?_) fun _ _ e => e))
          obtain ⟨_, _, ⟨b, _, f⟩, _⟩ := h₁
          exact f.elim
      | nil =>
        cases os with
        | cons _ _ => simp [copsIs] at ho
        | nil =>
          refine chain_last (wpAny_mono step (fun v s₁ h₁ => ?_) fun _ _ e => e)
          obtain ⟨mv, μ₁, ⟨b, hb, hq₁⟩, rv, r₁, g₁⟩ := h₁
          exact Ha ho.1 (ra.keepT (g₁.keepT C.heap)) rv r₁ hA hb fun s' st => PostV.trans g₁ (Zv hq₁ r₁ (by simp [RepV]) st)
    | cons e' es =>
      cases xs with
      | nil => simp [isEs] at h
      | cons x' xs =>
      cases ops with
      | nil =>
        cases os with
        | cons _ _ => simp [copsIs] at ho
        | nil =>
          show wpAny _ A (holding [va] (eval x env) >>= _) _ _ s
          refine wpAny_bind (wpAny_holding (wpAny_mono step (fun v s₁ h₁ => ?_) fun _ _ e => e))
          obtain ⟨_, _, ⟨b, _, f⟩, _⟩ := h₁
          exact f.elim
      | cons op' ops =>
        cases os with
        | nil => simp [copsIs] at ho
        | cons o' os =>
          refine chain_link (wpAny_mono step (fun v s₁ h₁ => ?_) fun _ _ e => e)
          obtain ⟨mv, μ₁, ⟨b, hb, hq₁⟩, rv, r₁, g₁⟩ := h₁
          refine Ha ho.1 (ra.keepT (g₁.keepT C.heap)) rv r₁ hA hb fun s' st => wpAny_truthy_bool ?_
          have r₂ : RepH prog w μ₁ s'.heap := by rw [st.1]; exact r₁
          cases b with
          | false => exact PostV.trans g₁ (Zv hq₁ r₁ (by simp [RepV]) st)
          | true =>
            refine wpAny_mono (cmp_list (fun e'' he => hl e'' (.tail _ he)) ho.2 h.2 hA (C.grow (g₁.trans st.grow) r₂) (by rw [st.1]; exact rv) hq₁) (fun v' s₃ h₃ => h₃.trans (g₁.trans st.grow)) fun _ _ e => e
  | [], _, _, _, _, _, _, _, _, _, _, _, _, _, _, _, _ => fun _ _ _ _ _ hq => False.elim hq
  | _ :: _, _, _, _, _, _, [], _, _, _, _, _, _, _, _, _, _ => fun _ _ _ _ _ hq => False.elim hq
  | _ :: _, _, _, _, _, _, _ :: _, [], _, _, _, _, _, _, _, _, _ => fun ho _ _ _ _ hq => by simp [copsIs] at ho
  | _ :: _, _, _, _, _, _, _ :: _, _ :: _, [], _, _, _, _, _, _, _, _ => fun _ h _ _ _ hq => (Bool.false_ne_true h).elim
theorem se_cmp {a : ME} {ops : List COp} {es : List ME} (ha : SE prog w G h₀ Φ d a) (hl : ∀ e ∈ es, SE prog w G h₀ Φ d e) : SE prog w G h₀ Φ d (.cmp a ops es) := fun S x env vars fz μ s Q A E h hA C hq => by
  replace h := Hp h
  obtain ⟨l, os, cs, p, rfl, h⟩ := h
  simp only [Bool.and_eq_true] at h
  show wpAny _ A (eval l env >>= fun v => compareChain p v os (markedEach os cs (evalEach cs env))) _ _ s
  rw [markedEach_of_false _ _ _ (Zo os h.2)]
  refine wpAny_bind (wpAny_mono (ha S _ env vars fz μ s _ A E h.1.1 hA C hq) (fun v s₁ h₁ => ?_) fun _ _ e => e)
  obtain ⟨mv, μ₁, hq₁, rv, r₁, g₁⟩ := h₁
  exact wpAny_mono (cmp_list hl h.1.2 h.2 hA (C.grow g₁ r₁) rv hq₁) (fun v' s₃ h₃ => h₃.trans g₁) fun _ _ e => e
theorem se_ite {c a b : ME} (hc : ST prog w G h₀ Φ d c) (ha : SE prog w G h₀ Φ d a) (hb : SE prog w G h₀ Φ d b) : SE prog w G h₀ Φ d (.ite c a b) := fun S x env vars fz μ s Q A E h hA C hq => by
  replace h := inv_ite h
  obtain ⟨tt, y, z, p, rfl, h⟩ := h
  simp only [Bool.and_eq_true] at h
  refine wpAny_IfExp (wpAny_mono (hc S _ env vars fz μ s (fun b' μ' => if b' then ev G Φ X0 a fz vars Q μ' else ev G Φ X0 b fz vars Q μ') A E h.1.1 hA C hq) (fun v s₁ h₁ => ?_) fun _ _ e => e)
  obtain ⟨μ₁, hq₁, r₁, g₁⟩ := h₁
  cases v with
  | true => exact wpAny_mono (ha S _ env vars fz μ₁ s₁ _ A E h.1.2 hA (C.grow g₁ r₁) hq₁) (fun v' s₃ h₃ => h₃.trans g₁) fun _ _ e => e
  | false => exact wpAny_mono (hb S _ env vars fz μ₁ s₁ _ A E h.2 hA (C.grow g₁ r₁) hq₁) (fun v' s₃ h₃ => h₃.trans g₁) fun _ _ e => e
theorem se_idx {a i : ME} (ha : SE prog w G h₀ Φ d a) (hi : SE prog w G h₀ Φ d i) : SE prog w G h₀ Φ d (.idx a i) := fun S x env vars fz μ s Q A E h hA C hq => by
  replace h := inv_idx h
  obtain ⟨v, y, p, rfl, h⟩ := h
  simp only [Bool.and_eq_true] at h
  refine Subscript_ (wpAny_mono (ha S _ env vars fz μ s _ A E h.1 hA C hq) (fun v s₁ h₁ => ?_) fun _ _ e => e)
  obtain ⟨mv, μ₁, hq₁, rv, r₁, g₁⟩ := h₁
  have C₁ := C.grow g₁ r₁
  refine wpAny_mono (hi S _ env vars fz μ₁ s₁ _ A E h.2 hA C₁ hq₁) (fun u s₂ h₂ => ?_) fun _ _ e => e
  obtain ⟨mu, μ₂, ⟨z, hz, hq₂⟩, ru, r₂, g₂⟩ := h₂
  exact op_item (rv.keepT (g₂.keepT r₁)) ru r₂ hz (sub_plain h.2) fun zv s' rz st => PostV.trans (g₁.trans g₂) (Zv hq₂ r₂ rz st)
theorem isNone_eq {e : ME} (h : e.isNone = true) : e = .cnone := by
  cases e <;> first | rfl | exact (Bool.false_ne_true h).elim
theorem H5 {e : ME} (he : SE prog w G h₀ Φ d e) {S : Sc} {o : Option PySem.Expr} {env : Env} {vars : MVars} {fz : List Addr} {μ : MH} {s : Shared} {Q : MQ} {A : Around} {E : Value → Shared → Prop}
    (h : optOk o e.isNone (isE S e) = true) (hA : OkA d A) (C : Cur prog w h₀ S env vars fz μ s) (hq : ev G Φ X0 e fz vars Q μ) : wpAny (model prog w) A (evalPart o env) (PostV prog w fz μ s Q) E s := by
  cases o with
  | none =>
    obtain rfl := isNone_eq h
    exact wpAny_evalPart_none (Xp hq C.heap (by simp [RepV]) rfl rfl rfl)
  | some x => exact wpAny_evalPart_some (he S x env vars fz μ s Q A E h hA C hq)
theorem se_slice {a lo hi st : ME} (ha : SE prog w G h₀ Φ d a) (hlo : SE prog w G h₀ Φ d lo) (hhi : SE prog w G h₀ Φ d hi) (hst : SE prog w G h₀ Φ d st) : SE prog w G h₀ Φ d (.slice a lo hi st) := fun S x env vars fz μ s Q A E h hA C hq => by
  replace h := inv_slice h
  obtain ⟨v, l, u, tt, sp, p, rfl, h⟩ := h
  simp only [Bool.and_eq_true] at h
  refine Subscript_ (wpAny_mono (ha S _ env vars fz μ s _ A E h.1.1.1 hA C hq) (fun v s₁ h₁ => ?_) fun _ _ e => e)
  obtain ⟨mv, μ₁, hq₁, rv, r₁, g₁⟩ := h₁
  have C₁ := C.grow g₁ r₁
  refine wpAny_Slice (wpAny_mono (H5 hlo h.1.1.2 hA C₁ hq₁) (fun vl s₂ h₂ => ?_) fun _ _ e => e)
  obtain ⟨ml, μ₂, hq₂, rl, r₂, g₂⟩ := h₂
  have C₂ := C₁.grow g₂ r₂
  refine wpAny_mono (H5 hhi h.1.2 hA C₂ hq₂) (fun vh s₃ h₃ => ?_) fun _ _ e => e
  obtain ⟨mh, μ₃, hq₃, rh, r₃, g₃⟩ := h₃
  have C₃ := C₂.grow g₃ r₃
  refine wpAny_mono (H5 hst h.2 hA C₃ hq₃) (fun vs s₄ h₄ => ?_) fun _ _ e => e
  obtain ⟨ms, μ₄, hq₄, rs, r₄, g₄⟩ := h₄
  have C₄ := C₃.grow g₄ r₄
  have kp : ∀ b o, s₄.heap.get? b = some o → (s₄.heap.push { cls := .type "slice", data := .fields #[vl, vh, vs] }).get? b = some o := fun b o e => Heap.get?_push_of_some _ e
  have kt := KeepsT.of_all kp
  refine wpAny_mono (op_slice (sl := s₄.heap.objs.size) (μ₀ := μ) (s₀ := s) (s := { s₄ with heap := s₄.heap.push { cls := .type "slice", data := .fields #[vl, vh, vs] } }) (((rv.keepT (g₂.keepT r₁)).keepT (g₃.keepT r₂)).keepT (g₄.keepT r₃) |>.keepT kt) (((rl.keepT (g₃.keepT r₂)).keepT (g₄.keepT r₃)).keepT kt) ((rh.keepT (g₄.keepT r₃)).keepT kt) (rs.keepT kt) (r₄.ext kp) C₄.fzin hq₄ (Heap.get?_push_size _ rfl)) (fun v' s₅ h₅ => PostV.trans (((g₁.trans g₂).trans g₃).trans g₄) (PostV.trans (.ext (tk := s₄.toks) kp) h₅)) fun _ _ e => e
theorem se_list {l : List ME} (hl : ∀ e ∈ l, SS prog w G h₀ Φ d e) : SE prog w G h₀ Φ d (.list l) := fun S x env vars fz μ s Q A E h hA C hq => by
  replace h := inv_list h
  obtain ⟨es, p, rfl, h⟩ := h
  refine wpAny_List_spliced ?_
  rw [Z1 p h]
  refine wpAny_mono (Zi hl h hA C hq) (fun vs s₁ h₁ => ?_) fun _ _ e => e
  obtain ⟨ms, μ₁, ⟨hf, hq₁⟩, rv, r₁, g₁⟩ := h₁
  refine ⟨by rw [rv.length]; exact Y0 hf, PostV.trans g₁ ?_⟩
  exact Zj (tk := s₁.toks) hq₁ r₁ (C.grow g₁ r₁).fzin (Zl rv)
theorem se_tuple {l : List ME} (hl : ∀ e ∈ l, SS prog w G h₀ Φ d e) : SE prog w G h₀ Φ d (.tuple l) := fun S x env vars fz μ s Q A E h hA C hq => by
  replace h := Ga h
  obtain ⟨es, kk, p, rfl, h⟩ := h
  refine wpAny_Tuple_spliced ?_
  rw [Z1 p h]
  refine wpAny_mono (Zi hl h hA C hq) (fun vs s₁ h₁ => ?_) fun _ _ e => e
  obtain ⟨ms, μ₁, ⟨hf, hq₁⟩, rv, r₁, g₁⟩ := h₁
  refine ⟨by rw [rv.length]; exact Y0 hf, PostV.trans g₁ ?_⟩
  exact Z8 (tk := s₁.toks) hq₁ r₁ (fun b o e => Heap.get?_push_of_some _ e) (Jy rv)
theorem Hf (pg : PG prog w G Γ h₀ mg mb) {S : Sc} {env : Env} {vars : MVars} {fz : List Addr} {μ : MH} {s : Shared} (C : Cur prog w h₀ S env vars fz μ s) : sysModules < s.heap.objs.size := by
  obtain ⟨o, es, ep, ho, _⟩ := pg.g
  have := Heap.lt_size (C.base _ _ ho).1
  exact Nat.lt_trans (by decide) this
theorem se_dict0 (pg : PG prog w G Γ h₀ mg mb) (b : Bool) : SE prog w G h₀ Φ d (.dict0 b) := fun S x env vars fz μ s Q A E h hA C hq => by
  replace h := inv_dict0 h
  obtain ⟨p, rfl⟩ := h
  have hm := Hf pg C
  refine wpAny_Dict_empty (Zj (tk := s.toks) hq C.heap C.fzin ?_)
  have ne : (s.heap.objs.size == sysModules) = false := by
    rw [beq_eq_false_iff_ne]; exact Nat.ne_of_gt hm
  cases b
  · exact ⟨[], Heap.DictOf.new _, trivial, ne⟩
  · exact ⟨[], Heap.DictOf.new _, trivial, ne⟩
theorem se_dict3 (pg : PG prog w G Γ h₀ mg mb) (a b c : String) (i j k : Int) : SE prog w G h₀ Φ d (.dict3 a b c i j k) := fun S x env vars fz μ s Q A E h hA C hq => by
  replace h := inv_dict3 h
  obtain ⟨k1, p1, k2, p2, k3, p3, k4, p4, k5, p5, k6, p6, p, rfl⟩ := h
  obtain ⟨⟨h12, h13, h23⟩, hq⟩ := hq
  have hm := Hf pg C
  refine wpAny_Dict_pairs (knd := strKind prog w) (pairs := [(eval (.Constant (.str (Str.ofString a)) k1 p1) env, do let x ← eval (.Constant (.int i) k4 p4) env; standAt p; pure x), (eval (.Constant (.str (Str.ofString b)) k2 p2) env, do let x ← eval (.Constant (.int j) k5 p5) env; standAt p; pure x), (eval (.Constant (.str (Str.ofString c)) k3 p3) env, do let x ← eval (.Constant (.int k) k6 p6) env; standAt p; pure x)]) rfl (by simp) (show 3 ≤ 15 by decide) ?_
  refine evalPairs_cons (Calls.Constant_str (wpAny_bind (wpAny_Constant_int (wpAny_bind (wpAny_standAt (wpAny_pure ?_))))))
  refine evalPairs_cons (Calls.Constant_str (wpAny_bind (wpAny_Constant_int (wpAny_bind (wpAny_standAt (wpAny_pure ?_))))))
  refine evalPairs_cons (Calls.Constant_str (wpAny_bind (wpAny_Constant_int (wpAny_bind (wpAny_standAt (wpAny_pure (evalPairs_nil ?_)))))))
  refine ⟨[(Str.ofString a, _), (Str.ofString b, _), (Str.ofString c, _)], ⟨strKind_is _ _ _ _, rfl, strKind_is _ _ _ _, rfl, strKind_is _ _ _ _, rfl, trivial⟩, Heap.DictOf.new _, fun h' hd hs => ?_⟩
  rw [show merged [] _ = _ from by simp [merged, stored, h12, h13, h23]; rfl] at hd
  have hlt : ∀ b o, s.heap.get? b = some o → b ≠ s.heap.objs.size := fun b o e => Nat.ne_of_lt (Heap.lt_size e)
  exact Zg (tk := _) hq C.heap C.fzin (Za _) (fun b o e => hs.extBut b o (hlt b o e) (Heap.get?_push_of_some _ e)) ⟨_, hd, ⟨rfl, by simp [RepV], rfl, by simp [RepV], rfl, by simp [RepV], trivial⟩, by rw [beq_eq_false_iff_ne]; exact Nat.ne_of_gt hm⟩
theorem st_not {a : ME} (ha : ST prog w G h₀ Φ d a) : ST prog w G h₀ Φ d (.not a) := fun S x env vars fz μ s F A E h hA C hq => by
  replace h := inv_not h
  obtain ⟨y, p, rfl, h⟩ := h
  show wpAny _ A (isTrue y env (eval y env) >>= fun b => pure (!b)) _ _ s
  have q : (fun (x : MV) (μ' : MH) => ∃ b, truthy μ' x = some b ∧ ∃ b_1, truthy μ' (MV.bool !b) = some b_1 ∧ F b_1 μ') = (fun x μ' => ∃ b, truthy μ' x = some b ∧ F (!b) μ') := by
    funext v μ'
    simp [truthy]
  replace hq : ev G Φ X0 a fz vars (fun x μ' => ∃ b, truthy μ' x = some b ∧ ∃ b_1, truthy μ' (MV.bool !b) = some b_1 ∧ F b_1 μ') μ := hq
  rw [q] at hq
  refine wpAny_bind (wpAny_mono (ha S y env vars fz μ s (fun b μ' => F (!b) μ') A E h hA C hq) (fun v s₁ h₁ => ?_) fun _ _ e => e)
  obtain ⟨μ₁, q₁, r₁, g₁⟩ := h₁
  exact wpAny_pure ⟨μ₁, q₁, r₁, g₁⟩
theorem st_ite {c a b : ME} (hc : ST prog w G h₀ Φ d c) (ha : ST prog w G h₀ Φ d a) (hb : ST prog w G h₀ Φ d b) : ST prog w G h₀ Φ d (.ite c a b) := fun S x env vars fz μ s F A E h hA C hq => by
  replace h := inv_ite h
  obtain ⟨t, y, z, p, rfl, h⟩ := h
  simp only [Bool.and_eq_true] at h
  show wpAny _ A (isTrue t env (eval t env) >>= fun b => if b then isTrue y env (eval y env) else isTrue z env (eval z env)) _ _ s
  refine wpAny_bind (wpAny_mono (hc S _ env vars fz μ s (fun b' μ' => if b' then ev G Φ X0 a fz vars _ μ' else ev G Φ X0 b fz vars _ μ') A E h.1.1 hA C hq) (fun v s₁ h₁ => ?_) fun _ _ e => e)
  obtain ⟨μ₁, hq₁, r₁, g₁⟩ := h₁
  cases v with
  | true => exact wpAny_mono (ha S _ env vars fz μ₁ s₁ F A E h.1.2 hA (C.grow g₁ r₁) hq₁) (fun v' s₃ h₃ => h₃.trans g₁) fun _ _ e => e
  | false => exact wpAny_mono (hb S _ env vars fz μ₁ s₁ F A E h.2 hA (C.grow g₁ r₁) hq₁) (fun v' s₃ h₃ => h₃.trans g₁) fun _ _ e => e
theorem Dv (isOr : Bool) : ∀ {l : List ME} (hl : ∀ e ∈ l, ST prog w G h₀ Φ d e) {S : Sc} {env : Env} {vars : MVars} {fz : List Addr} {xs : List PySem.Expr} {μ : MH} {s : Shared} {F : Bool → MH → Prop} {A : Around} {E : Value → Shared → Prop}, isEs S l xs = true → OkA d A → Cur prog w h₀ S env vars fz μ s →
    (if isOr then evOr G Φ X0 l fz vars (fun v μ' => ∃ b, truthy μ' v = some b ∧ F b μ') μ else evAnd G Φ X0 l fz vars (fun v μ' => ∃ b, truthy μ' v = some b ∧ F b μ') μ) → wpAny (model prog w) A (allTrue (if isOr then .Or else .And) xs env) (PostB prog w fz μ s F) E s
  | [], _, S, env, vars, fz, [], μ, s, F, A, E => fun h hA C hq => by cases isOr <;> exact False.elim hq
  | e :: l, hl, S, env, vars, fz, x :: xs, μ, s, F, A, E => fun h hA C hq => by
    have h' : isE S e x = true ∧ isEs S l xs = true := Y9 h
    have key : ev G Φ X0 e fz vars (fun v μ' => ∃ b, truthy μ' v = some b ∧ if l = [] ∨ b = isOr then F b μ' else (if isOr then evOr G Φ X0 l fz vars (fun v μ' => ∃ b, truthy μ' v = some b ∧ F b μ') μ' else evAnd G Φ X0 l fz vars (fun v μ' => ∃ b, truthy μ' v = some b ∧ F b μ') μ')) μ := by
      cases l with
      | nil =>
        have hq' : ev G Φ X0 e fz vars (fun v μ' => ∃ b, truthy μ' v = some b ∧ F b μ') μ := by cases isOr <;> exact hq
        simpa using hq'
      | cons e' l =>
        cases isOr
        · simp only [Bool.false_eq_true, if_false] at hq ⊢
          have q : (fun (v : MV) (μ' : MH) => ∃ b, truthy μ' v = some b ∧ if e' :: l = [] ∨ b = false then F b μ' else evAnd G Φ X0 (e' :: l) fz vars (fun v μ' => ∃ b, truthy μ' v = some b ∧ F b μ') μ') =
              (fun v μ' => ∃ b, truthy μ' v = some b ∧ if b = true then evAnd G Φ X0 (e' :: l) fz vars (fun v μ' => ∃ b, truthy μ' v = some b ∧ F b μ') μ' else ∃ b, truthy μ' v = some b ∧ F b μ') := by
            funext v μ'
            apply propext
            constructor
            · rintro ⟨b, hb, hh⟩
              refine ⟨b, hb, ?_⟩
              cases b
              · rw [if_pos (.inr rfl)] at hh; rw [if_neg (by simp)]; exact ⟨_, hb, hh⟩
              · simpa using hh
            · rintro ⟨b, hb, hh⟩
              refine ⟨b, hb, ?_⟩
              cases b
              · rw [if_neg (by simp)] at hh; rw [if_pos (.inr rfl)]; obtain ⟨b', hb', hh⟩ := hh; rw [hb] at hb'; cases hb'; exact hh
              · simpa using hh
          rw [q]; exact hq
        · simp only [if_true] at hq ⊢
          have q : (fun (v : MV) (μ' : MH) => ∃ b, truthy μ' v = some b ∧ if e' :: l = [] ∨ b = true then F b μ' else evOr G Φ X0 (e' :: l) fz vars (fun v μ' => ∃ b, truthy μ' v = some b ∧ F b μ') μ') =
              (fun v μ' => ∃ b, truthy μ' v = some b ∧ if b = true then (∃ b, truthy μ' v = some b ∧ F b μ') else evOr G Φ X0 (e' :: l) fz vars (fun v μ' => ∃ b, truthy μ' v = some b ∧ F b μ') μ') := by
            funext v μ'
            apply propext
            constructor
            · rintro ⟨b, hb, hh⟩
              refine ⟨b, hb, ?_⟩
              cases b
              · simpa using hh
              · rw [if_pos (.inr rfl)] at hh; rw [if_pos rfl]; exact ⟨_, hb, hh⟩
            · rintro ⟨b, hb, hh⟩
              refine ⟨b, hb, ?_⟩
              cases b
              · simpa using hh
              · rw [if_pos rfl] at hh; rw [if_pos (.inr rfl)]; obtain ⟨b', hb', hh⟩ := hh; rw [hb] at hb'; cases hb'; exact hh
          rw [q]; exact hq
    show wpAny _ A (isTrue x env (eval x env) >>= _) _ _ s
    refine wpAny_bind (wpAny_mono (hl e (.head _) S x env vars fz μ s (fun b μ' => if l = [] ∨ b = isOr then F b μ' else (if isOr then evOr G Φ X0 l fz vars (fun v μ' => ∃ b, truthy μ' v = some b ∧ F b μ') μ' else evAnd G Φ X0 l fz vars (fun v μ' => ∃ b, truthy μ' v = some b ∧ F b μ') μ')) A E h'.1 hA C key) (fun b s₁ h₁ => ?_) fun _ _ e => e)
    obtain ⟨μ₁, hq₁, r₁, g₁⟩ := h₁
    by_cases hbo : b = isOr
    · subst hbo
      rw [if_pos (.inr rfl)] at hq₁
      cases b <;> exact wpAny_pure ⟨μ₁, hq₁, r₁, g₁⟩
    · by_cases hn : l = []
      · rw [if_pos (.inl hn)] at hq₁
        subst hn
        cases xs with
        | cons _ _ => simp [isEs] at h'
        | nil =>
          cases b <;> cases isOr <;> first
            | exact absurd rfl hbo
            | exact wpAny_pure ⟨μ₁, hq₁, r₁, g₁⟩
      · rw [if_neg (by simp [hn, hbo])] at hq₁
        have rest := Dv isOr (fun e'' he => hl e'' (.tail _ he)) (E := E) h'.2 hA (C.grow g₁ r₁) hq₁
        cases b <;> cases isOr <;> first
          | exact absurd rfl hbo
          | exact wpAny_mono rest (fun v' s₃ h₃ => h₃.trans g₁) fun _ _ e => e
  | [], _, S, env, vars, fz, _ :: _, μ, s, F, A, E => fun h hA C hq => (Bool.false_ne_true h).elim
  | _ :: _, _, S, env, vars, fz, [], μ, s, F, A, E => fun h hA C hq => (Bool.false_ne_true h).elim
theorem st_and {l : List ME} (hl : ∀ e ∈ l, ST prog w G h₀ Φ d e) : ST prog w G h₀ Φ d (.and l) := fun S x env vars fz μ s F A E h hA C hq => by
  replace h := Hq h
  obtain ⟨xs, p, rfl, h⟩ := h
  exact Dv false hl h hA C hq
theorem st_or {l : List ME} (hl : ∀ e ∈ l, ST prog w G h₀ Φ d e) : ST prog w G h₀ Φ d (.or l) := fun S x env vars fz μ s F A E h hA C hq => by
  replace h := inv_or h
  obtain ⟨xs, p, rfl, h⟩ := h
  exact Dv true hl h hA C hq
theorem Fl : ∀ {es : List ME} (hl : ∀ e ∈ es, SE prog w G h₀ Φ d e) {S : Sc} {env : Env} {vars : MVars} {fz : List Addr} {ops : List COp} {os : List CmpOp} {xs : List PySem.Expr} {a : MV} {va : Value} {μ : MH} {s : Shared} {F : Bool → MH → Prop} {A : Around} {E : Value → Shared → Prop} {pos : Pos}, copsIs ops os = true → isEs S es xs = true → OkA d A → Cur prog w h₀ S env vars fz μ s →
    RepV s.heap a va → evCmp G Φ X0 es ops a fz vars (fun v μ' => ∃ b, truthy μ' v = some b ∧ F b μ') μ → wpAny (model prog w) A (testChain pos va os (evalEach xs env)) (PostB prog w fz μ s F) E s
  | e :: es, hl, S, env, vars, fz, op :: ops, o :: os, x :: xs, a, va, μ, s, F, A, E, pos => fun ho h hA C ra hq => by
    simp only [copsIs, Bool.and_eq_true] at ho
    replace h := Y9 h
    have step := hl e (.head _) S x env vars fz μ s _ A E h.1 hA C hq
    cases es with
    | nil =>
      cases xs with
      | cons _ _ => simp [isEs] at h
      | nil =>
      cases ops with
      | cons _ _ =>
        cases os with
        | nil => simp [copsIs] at ho
        | cons o' os =>
          show wpAny _ A (holding [va] (eval x env) >>= _) _ _ s
          refine wpAny_bind (wpAny_holding (wpAny_mono step (fun v s₁ h₁ => ?_) fun _ _ e => e))
          obtain ⟨_, _, ⟨b, _, f⟩, _⟩ := h₁
          exact f.elim
      | nil =>
        cases os with
        | cons _ _ => simp [copsIs] at ho
        | nil =>
          refine test_last (wpAny_mono step (fun v s₁ h₁ => ?_) fun _ _ e => e)
          obtain ⟨mv, μ₁, ⟨b, hb, b', hb', hq₁⟩, rv, r₁, g₁⟩ := h₁
          simp only [truthy, Option.some.injEq] at hb'; subst hb'
          exact Ha ho.1 (ra.keepT (g₁.keepT C.heap)) rv r₁ hA hb fun s' st => wpAny_truthy_bool (PostB.trans (g₁.trans st.grow) ⟨μ₁, hq₁, by rw [st.1]; exact r₁, .refl⟩)
    | cons e' es =>
      cases xs with
      | nil => simp [isEs] at h
      | cons x' xs =>
      cases ops with
      | nil =>
        cases os with
        | cons _ _ => simp [copsIs] at ho
        | nil =>
          show wpAny _ A (holding [va] (eval x env) >>= _) _ _ s
          refine wpAny_bind (wpAny_holding (wpAny_mono step (fun v s₁ h₁ => ?_) fun _ _ e => e))
          obtain ⟨_, _, ⟨b, _, f⟩, _⟩ := h₁
          exact f.elim
      | cons op' ops =>
        cases os with
        | nil => simp [copsIs] at ho
        | cons o' os =>
          refine test_link (wpAny_mono step (fun v s₁ h₁ => ?_) fun _ _ e => e)
          obtain ⟨mv, μ₁, ⟨b, hb, hq₁⟩, rv, r₁, g₁⟩ := h₁
          refine Ha ho.1 (ra.keepT (g₁.keepT C.heap)) rv r₁ hA hb fun s' st => wpAny_truthy_bool ?_
          have r₂ : RepH prog w μ₁ s'.heap := by rw [st.1]; exact r₁
          cases b with
          | false =>
            obtain ⟨b', hb', hq₁⟩ := hq₁
            simp only [truthy, Option.some.injEq] at hb'; subst hb'
            exact PostB.trans (g₁.trans st.grow) ⟨μ₁, hq₁, r₂, .refl⟩
          | true =>
            refine wpAny_mono (Fl (fun e'' he => hl e'' (.tail _ he)) ho.2 h.2 hA (C.grow (g₁.trans st.grow) r₂) (by rw [st.1]; exact rv) hq₁) (fun v' s₃ h₃ => h₃.trans (g₁.trans st.grow)) fun _ _ e => e
  | [], _, _, _, _, _, _, _, _, _, _, _, _, _, _, _, _ => fun _ _ _ _ _ hq => False.elim hq
  | _ :: _, _, _, _, _, _, [], _, _, _, _, _, _, _, _, _, _ => fun _ _ _ _ _ hq => False.elim hq
  | _ :: _, _, _, _, _, _, _ :: _, [], _, _, _, _, _, _, _, _, _ => fun ho _ _ _ _ hq => by simp [copsIs] at ho
  | _ :: _, _, _, _, _, _, _ :: _, _ :: _, [], _, _, _, _, _, _, _, _ => fun _ h _ _ _ hq => (Bool.false_ne_true h).elim
theorem st_cmp {a : ME} {ops : List COp} {es : List ME} (ha : SE prog w G h₀ Φ d a) (hl : ∀ e ∈ es, SE prog w G h₀ Φ d e) : ST prog w G h₀ Φ d (.cmp a ops es) := fun S x env vars fz μ s Q A E h hA C hq => by
  replace h := Hp h
  obtain ⟨l, os, cs, p, rfl, h⟩ := h
  simp only [Bool.and_eq_true] at h
  show wpAny _ A (eval l env >>= fun v => testChain p v os (markedEach os cs (evalEach cs env))) _ _ s
  rw [markedEach_of_false _ _ _ (Zo os h.2)]
  refine wpAny_bind (wpAny_mono (ha S _ env vars fz μ s _ A E h.1.1 hA C hq) (fun v s₁ h₁ => ?_) fun _ _ e => e)
  obtain ⟨mv, μ₁, hq₁, rv, r₁, g₁⟩ := h₁
  exact wpAny_mono (Fl hl h.1.2 h.2 hA (C.grow g₁ r₁) rv hq₁) (fun v' s₃ h₃ => h₃.trans g₁) fun _ _ e => e
end
end Mine
end
section
namespace Mine
open PySem PySem.Calls PyProof.Rows PySem.W
section
variable {prog : Program} {w : World} {G : String → Option MV} {Γ : String → Option MFun} {h₀ : Heap} {mg mb : Str → Option Value} {Φ : CallSpec} {d : Nat}
theorem se_call (hc : SC prog w h₀ Φ d) {f : String} {l : List ME} (hl : ∀ e ∈ l, SS prog w G h₀ Φ d e) : SE prog w G h₀ Φ d (.call f l) := fun S x env vars fz μ s Q A E h hA C hq => by
  replace h := Co h
  obtain ⟨g, np, as, p, rfl, hg, h⟩ := h
  simp only [Bool.and_eq_true, decide_eq_true_eq, List.contains_iff_mem] at h
  obtain ⟨⟨hf, ha⟩, hn⟩ := h
  obtain ⟨fa, m, hm, hmf, o, fd, ho, hfd⟩ := C.known f hf
  obtain ⟨rfl, hk, hd⟩ := Jo hg
  refine wpAny_Call_ofName (Name_function_global C.fr.kind (by unfold Env.kindOf; rw [C.fr.names]; exact hk) (loadGlobal_global (mg := m) ?_ hmf ?_) hd)
  · rw [C.fr.glob]
    exact hm.keeps fun b o e => (C.base b o e).1
  rw [Z1 p ha]
  show wpAny _ A (callWith p (.ref fa) [] _ []) _ _ s
  refine callWith_function (o := o) (fd := fd) (Yc (Yb as) (wpAny_mono (Zi hl ha hA C hq) (fun vs s₁ h₁ => ?_) fun _ _ e => e))
  obtain ⟨ms, μ₁, hq₁, rv, r₁, g₁⟩ := h₁
  have C₁ := C.grow g₁ r₁
  refine ⟨⟨(C₁.base _ _ ho).1, hfd⟩, ?_⟩
  refine wpAny_mono (hc f ms vs fz μ₁ s₁ Q A E fa hA C₁.base r₁ C₁.fzin rv ⟨m, hm, hmf, o, fd, ho, hfd⟩ hq₁) (fun v' s₃ h₃ => h₃.trans g₁) fun _ _ e => e
theorem se_isinst (pg : PG prog w G Γ h₀ mg mb) {a : ME} {t : TY} (ha : SS prog w G h₀ Φ d a) : SE prog w G h₀ Φ d (.isinst a t) := fun S x env vars fz μ s Q A E h hA C hq => by
  replace h := inv_isinst h
  obtain ⟨g, np, y, ty, tp, p, rfl, h1, h2, h3⟩ := h
  refine wpAny_Call_ofName (Ou pg C h1 (v := .builtin "isinstance") (by decide) ?_)
  show wpAny _ A (callWith p (.builtin "isinstance") [] (backTo p (starEach [y, .Name ty tp] env)) []) _ _ s
  have e1 : backTo p (starEach [y, .Name ty tp] env) = [(false, eval y env), (false, eval (.Name ty tp) env)] := by
    rw [Bo h3]; rfl
  rw [e1]
  refine callWith_builtin rfl (Yc rfl ?_)
  refine Calls.spliced_cons (wpAny_mono (ha.1 S y env vars fz μ s _ A E h3 hA C hq) (fun v s₁ h₁ => ?_) fun _ _ e => e)
  obtain ⟨mv, μ₁, ⟨b, hb, hq₁⟩, rv, r₁, g₁⟩ := h₁
  refine Calls.spliced_cons (Ou pg (C.grow g₁ r₁) h2 (v := .type (tyName t)) (by cases t <;> decide) ?_)
  refine Calls.spliced_nil ?_
  exact op_isinst rv r₁ hb fun s' st => PostV.trans g₁ (Zv hq₁ r₁ (by simp [RepV]) st)
theorem attr_base {ov : PySem.Expr} (h : notCall0 ov = true) (attr : Str) (env : Env) (whole : Sem Value) : attributeBase ov attr env whole = whole := by
  cases ov <;> try rfl
  rename_i f as kw p
  cases f <;> try rfl
  cases as <;> try rfl
  cases kw <;> first | rfl | exact (Bool.false_ne_true h).elim
theorem se_meth {m : MM} {o : ME} {l : List ME} (ho : SE prog w G h₀ Φ d o) (hl : ∀ e ∈ l, SS prog w G h₀ Φ d e) : SE prog w G h₀ Φ d (.meth m o l) := fun S x env vars fz μ s Q A E h hA C hq => by
  replace h := inv_meth h
  obtain ⟨ov, ap, as, p, rfl, hline, hc0, hov, has, hlen⟩ := h
  refine wpAny_Call_method_late ?_ ?_ (by simpa using hline) (Z1 p has) (wpAny_mono (ho S ov env vars fz μ s _ A E hov hA C hq) (fun v s₁ h₁ => ?_) fun _ _ e => e)
  · exact attr_base hc0 _ _ _
  · rw [Z1 p has]
    have : as.length = l.length := As has
    simp only [List.all_map, Bool.and_eq_true, decide_eq_true_eq]
    refine ⟨⟨by simp, rfl⟩, ?_⟩
    simp only [List.length_nil, List.isEmpty_nil, if_true]; lia
  · obtain ⟨mv, μ₁, ⟨hk, hq₁⟩, rv, r₁, g₁⟩ := h₁
    obtain ⟨T, pa, slot, hty, hT, hd⟩ := meth_ok rv r₁ hk
    refine ⟨T, methId m, pa, slot, hty, hT, hd, ?_⟩
    refine callWith_builtin (Yb as) (Yc (Yb as) (wpAny_mono (Zi hl has hA (C.grow g₁ r₁) hq₁) (fun vs s₂ h₂ => ?_) fun _ _ e => e))
    obtain ⟨ms, μ₂, hq₂, rs, r₂, g₂⟩ := h₂
    exact wpAny_mono (op_meth hA (rv.keepT (g₂.keepT r₁)) rs r₂ ((C.grow g₁ r₁).grow g₂ r₂).fzin hq₂) (fun v' s₃ h₃ => h₃.trans (g₁.trans g₂)) fun _ _ e => e
noncomputable def biVal (f : BI) : Value := match f with
  | .len => .builtin "len" | .min2 => .builtin "min" | .max2 => .builtin "max" | .maxD => .builtin "max" | .max1 => .builtin "max" | .sorted => .builtin "sorted" | .sortedR => .builtin "sorted" | .sortedSet => .builtin "sorted"
  | .list => .type "list" | .dict => .type "dict" | .int => .type "int" | .str => .type "str" | .all => .builtin "all"
theorem op_bi {f : BI} {ms : List MV} {vs : List Value} {fz : List Addr} {μ : MH} {s : Shared} {Q : MQ} {A : Around} {E : Value → Shared → Prop} (hp : plainBI f = true) (hA : A.handled = none) (r : RepH prog w μ s.heap) (fi : FzIn fz μ) (hv : RepVs s.heap ms vs) (hm : sysModules < s.heap.objs.size) (h : biM fz f ms Q μ) :
    wpAny (model prog w) A (call (biVal f) vs) (PostV prog w fz μ s Q) E s := by
  cases f with
  | len =>
    replace h := Ko h; obtain ⟨m, rfl, h⟩ := h
    replace hv := hv.one; obtain ⟨v, rfl, hv⟩ := hv
    exact op_len hv r h
  | min2 =>
    replace h := a2_inv h; obtain ⟨m, n, rfl, h⟩ := h
    replace h := Jp h; obtain ⟨x, y, rfl, rfl, h⟩ := h
    replace hv := hv.two; obtain ⟨v, u, rfl, ⟨t, rfl⟩, ⟨t', rfl⟩⟩ := hv
    exact op_min2 hA r h
  | max2 =>
    replace h := a2_inv h; obtain ⟨m, n, rfl, h⟩ := h
    replace h := Jp h; obtain ⟨x, y, rfl, rfl, h⟩ := h
    replace hv := hv.two; obtain ⟨v, u, rfl, ⟨t, rfl⟩, ⟨t', rfl⟩⟩ := hv
    exact op_max2 hA r h
  | max1 => exact False.elim h
  | sorted =>
    replace h := Ko h; obtain ⟨mm, rfl, l, ns, hs, hi, hn, hf, h⟩ := h
    replace hv := hv.one; obtain ⟨v, rfl, hv⟩ := hv
    exact (op_sorted (b := false) r fi hv hi hn hf hA (G8 hs) h).1 rfl
  | list =>
    replace h := Ko h; obtain ⟨mm, rfl, l, hs, hi, hf, h⟩ := h
    replace hv := hv.one; obtain ⟨v, rfl, hv⟩ := hv
    exact op_list hA hv r fi hi hf (G8 hs) h
  | dict =>
    replace h := Ko h; obtain ⟨mm, rfl, h⟩ := h
    replace hv := hv.one; obtain ⟨v, rfl, hv⟩ := hv
    replace h := V4 h; obtain ⟨a, rfl, h⟩ := h
    obtain rfl : v = .ref a := hv
    cases q : μ a with
    | none => rw [q] at h; exact False.elim h
    | some mo =>
      rw [q] at h
      cases mo with
      | list l => obtain ⟨ps, e, hf, h⟩ := h; exact F1 r fi q e hf hA hm h
      | idict l => exact H9 r fi q h.1 hm h.2
      | sdict l => exact False.elim h
  | int =>
    replace h := Ko h; obtain ⟨mm, rfl, h⟩ := h
    replace hv := hv.one; obtain ⟨v, rfl, hv⟩ := hv
    cases mm with
    | bool b => obtain rfl : v = .bool b := hv; exact call_int_bool (Xp h r ⟨_, rfl⟩ rfl rfl rfl)
    | str x => obtain ⟨t, rfl⟩ := hv; obtain ⟨n, e, hl, h⟩ := h; exact KIN.call_text e hl (Xp h r ⟨_, rfl⟩ rfl rfl rfl)
    | _ => exact False.elim h
  | all => exact False.elim h
  | str =>
    replace h := Ko h; obtain ⟨mm, rfl, h⟩ := h
    replace hv := hv.one; obtain ⟨v, rfl, hv⟩ := hv
    cases mm with
    | int i => obtain ⟨t, rfl⟩ := hv; exact P.str_of_int h.1 (Xp h.2 r ⟨_, rfl⟩ rfl rfl rfl)
    | str x => obtain ⟨t, rfl⟩ := hv; exact P.str_of_str (Xp h r ⟨_, rfl⟩ rfl rfl rfl)
    | _ => exact False.elim h
  | maxD => cases hp
  | sortedR => cases hp
  | sortedSet => cases hp
theorem biVal_mem (f : BI) : (biName f, biVal f) ∈ biTab := by cases f <;> decide
theorem N7 (pg : PG prog w G Γ h₀ mg mb) {f : BI} {l : List ME} (hl : ∀ e ∈ l, SS prog w G h₀ Φ d e) (hp : plainBI f = true) : SE prog w G h₀ Φ d (.bi f l) := fun S x env vars fz μ s Q A E h hA C hq => by
  obtain ⟨g, np, as, p, rfl, hg, has⟩ := inv_bi hp h
  refine wpAny_Call_ofName (Ou pg C hg (biVal_mem f) ?_)
  rw [Z1 p has]
  have fin : wpAny (model prog w) A (spliced (as.map fun x => (false, eval x env))) (fun vs s' => wpAny (model prog w) A (call (biVal f) vs) (PostV prog w fz μ s Q) E s') E s := by
    refine wpAny_mono (Zi hl has hA C hq) (fun vs s₁ h₁ => ?_) fun _ _ e => e
    obtain ⟨ms, μ₁, hq₁, rv, r₁, g₁⟩ := h₁
    have C₁ := C.grow g₁ r₁
    exact wpAny_mono (op_bi hp hA.hand r₁ C₁.fzin rv (Hf pg C₁) hq₁) (fun v' s₃ h₃ => h₃.trans g₁) fun _ _ e => e
  cases f <;> simp only [plainBI, Bool.false_eq_true] at hp <;> first
    | exact callWith_builtin (Yb as) (Yc (Yb as) fin)
    | exact PySem.callWith_type (Yb as) (Yc (Yb as) fin)
theorem se_sortedR (pg : PG prog w G Γ h₀ mg mb) {l : List ME} (hl : ∀ e ∈ l, SS prog w G h₀ Φ d e) : SE prog w G h₀ Φ d (.bi .sortedR l) := fun S x env vars fz μ s Q A E h hA C hq => (Bool.false_ne_true h).elim
theorem se_maxD (pg : PG prog w G Γ h₀ mg mb) {l : List ME} (hl : ∀ e ∈ l, SS prog w G h₀ Φ d e) : SE prog w G h₀ Φ d (.bi .maxD l) := fun S x env vars fz μ s Q A E h hA C hq => (Bool.false_ne_true h).elim
end
end Mine
end
section
namespace Mine
open PySem PySem.Calls PyProof.Rows PySem.W
structure MWalk (prog : Program) (w : World) (A : Around) (I : Addr) (fp wr : List Addr) (all : List MV) (St : Nat → Heap → Prop) : Prop where
  sub : ∀ b ∈ wr, b ∈ fp
  alive : ∀ i h, St i h → ∀ b ∈ wr, ∃ o, h.get? b = some o
  frame : ∀ i h h', St i h → KeepsT h h' → (∀ b ∈ fp, ∀ o, h.get? b = some o → h'.get? b = some o) → St i h'
  item : ∀ i m (s : Shared) (Q : Option Value → Shared → Prop) (E : Value → Shared → Prop), all[i]? = some m → St i s.heap →
    (∀ v h' tk, RepV h' m v → St (i + 1) h' → KeepsT s.heap h' → (∀ b o, b ∉ wr → s.heap.get? b = some o → h'.get? b = some o) → Q (some v) { s with heap := h', toks := tk }) → wpAny (model prog w) A (pyNext (.ref I)) Q E s
  done : ∀ (s : Shared) (Q : Option Value → Shared → Prop) (E : Value → Shared → Prop), St all.length s.heap →
    (∀ h' tk, KeepsT s.heap h' → (∀ b o, b ∉ wr → s.heap.get? b = some o → h'.get? b = some o) → Q none { s with heap := h', toks := tk }) → wpAny (model prog w) A (pyNext (.ref I)) Q E s
  self : ∀ i (s : Shared) (Q : Value → Shared → Prop) (E : Value → Shared → Prop), St i s.heap → Q (.ref I) s → wpAny (model prog w) A (pyIter (.ref I)) Q E s
  go : ∀ target i v (s : Shared) (Q : Unit → Shared → Prop) (E : Value → Shared → Prop), St (i + 1) s.heap → Q () s → wpAny (model prog w) A (letOwnedTupleGo target (.ref I) v) Q E s
noncomputable def iterCls : List String := ["list_iterator", "tuple_iterator", "dict_keyiterator", "str_ascii_iterator", "str_iterator", "range_iterator", "list_reverseiterator"]
noncomputable def ItObj (h : Heap) (I : Addr) : Prop := ∃ o T, h.get? I = some o ∧ o.cls = .type T ∧ T ∈ iterCls ∧ ∃ vs, o.data = .fields vs
section
variable {prog : Program} {w : World} {A : Around}
theorem ItObj.notImm {h : Heap} {I : Addr} (x : ItObj h I) : ∀ o, h.get? I = some o → ¬ ImmCls o := by
  obtain ⟨o, T, ho, hc, hT, _⟩ := x
  intro o' ho' hi
  rw [ho] at ho'; cases ho'
  unfold ImmCls at hi
  rw [hc] at hi
  simp only [iterCls, List.mem_cons, List.not_mem_nil, or_false] at hT
  rcases hT with rfl | rfl | rfl | rfl | rfl | rfl | rfl <;> simp at hi
theorem ItObj.go {s : Shared} {I : Addr} (x : ItObj s.heap I) {target : PySem.Expr} {v : Value} {Q : Unit → Shared → Prop} {E : Value → Shared → Prop} (h : Q () s) : wpAny (model prog w) A (letOwnedTupleGo target (.ref I) v) Q E s := by
  obtain ⟨o, T, ho, hc, hT, vs, hd⟩ := x
  have hn : (["enumerate", "zip", "dict_itemiterator", "dict_reverseitemiterator", "odict_iterator", "itertools.zip_longest", "itertools.pairwise"].contains T) = false := by
    simp only [iterCls, List.mem_cons, List.not_mem_nil, or_false] at hT
    rcases hT with rfl | rfl | rfl | rfl | rfl | rfl | rfl <;> decide
  cases target <;> first
    | exact wpAny_pure h
    | (cases v <;> first
        | exact wpAny_pure h
        | (refine wpAny_bind (wpAny_load ho ?_)
           rw [hc, hd]
           simp only [hn, Bool.false_and]
           exact wpAny_pure h))
theorem MWalk.of {I : Addr} {fp : List Addr} {n : Nat} {P : Nat → Value → Prop} {St : Nat → Heap → Prop} {hc : Heap} {all : List MV} (W : Walks prog w A I fp [I] n P St) (hn : n = all.length) (ni : ∀ i h, St i h → ItObj h I)
    (hP : ∀ i v h', P i v → KeepsT hc h' → ∃ m, all[i]? = some m ∧ RepV h' m v) : MWalk prog w A I fp [I] all (fun i h => St i h ∧ KeepsT hc h) where
  sub := W.sub
  alive := fun i h st b hb => by simp at hb; subst hb; obtain ⟨o, _, ho, _⟩ := ni i h st.1; exact ⟨o, ho⟩
  frame := fun i h h' st k hk => ⟨W.frame i h h' st.1 hk, fun b o e hi => k b o (st.2 b o e hi) hi⟩
  item := fun i m s Q E hm st hQ => by
    have hi : i < n := by rw [hn]; exact (List.getElem?_eq_some_iff.mp hm).1
    refine W.item i s Q E hi st.1 fun v h' tk hv st' hk => ?_
    have kt : KeepsT s.heap h' := fun b o e hi => hk b o (fun q => by simp at q; subst q; exact (ni i _ st.1).notImm o e hi) e
    have kc : KeepsT hc h' := fun b o e hi => kt b o (st.2 b o e hi) hi
    obtain ⟨m', hm', r⟩ := hP i v h' hv kc
    rw [hm] at hm'; cases hm'
    exact hQ v h' tk r ⟨st', kc⟩ kt hk
  done := fun s Q E st hQ => by
    refine W.done s Q E (hn ▸ st.1) fun h' tk hk => ?_
    have kt : KeepsT s.heap h' := fun b o e hi => hk b o (fun q => by simp at q; subst q; exact (ni _ _ st.1).notImm o e hi) e
    exact hQ h' tk kt hk
  self := fun i s Q E st hQ => W.self i s Q E st.1 hQ
  go := fun target i v s Q E st hQ => (ni _ _ st.1).go hQ
end
section
variable {prog : Program} {w : World} {A : Around} {E : Value → Shared → Prop} {fz : List Addr} {μ : MH} {s : Shared}
inductive SrcAt (prog : Program) (w : World) (A : Around) (μ : MH) (held : List Addr) (all : List MV) (s₀ : Shared) (it : Value) (s : Shared) : Prop
  | mk (I : Addr) (fp wr : List Addr) (St : Nat → Heap → Prop) (e : it = .ref I) (W : MWalk prog w A I fp wr all St) (st : St 0 s.heap) (hfp : ∀ b ∈ fp, (μ b = none ∨ b ∈ held) ∧ ∃ o, s.heap.get? b = some o ∧ (∀ v, o.data ≠ .cell v) ∧ (b ∈ held ∨ ∀ es ep, o.data ≠ .dict es ep)) (hwr : ∀ b ∈ wr, s₀.heap.get? b = none ∧ μ b = none)
    (keep : ∀ b o, s₀.heap.get? b = some o → s.heap.get? b = some o) (os : s.os = s₀.os) (gens : s.gens = s₀.gens)
theorem Kp {oI : Obj} {fp : List Addr} {n : Nat} {P : Nat → Value → Prop} {St : Nat → Heap → Prop} {held : List Addr} {all : List MV} (r : RepH prog w μ s.heap)
    (W : Walks prog w A s.heap.objs.size fp [s.heap.objs.size] n P St) (hn : n = all.length) (hst : St 0 (s.heap.push oI)) (ni : ∀ i h, St i h → ItObj h s.heap.objs.size)
    (hP : ∀ i v h', P i v → KeepsT s.heap h' → ∃ m, all[i]? = some m ∧ RepV h' m v) (hfp : ∀ b ∈ fp, b = s.heap.objs.size ∨ ((μ b = none ∨ b ∈ held) ∧ ∃ o, s.heap.get? b = some o ∧ (∀ v, o.data ≠ .cell v) ∧ (b ∈ held ∨ ∀ es ep, o.data ≠ .dict es ep))) :
    SrcAt prog w A μ held all s (.ref s.heap.objs.size) { s with heap := s.heap.push oI } := by
  have kp : ∀ b o, s.heap.get? b = some o → (s.heap.push oI).get? b = some o := fun b o e => Heap.get?_push_of_some _ e
  refine ⟨_, fp, [s.heap.objs.size], _, rfl, MWalk.of (hc := s.heap) W hn ni hP, ⟨hst, .of_all kp⟩, fun b hb => ?_, fun b hb => ?_, kp, rfl, rfl⟩
  · rcases hfp b hb with rfl | ⟨h1, o, h2⟩
    · obtain ⟨o, _, ho, _, _, _, hd⟩ := ni _ _ hst; exact ⟨.inl (r.free (Za _)), o, ho, (fun v e => by rw [hd] at e; cases e), .inr fun es ep e => by rw [hd] at e; cases e⟩
    · exact ⟨h1, o, kp b o h2.1, h2.2⟩
  · simp at hb; subst hb; exact ⟨Za _, r.free (Za _)⟩
theorem tupNone {a : Addr} {o : Obj} (r : RepH prog w μ s.heap) (ho : s.heap.get? a = some o) (hi : ImmCls o) : μ a = none := by
  cases q : μ a with
  | none => rfl
  | some m => obtain ⟨y, hy, hn⟩ := (r a m q).obj; rw [ho] at hy; cases hy; exact absurd hi hn
theorem op_iter {v : MV} {x : Value} {all : List MV} (hA : A.handled = none) (hv : RepV s.heap v x) (r : RepH prog w μ s.heap) (e : items μ v = some all) (hns : isVals v = false) {Q : Value → Shared → Prop}
    (h : ∀ it s', SrcAt prog w A μ (Src.val v).held all s it s' → Q it s') : wpAny (model prog w) A (pyIter x) Q E s := by
  have lists : ∀ (a : Addr) (vs : List Value) (n : Nat), s.heap.get? a = some { cls := .type "list", data := .seq vs.toArray n } → x = .ref a → RepVs s.heap all vs → a ∈ (Src.val v).held → wpAny (model prog w) A (pyIter x) Q E s := by
    intro a vs n ho hx hr hh
    subst hx
    have lta := Heap.lt_size ho
    have hL : s.heap.IsList a vs.toArray := ⟨_, ho, rfl, n, rfl⟩
    refine wpAny_pyIter_list hL (h _ _ (Kp r (Walks.list hA s.heap.objs.size a (Nat.ne_of_lt lta) vs.toArray) (by simp [hr.length]) ⟨⟨_, Heap.get?_push_size _ rfl, rfl, rfl⟩, hL.push _⟩ ?_ ?_ ?_))
    · rintro i h ⟨⟨o, h1, h2, h3⟩, _⟩; exact ⟨o, _, h1, h2, by decide, _, h3⟩
    · intro i v h' hv' kt
      rw [List.getElem?_toArray] at hv'
      have hlt := (List.getElem?_eq_some_iff.mp hv').1
      have hlt2 : i < all.length := by rw [← hr.length]; exact hlt
      obtain ⟨y, h1, h2⟩ := hr.get (List.getElem?_eq_getElem hlt2)
      rw [hv'] at h1; cases h1
      exact ⟨_, List.getElem?_eq_getElem hlt2, h2.keepT kt⟩
    · intro b hb; simp at hb; rcases hb with rfl | rfl
      · exact .inl rfl
      · exact .inr ⟨.inr hh, _, ho, (fun v e => by cases e), .inl hh⟩
  have dicts : ∀ {K : Type} [DecidableEq K] (knd : PySem.KeyKind prog w K) (enc : K → MV) (he : ∀ k u h', knd.is k u = true → RepV h' (enc k) u) (a : Addr) (kv : List (K × MV)) (kvs : List (K × Value)), s.heap.DictOf knd a kvs → RepKV s.heap kv kvs → (a == sysModules) = false →
      all = kv.map (fun p => enc p.1) → a ∈ (Src.val v).held → (x = .ref a ∨ ∃ r, x = .ref r ∧ KeysView s.heap r a) → wpAny (model prog w) A (pyIter x) Q E s := by
    intro K _ knd enc he a kv kvs hD hk hs hal hh hx
    obtain ⟨ep, hat⟩ := hD.dictAt
    have lta := hat.lt_size
    have fin : ∀ hst, SrcAt prog w A μ (Src.val v).held all s (.ref s.heap.objs.size) { s with heap := s.heap.push hst } ∨ True := fun _ => .inr trivial
    have mk : ∀ oI, (s.heap.push oI).IsKeyIter s.heap.objs.size a 0 kvs.length ep → SrcAt prog w A μ (Src.val v).held all s (.ref s.heap.objs.size) { s with heap := s.heap.push oI } := by
      intro oI hI
      refine Kp r (Walks.dictKeys hA s.heap.objs.size a (Nat.ne_of_lt lta) kvs ep) (by simp [hal, hk.length]) ⟨hI, hat.push _⟩ ?_ ?_ ?_
      · rintro i h ⟨⟨o, h1, h2, h3⟩, _⟩; exact ⟨o, _, h1, h2, by decide, _, h3⟩
      · rintro i u h' ⟨k, y, h1, h2⟩ kt
        obtain ⟨m, h3, h4⟩ := Kq hk h1
        exact ⟨enc k, by simp [hal, h3], he k u h' h2⟩
      · intro b hb; simp at hb; rcases hb with rfl | rfl
        · exact .inl rfl
        · obtain ⟨o, ho, hd⟩ : ∃ o, s.heap.get? b = some o ∧ ∀ v, o.data ≠ .cell v := by
            obtain ⟨o, es, ep, ho, hd⟩ := hD
            refine ⟨o, ho, fun v e => ?_⟩
            have := hd.2.1
            rw [this] at e; cases e
          exact .inr ⟨.inr hh, o, ho, hd, .inl hh⟩
    rcases hx with rfl | ⟨r', rfl, hr'⟩
    · exact wpAny_pyIter_dict hs hat (h _ _ (mk _ ⟨_, Heap.get?_push_size _ rfl, rfl, rfl⟩))
    · exact kdl_pyIter_keys hr' hat (h _ _ (mk _ ⟨_, Heap.get?_push_size _ rfl, rfl, rfl⟩))
  cases v with
  | none => cases e
  | bool b => cases e
  | int i => cases e
  | vals a => cases hns
  | str st =>
    obtain ⟨t, rfl⟩ := hv
    obtain rfl : chars st = all := Option.some.inj e
    have hP : ∀ (i : Nat) v h', SignAt st i v → KeepsT s.heap h' → ∃ m, (chars st)[i]? = some m ∧ RepV h' m v := by
      rintro i v h' ⟨c, u, hc, rfl⟩ kt
      refine ⟨.str ⟨#[c]⟩, ?_, by simp only [RepV]; exact ⟨u, rfl⟩⟩
      unfold chars
      rw [List.getElem?_map, Array.getElem?_toList, hc]; rfl
    refine wpAny_pyIter_strU ?_
    unfold strIterType
    split
    · refine h _ _ (Kp r (Walks.strAscii hA s.heap.objs.size st t) (by simp [chars]) ⟨_, Heap.get?_push_size _ rfl, rfl, rfl⟩ ?_ hP ?_)
      · rintro i h ⟨o, h1, h2, h3⟩; exact ⟨o, _, h1, h2, by decide, _, h3⟩
      · intro b hb; simp at hb; exact .inl hb
    · refine h _ _ (Kp r (Walks.strWide hA s.heap.objs.size st t) (by simp [chars]) ⟨_, Heap.get?_push_size _ rfl, rfl, rfl⟩ ?_ hP ?_)
      · rintro i h ⟨o, h1, h2, h3⟩; exact ⟨o, _, h1, h2, by decide, _, h3⟩
      · intro b hb; simp at hb; exact .inl hb
  | tup l =>
    obtain rfl : l = all := Option.some.inj e
    obtain ⟨a, vs, n, rfl, ho, hr⟩ := hv
    have lta := Heap.lt_size ho
    have hL : s.heap.IsTuple a vs.toArray := ⟨_, ho, rfl, n, rfl⟩
    refine wpAny_pyIter_tuple hL (h _ _ (Kp r (Walks.tuple hA s.heap.objs.size a (Nat.ne_of_lt lta) vs.toArray) (by simp [hr.length]) ⟨⟨_, Heap.get?_push_size _ rfl, rfl, rfl⟩, hL.push _⟩ ?_ ?_ ?_))
    · rintro i h ⟨⟨o, h1, h2, h3⟩, _⟩; exact ⟨o, _, h1, h2, by decide, _, h3⟩
    · intro i v h' hv' kt
      rw [List.getElem?_toArray] at hv'
      have hlt := (List.getElem?_eq_some_iff.mp hv').1
      have hlt2 : i < l.length := by rw [← hr.length]; exact hlt
      obtain ⟨y, h1, h2⟩ := hr.get (List.getElem?_eq_getElem hlt2)
      rw [hv'] at h1; cases h1
      exact ⟨_, List.getElem?_eq_getElem hlt2, h2.keepT kt⟩
    · intro b hb; simp at hb; rcases hb with rfl | rfl
      · exact .inl rfl
      · exact .inr ⟨.inl (tupNone r ho (.inl ⟨rfl, _, _, rfl⟩)), _, ho, (fun v e => by cases e), .inr fun es ep e => by cases e⟩
  | ref a =>
    obtain rfl : x = .ref a := hv
    replace e : itemsO (μ a) = some all := e
    cases q : μ a with
    | none => rw [q] at e; cases e
    | some mo =>
      rw [q] at e
      cases mo with
      | list l => obtain rfl := Option.some.inj e; obtain ⟨vs, ⟨n, h1⟩, h2⟩ := r a _ q; exact lists a vs n h1 rfl h2 (.head _)
      | idict l => obtain rfl := Option.some.inj e; obtain ⟨kvs, h1, h2, h3⟩ := r a _ q; exact dicts (intKind prog w) MV.int encI a l kvs h1 h2 h3 rfl (.head _) (.inl rfl)
      | sdict l => obtain rfl := Option.some.inj e; obtain ⟨kvs, h1, h2, h3⟩ := r a _ q; exact dicts (strKind prog w) MV.str encS a l kvs h1 h2 h3 rfl (.head _) (.inl rfl)
  | keys a =>
    obtain ⟨r', rfl, hr'⟩ := hv
    replace e : keysO (μ a) = some all := e
    cases q : μ a with
    | none => rw [q] at e; cases e
    | some mo =>
      rw [q] at e
      cases mo with
      | list l => cases e
      | idict l => obtain rfl := Option.some.inj e; obtain ⟨kvs, h1, h2, h3⟩ := r a _ q; exact dicts (intKind prog w) MV.int encI a l kvs h1 h2 h3 rfl (.head _) (.inr ⟨r', rfl, hr'⟩)
      | sdict l => obtain rfl := Option.some.inj e; obtain ⟨kvs, h1, h2, h3⟩ := r a _ q; exact dicts (strKind prog w) MV.str encS a l kvs h1 h2 h3 rfl (.head _) (.inr ⟨r', rfl, hr'⟩)
theorem rangeL_get {a b c : Int} {i : Nat} (h : i < ((b - a + c - 1) / c).toNat) : (rangeL a b c)[i]? = some (a + c * i) := by
  unfold rangeL
  rw [List.getElem?_map, List.getElem?_range h]; rfl
theorem Yu {a b c : Int} : (rangeL a b c).length = ((b - a + c - 1) / c).toNat := by simp [rangeL]
theorem N8 {a b : Int} : Builtin.Range.rangeSize a b 1 = (((b - a + 1 - 1) / 1).toNat : Int) := by
  show (if a < b then (b - a - 1) / 1 + 1 else 0) = _
  rw [Int.ediv_one, Int.ediv_one, Int.add_sub_cancel, Int.sub_add_cancel]
  by_cases h : a < b
  · rw [if_pos h]; exact (Int.toNat_of_nonneg (Int.sub_nonneg_of_le (Int.le_of_lt h))).symm
  · rw [if_neg h, Int.toNat_of_nonpos (Int.sub_nonpos_of_le (Int.not_lt.mp h))]; rfl
theorem fits63 {a : Int} (h : in62 a = true) : Builtin.Range.rangeFitsLong a = true :=
  have h := Bool.and_eq_true_iff.mp h
  Bool.and_eq_true_iff.mpr ⟨decide_eq_true (Int.le_trans (by decide) (of_decide_eq_true h.1)), decide_eq_true (Int.lt_trans (of_decide_eq_true h.2) (by decide))⟩
theorem gap63 {a b : Int} (ha : in62 a = true) (hb : in62 b = true) : Builtin.Range.rangeFitsLong (b - a).toNat = true := by
  have ha := of_decide_eq_true (Bool.and_eq_true_iff.mp ha).1
  have hb := of_decide_eq_true (Bool.and_eq_true_iff.mp hb).2
  refine Bool.and_eq_true_iff.mpr ⟨decide_eq_true (Int.le_trans (by decide) (Int.natCast_nonneg _)), decide_eq_true ?_⟩
  have h : b - a < 2 ^ 63 := Int.sub_right_lt_of_lt_add (Int.lt_of_lt_of_le hb (Int.le_trans (by decide) (Int.add_le_add_left ha (2 ^ 63))))
  cases q : b - a with
  | ofNat n => rw [q] at h; exact h
  | negSucc n => exact (by decide : (0 : Int) < 2 ^ 63)
theorem small_one {a b : Int} (ha : in62 a = true) (hb : in62 b = true) : Builtin.Range.small a b 1 = true := by
  unfold Builtin.Range.small
  rw [N8, Int.ediv_one, Int.add_sub_cancel, fits63 ha, fits63 hb, gap63 ha hb, if_pos (by decide), show b + (1 - 1) = b from Int.add_zero b, fits63 hb, Bool.or_true]
  rfl
theorem one_of {c : Int} (hc : 0 < c) (hc' : c ≤ 1) : c = 1 := Int.le_antisymm hc' hc
theorem Dy {a b c : Int} (hc : 0 < c) (hc' : c ≤ 1) : Builtin.Range.rangeSize a b c = (((b - a + c - 1) / c).toNat : Int) := by
  obtain rfl := one_of hc hc'
  exact N8
theorem small_pos {a b c : Int} (ha : in62 a = true) (hb : in62 b = true) (hc : 0 < c) (hc' : c ≤ 1) : Builtin.Range.small a b c = true := by
  obtain rfl := one_of hc hc'
  exact small_one ha hb
theorem F0 {r' : Addr} {a b c : Int} {t u v : Tok} (hA : A.handled = none) (r : RepH prog w μ s.heap) (hr : IsRange s.heap r' a b c t u v) (ha : in62 a = true) (hb : in62 b = true) (hc : 0 < c) (hc' : c ≤ 1) {Q : Value → Shared → Prop}
    (h : ∀ it s', SrcAt prog w A μ [] ((rangeL a b c).map .int) s it s' → Q it s') : wpAny (model prog w) A (pyIter (.ref r')) Q E s := by
  refine wpAny_pyIter_range hr (small_pos ha hb hc hc') (h _ _ ?_)
  refine Kp r (Walks.range hA s.heap.objs.size a c ((b - a + c - 1) / c).toNat).bound (by simp [Yu]) ?_ ?_ ?_ ?_
  · show Heap.get? _ _ = _
    rw [Heap.get?_push_size _ rfl, Dy hc hc']; simp
  · intro i h hh; exact ⟨_, _, hh, rfl, by decide, _, rfl⟩
  · rintro i v h' ⟨hi, t, rfl⟩ kt
    refine ⟨.int (a + c * i), by rw [List.getElem?_map, rangeL_get hi]; rfl, ?_⟩
    simp only [RepV]; exact ⟨t, by rw [Int.mul_comm]⟩
  · intro b hb; simp at hb; exact .inl hb
theorem SrcAt.from {held : List Addr} {all : List MV} {it : Value} {s₁ s' : Shared} (k : ∀ b o, s.heap.get? b = some o → s₁.heap.get? b = some o) (ho : s₁.os = s.os) (hg : s₁.gens = s.gens) (x : SrcAt prog w A μ held all s₁ it s') : SrcAt prog w A μ held all s it s' := by
  obtain ⟨I, fp, wr, St, e, W, st, h1, h2, h3, h4, h5⟩ := x
  refine ⟨I, fp, wr, St, e, W, st, h1, fun b hb => ⟨?_, (h2 b hb).2⟩, fun b o e => h3 b o (k b o e), h4.trans ho, h5.trans hg⟩
  cases q : s.heap.get? b with
  | none => rfl
  | some o => have := k b o q; rw [(h2 b hb).1] at this; cases this
end
section
variable {prog : Program} {w : World} {G : String → Option MV} {Γ : String → Option MFun} {h₀ : Heap} {mg mb : Str → Option Value} {Φ : CallSpec} {d : Nat}
  {S : Sc} {env : Env} {vars : MVars} {fz : List Addr} {μ : MH} {s : Shared} {A : Around} {E : Value → Shared → Prop}
inductive PostI (prog : Program) (w : World) (A : Around) (fz : List Addr) (μ : MH) (s : Shared) (K : Src → List MV → MH → Prop) (it : Value) (s₂ : Shared) : Prop
  | mk (src : Src) (all : List MV) (μ₁ : MH) (s₁ : Shared) (k : K src all μ₁) (hi : src.items μ₁ = some all) (r : RepH prog w μ₁ s₁.heap) (g : Grow fz μ s μ₁ s₁) (hat : SrcAt prog w A μ₁ src.held all s₁ it s₂)
theorem rangeM_of {vs : List MV} {l : List Int} {h : Heap} {vals : List Value} (e : rangeM vs = some l) (r : RepVs h vs vals) : ∃ b u, vals = [.int b u] ∧ in62 b = true ∧ l = rangeL 0 b 1 := by
  cases vs with
  | nil => cases e
  | cons v vs =>
    cases v with
    | int b =>
      cases vs with
      | nil =>
        obtain ⟨q, e⟩ := P0 (show (if in62 b = true then some (rangeL 0 b 1) else none) = some l from e)
        replace r := r.one; obtain ⟨y, rfl, t, rfl⟩ := r
        exact ⟨b, t, rfl, q, (Option.some.inj e).symm⟩
      | cons _ _ => cases e
    | _ => cases e
theorem Fn (pg : PG prog w G Γ h₀ mg mb) {k : SK} {its : List ME} (hl : ∀ e ∈ its, SS prog w G h₀ Φ d e) {iter : PySem.Expr} {as : List PySem.Expr} (hs : srcArgs S k iter = some as) (h : isEs S its as = true) (hA : OkA d A) (C : Cur prog w h₀ S env vars fz μ s)
    {K : Src → List MV → MH → Prop} (hq : evs G Φ X0 its fz vars (fun vs μ' => ∃ src all, mkSrc k vs = some src ∧ src.items μ' = some all ∧ K src all μ') μ) :
    (∀ x, foldedSetIterable iter env x = pure x) ∧ wpAny (model prog w) A (eval iter env) (fun x s₁ => wpAny (model prog w) A (pyIter x) (PostI prog w A fz μ s K) E s₁) E s := by
  have one62 : in62 0 = true := by decide
  cases k with
  | plain =>
    obtain rfl : [iter] = as := Option.some.inj hs
    match its, h, hl, hq with
    | [], h, _, _ => exact (Bool.false_ne_true h).elim
    | e :: _ :: _, h, _, _ => exact (Bool.false_ne_true (Y9 h).2).elim
    | [e], h, hl, hq =>
      replace h := (Y9 h).1
      refine ⟨fun x => folded_none h env x, ?_⟩
      refine wpAny_mono ((hl e (.head _)).1 S iter env vars fz μ s _ A E h hA C hq) (fun v s₁ h₁ => ?_) fun _ _ e => e
      obtain ⟨mv, μ₁, ⟨src, all, hm, hi, hK⟩, rv, r₁, g₁⟩ := h₁
      simp only [mkSrc] at hm
      split at hm
      · cases hm
      rename_i hnv
      cases hm
      exact op_iter hA.hand rv r₁ hi (by simpa using hnv) fun it s' hat => ⟨.val mv, all, μ₁, s₁, hK, hi, r₁, g₁, hat⟩
  | range =>
    replace hs := ifcall hs; obtain ⟨g, np, p, rfl, hg⟩ := hs
    refine ⟨fun x => rfl, ?_⟩
    refine wpAny_Call_ofName (Ou pg C hg (v := .type "range") (by decide) ?_)
    rw [Z1 p h]
    refine PySem.callWith_type (Yb as) (Yc (Yb as) ?_)
    refine wpAny_mono (Zi hl h hA C hq) (fun vs s₁ h₁ => ?_) fun _ _ e => e
    obtain ⟨ms, μ₁, ⟨src, all, hm, hi, hK⟩, rv, r₁, g₁⟩ := h₁
    simp only [mkSrc, Option.map_eq_some_iff] at hm
    obtain ⟨l, hl', rfl⟩ := hm
    simp only [Src.items, Option.some.injEq] at hi
    subst hi
    have kp : ∀ (oI : Obj) b o, s₁.heap.get? b = some o → (s₁.heap.push oI).get? b = some o := fun oI b o e => Heap.get?_push_of_some _ e
    obtain ⟨b, u, rfl, hb, rfl⟩ := rangeM_of hl' rv
    refine call_range_1 (F0 (s := { s₁ with heap := _, toks := _ }) hA.hand (r₁.ext (kp _)) (IsRange.new s₁.heap 0 b 1 _ _ _) one62 hb (by decide) (by decide) fun it s' hat => ?_)
    exact ⟨.ints _, _, μ₁, s₁, hK, rfl, r₁, g₁, SrcAt.from (s₁ := { s₁ with heap := _, toks := _ }) (kp _) rfl rfl hat⟩
  | rev => cases hs
  | zip => cases hs
end
end Mine
end
section
namespace Mine
open PySem PySem.Calls PyProof.Rows PySem.W
section
variable {prog : Program} {w : World} {h₀ : Heap} {S : Sc} {env : Env} {vars : MVars} {fz : List Addr} {μ : MH} {s : Shared} {A : Around} {E : Value → Shared → Prop} {d : Nat}
theorem Cur.skip {wr : List Addr} {s' : Shared} (C : Cur prog w h₀ S env vars fz μ s) (kt : KeepsT s.heap s'.heap) (k : ∀ b o, b ∉ wr → s.heap.get? b = some o → s'.heap.get? b = some o) (hm : ∀ b ∈ wr, μ b = none) (hb : ∀ b ∈ wr, h₀.get? b = none) (hl : env.locals ∉ wr) (hc : ∀ x c, (x, c) ∈ env.cells → c ∉ wr) :
    Cur prog w h₀ S env vars fz μ s' where
  base := fun b o e => ⟨k b o (fun q => by rw [hb b q] at e; cases e) (C.base b o e).1, (C.base b o e).2⟩
  heap := fun a o e => (C.heap a o e).keeps kt fun y hy => k a y (fun q => by rw [hm a q] at e; cases e) hy
  fzin := C.fzin
  fr := C.fr.keep kt (fun o e => ⟨k _ o hl e, C.fr.fixl⟩) fun x c hx o e => ⟨k c o (hc x c hx) e, (C.fr.fixc x c hx).1⟩
  newl := C.newl
  newc := C.newc
  known := C.known
theorem Cur.ext {s' : Shared} (C : Cur prog w h₀ S env vars fz μ s) (k : ∀ b o, s.heap.get? b = some o → s'.heap.get? b = some o) : Cur prog w h₀ S env vars fz μ s' :=
  C.skip (wr := []) (.of_all k) (fun b o _ e => k b o e) (by simp) (by simp) (by simp) (by simp)
theorem Base.weak {cs : List Addr} (B : Base h₀ fz μ s) : Base h₀ (cs ++ fz) μ s := fun b o e => ⟨(B b o e).1, (B b o e).2.imp id fun m => List.mem_append_right _ m⟩
theorem FzIn.left {cs : List Addr} (f : FzIn (cs ++ fz) μ) : FzIn fz μ := fun b hb => f b (List.mem_append_right _ hb)
theorem Cur.weak {cs : List Addr} (C : Cur prog w h₀ S env vars fz μ s) (hcs : ∀ b ∈ cs, μ b ≠ none) : Cur prog w h₀ S env vars (cs ++ fz) μ s :=
  { C with base := C.base.weak, fzin := fun b hb => (List.mem_append.mp hb).elim (hcs b) (C.fzin b) }
theorem Hr {src : Src} {all : List MV} (e : src.items μ = some all) : ∀ b ∈ src.held, μ b ≠ none := by
  intro b hb q
  cases src with
  | val v =>
    cases v with
    | ref a => obtain rfl := List.mem_singleton.mp hb; replace e : itemsO (μ b) = some all := e; rw [q] at e; cases e
    | keys a => obtain rfl := List.mem_singleton.mp hb; replace e : keysO (μ b) = some all := e; rw [q] at e; cases e
    | vals a => obtain rfl := List.mem_singleton.mp hb; replace e : valsO (μ b) = some all := e; rw [q] at e; cases e
    | _ => cases hb
  | «ints» l => cases hb
  | rev v =>
    cases v with
    | ref a => obtain rfl := List.mem_singleton.mp hb; simp [Src.items, lst, q] at e
    | _ => cases hb
  | zip x y => simp [Src.items] at e
theorem Grow.skip {wr : List Addr} {μ' : MH} {s' s'' : Shared} (g : Grow fz μ s μ' s') (k : ∀ b o, b ∉ wr → s'.heap.get? b = some o → s''.heap.get? b = some o) (hw : ∀ b ∈ wr, s.heap.get? b = none) (ho : s''.os = s'.os) (hg : s''.gens = s'.gens) : Grow fz μ s μ' s'' :=
  ⟨fun b o f e => by
    obtain ⟨e1, q⟩ := g.keep b o f e
    exact ⟨k b o (fun m => by rw [hw b m] at e; cases e) e1, q⟩, ho.trans g.os, hg.trans g.gens⟩
theorem GrowS.skip {wr : List Addr} {μ' : MH} {s' s'' : Shared} (g : GrowS env fz μ s μ' s') (k : ∀ b o, b ∉ wr → s'.heap.get? b = some o → s''.heap.get? b = some o) (hw : ∀ b ∈ wr, s.heap.get? b = none) (ho : s''.os = s'.os) (hg : s''.gens = s'.gens) : GrowS env fz μ s μ' s'' :=
  ⟨fun b o f l c e => by
    obtain ⟨e1, q⟩ := g.keep b o f l c e
    exact ⟨k b o (fun m => by rw [hw b m] at e; cases e) e1, q⟩, ho.trans g.os, hg.trans g.gens⟩
theorem Fj {t : MT} {tg : PySem.Expr} {mv : MV} {v : Value} {vars' : MVars} {Q : Unit → Shared → Prop} (hA : A.handled = none) (C : Cur prog w h₀ S env vars fz μ s) (ht : isTgt S t tg = true) (hv : RepV s.heap mv v) (hb : bindT t mv vars = some vars')
    (h : ∀ s', Cur prog w h₀ S env vars' fz μ s' → GrowS env fz μ s μ s' → KeepsT s.heap s'.heap → ((∀ x ∈ tgtNames tg, S.names.lookup x = some .local) → ∀ b o, b ≠ env.locals → s.heap.get? b = some o → s'.heap.get? b = some o) → Q () s') : wpAny (model prog w) A (assign tg env v) Q E s := by
  cases t with
  | tup is => exact (Bool.false_ne_true ht).elim
  | one i =>
    obtain ⟨h1, h2⟩ := and2 ht
    have e : tg = .Name (node tg).s (node tg).p := inv h1
    have e2 : tgtNames tg = [(node tg).s] := if_pos h1
    obtain rfl : setv vars i mv = vars' := Option.some.inj hb
    rw [e]
    exact PySem.wpAny_assign_Name (Zu C h2 hv fun s' C' g' k' l' => h s' C' g' k' fun hx => l' (hx _ (by rw [e2]; exact .head _)))
end
end Mine
end
section
namespace Mine
open PySem PySem.Calls PyProof.Rows PySem.W
noncomputable def closL (env : Env) : List (Str × NameKind) → List (Str × Addr) → List (Str × Addr)
  | [], acc => acc
  | (n, k) :: r, acc => if k == .free then closL env r ((n, (env.cells.lookup n).getD 0) :: acc) else closL env r acc
theorem clos_eq {env : Env} {sc : Scope} (h : ∀ p ∈ sc.names, p.2 = .free → ∃ c, env.cells.lookup p.1 = some c) : closureFor sc env = pure (closL env sc.names []) := by
  simp only [closureFor]
  generalize ([] : List (Str × Addr)) = acc
  revert h acc
  generalize sc.names = names
  intro h acc
  induction names generalizing acc with
  | nil => rfl
  | cons p r ih =>
    obtain ⟨n, k⟩ := p
    simp only [List.forIn_cons, closL]
    by_cases hk : k == .free
    · simp only [hk, if_true]
      obtain ⟨c, hc⟩ := h (n, k) (.head _) (by simpa using hk)
      have : cellOf env n = pure c := by unfold cellOf; simp only at hc; rw [hc]
      rw [this]
      simp only at hc
      rw [hc]
      exact ih (fun q hq => h q (.tail _ hq)) _
    · simp only [hk, Bool.false_eq_true, if_false]
      exact ih (fun q hq => h q (.tail _ hq)) _
theorem Jq {env : Env} {n : Str} {c : Addr} : ∀ {names : List (Str × NameKind)} {acc : List (Str × Addr)}, (n, c) ∈ closL env names acc → (n, c) ∈ acc ∨ ((n, NameKind.free) ∈ names ∧ c = (env.cells.lookup n).getD 0)
  | [], acc => fun h => .inl h
  | (x, k) :: r, acc => fun h => by
    simp only [closL] at h
    split at h
    · rename_i hk
      have hk : k = .free := by simpa using hk
      subst hk
      rcases Jq h with h1 | ⟨h1, h2⟩
      · rcases List.mem_cons.mp h1 with h1 | h1
        · cases h1; exact .inr ⟨.head _, rfl⟩
        · exact .inl h1
      · exact .inr ⟨.tail _ h1, h2⟩
    · rcases Jq h with h1 | ⟨h1, h2⟩
      · exact .inl h1
      · exact .inr ⟨.tail _ h1, h2⟩
theorem Al {env : Env} {p : Str × Addr} : ∀ {names : List (Str × NameKind)} {acc : List (Str × Addr)}, p ∈ acc → p ∈ closL env names acc
  | [], acc => fun h => h
  | (x, k) :: r, acc => fun h => by
    simp only [closL]
    split
    · exact Al (.tail _ h)
    · exact Al h
theorem Dm {env : Env} {n : Str} : ∀ {names : List (Str × NameKind)} {acc : List (Str × Addr)}, (n, NameKind.free) ∈ names → (n, (env.cells.lookup n).getD 0) ∈ closL env names acc
  | (x, k) :: r, acc, h => by
    simp only [closL]
    rcases List.mem_cons.mp h with h1 | h1
    · cases h1
      rw [if_pos (by simp)]
      exact Al (.head _)
    · split
      · exact Dm h1
      · exact Dm h1
theorem Cb {n : Str} {c : Addr} : ∀ {l : List (Str × Addr)}, (n, c) ∈ l → (∀ c', (n, c') ∈ l → c' = c) → l.lookup n = some c
  | (x, y) :: l, h, ha => by
    rw [List.lookup_cons]
    cases hx : n == x with
    | true => have : n = x := by simpa using hx
              subst this; simp only; rw [ha y (.head _)]
    | false =>
      rcases List.mem_cons.mp h with h1 | h1
      · cases h1; simp at hx
      · exact Cb h1 fun c' hc' => ha c' (.tail _ hc')
theorem Ps {env : Env} {n : Str} {c : Addr} {names : List (Str × NameKind)} (h : (n, NameKind.free) ∈ names) (hc : env.cells.lookup n = some c) : (closL env names []).lookup n = some c := by
  refine Cb (by have := Dm (env := env) (acc := []) h; rw [hc] at this; exact this) fun c' hc' => ?_
  rcases Jq hc' with h1 | ⟨_, h2⟩
  · cases h1
  · rw [h2, hc]; rfl
theorem Vm {env : Env} (ha : env.cells.Pairwise fun x y => x.2 ≠ y.2) : ∀ {names : List (Str × NameKind)} {acc : List (Str × Addr)}, (names.map (·.1)).Nodup → (∀ p ∈ names, p.2 = .free → ∃ c, env.cells.lookup p.1 = some c) →
    acc.Pairwise (fun x y => x.2 ≠ y.2) → (∀ p ∈ acc, env.cells.lookup p.1 = some p.2 ∧ p.1 ∉ names.map (·.1)) → (closL env names acc).Pairwise fun x y => x.2 ≠ y.2
  | [], acc => fun _ _ h _ => h
  | (n, k) :: r, acc => fun hn hf h hacc => by
    simp only [List.map_cons, List.nodup_cons] at hn
    simp only [closL]
    split
    · rename_i hk
      obtain ⟨c, hc⟩ := hf (n, k) (.head _) (by simpa using hk)
      simp only at hc
      refine Vm ha hn.2 (fun p hp => hf p (.tail _ hp)) (List.pairwise_cons.mpr ⟨fun p hp e => ?_, h⟩) fun p hp => ?_
      · have h1 := (hacc p hp).1
        simp only [hc, Option.getD_some] at e
        subst e
        have := O0 ha hc h1
        exact (hacc p hp).2 (by rw [← this]; simp)
      · rcases List.mem_cons.mp hp with rfl | hp
        · exact ⟨by simp [hc], hn.1⟩
        · exact ⟨(hacc p hp).1, fun m => (hacc p hp).2 (by simp at m ⊢; exact .inr m)⟩
    · refine Vm ha hn.2 (fun p hp => hf p (.tail _ hp)) h fun p hp => ⟨(hacc p hp).1, fun m => (hacc p hp).2 (by simp at m ⊢; exact .inr m)⟩
theorem Zm {S : Sc} {x : Str} : ∀ {names : List (Str × NameKind)}, (relab S names).lookup x = (names.lookup x).map fun k => if isFree k && isCell (S.names.lookup x) then .cell else k
  | [] => rfl
  | (n, k) :: r => by
    have ih := Zm (S := S) (x := x) (names := r)
    unfold relab at ih ⊢
    rw [List.map_cons]
    have key : ∀ k', List.lookup x ((n, k') :: List.map (fun p => if (isFree p.snd && isCell (List.lookup p.fst S.names)) = true then (p.fst, NameKind.cell) else p) r) = match x == n with | true => some k' | false => List.lookup x (List.map (fun p => if (isFree p.snd && isCell (List.lookup p.fst S.names)) = true then (p.fst, NameKind.cell) else p) r) := fun k' => by
      rw [List.lookup_cons]; cases x == n <;> rfl
    have hcond : (if (isFree (n, k).snd && isCell (List.lookup (n, k).fst S.names)) = true then ((n, k).fst, NameKind.cell) else (n, k)) = (n, if (isFree k && isCell (List.lookup n S.names)) = true then NameKind.cell else k) := by
      simp only; split <;> rfl
    rw [hcond, key, List.lookup_cons]
    cases hx : x == n with
    | true =>
      have : x = n := by simpa using hx
      subst this; rfl
    | false => exact ih
theorem relab_eq {S : Sc} {env : Env} {sc : Scope} (hn : env.scope.names = S.names) (hk : env.scope.kind = .function) : (relabel sc env).names = relab S sc.names := by
  unfold relabel relab
  refine List.map_congr_left fun p hp => ?_
  obtain ⟨n, k⟩ := p
  have h1 : isFree k = (k == .free) := by cases k <;> rfl
  have h2 : isCell (S.names.lookup n) = (env.kindOf n == some .cell) := by
    unfold Env.kindOf; rw [hn]
    cases S.names.lookup n with
    | none => rfl
    | some k => cases k <;> rfl
  simp only [hk, h1, h2]
  simp
structure InOk (S : Sc) (t : MT) (tg : PySem.Expr) (sc : Scope) : Prop where
  kind : sc.kind = .function
  nodup : (sc.names.map (·.1)).Nodup
  names : ∀ p ∈ sc.names, p.2 = .local ∨ p.2 = .free ∨ p.2 = .globalImplicit
  look : ∀ p ∈ sc.names, sc.names.lookup p.1 = some p.2
  free : ∀ p ∈ sc.names, p.2 = .free → S.names.lookup p.1 = some .cell ∨ S.names.lookup p.1 = some .free
  vnd : t.vars.Nodup
  nnd : (tgtNames tg).Nodup
  len : t.vars.length = (tgtNames tg).length
  loc : ∀ x ∈ tgtNames tg, sc.names.lookup x = some .local
theorem Cd : ∀ {l : List (Str × NameKind)}, (l.map (·.1)).Nodup → ∀ p ∈ l, l.lookup p.1 = some p.2
  | (n, k) :: r, h, p, hp => by
    simp only [List.map_cons, List.nodup_cons] at h
    rcases List.mem_cons.mp hp with rfl | hp'
    · simp [List.lookup_cons]
    · rw [List.lookup_cons]
      have : (p.1 == n) = false := by
        rw [beq_eq_false_iff_ne]; rintro rfl
        exact h.1 (List.mem_map_of_mem (f := (·.1)) hp')
      rw [this]; exact Cd h.2 p hp'
theorem Ap {β : Type} : ∀ {l : List (Nat × β)}, (l.map (·.1)).Nodup → ∀ p ∈ l, l.lookup p.1 = some p.2
  | (n, k) :: r, h, p, hp => by
    simp only [List.map_cons, List.nodup_cons] at h
    rcases List.mem_cons.mp hp with rfl | hp'
    · simp [List.lookup_cons]
    · rw [List.lookup_cons]
      have : (p.1 == n) = false := by
        rw [beq_eq_false_iff_ne]; rintro rfl
        exact h.1 (List.mem_map_of_mem (f := (·.1)) hp')
      rw [this]; exact Ap h.2 p hp'
theorem Vw {β : Type} : ∀ {l : List (Nat × β)} {i : Nat} {x : β}, l.lookup i = some x → (i, x) ∈ l
  | (n, k) :: r, i, x, h => by
    rw [List.lookup_cons] at h
    cases hx : i == n with
    | true => rw [hx] at h; simp at h hx; subst h hx; exact .head _
    | false => rw [hx] at h; exact .tail _ (Vw h)
theorem inj_of {l : List (Nat × Str)} (nv : (l.map (·.2)).Nodup) : ∀ i j x, l.lookup i = some x → l.lookup j = some x → i = j := by
  intro i j x h1 h2
  have m1 := Vw h1
  have m2 := Vw h2
  clear h1 h2
  induction l with
  | nil => cases m1
  | cons p l ih =>
    simp only [List.map_cons, List.nodup_cons] at nv
    rcases List.mem_cons.mp m1 with rfl | m1'
    · rcases List.mem_cons.mp m2 with e | m2'
      · cases e; rfl
      · exact absurd (List.mem_map_of_mem (f := (·.2)) m2') nv.1
    · rcases List.mem_cons.mp m2 with rfl | m2'
      · exact absurd (List.mem_map_of_mem (f := (·.2)) m1') nv.1
      · exact ih nv.2 m1' m2'
theorem tgt_len {S : Sc} {t : MT} {tg : PySem.Expr} (h : isTgt S t tg = true) : t.vars.length = (tgtNames tg).length := by
  cases t with
  | tup _ => exact (Bool.false_ne_true h).elim
  | one i => rw [tgtNames, if_pos (and2 h).1]; rfl
theorem inOk_of {S : Sc} {t : MT} {tg : PySem.Expr} {sc : Scope} (h1 : innerOk S sc = true) (h2 : t.vars.Nodup) (h3 : (tgtNames tg).Nodup) (h4 : t.vars.length = (tgtNames tg).length) (h5 : ∀ x ∈ tgtNames tg, sc.names.lookup x = some .local) : InOk S t tg sc := by
  obtain ⟨h0, h1⟩ := and2 h1
  obtain ⟨hk, hn⟩ := and2 h0
  have key : ∀ p ∈ sc.names, (p.2 = .local ∨ p.2 = .globalImplicit) ∨ (p.2 = .free ∧ (S.names.lookup p.1 = some .cell ∨ S.names.lookup p.1 = some .free)) := fun p hp => by
    simpa only [Bool.or_eq_true, Bool.and_eq_true, decide_eq_true_eq] using List.all_eq_true.mp h1 p hp
  refine ⟨of_decide_eq_true hk, of_decide_eq_true hn, fun p hp => ?_, fun p hp => Cd (of_decide_eq_true hn) p hp, fun p hp hf => ?_, h2, h3, h4, h5⟩
  · rcases key p hp with (q | q) | q
    · exact .inl q
    · exact .inr (.inr q)
    · exact .inr (.inl q.1)
  · rcases key p hp with (q | q) | q
    · rw [hf] at q; cases q
    · rw [hf] at q; cases q
    · exact q.2
noncomputable def without (t : MT) (vars : MVars) : MVars := fun j => if j ∈ t.vars then none else vars j
section
variable {prog : Program} {w : World} {h₀ : Heap} {S : Sc} {env : Env} {vars : MVars} {fz : List Addr} {μ : MH} {s : Shared} {t : MT} {tg : PySem.Expr} {sc : Scope}
theorem inner_nk (I : InOk S t tg sc) (hk : (S.tab.map (·.1)).Nodup) : ((S.inner t tg sc.names).tab.map (·.1)).Nodup := by
  unfold Sc.inner
  rw [List.map_append, List.nodup_append]
  refine ⟨?_, ?_, ?_⟩
  · rw [List.map_fst_zip (by rw [I.len]; exact Nat.le_refl _)]; exact I.vnd
  · exact hk.sublist ((List.filter_sublist ..).map _)
  · intro a ha b hb e
    subst e
    rw [List.map_fst_zip (by rw [I.len]; exact Nat.le_refl _)] at ha
    obtain ⟨p, hp, rfl⟩ := List.mem_map.mp hb
    have := (List.mem_filter.mp hp).2
    simp [ha] at this
theorem inner_nv (I : InOk S t tg sc) (hk : (S.tab.map (·.2)).Nodup) : ((S.inner t tg sc.names).tab.map (·.2)).Nodup := by
  unfold Sc.inner
  rw [List.map_append, List.nodup_append]
  refine ⟨?_, ?_, ?_⟩
  · rw [List.map_snd_zip (by rw [I.len]; exact Nat.le_refl _)]; exact I.nnd
  · exact hk.sublist ((List.filter_sublist ..).map _)
  · intro a ha b hb e
    subst e
    rw [List.map_snd_zip (by rw [I.len]; exact Nat.le_refl _)] at ha
    obtain ⟨p, hp, rfl⟩ := List.mem_map.mp hb
    have := (List.mem_filter.mp hp).2
    rw [I.loc _ ha] at this
    simp [isFreeO] at this
theorem inner_cur {varsX : MVars} (C : Cur prog w h₀ S env vars fz μ s) (I : InOk S t tg sc) {L : Addr} {s' : Shared} {m : Str → Option Value} (hn : s'.heap.Ns L m) (hL : s.heap.get? L = none) (k : ∀ b o, s.heap.get? b = some o → s'.heap.get? b = some o)
    (hag : ∀ j, j ∉ t.vars → varsX j = vars j) (hin : ∀ i x mv, (i, x) ∈ t.vars.zip (tgtNames tg) → varsX i = some mv → ∃ v, RepV s'.heap mv v ∧ m x = some v) :
    Cur prog w h₀ (S.inner t tg sc.names) (compEnvC sc (closL env sc.names []) L env) varsX fz μ s' := by
  have kt := KeepsT.of_all k
  have hcell : ∀ p ∈ sc.names, p.2 = .free → ∃ c, env.cells.lookup p.1 = some c := fun p hp hf => C.fr.cells p.1 (by
    have : env.kindOf p.1 = S.names.lookup p.1 := by unfold Env.kindOf; rw [C.fr.names]
    rw [this]; exact I.free p hp hf)
  have hko : ∀ x, (compEnvC sc (closL env sc.names []) L env).kindOf x = (relab S sc.names).lookup x := fun x => by
    show (relabel sc env).names.lookup x = _
    rw [relab_eq C.fr.names C.fr.kind]
  have frees : ∀ x, isFreeO (sc.names.lookup x) = true → (x, NameKind.free) ∈ sc.names := by
    intro x hx
    exact mem_of_lookup (of_decide_eq_true hx)
  have nk := inner_nk I C.fr.nk
  have nv := inner_nv I C.fr.nv
  refine { base := fun b o e => ⟨k b o (C.base b o e).1, (C.base b o e).2⟩, heap := C.heap.ext k, fzin := C.fzin, newl := ?nl, newc := ?nc, known := C.known, fr := ?fr }
  case nl =>
    cases q : h₀.get? L with
    | none => exact q
    | some o => have := (C.base L o q).1; rw [hL] at this; cases this
  case nc =>
    intro x c hc
    rcases Jq hc with h1 | ⟨h1, h2⟩
    · cases h1
    · obtain ⟨c', hc'⟩ := hcell _ h1 rfl
      simp only at hc'
      rw [hc'] at h2; simp at h2; subst h2
      exact C.newc x c (mem_of_lookup hc')
  case fr =>
    refine { names := ?nm, inj := inj_of nv, nk := nk, nv := nv, kind := I.kind, glob := C.fr.glob, bui := C.fr.bui, ns := ⟨m, hn, ?ns⟩, cells := ?cs, apart := ?ap, fixl := C.heap.free hL, fixc := ?fx }
    case nm => exact relab_eq C.fr.names C.fr.kind
    case ns =>
      intro i x mv hi hkv hv
      have hm := Vw hi
      unfold Sc.inner at hm
      rcases List.mem_append.mp hm with h1 | h1
      · obtain ⟨v, hr, hmx⟩ := hin i x mv h1 hv
        refine ⟨v, hr, ?_⟩
        unfold VarAt
        rw [hko, Zm, I.loc x (List.of_mem_zip h1).2]
        exact hmx
      · obtain ⟨h2, h3⟩ := List.mem_filter.mp h1
        simp only [Bool.and_eq_true, Bool.not_eq_true', List.contains_eq_mem, decide_eq_false_iff_not] at h3
        have hvi : vars i = some mv := (hag i h3.2).symm.trans hv
        have hfr := frees x h3.1
        have hSl : S.tab.lookup i = some x := Ap C.fr.nk _ h2
        have hS := I.free _ hfr rfl
        simp only at hS
        obtain ⟨mm, hmm, hvv⟩ := C.fr.ns
        obtain ⟨v, hr, va⟩ := hvv i x mv hSl (by rcases hS with q | q <;> rw [q] <;> rfl) hvi
        refine ⟨v, hr.keepT kt, ?_⟩
        have hko' : env.kindOf x = S.names.lookup x := by unfold Env.kindOf; rw [C.fr.names]
        have hc : ∃ c, env.cells.lookup x = some c ∧ s.heap.IsCell c (some v) := by
          unfold VarAt at va
          rw [hko'] at va
          rcases hS with q | q <;> rw [q] at va <;> exact va
        obtain ⟨c, h4, h5⟩ := hc
        have h6 : (closL env sc.names []).lookup x = some c := Ps hfr h4
        have h7 : s'.heap.IsCell c (some v) := by obtain ⟨o, ho, hd⟩ := h5; exact ⟨o, k c o ho, hd⟩
        unfold VarAt
        rw [hko, Zm, I.look _ hfr]
        simp only [Option.map_some]
        rcases hS with q | q
        · rw [if_pos (by rw [q]; rfl)]; exact ⟨c, h6, h7⟩
        · rw [if_neg (by rw [q]; simp [isCell])]; exact ⟨c, h6, h7⟩
    case cs =>
      intro x hx
      rw [hko, Zm] at hx
      have : (x, NameKind.free) ∈ sc.names := by
        cases q : sc.names.lookup x with
        | none => rw [q] at hx; simp at hx
        | some kk =>
          rw [q] at hx
          have hmem := mem_of_lookup q
          rcases I.names _ hmem with h1 | h1 | h1 <;> simp only at h1 <;> subst h1
          · simp [isFree] at hx
          · exact hmem
          · simp [isFree] at hx
      obtain ⟨c, hc⟩ := hcell _ this rfl
      exact ⟨c, Ps this hc⟩
    case ap => exact Vm C.fr.apart I.nodup hcell List.Pairwise.nil (by simp)
    case fx =>
      intro x c hc
      rcases Jq hc with h1 | ⟨h1, h2⟩
      · cases h1
      · obtain ⟨c', hc'⟩ := hcell _ h1 rfl
        simp only at hc'
        rw [hc'] at h2; simp at h2; subst h2
        obtain ⟨f1, f2, v, o, ho, hd⟩ := C.fr.fixc x c (mem_of_lookup hc')
        have ne : c ≠ L := fun e => by subst e; rw [hL] at ho; cases ho
        exact ⟨f1, ne, v, o, k c o ho, hd⟩
theorem bind_agree {v : MV} {a b : MVars} {c : MVars} (h1 : isOne t = true) (hb : bindT t v b = some c) (h : ∀ j, j ∉ t.vars → a j = b j) : bindT t v a = some c := by
  cases t with
  | tup _ => exact (Bool.false_ne_true h1).elim
  | one i =>
    rw [← hb]
    refine congrArg some (funext fun j => ?_)
    unfold setv
    split
    · rfl
    · rename_i q; exact h j (fun m => q (List.mem_singleton.mp m))
theorem bind_out {v : MV} {a c : MVars} (h1 : isOne t = true) (hb : bindT t v a = some c) : ∀ j, j ∉ t.vars → c j = a j := by
  intro j hj
  cases t with
  | tup _ => exact (Bool.false_ne_true h1).elim
  | one i =>
    obtain rfl : setv a i v = c := Option.some.inj hb
    exact if_neg fun q => hj (List.mem_singleton.mpr q)
end
end Mine
end
section
namespace Mine
open PySem PySem.Calls PyProof.Rows PySem.W
section
variable {prog : Program} {w : World} {G : String → Option MV} {Γ : String → Option MFun} {h₀ : Heap} {mg mb : Str → Option Value} {Φ : CallSpec} {d : Nat}
theorem Gc {M : Model} {A : Around} {E : Value → Shared → Prop} {s : Shared} {env : Env} {Q : Bool → Shared → Prop} (h : Q false s) : ∀ (xs : List PySem.Expr),
    wpAny M A (forIn xs false fun c r => if r = true then do let ok ← isTrue c env (eval c env); pure (ForInStep.yield ok) else pure (ForInStep.yield r)) Q E s
  | [] => wpAny_pure h
  | x :: xs => by
    simp only [List.forIn_cons, Bool.false_eq_true, if_false]
    exact wpAny_bind (wpAny_pure (Gc h xs))
theorem Fo {S : Sc} {env : Env} {vars : MVars} {fz : List Addr} {A : Around} {E : Value → Shared → Prop} : ∀ {l : List ME} (hl : ∀ e ∈ l, ST prog w G h₀ Φ d e) {xs : List PySem.Expr} {μ : MH} {s : Shared} {F : Bool → MH → Prop}, isEs S l xs = true → OkA d A → Cur prog w h₀ S env vars fz μ s → evIfs G Φ X0 l fz vars F μ →
    wpAny (model prog w) A (forIn xs true fun c r => if r = true then do let ok ← isTrue c env (eval c env); pure (ForInStep.yield ok) else pure (ForInStep.yield r)) (PostB prog w fz μ s F) E s
  | [], _, [], μ, s, F => fun h hA C hq => by
    exact wpAny_pure ⟨μ, hq, C.heap, .refl⟩
  | e :: l, hl, x :: xs, μ, s, F => fun h hA C hq => by
    simp only [isEs, Bool.and_eq_true] at h
    have hq' : ev G Φ X0 e fz vars (fun v μ' => ∃ b, truthy μ' v = some b ∧ if b then evIfs G Φ X0 l fz vars F μ' else F false μ') μ := by
      cases l with
      | nil =>
        have q : (fun (v : MV) (μ' : MH) => ∃ b, truthy μ' v = some b ∧ F b μ') = (fun v μ' => ∃ b, truthy μ' v = some b ∧ if b = true then F true μ' else F false μ') := by
          funext v μ'
          apply propext
          constructor <;> rintro ⟨b, hb, hh⟩ <;> refine ⟨b, hb, ?_⟩ <;> cases b <;> simpa using hh
        have hq : ev G Φ X0 e fz vars (fun v μ' => ∃ b, truthy μ' v = some b ∧ F b μ') μ := hq
        rw [q] at hq; exact hq
      | cons e' l => exact hq
    simp only [List.forIn_cons, if_true]
    refine wpAny_bind (wpAny_bind (wpAny_mono (hl e (.head _) S x env vars fz μ s (fun b μ' => if b then evIfs G Φ X0 l fz vars F μ' else F false μ') A E h.1 hA C hq') (fun b s₁ h₁ => wpAny_pure ?_) fun _ _ e => e))
    obtain ⟨μ₁, hq₁, r₁, g₁⟩ := h₁
    cases b with
    | false => exact Gc (PostB.trans g₁ ⟨μ₁, hq₁, r₁, .refl⟩) xs
    | true => exact wpAny_mono (Fo (fun e' he' => hl e' (.tail _ he')) h.2 hA (C.grow g₁ r₁) hq₁) (fun v' s₃ h₃ => h₃.trans g₁) fun _ _ e => e
  | [], _, _ :: _, _, _, _ => fun h _ _ _ => by simp [isEs] at h
  | _ :: _, _, [], _, _, _ => fun h _ _ _ => by simp [isEs] at h
structure CompEnd (prog : Program) (w : World) (fz : List Addr) (μ : MH) (s : Shared) (Q : MQ) (D L : Addr) (s' : Shared) : Prop where
  out : ∃ μ', Q (.ref D) μ' ∧ RepH prog w μ' s'.heap ∧ Grow fz μ s μ' s' ∧ μ' L = none
  fresh : ∀ o, (μ L = none ∨ L ∈ fz) → s.heap.get? L = some o → False
  ns : ∃ m, s'.heap.Ns L m
structure CompOk (S : Sc) (elt : ME) (t : MT) (k : SK) (its ifs : List ME) (el tg iter : PySem.Expr) (ifs' : List PySem.Expr) (sc : Scope) : Prop where
  src : ∃ as, srcArgs S k iter = some as ∧ isEs S its as = true
  one : isOne t = true
  inn : InOk S t tg sc
  tgt : isTgt (S.inner t tg sc.names) t tg = true
  ifs : isEs (S.inner t tg sc.names) ifs ifs' = true
  elt : isE (S.inner t tg sc.names) elt el = true
theorem Gp {S : Sc} {elt : ME} {t : MT} {k : SK} {its ifs : List ME} {x : PySem.Expr} (h : isE S (.comp elt t k its ifs) x = true) : ∃ el tg iter ifs' sc p, x = .ListComp el [⟨tg, iter, ifs', 0⟩] sc p ∧ CompOk S elt t k its ifs el tg iter ifs' sc := by
  obtain ⟨el, tg, iter, ifs', sc, p, e, h1, h2, h3, h4, h5, h6, h7, h8, h9⟩ := inv_comp h
  exact ⟨el, tg, iter, ifs', sc, p, e, h1, h2, inOk_of h3 h4 h5 (tgt_len h6) h7, h6, h8, h9⟩
theorem isTgt_name {S : Sc} {t : MT} {tg : PySem.Expr} (h : isTgt S t tg = true) : ∃ x p, tg = .Name x p := by
  cases t with
  | tup _ => exact (Bool.false_ne_true h).elim
  | one i => exact ⟨_, _, inv (and2 h).1⟩
structure CompInv (prog : Program) (w : World) (h₀ : Heap) (S : Sc) (env : Env) (G : String → Option MV) (Φ : CallSpec) (t : MT) (vars : MVars) (elt : ME) (ifs : List ME) (Q : MQ) (fz held fp wr : List Addr) (D : Addr) (St : Nat → Heap → Prop) (all : List MV) (μ₁ : MH) (sa : Shared)
    (i : Nat) (acc : List MV) (ys : List Value) (varsX : MVars) (μ' : MH) (s' : Shared) : Prop where
  le : i ≤ all.length
  st : St i s'.heap
  pl : s'.heap.PlainList D (List.toArray ys)
  rs : RepVs s'.heap acc ys
  ai : acc.length ≤ i
  cur : Cur prog w h₀ S env varsX (held ++ fz) μ' s'
  ag : ∀ j, j ∉ t.vars → varsX j = vars j
  gr : Grow fz μ₁ sa μ' s'
  dm : μ' D = none
  fp : ∀ b ∈ fp, (μ' b = none ∨ b ∈ held ++ fz) ∧ ∃ o, s'.heap.get? b = some o
  wr : ∀ b ∈ wr, μ' b = none
  run : compM fz t vars (fun vs F μ => evIfs G Φ X0 ifs (held ++ fz) vs F μ) (fun vs F μ => ev G Φ X0 elt (held ++ fz) vs F μ) Q (all.drop i) acc μ'
inductive CompAt (prog : Program) (w : World) (h₀ : Heap) (S : Sc) (env : Env) (G : String → Option MV) (Φ : CallSpec) (t : MT) (vars : MVars) (elt : ME) (ifs : List ME) (Q : MQ) (fz held fp wr : List Addr) (D : Addr) (St : Nat → Heap → Prop) (all : List MV) (μ₁ : MH) (sa : Shared) (n : Nat) (s' : Shared) : Prop
  | mk (i : Nat) (acc : List MV) (ys : List Value) (varsX : MVars) (μ' : MH) (e : n = all.length + 1 - i) (h : CompInv prog w h₀ S env G Φ t vars elt ifs Q fz held fp wr D St all μ₁ sa i acc ys varsX μ' s')
theorem Go (pg : PG prog w G Γ h₀ mg mb) {elt : ME} {t : MT} {k : SK} {its ifs : List ME} (hits : ∀ e ∈ its, SS prog w G h₀ Φ d e) (hifs : ∀ e ∈ ifs, SS prog w G h₀ Φ d e) (helt : SE prog w G h₀ Φ d elt)
    {S : Sc} {el tg iter : PySem.Expr} {ifs' : List PySem.Expr} {sc : Scope} {p : Pos} {env : Env} {vars : MVars} {fz : List Addr} {μ : MH} {s : Shared} {Q : MQ} {A : Around} {E : Value → Shared → Prop}
    (h : CompOk S elt t k its ifs el tg iter ifs' sc) (hA : OkA d A) (C : Cur prog w h₀ S env vars fz μ s) (hq : ev G Φ X0 (.comp elt t k its ifs) fz vars Q μ) {RR : Value → Addr → Result → Shared → Prop}
    (hR : ∀ D L s', CompEnd prog w fz μ s Q D L s' → RR (.ref D) L (.ok .next) s') :
    (∀ x, foldedSetIterable iter env x = pure x) ∧ closureFor sc env = pure (closL env sc.names []) ∧
    wpAny (model prog w) A (eval iter env) (fun x s₁ => wpAny (model prog w) A (pyIter x) (fun it s₂ => wpAny (model prog w) A (newList []) (fun acc s₃ =>
      wpAny (model prog w) A (newFunctionEnv sc env.globals (closL env sc.names []) [] env.qual none .none (some env)) (fun cenv s₄ =>
        codeAny (model prog w) A (.compStart (.ListComp el [⟨tg, iter, ifs', 0⟩] sc p) 0 it acc { cenv with scope := relabel sc env }) (RR acc cenv.locals) s₄) E s₃) E s₂) E s₁) E s := by
  obtain ⟨⟨as, has, hsrc⟩, h1, I, htg, hifs', hel⟩ := h
  have hcell : ∀ p ∈ sc.names, p.2 = .free → ∃ c, env.cells.lookup p.1 = some c := fun p hp hf => C.fr.cells p.1 (by
    have : env.kindOf p.1 = S.names.lookup p.1 := by unfold Env.kindOf; rw [C.fr.names]
    rw [this]; exact I.free p hp hf)
  obtain ⟨hfold, hsource⟩ := Fn (E := E) pg hits has hsrc hA C hq
  refine ⟨hfold, clos_eq hcell, wpAny_mono hsource (fun x s₁ h₁ => wpAny_mono h₁ (fun it s₂ h₂ => ?_) fun _ _ e => e) fun _ _ e => e⟩
  obtain ⟨src, all, μ₁, sa, ⟨hfit, hK⟩, hit, ra, ga, hat⟩ := h₂
  obtain ⟨Ia, fp, wr, St, rfl, W, hst, hfp, hwr, hkeep, hos, hgens⟩ := hat
  have Ca := C.grow ga ra
  have C₂ : Cur prog w h₀ S env vars fz μ₁ s₂ := Ca.ext hkeep
  have hnc : ∀ b ∈ fp, ∀ x c, (x, c) ∈ env.cells → b ≠ c := by
    intro b hb x c hc e
    subst e
    obtain ⟨_, _, v, o, ho, hd⟩ := C₂.fr.fixc x b hc
    obtain ⟨_, o', ho', hd'⟩ := hfp b hb
    rw [ho] at ho'; cases ho'; exact hd'.1 v hd
  have hnocell : ∀ y ∈ sc.names, y.2 ≠ .cell := fun y hy e => by rcases I.names y hy with q | q | q <;> rw [q] at e <;> cases e
  refine wpAny_newObj_type (wpAny_newFunctionEnv hnocell (by intro y hy; simp at hy) (fun h₁ hns₁ hsb₁ => ?_) I.kind)
  dsimp only at hns₁ hsb₁ ⊢
  generalize hH2 : s₂.heap.push { cls := .type "list", dict := none, data := .seq ([] : List Value).toArray } = H2 at hns₁ hsb₁ ⊢
  generalize hDe : s₂.heap.objs.size = D at hns₁ hsb₁ ⊢
  have hC : H2.objs.size = D + 1 := by rw [← hH2, Heap.size_push, hDe]
  generalize hLe : H2.objs.size = L at hC hns₁ hsb₁ ⊢
  have hDC : D ≠ L := by rw [hC]; exact Nat.ne_of_lt (Nat.lt_succ_self _)
  have below : ∀ b o, s₂.heap.get? b = some o → b ≠ L ∧ b ≠ D := fun b o e => by
    have := Heap.lt_size e
    rw [hDe] at this
    exact ⟨by rw [hC]; exact Nat.ne_of_lt (Nat.lt_succ_of_lt this), Nat.ne_of_lt this⟩
  have old : ∀ b o, s₂.heap.get? b = some o → h₁.get? b = some o := fun b o e => hsb₁.extBut b o (below b o e).1 (Heap.get?_push_of_some _ (hH2 ▸ Heap.get?_push_of_some _ e))
  have hD2 : s₂.heap.get? D = none := by rw [← hDe]; exact Za _
  have hL2 : s₂.heap.get? L = none := by
    cases e : s₂.heap.get? L with
    | none => rfl
    | some o => exact absurd rfl (below L o e).1
  have hDa : sa.heap.get? D = none := by
    cases e : sa.heap.get? D with
    | none => rfl
    | some o => have := hkeep D o e; rw [hD2] at this; cases this
  have hLa : sa.heap.get? L = none := by
    cases e : sa.heap.get? L with
    | none => rfl
    | some o => have := hkeep L o e; rw [hL2] at this; cases this
  have hacc : h₁.PlainList D #[] := ⟨_, hsb₁.extBut _ _ hDC (Heap.get?_push_of_some _ (hH2 ▸ hDe ▸ Heap.get?_push_size _ rfl))⟩
  have hDm : μ₁ D = none := C₂.heap.free hD2
  have hLm : μ₁ L = none := C₂.heap.free hL2
  have hDfp : D ∉ fp := fun m => by obtain ⟨_, o, ho, _⟩ := hfp D m; rw [hD2] at ho; cases ho
  have hLfp : L ∉ fp := fun m => by obtain ⟨_, o, ho, _⟩ := hfp L m; rw [hL2] at ho; cases ho
  have Cw := C₂.weak (cs := src.held) (Hr hit)
  let cenv := compEnvC sc (closL env sc.names []) L env
  have hcenvc : ∀ x c, (x, c) ∈ cenv.cells → (x, c) ∈ env.cells := by
    intro x c hc
    rcases Jq hc with q | ⟨q1, q2⟩
    · cases q
    · obtain ⟨c', hc'⟩ := hcell _ q1 rfl
      simp only at hc'
      rw [hc'] at q2; simp at q2; subst q2
      exact mem_of_lookup hc'
  have hh0 : ∀ b, s₂.heap.get? b = none → h₀.get? b = none := fun b e => by
    cases q : h₀.get? b with
    | none => rfl
    | some o => have := (C₂.base b o q).1; rw [e] at this; cases this
  have hwr0 : ∀ b ∈ wr, h₀.get? b = none := fun b hb => by
    cases q : h₀.get? b with
    | none => rfl
    | some o => have := (Ca.base b o q).1; rw [(hwr b hb).1] at this; cases this
  have hcwr : ∀ x c, (x, c) ∈ cenv.cells → c ∉ wr := fun x c hc hm => hnc c (W.sub c hm) x c (hcenvc x c hc) rfl
  have hD0 : h₀.get? D = none := hh0 D hD2
  have hcD : ∀ x c, (x, c) ∈ cenv.cells → c ∉ [D] := fun x c hc hm => by
    simp at hm; subst hm
    obtain ⟨_, _, v, o, ho, _⟩ := C₂.fr.fixc x c (hcenvc x c hc)
    rw [hD2] at ho; cases ho
  let S' := S.inner t tg sc.names
  have tloc : ∀ x ∈ tgtNames tg, S'.names.lookup x = some .local := fun x hx => by
    show (relab S sc.names).lookup x = _
    rw [Zm, I.loc x hx]; simp [isFree]
  let Inv : Nat → Shared → Prop := CompAt prog w h₀ S' cenv G Φ t vars elt ifs Q fz src.held fp wr D St all μ₁ sa
  have notD : ∀ (hh : Heap) ys o, hh.PlainList D ys → hh.get? D = some o → ¬ ImmCls o := by
    rintro hh ys o ⟨n, hn⟩ ho hi
    rw [hn] at ho; cases ho
    unfold ImmCls at hi; simp at hi
  have loop : ∀ s₄ : Shared, s₄ = { s₂ with heap := h₁, toks := s₂.toks + ([] : List (Str × Value)).length } → codeAny (model prog w) A (.compLoop (.ListComp el [⟨tg, iter, ifs', 0⟩] sc p) 0 (.ref Ia) (.ref D) cenv) (RR (.ref D) L) s₄ := by
    rintro s₄ rfl
    refine codeAny_compLoop_tests Inv ?_ (all.length + 1) ?_ ?_
    · rintro n s' ⟨i, acc, ys, varsX, μ', rfl, hi, hst', hpl, hrs, hai, C', hag, g', hDm', hfp', hwr', hM⟩
      have hfz' : ∀ {b : Addr}, μ' b = none → b ∉ src.held ++ fz := fun e => C'.fzin.free e
      by_cases hlt : i < all.length
      · have hm : all[i]? = some all[i] := List.getElem?_eq_getElem hlt
        rw [List.drop_eq_getElem_cons hlt] at hM
        obtain ⟨vars', hb, hM⟩ := hM
        refine W.item i all[i] s' _ _ hm hst' fun v h' tk rv st' kt hk => ?_
        have C1 : Cur prog w h₀ S' cenv varsX (src.held ++ fz) μ' { s' with heap := h', toks := tk } := C'.skip kt hk hwr' hwr0 (fun m => hLfp (W.sub _ m)) hcwr
        have g1 : Grow fz μ₁ sa μ' { s' with heap := h', toks := tk } := g'.skip hk (fun b hb => (hwr b hb).1) rfl rfl
        refine Fj hA.hand C1 htg rv (bind_agree h1 hb hag) fun s₅ C2 gs2 kt2 kl2 => ?_
        have kl : ∀ b o, b ≠ L → h'.get? b = some o → s₅.heap.get? b = some o := kl2 tloc
        have g2 : Grow fz μ₁ sa μ' s₅ := g1.skip (wr := [L]) (fun b o hb e => kl b o (by simpa using hb) e) (by simp [hLa]) gs2.os gs2.gens
        have hDw : D ∉ wr := fun m => hDfp (W.sub _ m)
        have keepD : ∀ o, s'.heap.get? D = some o → s₅.heap.get? D = some o := fun o e => kl D o hDC (hk D o hDw e)
        have hst5 : St (i + 1) s₅.heap := W.frame _ _ _ st' kt2 fun b hb o e => kl b o (fun q => hLfp (q ▸ hb)) e
        have hpl5 : s₅.heap.PlainList D ys.toArray := by obtain ⟨n, hn⟩ := hpl; exact ⟨n, keepD _ hn⟩
        have hrs5 : RepVs s₅.heap acc ys := (hrs.keepT kt).keepT kt2
        have hfp5 : ∀ b ∈ fp, (μ' b = none ∨ b ∈ src.held ++ fz) ∧ ∃ o, s₅.heap.get? b = some o := by
          intro b hb
          refine ⟨(hfp' b hb).1, ?_⟩
          have hbL : b ≠ L := fun q => hLfp (q ▸ hb)
          by_cases hw : b ∈ wr
          · obtain ⟨o, ho⟩ := W.alive _ _ st' b hw
            exact ⟨o, kl b o hbL ho⟩
          · obtain ⟨o, ho⟩ := (hfp' b hb).2
            exact ⟨o, kl b o hbL (hk b o hw ho)⟩
        refine wpAny_mono (Fo (fun e he => (hifs e he).2) hifs' hA C2 hM) (fun ok s₆ h₆ => ?_) fun _ _ e => e
        obtain ⟨μ₆, hq₆, r₆, g₆⟩ := h₆
        have C6 := C2.grow g₆ r₆
        have kD6 : ∀ o, s₅.heap.get? D = some o → s₆.heap.get? D = some o ∧ μ₆ D = none := fun o e => (g₆.keep D o (.inl hDm') e).imp id fun q => q.trans hDm'
        have kfp6 : ∀ b ∈ fp, ∀ o, s₅.heap.get? b = some o → s₆.heap.get? b = some o := fun b hb o e => (g₆.keep b o (hfp5 b hb).1 e).1
        have hst6 : St (i + 1) s₆.heap := W.frame _ _ _ hst5 (g₆.keepT C2.heap) kfp6
        have hfp6 : ∀ b ∈ fp, (μ₆ b = none ∨ b ∈ src.held ++ fz) ∧ ∃ o, s₆.heap.get? b = some o := fun b hb => by
          obtain ⟨q, o, ho⟩ := hfp5 b hb
          obtain ⟨e1, e2⟩ := g₆.keep b o q ho
          exact ⟨q.imp (fun z => e2.trans z) id, o, e1⟩
        have hwr6 : ∀ b ∈ wr, μ₆ b = none := fun b hb => by
          obtain ⟨q, o, ho⟩ := hfp5 b (W.sub b hb)
          exact (g₆.keep b o q ho).2.trans (hwr' b hb)
        obtain ⟨nD, hnD⟩ := id hpl5
        have hpl6 : s₆.heap.PlainList D ys.toArray := ⟨nD, (kD6 _ hnD).1⟩
        have hrs6 : RepVs s₆.heap acc ys := hrs5.keepT (g₆.keepT C2.heap)
        have hag' : ∀ j, j ∉ t.vars → vars' j = vars j := bind_out h1 hb
        have g6 : Grow fz μ₁ sa μ₆ s₆ := g2.trans g₆.weak
        cases ok with
        | false =>
          exact ⟨all.length + 1 - (i + 1), by lia, i + 1, acc, ys, vars', μ₆, rfl, hlt, hst6, hpl6, hrs6, by exact Nat.le_succ_of_le (by assumption), C6, hag', g6, (kD6 _ hnD).2, hfp6, hwr6, hq₆⟩
        | true =>
          refine wpAny_mono (helt S' el cenv vars' _ μ₆ s₆ _ A _ hel hA C6 hq₆) (fun r s₇ h₇ => ?_) fun _ _ e => e
          obtain ⟨mr, μ₇, hq₇, rr, r₇, g₇⟩ := h₇
          have C7 := C6.grow g₇ r₇
          have kD7 := g₇.keep D _ (.inl (kD6 _ hnD).2) (kD6 _ hnD).1
          have hD7 : μ₇ D = none := kD7.2.trans (kD6 _ hnD).2
          have hst7 : St (i + 1) s₇.heap := W.frame _ _ _ hst6 (g₇.keepT r₆) fun b hb o e => (g₇.keep b o (hfp6 b hb).1 e).1
          have hpl7 : s₇.heap.PlainList D ys.toArray := ⟨nD, kD7.1⟩
          have hlen : ys.length = acc.length := hrs.length
          refine wpAny_list_append_plain hpl7 (fun h' hpl8 hs8 => ?_) (by
            have : all.length ≤ sizeLine := Y0 hfit
            simp only [List.size_toArray]; lia)
          have kall : ∀ b o, b ∉ [D] → s₇.heap.get? b = some o → h'.get? b = some o := fun b o hb e => hs8.extBut b o (by simpa using hb) e
          have kt8 : KeepsT s₇.heap h' := fun b o e hi => kall b o (fun q => by simp at q; subst q; exact notD _ _ o hpl7 e hi) e
          refine ⟨all.length + 1 - (i + 1), by lia, i + 1, acc ++ [mr], ys ++ [r], vars', μ₇, rfl, hlt, ?_, ?_, ?_, by simp; assumption, ?_, hag', ?_, hD7, ?_, ?_, hq₇⟩
          · exact W.frame _ _ _ hst7 kt8 fun b hb o e => kall b o (fun q => by simp at q; subst q; exact hDfp hb) e
          · simpa using hpl8
          · exact ((hrs6.keepT (g₇.keepT r₆)).keepT kt8).append (by simp only [RepVs, and_true]; exact rr.keepT kt8)
          · exact C7.skip (s' := { s₇ with heap := h' }) kt8 kall (by simp [hD7]) (by simp [hD0]) (fun q => by simp at q; exact hDC q.symm) hcD
          · exact (g6.trans g₇.weak).skip (wr := [D]) (s'' := { s₇ with heap := h' }) kall (by simp [hDa]) rfl rfl
          · intro b hb
            obtain ⟨q, o, ho⟩ := hfp6 b hb
            obtain ⟨e1, e2⟩ := g₇.keep b o q ho
            exact ⟨q.imp (fun z => e2.trans z) id, o, kall b o (fun q => by simp at q; subst q; exact hDfp hb) e1⟩
          · intro b hb
            obtain ⟨q, o, ho⟩ := hfp6 b (W.sub b hb)
            exact (g₇.keep b o q ho).2.trans (hwr6 b hb)
      · have hie : i = all.length := by lia
        subst hie
        rw [List.drop_length] at hM
        refine W.done s' _ _ hst' fun h' tk kt hk => ?_
        have hDw : D ∉ wr := fun m => hDfp (W.sub _ m)
        refine hR D L _ ⟨⟨upd μ' D (.list acc), ?_, ?_, ?_, ?_⟩, ?_, ?_⟩
        · exact hM D hDm' (fun m => hfz' hDm' (List.mem_append_right _ m))
        · have C1 : Cur prog w h₀ S' cenv varsX (src.held ++ fz) μ' { s' with heap := h', toks := tk } := C'.skip kt hk hwr' hwr0 (fun m => hLfp (W.sub _ m)) hcwr
          refine C1.heap.alloc (fun b o e => e) ⟨ys, ?_, hrs.keepT kt⟩
          obtain ⟨n, hn⟩ := hpl; exact ⟨n, hk D _ hDw hn⟩
        · refine ga.trans ⟨fun b o f e => ?_, g'.os, g'.gens⟩
          obtain ⟨e1, e2⟩ := g'.keep b o f e
          have hbD : b ≠ D := fun q => by subst q; rw [hDa] at e; cases e
          exact ⟨hk b o (fun m => by rw [(hwr b m).1] at e; cases e) e1, by unfold upd; rw [if_neg hbD]; exact e2⟩
        · unfold upd; rw [if_neg (Ne.symm hDC)]; exact C'.fr.fixl
        · intro o f e
          have := (ga.keep L o f e).1
          rw [hLa] at this; cases this
        · obtain ⟨m, hm, _⟩ := C'.fr.ns
          exact ⟨m, hm.at' fun o e => hk _ o (fun m => hLfp (W.sub _ m)) e⟩
    · have k₁ : ∀ b o, s₂.heap.get? b = some o → h₁.get? b = some o := old
      refine ⟨0, [], [], without t vars, μ₁, rfl, Nat.zero_le _, W.frame _ _ _ hst (.of_all k₁) (fun b _ o e => k₁ b o e), hacc, trivial, Nat.le_refl _, ?_, ?_, ?_, hDm, ?_, fun b hb => (hwr b hb).2, ?_⟩
      · exact inner_cur (s' := { s₂ with heap := h₁, toks := _ }) Cw I hns₁ hL2 k₁ (fun j hj => if_neg hj) fun i x mv hi hv => by
          rw [show without t vars i = none from if_pos (List.of_mem_zip hi).1] at hv; cases hv
      · intro j hj; simp [without, hj]
      · exact ⟨fun b o _ e => ⟨k₁ b o (hkeep b o e), rfl⟩, hos, hgens⟩
      · intro b hb
        obtain ⟨q, o, ho, _⟩ := hfp b hb
        exact ⟨q.imp id fun m => List.mem_append_left _ m, o, k₁ b o ho⟩
      · rw [List.drop_zero]; exact hK
    · obtain ⟨x, px, rfl⟩ := isTgt_name htg
      intro v; rfl
  exact codeAny_compStart_list (loop _ rfl) (W.self 0 _ _ _ (W.frame _ _ _ hst (.of_all old) (fun b _ o e => old b o e)) (loop _ rfl))
theorem SameBut.keep {L : Addr} {h h' : Heap} (hs : Heap.SameBut L h h') : ∀ b o, b ∉ [L] → h.get? b = some o → h'.get? b = some o := fun b o hb e => hs.extBut b o (by simpa using hb) e
theorem A0 {h : Heap} {L : Addr} {m : Str → Option Value} (hn : h.Ns L m) : ∀ o, h.get? L = some o → ¬ ImmCls o := by
  obtain ⟨o, es, ep, ho, hd, _⟩ := hn
  rintro o' ho' (⟨_, _, _, q⟩ | ⟨_, _, q⟩ | ⟨_, _, q⟩) <;> rw [ho] at ho' <;> cases ho' <;> rw [hd] at q <;> cases q
theorem end_post {fz : List Addr} {μ : MH} {s s' : Shared} {Q : MQ} {A : Around} {E : Value → Shared → Prop} {D L : Addr} (e : CompEnd prog w fz μ s Q D L s') : compPost (model prog w) A E none (PostV prog w fz μ s Q) (.ref D) L (.ok .next) s' := by
  obtain ⟨⟨μ', hq', r', g', hL⟩, hf, m, hn⟩ := e
  refine ⟨m, hn, fun h'' hs'' => ⟨.ref D, μ', hq', rfl, ?_, ?_⟩⟩
  · have kt : KeepsT s'.heap h'' := fun b o e hi => SameBut.keep hs'' b o (fun q => by simp at q; subst q; exact A0 hn o e hi) e
    exact fun a o e => (r' a o e).keeps kt fun y hy => SameBut.keep hs'' a y (fun q => by simp at q; subst q; rw [hL] at e; cases e) hy
  · exact ⟨fun b o f e => by
      obtain ⟨e1, e2⟩ := g'.keep b o f e
      exact ⟨SameBut.keep hs'' b o (fun q => by simp at q; subst q; exact hf o f e) e1, e2⟩, g'.os, g'.gens⟩
theorem se_comp (pg : PG prog w G Γ h₀ mg mb) {elt : ME} {t : MT} {k : SK} {its ifs : List ME} (hits : ∀ e ∈ its, SS prog w G h₀ Φ d e) (hifs : ∀ e ∈ ifs, SS prog w G h₀ Φ d e) (helt : SE prog w G h₀ Φ d elt) : SE prog w G h₀ Φ d (.comp elt t k its ifs) := fun S x env vars fz μ s Q A E h hA C hq => by
  obtain ⟨el, tg, iter, ifs', sc, p, rfl, hok⟩ := Gp h
  obtain ⟨hs, hclos, hw⟩ := Go (E := E) (RR := fun acc L => compPost (model prog w) A E none (PostV prog w fz μ s Q) acc L) pg hits hifs helt hok hA C hq (fun _ _ _ e => end_post e)
  rw [eval_ListComp]
  exact wpAny_comprehension_free (use := none) rfl hs hclos hok.inn.kind (fun x hx hl => by rw [hok.inn.look x hx, hl]) hw
noncomputable def ME.tag : ME → Tg
  | .var _ | .glob _ => .name
  | .cint _ => .cint
  | .cstr _ => .cstr
  | .cbool _ => .cbool
  | .cnone => .cnone
  | .bin _ _ _ => .bin
  | .neg _ => .neg
  | .not _ => .not
  | .and _ => .and
  | .or _ => .or
  | .cmp _ _ _ => .cmp
  | .ite _ _ _ => .ife
  | .idx _ _ => .sub
  | .slice _ _ _ _ => .slc
  | .list _ => .list
  | .tuple _ => .tup
  | .dict0 _ => .dict0
  | .dict _ _ => .other
  | .call _ _ | .bi _ _ | .isinst _ _ => .callN
  | .meth _ _ _ => .callA
  | .comp _ _ _ _ _ => .lc
  | .dict3 _ _ _ _ _ _ => .dict3
theorem P2 {S : Sc} {e : ME} {x : PySem.Expr} (h : isE S e x = true) : (node x).t = e.tag := by
  cases e with
  | cnone => exact of_decide_eq_true h
  | dict0 _ => exact of_decide_eq_true h
  | dict _ _ => exact (Bool.false_ne_true h).elim
  | call _ _ => exact of_decide_eq_true (and2 (and2 (and2 h).1).1).1
  | isinst _ _ => exact of_decide_eq_true (and2 (and2 (and2 h).1).1).1
  | bi f _ => cases f <;> first | exact of_decide_eq_true (and2 (and2 (and2 h).1).1).1 | exact of_decide_eq_true (and2 h).1 | exact (Bool.false_ne_true h).elim
  | _ => exact of_decide_eq_true (and2 h).1
noncomputable def Tg.plain : Tg → Bool
  | .not | .and | .or | .cmp | .ife | .other => false
  | _ => true
theorem isTrue_tag {x : PySem.Expr} {env : Env} (h : (node x).t.plain = true) : ∀ whole, isTrue x env whole = (do let v ← whole; standAt x.pos; holding [v] (PySem.truthy v)) := by
  intro whole
  cases x <;> first
    | rfl
    | exact (Bool.false_ne_true h).elim
    | (rename_i op _ _; cases op <;> first | rfl | exact (Bool.false_ne_true h).elim)
theorem SS.of_plain {e : ME} (he : e.tag.plain = true) (h : SE prog w G h₀ Φ d e) : SS prog w G h₀ Φ d e :=
  ⟨h, fun S x env vars fz μ s F A E hx hA C hq => truthyT h (isTrue_tag (by rw [P2 hx]; exact he)) hx hA C hq⟩
end
end Mine
end
section
namespace Mine
open PySem PySem.Calls PyProof.Rows PySem.W
section
variable {prog : Program} {w : World} {G : String → Option MV} {Γ : String → Option MFun} {h₀ : Heap} {mg mb : Str → Option Value} {Φ : CallSpec} {d : Nat}
mutual
theorem Yd (pg : PG prog w G Γ h₀ mg mb) (hc : SC prog w h₀ Φ d) : ∀ e : ME, SS prog w G h₀ Φ d e
  | .var i => .of_plain rfl (se_var i)
  | .glob g => .of_plain rfl (se_glob pg g)
  | .cint i => .of_plain rfl (se_cint i)
  | .cstr t => .of_plain rfl (se_cstr t)
  | .cbool b => .of_plain rfl (se_cbool b)
  | .cnone => .of_plain rfl se_cnone
  | .bin op a b => .of_plain rfl (se_bin (Yd pg hc a).1 (Yd pg hc b).1)
  | .neg a => .of_plain rfl (se_neg (Yd pg hc a).1)
  | .not a => ⟨se_not (Yd pg hc a).1, st_not (Yd pg hc a).2⟩
  | .and l => ⟨se_and fun e he => (Ya pg hc l e he).1, st_and fun e he => (Ya pg hc l e he).2⟩
  | .or l => ⟨se_or fun e he => (Ya pg hc l e he).1, st_or fun e he => (Ya pg hc l e he).2⟩
  | .cmp a ops es => ⟨se_cmp (Yd pg hc a).1 fun e he => (Ya pg hc es e he).1, st_cmp (Yd pg hc a).1 fun e he => (Ya pg hc es e he).1⟩
  | .ite c a b => ⟨se_ite (Yd pg hc c).2 (Yd pg hc a).1 (Yd pg hc b).1, st_ite (Yd pg hc c).2 (Yd pg hc a).2 (Yd pg hc b).2⟩
  | .idx a i => .of_plain rfl (se_idx (Yd pg hc a).1 (Yd pg hc i).1)
  | .slice a lo hi st => .of_plain rfl (se_slice (Yd pg hc a).1 (Yd pg hc lo).1 (Yd pg hc hi).1 (Yd pg hc st).1)
  | .list l => .of_plain rfl (se_list (Ya pg hc l))
  | .tuple l => .of_plain rfl (se_tuple (Ya pg hc l))
  | .dict0 b => .of_plain rfl (se_dict0 pg b)
  | .dict _ _ => ⟨fun S x env vars fz μ s Q A E h hA C hq => (Bool.false_ne_true h).elim, fun S x env vars fz μ s Q A E h hA C hq => (Bool.false_ne_true h).elim⟩
  | .dict3 x y z i j k => .of_plain rfl (se_dict3 pg x y z i j k)
  | .call f l => .of_plain rfl (se_call hc (Ya pg hc l))
  | .bi .sortedR l => .of_plain rfl (se_sortedR pg (Ya pg hc l))
  | .bi .maxD l => .of_plain rfl (se_maxD pg (Ya pg hc l))
  | .bi .sortedSet l => .of_plain rfl fun S x env vars fz μ s Q A E h hA C hq => (Bool.false_ne_true h).elim
  | .bi .len l => .of_plain rfl (N7 pg (Ya pg hc l) rfl)
  | .bi .min2 l => .of_plain rfl (N7 pg (Ya pg hc l) rfl)
  | .bi .max2 l => .of_plain rfl (N7 pg (Ya pg hc l) rfl)
  | .bi .max1 l => .of_plain rfl (N7 pg (Ya pg hc l) rfl)
  | .bi .sorted l => .of_plain rfl (N7 pg (Ya pg hc l) rfl)
  | .bi .list l => .of_plain rfl (N7 pg (Ya pg hc l) rfl)
  | .bi .dict l => .of_plain rfl (N7 pg (Ya pg hc l) rfl)
  | .bi .int l => .of_plain rfl (N7 pg (Ya pg hc l) rfl)
  | .bi .str l => .of_plain rfl (N7 pg (Ya pg hc l) rfl)
  | .bi .all l => .of_plain rfl (N7 pg (Ya pg hc l) rfl)
  | .isinst a t => .of_plain rfl (se_isinst pg (Yd pg hc a))
  | .meth m o l => .of_plain rfl (se_meth (Yd pg hc o).1 (Ya pg hc l))
  | .comp elt t k its ifs => .of_plain rfl (se_comp pg (Ya pg hc its) (Ya pg hc ifs) (Yd pg hc elt).1)
theorem Ya (pg : PG prog w G Γ h₀ mg mb) (hc : SC prog w h₀ Φ d) : ∀ l : List ME, ∀ e ∈ l, SS prog w G h₀ Φ d e
  | [] => fun e h => by cases h
  | a :: l => fun e h => (List.mem_cons.mp h).elim (fun q => q ▸ Yd pg hc a) (fun q => Ya pg hc l e q)
end
end
end Mine
end
section
namespace Mine
open PySem PySem.Calls PyProof.Rows PySem.W
noncomputable def RepFl (h : Heap) : MFlow → Flow → Prop
  | .next, f => f = .next
  | .brk, f => f = .brk
  | .cont, f => f = .cont
  | .ret m, f => ∃ v, f = .ret v ∧ RepV h m v
inductive PostF (prog : Program) (w : World) (h₀ : Heap) (S : Sc) (env : Env) (fz : List Addr) (μ : MH) (s : Shared) (R : MFlow → MVars → MH → Prop) (f : Flow) (s' : Shared) : Prop
  | mk (fl : MFlow) (vars' : MVars) (μ' : MH) (q : R fl vars' μ') (hf : RepFl s'.heap fl f) (cur : Cur prog w h₀ S env vars' fz μ' s') (g : GrowS env fz μ s μ' s')
section
variable (prog : Program) (w : World) (G : String → Option MV) (h₀ : Heap) (Φ : CallSpec) (d : Nat)
noncomputable def SX (st : MS) : Prop := ∀ (S : Sc) (x : PySem.Stmt) (env : Env) (vars : MVars) (fz : List Addr) (μ : MH) (s : Shared) (R : MFlow → MVars → MH → Prop) (A : Around) (E : Value → Shared → Prop), isS S st x = true → OkA d A → Cur prog w h₀ S env vars fz μ s →
  ex G Φ X0 st fz vars R μ → wpAny (model prog w) A (exec x env) (PostF prog w h₀ S env fz μ s R) E s
noncomputable def SXs (l : List MS) : Prop := ∀ (S : Sc) (xs : List PySem.Stmt) (env : Env) (vars : MVars) (fz : List Addr) (μ : MH) (s : Shared) (R : MFlow → MVars → MH → Prop) (A : Around) (E : Value → Shared → Prop), isSs S l xs = true → OkA d A → Cur prog w h₀ S env vars fz μ s →
  exs G Φ X0 l fz vars R μ → wpAny (model prog w) A (execs xs env) (PostF prog w h₀ S env fz μ s R) E s
end
section
variable {prog : Program} {w : World} {G : String → Option MV} {Γ : String → Option MFun} {h₀ : Heap} {mg mb : Str → Option Value} {Φ : CallSpec} {d : Nat}
theorem PostF.trans {S : Sc} {env : Env} {fz : List Addr} {μ μ₁ : MH} {s s₁ : Shared} {R : MFlow → MVars → MH → Prop} {f : Flow} {s' : Shared} (g : GrowS env fz μ s μ₁ s₁) (x : PostF prog w h₀ S env fz μ₁ s₁ R f s') : PostF prog w h₀ S env fz μ s R f s' := by
  obtain ⟨fl, vars', μ', h1, h2, h3, h4⟩ := x
  exact ⟨fl, vars', μ', h1, h2, h3, g.trans h4⟩
theorem sx_nil : SXs prog w G h₀ Φ d [] := fun S xs env vars fz μ s R A E h hA C hq => by
  cases xs with
  | cons _ _ => exact (Bool.false_ne_true h).elim
  | nil => exact wpAny_execs_nil ⟨.next, vars, μ, hq, rfl, C, .refl⟩
theorem sx_cons {st : MS} {l : List MS} (h1 : SX prog w G h₀ Φ d st) (h2 : SXs prog w G h₀ Φ d l) : SXs prog w G h₀ Φ d (st :: l) := fun S xs env vars fz μ s R A E h hA C hq => by
  cases xs with
  | nil => exact (Bool.false_ne_true h).elim
  | cons x xs =>
    replace h := Zk h
    refine wpAny_execs_cons (wpAny_mono (h1 S x env vars fz μ s _ A E h.1 hA C hq) (fun f s₁ h₁ => ?_) fun _ _ e => e)
    obtain ⟨fl, vars₁, μ₁, hq₁, hf, C₁, g₁⟩ := h₁
    cases fl with
    | next =>
      obtain rfl := hf
      exact wpAny_mono (h2 S xs env vars₁ fz μ₁ s₁ R A E h.2 hA C₁ hq₁) (fun f' s₂ h₂ => h₂.trans g₁) fun _ _ e => e
    | brk => obtain rfl := hf; exact ⟨.brk, vars₁, μ₁, hq₁, rfl, C₁, g₁⟩
    | cont => obtain rfl := hf; exact ⟨.cont, vars₁, μ₁, hq₁, rfl, C₁, g₁⟩
    | ret m => obtain ⟨v, rfl, rv⟩ := hf; exact ⟨.ret m, vars₁, μ₁, hq₁, ⟨v, rfl, rv⟩, C₁, g₁⟩
theorem sx_pass : SX prog w G h₀ Φ d .pass := fun S x env vars fz μ s R A E h hA C hq => by
  replace h := invS_pass h; obtain ⟨p, rfl⟩ := h
  exact wpAny_Pass ⟨.next, vars, μ, hq, rfl, C, .refl⟩
theorem sx_ret0 : SX prog w G h₀ Φ d .ret0 := fun S x env vars fz μ s R A E h hA C hq => by
  replace h := invS_ret0 h; obtain ⟨p, rfl⟩ := h
  exact wpAny_Return_none ⟨.ret .none, vars, μ, hq, ⟨.none, rfl, rfl⟩, C, .refl⟩
theorem sx_ret {a : ME} (ha : SE prog w G h₀ Φ d a) : SX prog w G h₀ Φ d (.ret a) := fun S x env vars fz μ s R A E h hA C hq => by
  replace h := Cp h; obtain ⟨v, p, rfl, h⟩ := h
  refine wpAny_Return_some (wpAny_mono (ha S _ env vars fz μ s _ A E h hA C hq) (fun v s₁ h₁ => ?_) fun _ _ e => e)
  obtain ⟨mv, μ₁, hq₁, rv, r₁, g₁⟩ := h₁
  exact ⟨.ret mv, vars, μ₁, hq₁, ⟨v, rfl, rv⟩, C.grow g₁ r₁, g₁.toS⟩
theorem Nr {v : PySem.Expr} (h : notComp v = true) (line : Nat) (env : Env) : swapsWith v none line env = pure false := by
  have h' := and2 h
  cases v <;> first
    | rfl
    | exact (Bool.false_ne_true h'.2).elim
    | (rename_i el gs sc p
       cases gs with
       | nil => exact (Bool.false_ne_true h'.2).elim
       | cons g gs =>
         obtain ⟨tg, it, ifs, n⟩ := g
         cases n with
         | ofNat m => cases m <;> cases gs <;> first | exact (Bool.false_ne_true h'.2).elim | exact (Bool.false_ne_true h'.1).elim
         | negSucc m => cases gs <;> exact (Bool.false_ne_true h'.2).elim)
theorem sx_expr {a : ME} (ha : SE prog w G h₀ Φ d a) : SX prog w G h₀ Φ d (.expr a) := fun S x env vars fz μ s R A E h hA C hq => by
  replace h := A4 h; obtain ⟨v, p, rfl, hn, h⟩ := h
  refine wpAny_Expr_any (wpAny_mono (ha S _ env vars fz μ s _ A E h hA C hq) (fun v s₁ h₁ => ?_) fun _ _ e => e) (by unfold interactive; rw [C.fr.kind]; rfl) (Nr hn _ _)
  obtain ⟨mv, μ₁, hq₁, rv, r₁, g₁⟩ := h₁
  exact ⟨.next, vars, μ₁, hq₁, rfl, C.grow g₁ r₁, g₁.toS⟩
theorem sx_ite {c : ME} {a b : List MS} (hc : ST prog w G h₀ Φ d c) (ha : SXs prog w G h₀ Φ d a) (hb : SXs prog w G h₀ Φ d b) : SX prog w G h₀ Φ d (.ite c a b) := fun S x env vars fz μ s R A E h hA C hq => by
  replace h := Cq h; obtain ⟨tt, y, z, p, rfl, h⟩ := h
  simp only [Bool.and_eq_true] at h
  refine wpAny_If (wpAny_mono (hc S _ env vars fz μ s (fun b' μ' => if b' then exs G Φ X0 a fz vars R μ' else exs G Φ X0 b fz vars R μ') A E h.1.1 hA C hq) (fun v s₁ h₁ => ?_) fun _ _ e => e)
  obtain ⟨μ₁, hq₁, r₁, g₁⟩ := h₁
  cases v with
  | true => exact wpAny_mono (ha S _ env vars fz μ₁ s₁ R A E h.1.2 hA (C.grow g₁ r₁) hq₁) (fun v' s₃ h₃ => h₃.trans g₁.toS) fun _ _ e => e
  | false => exact wpAny_mono (hb S _ env vars fz μ₁ s₁ R A E h.2 hA (C.grow g₁ r₁) hq₁) (fun v' s₃ h₃ => h₃.trans g₁.toS) fun _ _ e => e
theorem sx_setidx {o i a : ME} (ho : SE prog w G h₀ Φ d o) (hi : SE prog w G h₀ Φ d i) (ha : SE prog w G h₀ Φ d a) : SX prog w G h₀ Φ d (.setidx o i a) := fun S x env vars fz μ s R A E h hA C hq => by
  replace h := Au h; obtain ⟨ov, iv, sp, v, p, rfl, h⟩ := h
  simp only [Bool.and_eq_true] at h
  refine wpAny_Assign_Subscript (wpAny_mono (ha S _ env vars fz μ s _ A E h.2 hA C hq) (fun v s₁ h₁ => ?_) fun _ _ e => e) ?_
  · obtain ⟨mv, μ₁, hq₁, rv, r₁, g₁⟩ := h₁
    have C₁ := C.grow g₁ r₁
    refine wpAny_mono (ho S _ env vars fz μ₁ s₁ _ A E h.1.1 hA C₁ hq₁) (fun u s₂ h₂ => ?_) fun _ _ e => e
    obtain ⟨mu, μ₂, hq₂, ru, r₂, g₂⟩ := h₂
    have C₂ := C₁.grow g₂ r₂
    refine wpAny_mono (hi S _ env vars fz μ₂ s₂ _ A E h.1.2 hA C₂ hq₂) (fun y s₃ h₃ => ?_) fun _ _ e => e
    obtain ⟨my, μ₃, hq₃, ry, r₃, g₃⟩ := h₃
    have C₃ := C₂.grow g₃ r₃
    refine wpAny_mono (op_set (ru.keepT (g₃.keepT r₂)) ry ((rv.keepT (g₂.keepT r₁)).keepT (g₃.keepT r₂)) r₃ hq₃) (fun _ s₄ h₄ => ?_) fun _ _ e => e
    obtain ⟨μ₄, hq₄, r₄, g₄⟩ := h₄
    exact ⟨.next, vars, μ₄, hq₄, rfl, C₃.grow g₄ r₄, (((g₁.trans g₂).trans g₃).trans g₄).toS⟩
  · cases v <;> rfl
theorem lc_of {a : ME} (h : a.tag = .lc) : ∃ elt t k its ifs, a = .comp elt t k its ifs := by
  cases a <;> first | (cases h; done) | exact ⟨_, _, _, _, _, rfl⟩
theorem Fm {S : Sc} {a : ME} {x : PySem.Expr} (h : isE S a x = true) : a.tag ≠ .other := by
  cases a <;> first | exact (Bool.false_ne_true h).elim | (intro q; cases q; done)
theorem Bk {v : PySem.Expr} (h1 : (node v).t ≠ .lc) (h2 : (node v).t ≠ .other) (t : PySem.Expr) (line : Nat) (env : Env) : swapsWith v (some t) line env = pure false := by
  cases v <;> first
    | rfl
    | exact absurd rfl h2
    | (rename_i el gs sc p
       cases gs with
       | nil => exact absurd rfl h2
       | cons g gs =>
         obtain ⟨tg, it, ifs, n⟩ := g
         cases n with
         | ofNat m => cases m <;> cases gs <;> first | exact absurd rfl h2 | exact absurd rfl h1
         | negSucc m => cases gs <;> exact absurd rfl h2)
theorem sx_assign (pg : PG prog w G Γ h₀ mg mb) (hc : SC prog w h₀ Φ d) {i : Nat} {a : ME} : SX prog w G h₀ Φ d (.assign i a) := fun S x env vars fz μ s R A E h hA C hq => by
  replace h := Av h; obtain ⟨x, px, v, p, rfl, h1, h2⟩ := h
  have plain : ∀ hs : swapsWith v (some (.Name x px)) p.line env = pure false, wpAny (model prog w) A (exec (.Assign [.Name x px] v p) env) (PostF prog w h₀ S env fz μ s R) E s := by
    intro hs
    refine wpAny_Assign_Name (wpAny_mono ((Yd pg hc a).1 S _ env vars fz μ s _ A E h2 hA C hq) (fun u s₁ h₁ => ?_) fun _ _ e => e) hs
    obtain ⟨mv, μ₁, hq₁, rv, r₁, g₁⟩ := h₁
    exact Zu (C.grow g₁ r₁) h1 rv fun s₂ C₂ g₂ k₂ l₂ => ⟨.next, _, μ₁, hq₁, rfl, C₂, g₁.toS.trans g₂⟩
  by_cases hcomp : a.tag = .lc
  · obtain ⟨elt, t, k, its, ifs, rfl⟩ := lc_of hcomp
    obtain ⟨el, tg, iter, ifs', sc, vp, rfl, hok⟩ := Gp h2
    have hsw : ∃ b : Bool, swapsWith (.ListComp el [⟨tg, iter, ifs', 0⟩] sc vp) (some (.Name x px)) p.line env = pure b := ⟨_, rfl⟩
    obtain ⟨b, hsw⟩ := hsw
    cases b with
    | false => exact plain hsw
    | true =>
      have hR : ∀ D L s', CompEnd prog w fz μ s (fun v μ' => R .next (setv vars i v) μ') D L s' → compPost (model prog w) A E (some (assign (.Name x px) env)) (fun _ s' => PostF prog w h₀ S env fz μ s R .next s') (.ref D) L (.ok .next) s' := by
        intro D L s' e
        obtain ⟨⟨μ', hq', r', g', hL⟩, hf, m, hn⟩ := e
        have C' := C.grow g' r'
        show wpAny _ A (assign (.Name x px) env (.ref D)) _ _ s'
        refine PySem.wpAny_assign_Name (Zu C' h1 (mv := .ref D) rfl fun s₂ C₂ g₂ k₂ l₂ => ?_)
        have hLl : L ≠ env.locals := fun q => by
          obtain ⟨mm, ⟨o, es, ep, ho, _⟩, _⟩ := C.fr.ns
          rw [← q] at ho
          exact hf o (.inl (by rw [q]; exact C.fr.fixl)) ho
        have hLc : ∀ y c, (y, c) ∈ env.cells → L ≠ c := fun y c hm q => by
          subst q
          obtain ⟨f1, _, u, o, ho, _⟩ := C.fr.fixc y L hm
          exact hf o (.inl f1) ho
        have hn₂ : s₂.heap.Ns L m := hn.at' fun o e => (g₂.keep L o (.inl hL) hLl hLc e).1
        refine ⟨m, hn₂, fun h'' hs'' => ⟨.next, _, μ', hq', rfl, ?_, ?_⟩⟩
        · refine C₂.skip (wr := [L]) (s' := { s₂ with heap := h'' }) (fun b o e hi => SameBut.keep hs'' b o (fun q => by simp at q; subst q; exact A0 hn₂ o e hi) e) (SameBut.keep hs'') (by simp [hL]) ?_ (by simpa using Ne.symm hLl) (fun y c hm => by simpa using Ne.symm (hLc y c hm))
          intro b hb
          simp at hb; subst hb
          cases q : h₀.get? b with
          | none => rfl
          | some o => exact (hf o (C.base b o q).2 (C.base b o q).1).elim
        · have gg := g'.toS.trans g₂
          exact ⟨fun b o f l c e => by
            obtain ⟨e1, e2⟩ := gg.keep b o f l c e
            exact ⟨SameBut.keep hs'' b o (fun q => by simp at q; subst q; exact hf o f e) e1, e2⟩, gg.os, gg.gens⟩
      obtain ⟨hs, hclos, hw⟩ := Go (E := E) (RR := fun acc L => compPost (model prog w) A E (some (assign (.Name x px) env)) (fun _ s' => PostF prog w h₀ S env fz μ s R .next s') acc L) pg (Ya pg hc its) (Ya pg hc ifs) (Yd pg hc elt).1 hok hA C hq hR
      rw [exec_Assign_Name_used _ _ _ _ hsw]
      refine wpAny_bind (wpAny_standAt (wpAny_bind ?_))
      show wpAny _ A (do let _ ← comprehension (.ListComp el [⟨tg, iter, ifs', 0⟩] sc vp) sc env _ (newList []) false (eval iter env) (some (assign (.Name x px) env))) _ _ s
      refine wpAny_bind (wpAny_mono (wpAny_comprehension_free (use := some (assign (.Name x px) env)) (Q := fun _ s' => PostF prog w h₀ S env fz μ s R .next s') rfl hs hclos hok.inn.kind (fun x hx hl => by rw [hok.inn.look x hx, hl]) hw) (fun _ s' hq => wpAny_pure (wpAny_pure hq)) fun _ _ e => e)
  · exact plain (Bk (P2 h2 ▸ hcomp) (by rw [P2 h2]; exact Fm h2) _ _ _)
end
end Mine
end
section
namespace Mine
open PySem PySem.Calls PyProof.Rows PySem.W
section
variable {prog : Program} {w : World} {G : String → Option MV} {Γ : String → Option MFun} {h₀ : Heap} {mg mb : Str → Option Value} {Φ : CallSpec} {d : Nat}
theorem Cur.back {S : Sc} {env : Env} {vars vars' : MVars} {fz cs : List Addr} {μ μ' : MH} {s s' : Shared} (C' : Cur prog w h₀ S env vars' (cs ++ fz) μ' s') (C : Cur prog w h₀ S env vars fz μ s) (g : GrowS env fz μ s μ' s') : Cur prog w h₀ S env vars' fz μ' s' :=
  { C' with
    base := fun b o e => by
      obtain ⟨e1, f⟩ := C.base b o e
      obtain ⟨e2, q⟩ := g.keep b o f (fun q => by rw [q, C.newl] at e; cases e) (fun x c hm q => by rw [q, C.newc x c hm] at e; cases e) e1
      exact ⟨e2, f.imp (fun z => q.trans z) id⟩
    fzin := C'.fzin.left }
theorem GrowS.keepT {S : Sc} {env : Env} {vars : MVars} {fz : List Addr} {μ μ' : MH} {s s' : Shared} (C : Cur prog w h₀ S env vars fz μ s) (g : GrowS env fz μ s μ' s') : KeepsT s.heap s'.heap := fun b o e hi => by
  refine (g.keep b o (.inl (tupNone C.heap e hi)) (fun q => ?_) (fun x c hc q => ?_) e).1
  · subst q
    obtain ⟨m, hn, _⟩ := C.fr.ns
    exact A0 hn o e hi
  · subst q
    obtain ⟨_, _, v, o', ho, hd⟩ := C.fr.fixc x b hc
    rw [e] at ho; cases ho
    rcases hi with ⟨_, _, _, q⟩ | ⟨_, _, q⟩ | ⟨_, _, q⟩ <;> rw [hd] at q <;> cases q
structure ForInv (prog : Program) (w : World) (h₀ : Heap) (S : Sc) (env : Env) (t : MT) (B : MVars → (MFlow → MVars → MH → Prop) → MH → Prop) (R : MFlow → MVars → MH → Prop) (fz held fp wr : List Addr) (St : Nat → Heap → Prop) (all : List MV) (μ₁ : MH) (sa : Shared) (i : Nat) (vars' : MVars) (μ' : MH) (s' : Shared) : Prop where
  le : i ≤ all.length
  st : St i s'.heap
  cur : Cur prog w h₀ S env vars' (held ++ fz) μ' s'
  gr : GrowS env (held ++ fz) μ₁ sa μ' s'
  fp : ∀ b ∈ fp, (μ' b = none ∨ b ∈ held ++ fz) ∧ ∃ o, s'.heap.get? b = some o
  wr : ∀ b ∈ wr, μ' b = none
  run : loopM t B R (all.drop i) vars' μ'
inductive ForAt (prog : Program) (w : World) (h₀ : Heap) (S : Sc) (env : Env) (t : MT) (B : MVars → (MFlow → MVars → MH → Prop) → MH → Prop) (R : MFlow → MVars → MH → Prop) (fz held fp wr : List Addr) (St : Nat → Heap → Prop) (all : List MV) (μ₁ : MH) (sa : Shared) (n : Nat) (s' : Shared) : Prop
  | mk (i : Nat) (vars' : MVars) (μ' : MH) (e : n = all.length + 1 - i) (h : ForInv prog w h₀ S env t B R fz held fp wr St all μ₁ sa i vars' μ' s')
theorem for_gen (pg : PG prog w G Γ h₀ mg mb) {t : MT} {k : SK} {its : List ME} {body : List MS} (hits : ∀ e ∈ its, SS prog w G h₀ Φ d e) {S : Sc} {x : PySem.Stmt} {env : Env} {vars : MVars} {fz : List Addr} {μ : MH} {s : Shared} {R : MFlow → MVars → MH → Prop} {A : Around} {E : Value → Shared → Prop} {B : List Addr → MVars → (MFlow → MVars → MH → Prop) → MH → Prop} (h : isS S (.for t k its body) x = true) (hA : OkA d A) (C : Cur prog w h₀ S env vars fz μ s)
    (hq : evs G Φ X0 its fz vars (fun vs μ' => ∃ src all, mkSrc k vs = some src ∧ src.items μ' = some all ∧ fits all.length ∧ loopM t (B src.held) R all vars μ') μ)
    (hbody : ∀ (held : List Addr) (bd : List PySem.Stmt) (vars' : MVars) (μ' : MH) (s' : Shared) (F : MFlow → MVars → MH → Prop), isSs S body bd = true → Cur prog w h₀ S env vars' (held ++ fz) μ' s' → GrowS env fz μ s μ' s' → B held vars' F μ' → wpAny (model prog w) A (execs bd env) (PostF prog w h₀ S env (held ++ fz) μ' s' F) (notedBy (model prog w) A env fun e s' => cameBackBy (model prog w) A env E e s') s') : wpAny (model prog w) A (exec x env) (PostF prog w h₀ S env fz μ s R) E s := by
  replace h := invS_for h; obtain ⟨tg, iter, bd, p, as, rfl, has, hsrc, htg, hbd⟩ := h
  obtain ⟨hfold, hsource⟩ := Fn (E := E) pg hits has hsrc hA C hq
  refine wpAny_For (wpAny_mono hsource (fun x s₁ h₁ => wpAny_mono h₁ (fun it s₂ h₂ => ?_) fun _ _ e => e) fun _ _ e => e) hfold
  obtain ⟨src, all, μ₁, sa, ⟨hfit, hK⟩, hit, ra, ga, hat⟩ := h₂
  obtain ⟨Ia, fp, wr, St, rfl, W, hst, hfp, hwr, hkeep, hos, hgens⟩ := hat
  have Ca := C.grow ga ra
  have C₂ : Cur prog w h₀ S env vars fz μ₁ s₂ := Ca.ext hkeep
  have hnc : ∀ b ∈ fp, ∀ x c, (x, c) ∈ env.cells → b ≠ c := by
    intro b hb x c hc e
    subst e
    obtain ⟨_, _, v, o, ho, hd⟩ := C₂.fr.fixc x b hc
    obtain ⟨_, o', ho', hd'⟩ := hfp b hb
    rw [ho] at ho'; cases ho'; exact hd'.1 v hd
  have hnl : ∀ b ∈ fp, b ≠ env.locals := by
    intro b hb e
    subst e
    obtain ⟨m, ⟨o, es, ep, ho, hd, _⟩, _⟩ := C₂.fr.ns
    obtain ⟨_, o', ho', _, hd'⟩ := hfp _ hb
    rw [ho] at ho'; cases ho'
    rcases hd' with q | q
    · exact Hr hit _ q C₂.fr.fixl
    · exact q es ep hd
  have hwr0 : ∀ b ∈ wr, h₀.get? b = none := fun b hb => by
    cases q : h₀.get? b with
    | none => rfl
    | some o => have := (Ca.base b o q).1; rw [(hwr b hb).1] at this; cases this
  have hcwr : ∀ x c, (x, c) ∈ env.cells → c ∉ wr := fun x c hc hm => hnc c (W.sub c hm) x c hc rfl
  have hlwr : env.locals ∉ wr := fun m => hnl _ (W.sub _ m) rfl
  have Cw := C₂.weak (cs := src.held) (Hr hit)
  let Inv : Nat → Shared → Prop := ForAt prog w h₀ S env t (B src.held) R fz src.held fp wr St all μ₁ sa
  refine codeAny_forLoop_any Inv ?_ (all.length + 1) ?_
  · rintro n s' ⟨i, vars', μ', rfl, hi, hst', C', g', hfp', hwr', hM⟩
    by_cases hlt : i < all.length
    · have hm : all[i]? = some all[i] := List.getElem?_eq_getElem hlt
      rw [List.drop_eq_getElem_cons hlt] at hM
      obtain ⟨vars'', hb, hM⟩ := hM
      refine W.item i all[i] s' _ _ hm hst' fun v h' tk rv st' kt hk => ?_
      refine W.go tg i v _ _ _ st' ?_
      have C1 : Cur prog w h₀ S env vars' (src.held ++ fz) μ' { s' with heap := h', toks := tk } := C'.skip kt hk hwr' hwr0 hlwr hcwr
      have g1 : GrowS env (src.held ++ fz) μ₁ sa μ' { s' with heap := h', toks := tk } := g'.skip hk (fun b hb => (hwr b hb).1) rfl rfl
      refine Fj hA.hand C1 htg rv hb fun s₅ C2 gs2 kt2 kl2 => ?_
      have g2 := g1.trans gs2
      have hkb : ∀ b ∈ fp, ∀ o, h'.get? b = some o → s₅.heap.get? b = some o := fun b hb o e => (gs2.keep b o (hfp' b hb).1 (hnl b hb) (fun x c hc => hnc b hb x c hc) e).1
      have hst5 : St (i + 1) s₅.heap := W.frame _ _ _ st' kt2 hkb
      have hfp5 : ∀ b ∈ fp, (μ' b = none ∨ b ∈ src.held ++ fz) ∧ ∃ o, s₅.heap.get? b = some o := by
        intro b hb
        refine ⟨(hfp' b hb).1, ?_⟩
        by_cases hw : b ∈ wr
        · obtain ⟨o, ho⟩ := W.alive _ _ st' b hw
          exact ⟨o, hkb b hb o ho⟩
        · obtain ⟨o, ho⟩ := (hfp' b hb).2
          exact ⟨o, hkb b hb o (hk b o hw ho)⟩
      refine wpAny_mono (hbody _ bd vars'' μ' s₅ _ hbd C2 (ga.toS.trans g2.weak) hM) (fun f s₆ h₆ => ?_) fun _ _ e => e
      obtain ⟨fl, vars₆, μ₆, hq₆, hf, C6, g₆⟩ := h₆
      have g6 := g2.trans g₆
      have gback := ga.toS.trans g6.weak
      have next : ∀ hh : loopM t (B src.held) R (all.drop (i + 1)) vars₆ μ₆, ∃ m, m < all.length + 1 - i ∧ Inv m s₆ := by
        intro hh
        refine ⟨all.length + 1 - (i + 1), by lia, i + 1, vars₆, μ₆, rfl, hlt, ?_, C6, g6, ?_, ?_, hh⟩
        · exact W.frame _ _ _ hst5 (g₆.keepT C2) fun b hb o e => (g₆.keep b o (hfp5 b hb).1 (hnl b hb) (fun x c hc => hnc b hb x c hc) e).1
        · intro b hb
          obtain ⟨q, o, ho⟩ := hfp5 b hb
          obtain ⟨e1, e2⟩ := g₆.keep b o q (hnl b hb) (fun x c hc => hnc b hb x c hc) ho
          exact ⟨q.imp (fun z => e2.trans z) id, o, e1⟩
        · intro b hb
          obtain ⟨q, o, ho⟩ := hfp5 b (W.sub b hb)
          exact (g₆.keep b o q (hnl b (W.sub b hb)) (fun x c hc => hnc b (W.sub b hb) x c hc) ho).2.trans (hwr' b hb)
      cases fl with
      | next => obtain rfl := hf; exact next hq₆
      | cont => obtain rfl := hf; exact next hq₆
      | brk => obtain rfl := hf; exact ⟨.next, vars₆, μ₆, hq₆, rfl, C6.back C gback, gback⟩
      | ret m => obtain ⟨v, rfl, rv⟩ := hf; exact ⟨.ret m, vars₆, μ₆, hq₆, ⟨v, rfl, rv⟩, C6.back C gback, gback⟩
    · have hie : i = all.length := by lia
      subst hie
      rw [List.drop_length] at hM
      refine W.done s' _ _ hst' fun h' tk kt hk => ?_
      have C1 : Cur prog w h₀ S env vars' (src.held ++ fz) μ' { s' with heap := h', toks := tk } := C'.skip kt hk hwr' hwr0 hlwr hcwr
      have g1 : GrowS env (src.held ++ fz) μ₁ sa μ' { s' with heap := h', toks := tk } := g'.skip hk (fun b hb => (hwr b hb).1) rfl rfl
      have gback := ga.toS.trans g1.weak
      exact wpAny_execs_nil ⟨.next, vars', μ', hM, rfl, C1.back C gback, gback⟩
  · refine ⟨0, vars, μ₁, rfl, Nat.zero_le _, hst, Cw, ⟨fun b o _ _ _ e => ⟨hkeep b o e, rfl⟩, hos, hgens⟩, ?_, fun b hb => (hwr b hb).2, ?_⟩
    · intro b hb
      obtain ⟨q, o, ho, _⟩ := hfp b hb
      exact ⟨q.imp id fun m => List.mem_append_left _ m, o, ho⟩
    · rw [List.drop_zero]; exact hK
theorem sx_for (pg : PG prog w G Γ h₀ mg mb) {t : MT} {k : SK} {its : List ME} {body : List MS} (hits : ∀ e ∈ its, SS prog w G h₀ Φ d e) (hbody : SXs prog w G h₀ Φ d body) : SX prog w G h₀ Φ d (.for t k its body) := fun S x env vars fz μ s R A E h hA C hq =>
  for_gen pg hits (B := fun held vs F μ => exs G Φ X0 body (held ++ fz) vs F μ) h hA C hq fun held bd vars' μ' s' F hbd C' _ hB => hbody S bd env vars' _ μ' s' F A _ hbd hA C' hB
theorem sx_raise0 : SX prog w G h₀ Φ d .raise0 := fun S x env vars fz μ s R A E h hA C hq => False.elim hq
theorem sx_tri {b : List MS} : SX prog w G h₀ Φ d (.tri b) := fun S x env vars fz μ s R A E h hA C hq => (Bool.false_ne_true h).elim
mutual
theorem soundS (pg : PG prog w G Γ h₀ mg mb) (hc : SC prog w h₀ Φ d) : ∀ st : MS, SX prog w G h₀ Φ d st
  | .assign i a => sx_assign pg hc
  | .unpack _ _ => fun S x env vars fz μ s R A E h hA C hq => (Bool.false_ne_true h).elim
  | .setidx o i a => sx_setidx (Yd pg hc o).1 (Yd pg hc i).1 (Yd pg hc a).1
  | .expr a => sx_expr (Yd pg hc a).1
  | .ret a => sx_ret (Yd pg hc a).1
  | .ret0 => sx_ret0
  | .ite c a b => sx_ite (Yd pg hc c).2 (Oh pg hc a) (Oh pg hc b)
  | .for t k its body => sx_for pg (Ya pg hc its) (Oh pg hc body)
  | .while _ _ => fun S x env vars fz μ s R A E h hA C hq => (Bool.false_ne_true h).elim
  | .pass => sx_pass
  | .opq _ => fun S x env vars fz μ s R A E h hA C hq => False.elim hq
  | .raise0 => sx_raise0
  | .tri _ => sx_tri
theorem Oh (pg : PG prog w G Γ h₀ mg mb) (hc : SC prog w h₀ Φ d) : ∀ l : List MS, SXs prog w G h₀ Φ d l
  | [] => sx_nil
  | st :: l => sx_cons (soundS pg hc st) (Oh pg hc l)
end
end
end Mine
end
section
namespace Mine
open PySem PySem.Calls PyProof.Rows PySem.W
theorem Kv {α β : Type} {f g : α → Option β} : ∀ {l : List α}, (∀ x ∈ l, f x = g x) → l.filterMap f = l.filterMap g
  | [] => fun _ => rfl
  | a :: l => fun h => by rw [List.filterMap_cons, List.filterMap_cons, h a (.head _), Kv fun x hx => h x (.tail _ hx)]
theorem N6 : ∀ {names : List Str} {vals : List Value}, names.Nodup → vals.length = names.length → names.filterMap (fun n => ((names.zip vals).lookup n).map (n, ·)) = names.zip vals
  | [], [] => fun _ _ => rfl
  | n :: ns, v :: vs => fun hn hl => by
    simp only [List.nodup_cons] at hn
    have ih := N6 hn.2 (vals := vs) (by simpa using hl)
    rw [List.filterMap_cons]
    have e0 : List.lookup n ((n :: ns).zip (v :: vs)) = some v := by simp [List.lookup_cons]
    rw [e0]
    simp only [Option.map_some, List.zip_cons_cons]
    congr 1
    refine Eq.trans (Kv fun x hx => ?_) ih
    have : (x == n) = false := by rw [beq_eq_false_iff_ne]; rintro rfl; exact hn.1 hx
    rw [List.lookup_cons, this]
  | [], _ :: _ => fun _ h => by simp at h
  | _ :: _, [] => fun _ h => by simp at h
theorem zip_some : ∀ {names : List Str} {vals : List Value}, vals.length = names.length → ∀ n ∈ names, ((names.zip vals).lookup n).isSome = true
  | [], [] => fun _ _ h => by cases h
  | n :: ns, v :: vs => fun hl x hx => by
    simp only [List.zip_cons_cons, List.lookup_cons]
    cases q : x == n with
    | true => rfl
    | false =>
      rcases List.mem_cons.mp hx with rfl | hx
      · simp at q
      · exact zip_some (by simpa using hl) x hx
  | [], _ :: _ => fun h _ _ => by simp at h
  | _ :: _, [] => fun h _ _ => by simp at h
theorem Ds {name : Str} {body : List PySem.Stmt} {scope : Scope} {pm code doc : Value} {params : Arguments} {vals : List Value} (h1 : params.posonlyargs = []) (h2 : params.vararg = none) (h3 : params.kwonlyargs = []) (h4 : params.kwarg = none)
    (hn : (params.args.map (·.arg)).Nodup) (hl : vals.length = (params.args.map (·.arg)).length) : bindArgs (docDef name params body scope pm code doc) ⟨vals, []⟩ = pure ((params.args.map (·.arg)).zip vals) := by
  obtain ⟨pa, as, va, kw, kd, ka, df⟩ := params
  obtain rfl : pa = [] := h1
  obtain rfl : va = none := h2
  obtain rfl : kw = [] := h3
  obtain rfl : ka = none := h4
  replace hn : (as.map (·.arg)).Nodup := hn
  replace hl : vals.length = (as.map (·.arg)).length := hl
  have e1 : ¬ (vals.length > (as.map (·.arg)).length) := by simp [*]
  have e2 : ((as.map (·.arg)).filter fun n => (((as.map (·.arg)).zip vals).lookup n).isNone) = [] := by
    rw [List.filter_eq_nil_iff]
    intro n hx
    have := zip_some hl n hx
    cases q : ((as.map (·.arg)).zip vals).lookup n with
    | none => rw [q] at this; cases this
    | some _ => simp
  have e3 := N6 hn hl
  show bindArgs _ _ = pure ((as.map (·.arg)).zip vals)
  generalize hN : as.map (·.arg) = names at e1 e2 e3 ⊢
  unfold bindArgs docDef
  simp [hN, e1, e2, e3, show seqItems? Value.none = pure none from rfl]
structure FunOk (fd : MFun) (tab : List (Nat × Str)) (funs : List String) (params : Arguments) (body : List PySem.Stmt) (sc : Scope) : Prop where
  p1 : params.posonlyargs = []
  p2 : params.vararg = none
  p3 : params.kwonlyargs = []
  p4 : params.kwarg = none
  n : params.args.length = fd.n
  par : ∀ (i : Nat) (x : Str), (params.args.map (·.arg))[i]? = some x → tab.lookup i = some x ∧ (sc.names.lookup x = some .local ∨ sc.names.lookup x = some .cell)
  kind : sc.kind = .function
  gen : sc.isGenerator = false
  co : sc.isCoroutine = false
  nv : (tab.map (·.2)).Nodup
  nk : (tab.map (·.1)).Nodup
  nn : (sc.names.map (·.1)).Nodup
  np : (params.args.map (·.arg)).Nodup
  nofree : ∀ p ∈ sc.names, p.2 ≠ .free
  body : isSs ⟨tab, sc.names, funs⟩ fd.body body = true
theorem funOk_of {fd : MFun} {tab : List (Nat × Str)} {funs : List String} {params : Arguments} {body : List PySem.Stmt} {sc : Scope} (h : isFun fd tab funs params body sc = true) : FunOk fd tab funs params body sc := by
  unfold isFun at h
  simp only [Bool.and_eq_true, decide_eq_true_eq, List.isEmpty_iff, Option.isNone_iff_eq_none, List.all_eq_true, Bool.not_eq_true', beq_iff_eq] at h
  obtain ⟨⟨⟨⟨⟨⟨⟨⟨⟨⟨⟨⟨⟨⟨⟨⟨h1, h2⟩, h3⟩, h4⟩, h5⟩, h6⟩, h7⟩, h8⟩, h9⟩, h10⟩, h11⟩, h12⟩, h13⟩, h14⟩, h15⟩, h16⟩, h17⟩ := h
  refine ⟨h1, h2, h3, h4, h7, fun i x hx => ?_, ?_, h10, h11, h12, h13, h14, h15, fun p hp e => ?_, h17⟩
  · have hm : (x, i) ∈ (params.args.map (·.arg)).zipIdx := by
      rw [List.mem_zipIdx_iff_getElem?]; exact hx
    obtain ⟨q1, q2⟩ := h8 _ hm
    refine ⟨q1, ?_⟩
    simpa only [kindSt, Bool.or_eq_true, decide_eq_true_eq] using q2
  · exact h9
  · have := h16 p hp
    rw [e] at this; simp [isFree] at this
theorem Kn {p : Str × Addr} : ∀ {names : List (Str × NameKind)} {n : Nat} {acc : List (Str × Addr)}, p ∈ acc → p ∈ cellsFrom n names acc
  | [], _, _ => fun h => h
  | (x, k) :: r, n, acc => fun h => by
    unfold cellsFrom
    split
    · exact Kn (.tail _ h)
    · exact Kn h
theorem Zs {x : Str} : ∀ {names : List (Str × NameKind)} {n : Nat} {acc : List (Str × Addr)}, (x, NameKind.cell) ∈ names → ∃ c, (x, c) ∈ cellsFrom n names acc
  | (y, k) :: r, n, acc, h => by
    unfold cellsFrom
    rcases List.mem_cons.mp h with h1 | h1
    · cases h1
      rw [if_pos (by simp)]
      exact ⟨n, Kn (.head _)⟩
    · split
      · exact Zs h1
      · exact Zs h1
theorem Zf : ∀ {names : List (Str × NameKind)} {n : Nat} {acc : List (Str × Addr)}, (names.map (·.1)).Nodup → (acc.map (·.1)).Nodup → (∀ p ∈ acc, p.1 ∉ names.map (·.1)) → ((cellsFrom n names acc).map (·.1)).Nodup
  | [], _, _ => fun _ h _ => h
  | (y, k) :: r, n, acc => fun hn ha hd => by
    simp only [List.map_cons, List.nodup_cons] at hn
    unfold cellsFrom
    split
    · refine Zf hn.2 ?_ ?_
      · simp only [List.map_cons, List.nodup_cons]
        refine ⟨fun m => ?_, ha⟩
        obtain ⟨p, hp, e⟩ := List.mem_map.mp m
        exact hd p hp (by rw [e]; simp)
      · intro p hp
        rcases List.mem_cons.mp hp with rfl | hp
        · exact hn.1
        · exact fun m => hd p hp (by simp at m ⊢; exact .inr m)
    · exact Zf hn.2 ha fun p hp m => hd p hp (by simp at m ⊢; exact .inr m)
theorem Jc : ∀ {l : List (Str × Addr)}, (l.map (·.1)).Nodup → ∀ p ∈ l, l.lookup p.1 = some p.2
  | (n, k) :: r, h, p, hp => by
    simp only [List.map_cons, List.nodup_cons] at h
    rcases List.mem_cons.mp hp with rfl | hp'
    · simp [List.lookup_cons]
    · rw [List.lookup_cons]
      have : (p.1 == n) = false := by
        rw [beq_eq_false_iff_ne]; rintro rfl
        exact h.1 (List.mem_map_of_mem (f := (·.1)) hp')
      rw [this]; exact Jc h.2 p hp'
theorem B1 {kindOf : Str → Option NameKind} {x : Str} : ∀ {binds : List (Str × Value)} {m : Str → Option Value}, x ∉ binds.map (·.1) → bindL kindOf binds m x = m x
  | [], m => fun _ => rfl
  | (n, v) :: r, m => fun h => by
    simp only [List.map_cons, List.mem_cons, not_or] at h
    unfold bindL
    rw [B1 h.2]
    split
    · simp [h.1]
    · rfl
theorem Gq {kindOf : Str → Option NameKind} {x : Str} {v : Value} (hk : kindOf x = some .local) : ∀ {binds : List (Str × Value)} {m : Str → Option Value}, (binds.map (·.1)).Nodup → (x, v) ∈ binds → bindL kindOf binds m x = some v
  | (n, u) :: r, m, hn, h => by
    simp only [List.map_cons, List.nodup_cons] at hn
    unfold bindL
    rcases List.mem_cons.mp h with h1 | h1
    · cases h1
      rw [B1 hn.1, if_pos hk]; simp
    · exact Gq hk hn.2 h1
theorem B2 {kindOf : Str → Option NameKind} {x : Str} : ∀ {binds : List (Str × Value)} {m : Str → Option Value}, x ∉ binds.map (·.1) → bindC kindOf binds m x = m x
  | [], m => fun _ => rfl
  | (n, v) :: r, m => fun h => by
    simp only [List.map_cons, List.mem_cons, not_or] at h
    unfold bindC
    rw [B2 h.2]
    split
    · rfl
    · simp [h.1]
theorem Gr {kindOf : Str → Option NameKind} {x : Str} {v : Value} (hk : kindOf x = some .cell) : ∀ {binds : List (Str × Value)} {m : Str → Option Value}, (binds.map (·.1)).Nodup → (x, v) ∈ binds → bindC kindOf binds m x = some v
  | (n, u) :: r, m, hn, h => by
    simp only [List.map_cons, List.nodup_cons] at hn
    unfold bindC
    rcases List.mem_cons.mp h with h1 | h1
    · cases h1
      rw [B2 hn.1, if_neg (by rw [hk]; simp)]; simp
    · exact Gr hk hn.2 h1
section
variable {prog : Program} {w : World} {G : String → Option MV} {Γ : String → Option MFun} {h₀ : Heap} {mg mb : Str → Option Value}
theorem PG.fnAt (pg : PG prog w G Γ h₀ mg mb) {f : String} {fd : MFun} (h : Γ f = some fd) : ∃ fa, FnAt h₀ f fa := by
  obtain ⟨a, o, pm, code, doc, params, body, scope, tab, funs, h1, h2, h3, _⟩ := pg.fn f fd h
  exact ⟨a, mg, pg.g, h1, o, _, h2, h3⟩
structure Entered (s : Shared) (env : Env) (s₁ : Shared) : Prop where
  keep : ∀ b o, s.heap.get? b = some o → s₁.heap.get? b = some o
  os : s₁.os = s.os
  gens : s₁.gens = s.gens
  new : s.heap.get? env.locals = none
  frame : env.frame = some env.locals
  cells : ∀ y c, (y, c) ∈ env.cells → s.heap.get? c = none
theorem enter (pg : PG prog w G Γ h₀ mg mb) {d : Nat} {f : String} {fd : MFun} {vs : List MV} {vals : List Value} {fz : List Addr} {μ : MH} {s : Shared} {A : Around} {fa : Addr} {R : Result → Shared → Prop} (hΓ : Γ f = some fd) (hn : vs.length = fd.n) (hA : OkA (d + 1) A) (B : Base h₀ fz μ s) (r : RepH prog w μ s.heap) (fi : FzIn fz μ) (rv : RepVs s.heap vs vals) (hfn : FnAt h₀ f fa)
    (k : ∀ (S : Sc) (env : Env) (body : List PySem.Stmt) (s₁ : Shared), isSs S fd.body body = true → Cur prog w h₀ S env (args0 vs) fz μ s₁ → OkA d (A.deeper env) → Entered s env s₁ →
      wpAny (model prog w) (A.deeper env) (execs body env) (fun f s' => R (.ok (.ret (match f with | .ret v => v | _ => .none))) s') (fun e s' => wpAny (model prog w) (A.deeper env) (leaving env e) (fun _ s'' => R (.error e) s'') (fun e' s'' => R (.error e') s'') s') s₁) :
    codeAny (model prog w) A (.call (.ref fa) ⟨vals, []⟩) R s := by
  obtain ⟨a, o, pm, code, doc, params, body, scope, tab, funs, hmf, ho, hdata, hcode, hfun, hfuns⟩ := pg.fn f fd hΓ
  obtain ⟨m, hm, hmf', _⟩ := hfn
  have : m = mg := hm.eq_nsMap.trans pg.g.eq_nsMap.symm
  subst this
  rw [hmf] at hmf'; cases hmf'
  have F := funOk_of hfun
  have keep0 : ∀ b o, h₀.get? b = some o → s.heap.get? b = some o := fun b o e => (B b o e).1
  have hlen : vals.length = (params.args.map (·.arg)).length := by rw [rv.length, hn, List.length_map, F.n]
  have hfst : (((params.args.map (·.arg)).zip vals).map (·.1)) = params.args.map (·.arg) := List.map_fst_zip (by simp [*])
  have hkinds : ∀ x ∈ (params.args.map (·.arg)).zip vals, scope.names.lookup x.1 = some .local ∨ (scope.names.lookup x.1 = some .cell ∧ ((cellsFrom (s.heap.objs.size + 1) scope.names []).lookup x.1).isSome = true) := by
    intro x hx
    have hx1 : x.1 ∈ params.args.map (·.arg) := by rw [← hfst]; exact List.mem_map_of_mem hx
    obtain ⟨i, hi⟩ := List.mem_iff_getElem?.mp hx1
    rcases (F.par i x.1 hi).2 with q | q
    · exact .inl q
    · refine .inr ⟨q, ?_⟩
      obtain ⟨c, hc⟩ := Zs (n := s.heap.objs.size + 1) (acc := []) (mem_of_lookup q)
      rw [Jc (Zf F.nn (by simp) (by simp)) _ hc]; rfl
  refine codeAny_call_cells (binds := (params.args.map (·.arg)).zip vals) (by have := hA.depth; lia) (keep0 _ _ ho) hdata (pg.nolimit.keeps keep0) (hcode.keeps keep0) rfl (Ds F.p1 F.p2 F.p3 F.p4 F.np hlen) rfl hkinds (fun s₁ x => ?_) F.co F.gen F.kind
  generalize hL : s.heap.objs.size = L at x ⊢
  obtain ⟨⟨h', tk, hs₁⟩, hns, hkeep, hfresh⟩ := x.toInCall
  have hos : s₁.os = s.os := by rw [hs₁]
  have hgens : s₁.gens = s.gens := by rw [hs₁]
  have above : ∀ b, L ≤ b → s.heap.get? b = none := fun b hb => by
    cases q : s.heap.get? b with
    | none => rfl
    | some o => have := Heap.lt_size q; rw [hL] at this; exact absurd this (Nat.not_lt.mpr hb)
  have none0 : ∀ b, s.heap.get? b = none → h₀.get? b = none := fun b e => by
    cases q : h₀.get? b with
    | none => rfl
    | some o => have := keep0 b o q; rw [e] at this; cases this
  have cnd : ((cellsFrom (L + 1) scope.names []).map (·.1)).Nodup := Zf F.nn (by simp) (by simp)
  have C : Cur prog w h₀ ⟨tab, scope.names, funs⟩ (callEnvC (docDef (Str.ofString f) params body scope pm code doc) L fa) (args0 vs) fz μ s₁ := by
    refine { base := fun b o e => ⟨hkeep b o (B b o e).1, (B b o e).2⟩, heap := r.ext hkeep, fzin := fi, newl := none0 _ (above _ (Nat.le_refl _)), newc := ?nc, known := ?kn, fr := ?fr }
    case nc => exact fun x' c hc => none0 _ (above _ (Nat.le_of_lt (x.above x' c hc)))
    case kn =>
      intro g hg
      obtain ⟨fd', hg'⟩ := hfuns g hg
      exact pg.fnAt hg'
    case fr =>
      refine { names := rfl, inj := inj_of F.nv, nk := F.nk, nv := F.nv, kind := F.kind, glob := rfl, bui := rfl, ns := ⟨_, hns, ?ns⟩, cells := ?cs, apart := x.apart, fixl := r.free (above _ (Nat.le_refl _)), fixc := ?fx }
      case ns =>
        intro i y mv hi hkv hv
        have hvi : vs[i]? = some mv := hv
        obtain ⟨v, hval, hrep⟩ := rv.get hvi
        have hilt : i < (params.args.map (·.arg)).length := by rw [← hlen]; exact (List.getElem?_eq_some_iff.mp hval).1
        have hpi := List.getElem?_eq_getElem hilt
        obtain ⟨q1, q2⟩ := F.par i _ hpi
        have hy : (params.args.map (·.arg))[i] = y := by
          have : some _ = some y := q1.symm.trans hi
          exact Option.some.inj this
        rw [hy] at q2 hpi
        have hmem : (y, v) ∈ (params.args.map (·.arg)).zip vals := by
          refine List.mem_iff_getElem?.mpr ⟨i, ?_⟩
          rw [List.getElem?_zip_eq_some]; exact ⟨hpi, hval⟩
        refine ⟨v, hrep.keepT (.of_all hkeep), ?_⟩
        have hko : (callEnvC (docDef (Str.ofString f) params body scope pm code doc) L fa).kindOf y = scope.names.lookup y := rfl
        unfold VarAt
        rw [hko]
        rcases q2 with q | q
        · rw [q]; exact Gq (by rw [hko]; exact q) (by rw [hfst]; exact F.np) hmem
        · rw [q]
          obtain ⟨c, hc⟩ := Zs (n := L + 1) (acc := []) (mem_of_lookup q)
          have hc' := Jc cnd _ hc
          refine ⟨c, hc', ?_⟩
          have := x.cell y c hc'
          rw [Gr (by rw [hko]; exact q) (by rw [hfst]; exact F.np) hmem] at this
          exact this
      case cs =>
        intro y hy
        rcases hy with q | q
        · obtain ⟨c, hc⟩ := Zs (n := L + 1) (acc := []) (mem_of_lookup q)
          exact ⟨c, Jc cnd _ hc⟩
        · exact absurd rfl (F.nofree _ (mem_of_lookup q))
      case fx =>
        intro y c hc
        exact ⟨r.free (above _ (Nat.le_of_lt (x.above y c hc))), Ne.symm (Nat.ne_of_lt (x.above y c hc)), _, x.cell y c (Jc cnd _ hc)⟩
  have hA' : OkA d (A.deeper (callEnvC (docDef (Str.ofString f) params body scope pm code doc) L fa)) := ⟨hA.hand, by have := hA.depth; show A.depth + 1 + d < _; lia, by have := hA.units; show A.units + 3 + 4 * d + 100 < _; lia⟩
  exact k _ _ _ _ F.body C hA' ⟨hkeep, hos, hgens, above _ (Nat.le_refl _), rfl, fun y c hc => above _ (Nat.le_of_lt (x.above y c hc))⟩
theorem Jr (pg : PG prog w G Γ h₀ mg mb) (d : Nat) : SC prog w h₀ (calls G Γ d) d := by
  induction d with
  | zero => exact fun f vs vals fz μ s Q A E fa hA B r fi rv hfn h => h.elim
  | succ d ih =>
    intro f vs vals fz μ s Q A E fa hA B r fi rv hfn h
    obtain ⟨fd, hΓ, hn, hex⟩ := h
    refine wpAny_call (enter pg hΓ hn hA B r fi rv hfn fun S env body s₁ hb C hA' en => ?_)
    refine wpAny_mono (Oh pg ih fd.body _ body _ _ fz μ s₁ _ _ _ hb hA' C hex) (fun fl s₂ h₂ => ?_) fun _ _ e => e
    obtain ⟨mf, vars₂, μ₂, hq₂, hf, C₂, g₂⟩ := h₂
    have ne : ∀ {b c : Addr} {o : Obj}, s.heap.get? b = some o → s.heap.get? c = none → b ≠ c := fun e n q => by rw [q, n] at e; cases e
    have g : Grow fz μ s μ₂ s₂ := ⟨fun b o f e => g₂.keep b o f (ne e en.new) (fun y c hc => ne e (en.cells y c hc)) (en.keep b o e), g₂.os.trans en.os, g₂.gens.trans en.gens⟩
    cases mf with
    | next => simp only [RepFl] at hf; subst hf; exact ⟨.none, μ₂, hq₂, rfl, C₂.heap, g⟩
    | brk => exact hq₂.elim
    | cont => exact hq₂.elim
    | ret mv => simp only [RepFl] at hf; obtain ⟨v, rfl, hv⟩ := hf; exact ⟨mv, μ₂, hq₂, hv, C₂.heap, g⟩
end
end Mine
end
section
namespace Mine
open PySem PySem.Calls PyProof.Rows PySem.W
abbrev Defs := List (String × MFun × List (Nat × Str))
noncomputable def Defs.env (D : Defs) (f : String) : Option MFun := (D.find? fun p => p.1 == f).map fun p => p.2.1
noncomputable def defOk (ds : List DefRec) (funs : List String) (p : String × MFun × List (Nat × Str)) : Bool :=
  match ds.find? fun d => d.name == Str.ofString p.1 with
  | some d => isFun p.2.1 p.2.2 funs d.params d.body d.scope
  | none => false
noncomputable def progOk (ds : List DefRec) (D : Defs) : Bool := D.all (defOk ds (D.map (·.1)))
abbrev Consts := List (String × MV)
noncomputable def Consts.env (C : Consts) (g : String) : Option MV := (C.find? fun p => p.1 == g).map (·.2)
noncomputable def constOk (vo : Str → Option PyData) (p : String × MV) : Bool := match p.2, vo (Str.ofString p.1) with
  | .int i, some (.int j) => i == j
  | .str x, some (.str y) => x == y
  | _, _ => false
noncomputable def biOk (bt : Str → Option Value) : Bool := biTab.all fun p => !(Str.ofString p.1 == Str.ofString "__name__") && decide (bt (Str.ofString p.1) = some p.2)
section
variable {prog p : Program} {w : World} {loose : List Str} {mean : ExcName → Option Value} {mg mb : Str → Option Value} {h : Heap}
theorem pg_of (T : Top p loose mean mg mb h) (D : Defs) (Cs : Consts) (h1 : progOk (recsOf p) D = true) (h2 : Cs.all (constOk (valOf p)) = true)
    (h3 : biTab.all (fun q => !startupNames.contains (Str.ofString q.1) && !loose.contains (Str.ofString q.1) && !((recsOf p).map (·.name)).contains (Str.ofString q.1) && !((litsOf p).map (·.1)).contains (Str.ofString q.1) && !((clssOf p loose).map (·.name)).contains (Str.ofString q.1)) = true)
    (h4 : biOk bootBuiltins = true) : PG prog w Cs.env D.env h mg mb where
  g := T.g
  b := T.b
  nolimit := T.nolimit
  bi := fun q hq => by
    have a := List.all_eq_true.mp h3 q hq
    simp only [Bool.and_eq_true, Bool.not_eq_true', List.contains_eq_mem, decide_eq_false_iff_not] at a
    have b := List.all_eq_true.mp h4 q hq
    simp only [Bool.and_eq_true, Bool.not_eq_true', decide_eq_true_eq, beq_eq_false_iff_ne] at b
    refine ⟨T.free _ a.1.1.1.1 a.1.1.1.2 a.1.1.2 a.1.2 a.2, ?_⟩
    rw [T.builtins _ b.1]; exact b.2
  fn := fun f fd hf => by
    unfold Defs.env at hf
    rw [Option.map_eq_some_iff] at hf
    obtain ⟨q, hq, rfl⟩ := hf
    have hm := List.mem_of_find?_eq_some hq
    have hn : q.1 = f := by simpa using List.find?_some hq
    subst hn
    have a := List.all_eq_true.mp h1 q hm
    unfold defOk at a
    split at a
    · rename_i d hd
      have hdm := List.mem_of_find?_eq_some hd
      have hdn : d.name = Str.ofString q.1 := by simpa using List.find?_some hd
      obtain ⟨fa, o, pm, code, doc, e1, e2, e3, e4⟩ := T.fn d hdm
      rw [hdn] at e1 e3 e4
      refine ⟨fa, o, pm, code, doc, d.params, d.body, d.scope, q.2.2, D.map (·.1), e1, e2, e3, e4, a, fun g hg => ?_⟩
      obtain ⟨q', hq', rfl⟩ := List.mem_map.mp hg
      unfold Defs.env
      cases hfind : D.find? fun p => p.1 == q'.1 with
      | none => exact absurd (List.find?_eq_none.mp hfind q' hq') (by simp)
      | some z => exact ⟨z.2.1, rfl⟩
    · cases a
  const := fun g v hv => by
    unfold Consts.env at hv
    rw [Option.map_eq_some_iff] at hv
    obtain ⟨q, hq, rfl⟩ := hv
    have hm := List.mem_of_find?_eq_some hq
    have hn : q.1 = g := by simpa using List.find?_some hq
    subst hn
    have a := List.all_eq_true.mp h2 q hm
    unfold constOk at a
    split at a
    · rename_i i j e1 e2
      obtain ⟨val, h5, h6⟩ := T.const _ _ e2
      have := h6 h
      refine ⟨val, h5, .inl ?_⟩
      simp only [beq_iff_eq] at a
      subst a
      cases this
      exact ⟨_, _, e1, rfl⟩
    · rename_i i j e1 e2
      obtain ⟨val, h5, h6⟩ := T.const _ _ e2
      have := h6 h
      refine ⟨val, h5, .inr ?_⟩
      simp only [beq_iff_eq] at a
      subst a
      cases this
      exact ⟨_, _, e1, rfl⟩
    · cases a
theorem plain_of {P : Params} {hh : Heap} {a : Addr} {xs : List PyData} {vs : List Value} (hW : Well P hh (.ref a) (ofPy (.list xs))) (hL : hh.IsList a vs.toArray) : hh.PlainList a vs.toArray := by
  rw [show ofPy (.list xs) = .list (ofPys xs) by simp [ofPy]] at hW
  generalize ofPys xs = ws at hW
  cases hW with
  | list ho _ =>
    obtain ⟨o, ho', hc, n, hd⟩ := hL
    rw [ho] at ho'
    cases ho'
    simp only [Data.seq.injEq] at hd
    exact ⟨_, by rw [ho, hd.1]⟩
end
end Mine
end
section
namespace Mine
open PySem
noncomputable def Ext (μ μ' : MH) : Prop := ∀ b o, μ b = some o → μ' b = some o
theorem Ext.refl {μ : MH} : Ext μ μ := fun _ _ e => e
theorem Ext.trans {μ μ₁ μ₂ : MH} (x : Ext μ μ₁) (y : Ext μ₁ μ₂) : Ext μ μ₂ := fun b o e => y b o (x b o e)
theorem Ext.upd {μ : MH} {a : Addr} {o : MO} (h : μ a = none) : Ext μ (upd μ a o) := fun b x e => by
  unfold Mine.upd; rw [if_neg (fun q => by rw [q, h] at e; cases e)]; exact e
theorem Qz {μ : MH} {a : Addr} {o : MO} : upd μ a o a = some o := by simp [upd]
theorem Y8 {μ : MH} {a b : Addr} {o : MO} (h : b ≠ a) : upd μ a o b = μ b := by simp [upd, h]
theorem Zw {μ : MH} {a : Addr} {l : List MV} (h : μ a = some (.list l)) : lst μ a = some l := by simp [lst, h]
theorem Yh {α : Type} (l : List α) (lo hi : Option Int) : pick l lo hi none = (l.drop (lo.elim 0 (clipAt l.length))).take (hi.elim l.length (clipAt l.length) - lo.elim 0 (clipAt l.length)) := by
  unfold pick pickN
  rw [sliceBounds_plain]
  generalize (lo.elim 0 (clipAt l.length)) = a
  generalize (hi.elim l.length (clipAt l.length)) = b
  show List.filterMap _ (sliceRange (a : Int) (b : Int) 1) = _
  rw [Mine.sliceRange_one, Int.toNat_sub]
  have e : (List.range (b - a)).map (fun (k : Nat) => ((a : Int) + k).toNat) = (List.range (b - a)).map (a + ·) := List.map_congr_left fun k _ => Int.toNat_natCast (a + k)
  rw [e]
  have := pick_run l.toArray a (b - a)
  simpa only [List.getElem?_toArray] using this
theorem pick_one {α : Type} (l : List α) {k : Int} (hk : 0 ≤ k) : pick l (some k) (some (k + 1)) none = (l.drop k.toNat).take 1 := by
  obtain ⟨n, rfl⟩ := Int.eq_ofNat_of_zero_le hk
  rw [Yh]
  show List.take (clipAt l.length ((n : Int) + 1) - clipAt l.length (n : Int)) (List.drop (clipAt l.length (n : Int)) l) = List.take 1 (List.drop n l)
  rw [show ((n : Int) + 1) = ((n + 1 : Nat) : Int) from rfl, clipAt_nat, clipAt_nat]
  by_cases h : n < l.length
  · rw [Nat.min_eq_left (Nat.le_of_lt h), Nat.min_eq_left (show n + 1 ≤ l.length from h), Nat.add_sub_cancel_left]
  · have h := Nat.le_of_not_lt h
    rw [Nat.min_eq_right h, Nat.min_eq_right (Nat.le_succ_of_le h), List.drop_eq_nil_of_le (Nat.le_refl _), List.drop_eq_nil_of_le h, List.take_nil, List.take_nil]
theorem Py {α : Type} (l : List α) {b : Int} (hb : 0 ≤ b) (hb' : b ≤ l.length) : pick l none (some b) none = l.take b.toNat := by
  obtain ⟨n, rfl⟩ := Int.eq_ofNat_of_zero_le hb
  rw [Yh]
  show List.take (clipAt l.length (n : Int) - 0) (List.drop 0 l) = List.take n l
  rw [clipAt_nat, Nat.min_eq_left (Int.ofNat_le.mp hb')]; rfl
theorem Jl {α : Type} (l : List α) {b : Int} (hb : 0 ≤ b) (hb' : b ≤ l.length) : pick l (some b) none none = l.drop b.toNat := by
  obtain ⟨n, rfl⟩ := Int.eq_ofNat_of_zero_le hb
  rw [Yh]
  show List.take (l.length - clipAt l.length (n : Int)) (List.drop (clipAt l.length (n : Int)) l) = List.drop n l
  rw [clipAt_nat, Nat.min_eq_left (Int.ofNat_le.mp hb')]
  exact List.take_of_length_le (by rw [List.length_drop]; exact Nat.le_refl _)
theorem pick_rev {α : Type} (l : List α) : pick l none none (some (-1)) = l.reverse := by
  unfold pick pickN
  rw [PySem.W.krv_bounds]
  simp only
  rw [PySem.W.krv_sliceRange, PySem.W.krv_range]
  rw [List.filterMap_reverse]
  congr 1
  exact List.filterMap_getElem?_range_length l
section
variable {G : String → Option MV} {Φ : CallSpec} {X : MX} {fz : List Addr} {vars : MVars} {Q : MQ} {μ : MH}
theorem X9 {i : Nat} : ev G Φ X (.var i) fz vars Q μ = (∃ v, vars i = some v ∧ Q v μ) := rfl
theorem Qt {g : String} : ev G Φ X (.glob g) fz vars Q μ = (∃ v, G g = some v ∧ Q v μ) := rfl
theorem Qw {i : Int} : ev G Φ X (.cint i) fz vars Q μ = (Q (.int i) μ) := rfl
theorem Qu {s : String} : ev G Φ X (.cstr s) fz vars Q μ = (Q (.str (Str.ofString s)) μ) := rfl
theorem Qg {b : Bool} : ev G Φ X (.cbool b) fz vars Q μ = (Q (.bool b) μ) := rfl
theorem Qf : ev G Φ X (.cnone) fz vars Q μ = (Q .none μ) := rfl
theorem Xf {op : BOp} {a b : ME} : ev G Φ X (.bin op a b) fz vars Q μ = (ev G Φ X a fz vars (fun x μ' => ev G Φ X b fz vars (fun y μ'' => binM fz op x y Q μ'') μ') μ) := rfl
theorem Xa {a : ME} : ev G Φ X (.neg a) fz vars Q μ = (ev G Φ X a fz vars (fun x μ' => ∃ i, x = .int i ∧ Q (.int (-i)) μ') μ) := rfl
theorem X2 {a : ME} : ev G Φ X (.not a) fz vars Q μ = (ev G Φ X a fz vars (fun x μ' => ∃ b, truthy μ' x = some b ∧ Q (.bool (!b)) μ') μ) := rfl
theorem X3 {l : List ME} : ev G Φ X (.and l) fz vars Q μ = (evAnd G Φ X l fz vars Q μ) := rfl
theorem Xs {l : List ME} : ev G Φ X (.or l) fz vars Q μ = (evOr G Φ X l fz vars Q μ) := rfl
theorem X1 {a : ME} {ops : List COp} {es : List ME} : ev G Φ X (.cmp a ops es) fz vars Q μ = (ev G Φ X a fz vars (fun x μ' => evCmp G Φ X es ops x fz vars Q μ') μ) := rfl
theorem Xd {c a b : ME} : ev G Φ X (.ite c a b) fz vars Q μ = (ev G Φ X c fz vars (fun x μ' => ∃ t, truthy μ' x = some t ∧ if t then ev G Φ X a fz vars Q μ' else ev G Φ X b fz vars Q μ') μ) := rfl
theorem Xe {a i : ME} : ev G Φ X (.idx a i) fz vars Q μ = (ev G Φ X a fz vars (fun x μ' => ev G Φ X i fz vars (fun y μ'' => ∃ v, idxM μ'' x y = some v ∧ Q v μ'') μ') μ) := rfl
theorem Qd {a lo hi st : ME} : ev G Φ X (.slice a lo hi st) fz vars Q μ = (ev G Φ X a fz vars (fun x μ' => ev G Φ X lo fz vars (fun l μ₁ => ev G Φ X hi fz vars (fun h μ₂ => ev G Φ X st fz vars (fun s μ₃ => sliceM fz x l h s Q μ₃) μ₂) μ₁) μ') μ) := rfl
theorem Qs {l : List ME} : ev G Φ X (.list l) fz vars Q μ = (evs G Φ X l fz vars (fun vs μ' => fits vs.length ∧ allocM fz μ' (.list vs) fun c μ'' => Q (.ref c) μ'') μ) := rfl
theorem Qc {l : List ME} : ev G Φ X (.tuple l) fz vars Q μ = (evs G Φ X l fz vars (fun vs μ' => fits vs.length ∧ Q (.tup vs) μ') μ) := rfl
theorem Qe {s : Bool} : ev G Φ X (.dict0 s) fz vars Q μ = (allocM fz μ (if s then .sdict [] else .idict []) fun c μ' => Q (.ref c) μ') := rfl
theorem Qx {f : String} {args : List ME} : ev G Φ X (.call f args) fz vars Q μ = (evs G Φ X args fz vars (fun vs μ' => Φ f vs fz Q X μ') μ) := rfl
theorem Xw {f : BI} {args : List ME} : ev G Φ X (.bi f args) fz vars Q μ = (evs G Φ X args fz vars (fun vs μ' => biM fz f vs Q μ') μ) := rfl
theorem Q4 {e : ME} {t : TY} : ev G Φ X (.isinst e t) fz vars Q μ = (ev G Φ X e fz vars (fun v μ' => ∃ b, isTy μ' t v = some b ∧ Q (.bool b) μ') μ) := rfl
theorem Qr {m : MM} {o : ME} {args : List ME} : ev G Φ X (.meth m o args) fz vars Q μ = (ev G Φ X o fz vars (fun x μ' => mmKind m μ' x = true ∧ evs G Φ X args fz vars (fun vs μ'' => methM fz m x vs Q μ'') μ') μ) := rfl
theorem Qv {elt : ME} {t : MT} {k : SK} {its ifs : List ME} : ev G Φ X (.comp elt t k its ifs) fz vars Q μ = (evs G Φ X its fz vars (fun vs μ' => ∃ src all, mkSrc k vs = some src ∧ src.items μ' = some all ∧ fits all.length ∧ compM fz t vars (fun vs F μ => evIfs G Φ X ifs (src.held ++ fz) vs F μ) (fun vs F μ => ev G Φ X elt (src.held ++ fz) vs F μ) Q all [] μ') μ) := rfl
theorem Qq {P : List MV → MH → Prop} : evs G Φ X [] fz vars P μ = (P [] μ) := rfl
theorem Qb {e : ME} {r : List ME} {P : List MV → MH → Prop} : evs G Φ X (e :: r) fz vars P μ = (ev G Φ X e fz vars (fun v μ' => evs G Φ X r fz vars (fun vs μ'' => P (v :: vs) μ'') μ') μ) := rfl
theorem Qa {e : ME} : evAnd G Φ X [e] fz vars Q μ = (ev G Φ X e fz vars (fun v μ' => Q v μ') μ) := rfl
theorem Q1 {e e' : ME} {r : List ME} : evAnd G Φ X (e :: e' :: r) fz vars Q μ = (ev G Φ X e fz vars (fun v μ' => ∃ b, truthy μ' v = some b ∧ if b then evAnd G Φ X (e' :: r) fz vars Q μ' else Q v μ') μ) := rfl
theorem Qh {e : ME} : evOr G Φ X [e] fz vars Q μ = (ev G Φ X e fz vars (fun v μ' => Q v μ') μ) := rfl
theorem Q5 {e e' : ME} {r : List ME} : evOr G Φ X (e :: e' :: r) fz vars Q μ = (ev G Φ X e fz vars (fun v μ' => ∃ b, truthy μ' v = some b ∧ if b then Q v μ' else evOr G Φ X (e' :: r) fz vars Q μ') μ) := rfl
theorem Q3 {e : ME} {op : COp} {x : MV} : evCmp G Φ X [e] [op] x fz vars Q μ = (ev G Φ X e fz vars (fun y μ' => ∃ b, cmpM op μ' x y = some b ∧ Q (.bool b) μ') μ) := rfl
theorem Q0 {e e' : ME} {r : List ME} {op op' : COp} {ops : List COp} {x : MV} : evCmp G Φ X (e :: e' :: r) (op :: op' :: ops) x fz vars Q μ = (ev G Φ X e fz vars (fun y μ' => ∃ b, cmpM op μ' x y = some b ∧ if b then evCmp G Φ X (e' :: r) (op' :: ops) y fz vars Q μ' else Q (.bool false) μ') μ) := rfl
theorem Q9 {F : Bool → MH → Prop} : evIfs G Φ X [] fz vars F μ = (F true μ) := rfl
theorem Q8 {e : ME} {F : Bool → MH → Prop} : evIfs G Φ X [e] fz vars F μ = (ev G Φ X e fz vars (fun v μ' => ∃ b, truthy μ' v = some b ∧ F b μ') μ) := rfl
theorem Q7 {i : Nat} {e : ME} {R : MFlow → MVars → MH → Prop} : ex G Φ X (.assign i e) fz vars R μ = (ev G Φ X e fz vars (fun v μ' => R .next (setv vars i v) μ') μ) := rfl
theorem Q6 {o i e : ME} {R : MFlow → MVars → MH → Prop} : ex G Φ X (.setidx o i e) fz vars R μ = (ev G Φ X e fz vars (fun v μ₁ => ev G Φ X o fz vars (fun x μ₂ => ev G Φ X i fz vars (fun y μ₃ => setM fz x y v (fun μ₄ => R .next vars μ₄) μ₃) μ₂) μ₁) μ) := rfl
theorem Qp {e : ME} {R : MFlow → MVars → MH → Prop} : ex G Φ X (.expr e) fz vars R μ = (ev G Φ X e fz vars (fun _ μ' => R .next vars μ') μ) := rfl
theorem X4 {e : ME} {R : MFlow → MVars → MH → Prop} : ex G Φ X (.ret e) fz vars R μ = (ev G Φ X e fz vars (fun v μ' => R (.ret v) vars μ') μ) := rfl
theorem Qn {R : MFlow → MVars → MH → Prop} : ex G Φ X (.ret0) fz vars R μ = (R (.ret .none) vars μ) := rfl
theorem X5 {c : ME} {a b : List MS} {R : MFlow → MVars → MH → Prop} : ex G Φ X (.ite c a b) fz vars R μ = (ev G Φ X c fz vars (fun v μ' => ∃ t, truthy μ' v = some t ∧ if t then exs G Φ X a fz vars R μ' else exs G Φ X b fz vars R μ') μ) := rfl
theorem X6 {t : MT} {k : SK} {its : List ME} {body : List MS} {R : MFlow → MVars → MH → Prop} : ex G Φ X (.for t k its body) fz vars R μ = (evs G Φ X its fz vars (fun vs μ' => ∃ src all, mkSrc k vs = some src ∧ src.items μ' = some all ∧ fits all.length ∧ loopM t (fun vs F μ => exs G Φ X body (src.held ++ fz) vs F μ) R all vars μ') μ) := rfl
theorem Qo {R : MFlow → MVars → MH → Prop} : ex G Φ X (.pass) fz vars R μ = (R .next vars μ) := rfl
end
section
variable {fz : List Addr} {Q : MQ} {μ : MH}
theorem Xh {x y : Int} : binM fz .add (.int x) (.int y) Q μ = Q (.int (x + y)) μ := rfl
theorem Xg {x y : Int} : binM fz .sub (.int x) (.int y) Q μ = Q (.int (x - y)) μ := rfl
theorem b_mul {x y : Int} : binM fz .mul (.int x) (.int y) Q μ = ((small x ∨ small y) ∧ Q (.int (x * y)) μ) := rfl
theorem b_fdiv {x y : Int} : binM fz .fdiv (.int x) (.int y) Q μ = ((y ≠ 0 ∧ small y) ∧ Q (.int (x.fdiv y)) μ) := rfl
theorem b_mod {x y : Int} : binM fz .mod (.int x) (.int y) Q μ = (y ≠ 0 ∧ Q (.int (x.fmod y)) μ) := rfl
theorem Xo {x y : Int} (h : -1000000000000 ≤ y ∧ y ≤ 1000000000000) : binM fz .mul (.int x) (.int y) Q μ = Q (.int (x * y)) μ := by
  rw [b_mul]; simp only [eq_iff_iff, and_iff_right_iff_imp]; exact fun _ => .inr ⟨by lia, by exact Int.lt_of_le_of_lt (And.right (by assumption)) (by decide)⟩
theorem Xv {x y : Int} (h : -1000000000000 ≤ x ∧ x ≤ 1000000000000) : binM fz .mul (.int x) (.int y) Q μ = Q (.int (x * y)) μ := by
  rw [b_mul]; simp only [eq_iff_iff, and_iff_right_iff_imp]; exact fun _ => .inl ⟨by lia, by exact Int.lt_of_le_of_lt (And.right (by assumption)) (by decide)⟩
theorem Xj {x y : Int} (h : 0 < y ∧ y ≤ 1000000000000) : binM fz .fdiv (.int x) (.int y) Q μ = Q (.int (x.fdiv y)) μ := by
  rw [b_fdiv]; simp only [eq_iff_iff, and_iff_right_iff_imp]; exact fun _ => ⟨by lia, by lia, by exact Int.lt_of_le_of_lt (And.right (by assumption)) (by decide)⟩
theorem Xl {x y : Int} (h : 0 < y) : binM fz .mod (.int x) (.int y) Q μ = Q (.int (x.fmod y)) μ := by
  rw [b_mod]; simp only [eq_iff_iff, and_iff_right_iff_imp]; exact fun _ => by lia
theorem Y5 {n : Nat} (h : n ≤ 100000) : fits n = True := by simp only [eq_iff_iff, iff_true]; unfold fits; exact Nat.le_trans (by assumption) (by decide)
theorem b_adds {x y : Str} : binM fz .add (.str x) (.str y) Q μ = (fits (x.length + y.length) ∧ Q (.str (x ++ y)) μ) := rfl
theorem R0 {a b : Addr} {x y : List MV} (h1 : μ a = some (.list x)) (h2 : μ b = some (.list y)) (hf : fits (x.length + y.length)) (h : ∀ c, μ c = none → c ∉ fz → Q (.ref c) (upd μ c (.list (x ++ y)))) : binM fz .add (.ref a) (.ref b) Q μ :=
  ⟨x, y, Zw h1, Zw h2, hf, h⟩
theorem Xm {x y : Int} : cmpM .lt μ (.int x) (.int y) = some (decide (x < y)) := rfl
theorem Xq {x y : Int} : cmpM .le μ (.int x) (.int y) = some (decide (x ≤ y)) := rfl
theorem Xr {x y : Int} : cmpM .gt μ (.int x) (.int y) = some (decide (x > y)) := rfl
theorem Xu {x y : Int} : cmpM .ge μ (.int x) (.int y) = some (decide (x ≥ y)) := rfl
theorem Y1 {x y : Int} : cmpM .eq μ (.int x) (.int y) = some (x == y) := by simp [cmpM, eqM, eqD, deep, PyData.eqv]
theorem Y4 {x y : Int} : cmpM .ne μ (.int x) (.int y) = some (!(x == y)) := by simp [cmpM, eqM, eqD, deep, PyData.eqv]
theorem Zb {x y : Str} (hx : PyData.strOk x = true) (hy : PyData.strOk y = true) : cmpM .eq μ (.str x) (.str y) = some (x == y) := by simp [cmpM, eqM, eqD, deep, PyData.eqv, hx, hy]
theorem Qm {b : Bool} : truthy μ (.bool b) = some b := rfl
theorem X7 {i : Int} : truthy μ (.int i) = some (decide (i ≠ 0)) := rfl
theorem X8 {vars : MVars} {i : Nat} {v : MV} : setv vars i v i = some v := by simp [setv]
theorem Qk {vars : MVars} {i j : Nat} {v : MV} (h : j ≠ i) : setv vars i v j = vars j := by simp [setv, h]
theorem Qi {x y : Int} : biM fz .min2 [.int x, .int y] Q μ = Q (.int (min x y)) μ := rfl
theorem Qj {x y : Int} : biM fz .max2 [.int x, .int y] Q μ = Q (.int (max x y)) μ := rfl
theorem Qy {b : Bool} : biM fz .int [.bool b] Q μ = Q (.int (if b then 1 else 0)) μ := rfl
theorem Q2 {i : Nat} {v : MV} {vars : MVars} : bindT (.one i) v vars = some (setv vars i v) := rfl
theorem Zx {p : Addr} {k : Int} {l : List MV} (h : μ p = some (.list l)) (hl : l.length ≤ 2 ^ 20) : idxM μ (.ref p) (.int k) = atI l k := by simp [idxM, idxO, intO, h, hl]
theorem i_dict {p : Addr} {k : Int} {l : List (Int × MV)} (h : μ p = some (.idict l)) : idxM μ (.ref p) (.int k) = lookI l k := by simp [idxM, idxO, intO, h]
theorem i_tup {k : Int} {l : List MV} (hl : l.length ≤ 2 ^ 20) : idxM μ (.tup l) (.int k) = atI l k := by simp [idxM, intO, hl]
theorem i_str {k : Int} {x : Str} (hl : x.length ≤ 2 ^ 20) : idxM μ (.str x) (.int k) = (atI x.cps.toList k).map fun c => .str ⟨#[c]⟩ := by simp [idxM, intO, hl]
theorem Vq {p : Addr} {l : List MV} {lo hi st : MV} {a b s : Option Int} (h1 : partI lo = some a) (h2 : partI hi = some b) (h3 : partI st = some s) (h4 : s ≠ some 0) (h : μ p = some (.list l)) (hf : fits l.length) (hq : ∀ c, μ c = none → c ∉ fz → Q (.ref c) (upd μ c (.list (pick l a b s)))) : sliceM fz (.ref p) lo hi st Q μ :=
  ⟨a, b, s, h1, h2, h3, h4, l, Zw h, hf, hq⟩
theorem Je {x : Str} {lo hi st : MV} {a b s : Option Int} (h1 : partI lo = some a) (h2 : partI hi = some b) (h3 : partI st = some s) (h4 : s ≠ some 0) (hf : fits x.length) (hq : Q (.str ⟨(pick x.cps.toList a b s).toArray⟩) μ) : sliceM fz (.str x) lo hi st Q μ :=
  ⟨a, b, s, h1, h2, h3, h4, hf, hq⟩
theorem Oi {a : Addr} {l : List MV} {k : Int} {v : MV} {Q : MH → Prop} (h : μ a = some (.list l)) (hf : a ∉ fz) (hl : fits l.length) (h0 : 0 ≤ k) (h1 : k < l.length) (hq : Q (upd μ a (.list (l.set k.toNat v)))) : setM fz (.ref a) (.int k) v Q μ := by
  refine ⟨hf, ?_⟩
  rw [h]
  exact ⟨hl, _, by unfold setAt; rw [if_pos h0, if_pos (by first|exact dn hd rfl|exact dl hd rfl|simp [*])], hq⟩
theorem Bq {a : Addr} {l : List (Int × MV)} {k : Int} {v : MV} {Q : MH → Prop} (h : μ a = some (.idict l)) (hf : a ∉ fz) (hl : fits l.length) (hq : Q (upd μ a (.idict (putI l k v)))) : setM fz (.ref a) (.int k) v Q μ := by
  refine ⟨hf, ?_⟩
  rw [h]
  exact ⟨hl, hq⟩
theorem Yg {p : Addr} {l : List MV} (h : μ p = some (.list l)) (hf : fits l.length) (hq : Q (.int l.length) μ) : biM fz .len [.ref p] Q μ := by
  show lenO (μ p) fun n => Q (.int n) μ
  rw [h]; exact ⟨hf, hq⟩
theorem bi_len_str {x : Str} : biM fz .len [.str x] Q μ = (fits x.length ∧ Q (.int x.length) μ) := rfl
end
theorem Be {μ : MH} {a : Addr} {l : List MV} (h : μ a = some (.list l)) : isListO (μ a) = true := by rw [h]; rfl
theorem mk_idict {μ : MH} {a : Addr} {l : List (Int × MV)} (h : μ a = some (.idict l)) : isDictO (μ a) = true := by rw [h]; rfl
theorem bi_dict_d {μ : MH} {fz : List Addr} {Q : MQ} {a : Addr} {l : List (Int × MV)} (h : μ a = some (.idict l)) (hq : fits l.length ∧ ∀ c, μ c = none → c ∉ fz → Q (.ref c) (upd μ c (.idict l))) : biM fz .dict [.ref a] Q μ := by
  show dictO fz (μ a) Q μ
  rw [h]; exact hq
theorem bi_dict_l {μ : MH} {fz : List Addr} {Q : MQ} {a : Addr} {l : List MV} (h : μ a = some (.list l)) (hq : ∃ ps, pairsI l = some ps ∧ fits l.length ∧ ∀ c, μ c = none → c ∉ fz → Q (.ref c) (upd μ c (.idict (ps.foldl (fun d kv => putI d kv.1 kv.2) [])))) : biM fz .dict [.ref a] Q μ := by
  show dictO fz (μ a) Q μ
  rw [h]; exact hq
theorem in_list {μ : MH} {u : Addr} {l : List MV} {a : MV} {xs : List PyData} {d : PyData} (h : μ u = some (.list l)) (h1 : deep μ 9 (.ref u) = some (.list xs)) (h2 : deep μ 9 a = some d) : inM μ a (.ref u) = some (xs.any fun y => PyData.eqv y d) := by
  show inO μ u a (μ u) = _
  rw [h]
  show anyL (deep μ 9 (.ref u)) (deep μ 9 a) = _
  rw [h1, h2]; rfl
theorem sm {i : Int} (h1 : -1000000000000 ≤ i) (h2 : i ≤ 1000000000000) : small i := ⟨by lia, by exact Int.lt_of_le_of_lt (by assumption) (by decide)⟩
theorem fit {n : Nat} (h : n ≤ 100000) : fits n := by unfold fits; exact Nat.le_trans (by assumption) (by decide)
theorem dn {k d m : Nat} (h : m ≤ d) (e : Nat.ble (k + 1) m = true) : k ≤ d - 1 := Nat.le_sub_of_add_le (Nat.le_trans (Nat.le_of_ble_eq_true e) h)
theorem dl {k d m : Nat} (h : m ≤ d) (e : Nat.ble k m = true) : k ≤ d := Nat.le_trans (Nat.le_of_ble_eq_true e) h
theorem nei {j i m : Nat} (h : m ≤ i) (e : Nat.ble (j + 1) m = true) : j ≠ i := Nat.ne_of_lt (Nat.le_trans (Nat.le_of_ble_eq_true e) h)
theorem Y2 {μ : MH} {a c : Addr} {o : MO} (h : μ a = some o) (hc : μ c = none) : a ≠ c := fun q => by rw [q, hc] at h; cases h
variable {G : String → Option MV} {Γ : String → Option MFun}
theorem all_of {P : Int → Bool} {l : List Int} {x : Int} (h : x ∈ l) (a : l.all P = true) : P x = true := List.all_eq_true.mp a x h
noncomputable def kr (G : String → Option MV) (Φ : CallSpec) (X : MX) (r : List MS) (fz : List Addr) (R : MFlow → MVars → MH → Prop) : MFlow → MVars → MH → Prop := fun fl vars' μ' => match fl with | .next => exs G Φ X r fz vars' R μ' | fl => R fl vars' μ'
noncomputable def kl (L : MVars → MH → Prop) (R : MFlow → MVars → MH → Prop) : MFlow → MVars → MH → Prop := fun fl vars' μ' => match fl with | .next | .cont => L vars' μ' | .brk => R .next vars' μ' | .ret v => R (.ret v) vars' μ'
noncomputable def kz (Q : MQ) : MFlow → MVars → MH → Prop := fun fl _ μ' => match fl with | .ret v => Q v μ' | .next => Q .none μ' | _ => False
theorem kr0 {Φ : CallSpec} {X : MX} {r : List MS} {fz : List Addr} {vars : MVars} {R : MFlow → MVars → MH → Prop} {μ : MH} : kr G Φ X r fz R .next vars μ = exs G Φ X r fz vars R μ := rfl
theorem kr1 {Φ : CallSpec} {X : MX} {r : List MS} {fz : List Addr} {vars : MVars} {R : MFlow → MVars → MH → Prop} {μ : MH} {v : MV} : kr G Φ X r fz R (.ret v) vars μ = R (.ret v) vars μ := rfl
theorem kl0 {L : MVars → MH → Prop} {R : MFlow → MVars → MH → Prop} {vars : MVars} {μ : MH} : kl L R .next vars μ = L vars μ := rfl
theorem kl1 {L : MVars → MH → Prop} {R : MFlow → MVars → MH → Prop} {vars : MVars} {μ : MH} {v : MV} : kl L R (.ret v) vars μ = R (.ret v) vars μ := rfl
theorem kz0 {Q : MQ} {vars : MVars} {μ : MH} {v : MV} : kz Q (.ret v) vars μ = Q v μ := rfl
theorem Hj {t : MT} {B : MVars → (MFlow → MVars → MH → Prop) → MH → Prop} {R : MFlow → MVars → MH → Prop} {vars : MVars} {μ : MH} : loopM t B R [] vars μ = R .next vars μ := rfl
theorem Zn {t : MT} {B : MVars → (MFlow → MVars → MH → Prop) → MH → Prop} {R : MFlow → MVars → MH → Prop} {v : MV} {l : List MV} {vars : MVars} {μ : MH} : loopM t B R (v :: l) vars μ = ∃ vars', bindT t v vars = some vars' ∧ B vars' (kl (loopM t B R l) R) μ := rfl
theorem seq {Φ : CallSpec} {X : MX} {st : MS} {r : List MS} {fz : List Addr} {vars : MVars} {R : MFlow → MVars → MH → Prop} {μ : MH} (h : ex G Φ X st fz vars (kr G Φ X r fz R) μ) : exs G Φ X (st :: r) fz vars R μ := h
theorem Yw {Φ : CallSpec} {X : MX} {fz : List Addr} {vars : MVars} {R : MFlow → MVars → MH → Prop} {μ : MH} (h : R .next vars μ) : exs G Φ X [] fz vars R μ := by
  exact h
theorem gen {Φ : CallSpec} {X : MX} {r : List MS} {fz : List Addr} {vars : MVars} {R : MFlow → MVars → MH → Prop} {μ μ₁ : MH} (x : Ext μ μ₁) (h : ∀ μ', Ext μ μ' → exs G Φ X r fz vars R μ') : exs G Φ X r fz vars R μ₁ := h μ₁ x
theorem Y3 {d : Nat} {f : String} {vs : List MV} {fz : List Addr} {Q : MQ} {X : MX} {μ : MH} {fd : MFun} (h : Γ f = some fd) (hn : vs.length = fd.n) (hd : 0 < d)
    (hx : exs G (calls G Γ (d - 1)) X fd.body fz (args0 vs) (kz Q) μ) : calls G Γ d f vs fz Q X μ := by
  cases d with
  | zero => lia
  | succ d => exact ⟨fd, h, hn, hx⟩
noncomputable def evB (G : String → Option MV) (Φ : CallSpec) (e : ME) (fz : List Addr) (vars : MVars) (F : Bool → MH → Prop) (μ : MH) : Prop := ev G Φ X0 e fz vars (fun v μ' => ∃ t, truthy μ' v = some t ∧ F t μ') μ
section
variable {Φ : CallSpec} {fz : List Addr} {vars : MVars} {F : Bool → MH → Prop} {μ : MH}
theorem Y6 {c : ME} {a b : List MS} {R : MFlow → MVars → MH → Prop} (h : evB G Φ c fz vars (fun t μ' => if t then exs G Φ X0 a fz vars R μ' else exs G Φ X0 b fz vars R μ') μ) : ex G Φ X0 (.ite c a b) fz vars R μ := by
  exact h
theorem evB_and1 {e : ME} (h : evB G Φ e fz vars F μ) : evB G Φ (.and [e]) fz vars F μ := by
  exact h
theorem evB_and {e e' : ME} {r : List ME} (h : evB G Φ e fz vars (fun t μ' => if t then evB G Φ (.and (e' :: r)) fz vars F μ' else F false μ') μ) : evB G Φ (.and (e :: e' :: r)) fz vars F μ := by
  unfold evB at h ⊢
  rw [X3, Q1]
  have q : (fun (v : MV) (μ' : MH) => ∃ t, truthy μ' v = some t ∧ if t = true then evAnd G Φ X0 (e' :: r) fz vars (fun v μ' => ∃ t, truthy μ' v = some t ∧ F t μ') μ' else F false μ') =
      (fun v μ' => ∃ b, truthy μ' v = some b ∧ if b = true then evAnd G Φ X0 (e' :: r) fz vars (fun v μ' => ∃ t, truthy μ' v = some t ∧ F t μ') μ' else ∃ t, truthy μ' v = some t ∧ F t μ') := by
    funext v μ'
    apply propext
    constructor
    · rintro ⟨b, hb, hh⟩
      refine ⟨b, hb, ?_⟩
      cases b
      · rw [if_neg (by simp)] at hh ⊢; exact ⟨_, hb, hh⟩
      · rw [if_pos rfl] at hh ⊢; exact hh
    · rintro ⟨b, hb, hh⟩
      refine ⟨b, hb, ?_⟩
      cases b
      · rw [if_neg (by simp)] at hh ⊢; obtain ⟨b', hb', hh⟩ := hh; rw [hb] at hb'; cases hb'; exact hh
      · rw [if_pos rfl] at hh ⊢; exact hh
  exact Eq.mp (congrArg (fun z => ev G Φ X0 e fz vars z μ) q) h
theorem Ze {e : ME} (h : evB G Φ e fz vars F μ) : evB G Φ (.or [e]) fz vars F μ := by
  exact h
theorem Yp {e e' : ME} {r : List ME} (h : evB G Φ e fz vars (fun t μ' => if t then F true μ' else evB G Φ (.or (e' :: r)) fz vars F μ') μ) : evB G Φ (.or (e :: e' :: r)) fz vars F μ := by
  unfold evB at h ⊢
  rw [Xs, Q5]
  have q : (fun (v : MV) (μ' : MH) => ∃ t, truthy μ' v = some t ∧ if t = true then F true μ' else evOr G Φ X0 (e' :: r) fz vars (fun v μ' => ∃ t, truthy μ' v = some t ∧ F t μ') μ') =
      (fun v μ' => ∃ b, truthy μ' v = some b ∧ if b = true then (∃ t, truthy μ' v = some t ∧ F t μ') else evOr G Φ X0 (e' :: r) fz vars (fun v μ' => ∃ t, truthy μ' v = some t ∧ F t μ') μ') := by
    funext v μ'
    apply propext
    constructor
    · rintro ⟨b, hb, hh⟩
      refine ⟨b, hb, ?_⟩
      cases b
      · rw [if_neg (by simp)] at hh ⊢; exact hh
      · rw [if_pos rfl] at hh ⊢; exact ⟨_, hb, hh⟩
    · rintro ⟨b, hb, hh⟩
      refine ⟨b, hb, ?_⟩
      cases b
      · rw [if_neg (by simp)] at hh ⊢; exact hh
      · rw [if_pos rfl] at hh ⊢; obtain ⟨b', hb', hh⟩ := hh; rw [hb] at hb'; cases hb'; exact hh
  exact Eq.mp (congrArg (fun z => ev G Φ X0 e fz vars z μ) q) h
theorem Yn {e : ME} (h : evB G Φ e fz vars (fun t μ' => F (!t) μ') μ) : evB G Φ (.not e) fz vars F μ := by
  unfold evB at h ⊢
  rw [X2]
  have q : (fun (x : MV) (μ' : MH) => ∃ b, truthy μ' x = some b ∧ ∃ t, truthy μ' (MV.bool !b) = some t ∧ F t μ') = (fun x μ' => ∃ b, truthy μ' x = some b ∧ F (!b) μ') := by
    funext v μ'
    simp [truthy]
  rw [q]; exact h
theorem Xi {a b : ME} {op : COp} (h : ev G Φ X0 a fz vars (fun x μ₁ => ev G Φ X0 b fz vars (fun y μ₂ => ∃ t, cmpM op μ₂ x y = some t ∧ F t μ₂) μ₁) μ) : evB G Φ (.cmp a [op] [b]) fz vars F μ := by
  unfold evB
  rw [X1]
  simp only [Q3, Q0, Qm, Option.some.injEq, exists_eq_left']
  exact h
theorem U0 {e : ME} {ty : TY} (h : ev G Φ X0 e fz vars (fun v μ' => ∃ b, isTy μ' ty v = some b ∧ F b μ') μ) : evB G Φ (.isinst e ty) fz vars F μ := by
  unfold evB
  rw [Q4]
  simp only [Qm, Option.some.injEq, exists_eq_left']
  exact h
theorem Zr {f : String} {args : List ME} (h : evs G Φ X0 args fz vars (fun vs μ' => Φ f vs fz (fun v μ'' => ∃ t, truthy μ'' v = some t ∧ F t μ'') X0 μ') μ) : evB G Φ (.call f args) fz vars F μ := by
  exact h
theorem Pq {elt it : ME} {t : MT} {k : SK} {ifs : List ME} {X : MX} {Q : MQ} (h : ev G Φ X it fz vars (fun v μ' => ∃ src all, mkSrc k [v] = some src ∧ src.items μ' = some all ∧ fits all.length ∧
      compM fz t vars (fun vs F μ => evIfs G Φ X ifs (src.held ++ fz) vs F μ) (fun vs F μ => ev G Φ X elt (src.held ++ fz) vs F μ) Q all [] μ') μ) : ev G Φ X (.comp elt t k [it] ifs) fz vars Q μ := by
  exact h
theorem Ql {i : Nat} {v : MV} {X : MX} {Q : MQ} (hv : vars i = some v) (h : Q v μ) : ev G Φ X (.var i) fz vars Q μ := ⟨v, hv, h⟩
theorem N2 {e : ME} {X : MX} {Q : List MV → MH → Prop} (h : ev G Φ X e fz vars (fun v μ' => Q [v] μ') μ) : evs G Φ X [e] fz vars Q μ := by
  exact h
theorem evB_cmp2 {a b c : ME} {op op' : COp} (h : ev G Φ X0 a fz vars (fun x μ₁ => ev G Φ X0 b fz vars (fun y μ₂ => ∃ t, cmpM op μ₂ x y = some t ∧ if t then ev G Φ X0 c fz vars (fun z μ₃ => ∃ t, cmpM op' μ₃ y z = some t ∧ F t μ₃) μ₂ else F false μ₂) μ₁) μ) : evB G Φ (.cmp a [op, op'] [b, c]) fz vars F μ := by
  unfold evB
  rw [X1]
  simp only [Q3, Q0, Qm, Option.some.injEq, exists_eq_left']
  exact h
end
end Mine
end
section
namespace Mine
open PySem
noncomputable def O7 : MS := .ret (.idx (.bin .add (.slice (.var 0) (.var 1) (.bin .add (.var 1) (.cint 1)) .cnone) (.list [(.cint 0)])) (.cint 0))
noncomputable def Kw : MFun := ⟨2, [O7]⟩
noncomputable def Ka : MS := .assign 2 (.cstr "abcdefghijklmnopqrstuvwxy")
noncomputable def K9 : MS := .assign 3 (.list [])
noncomputable def Zd : MS := .assign 5 (.bin .add (.bin .fdiv (.var 0) (.cint 2)) (.bin .mul (.bin .mul (.var 4) (.cint 48271)) (.bin .mod (.var 0) (.cint 2))))
noncomputable def Zc : MS := .assign 6 (.meth .join (.cstr "") [(.comp (.idx (.var 2) (.bin .mod (.bin .add (.bin .fdiv (.var 5) (.cint 7)) (.bin .mul (.cint 6) (.var 8))) (.cint 25))) (.one 8) .range [(.bin .mod (.var 5) (.cint 7))] [])])
noncomputable def Yt : MS := .assign 7 (.bin .mod (.bin .fdiv (.var 5) (.cint 175)) (.bin .add (.bi .len [(.var 6)]) (.cint 1)))
noncomputable def Ys : MS := .expr (.meth .append (.var 3) [(.bin .add (.bin .add (.bin .add (.slice (.var 6) .cnone (.var 7) .cnone) (.cstr "z")) (.idx (.var 2) (.var 4))) (.slice (.var 6) (.var 7) .cnone .cnone))])
noncomputable def K8 : MS := .for (.one 4) .range [(.var 1)] [Zd, Zc, Yt, Ys]
noncomputable def Jf : MS := .setidx (.var 3) (.cint 1) (.slice (.idx (.var 3) (.cint 0)) .cnone .cnone (.neg (.cint 1)))
noncomputable def K7 : MS := .ite (.and [(.cmp (.bin .mod (.var 0) (.cint 5)) [.eq] [(.cint 3)]), (.cmp (.slice (.idx (.var 3) (.cint 0)) .cnone .cnone (.neg (.cint 1))) [.notin] [(.var 3)])]) [Jf] []
noncomputable def Yv : MS := .ret (.var 3)
noncomputable def K1 : MFun := ⟨2, [Ka, K9, K8, K7, Yv]⟩
noncomputable def Kg : MS := .assign 2 (.bin .mod (.bin .mul (.var 2) (.cint 48271)) (.cint 2147483647))
noncomputable def Kf : MS := .assign 4 (.bi .min2 [(.cint 1000000), (.bin .add (.var 1) (.bin .mod (.bin .fdiv (.var 2) (.cint 24)) (.idx (.list [(.cint 10), (.cint 900000)]) (.bi .int [(.cmp (.bin .mod (.bin .fdiv (.var 2) (.cint 11520)) (.cint 5)) [.eq] [(.cint 1)])]))))])
noncomputable def Ke : MS := .assign 5 (.bi .min2 [(.cint 1000000), (.bin .add (.var 4) (.idx (.list [(.cint 0), (.cint 1), (.cint 3), (.cint 9), (.cint 35), (.cint 700), (.cint 1000000), (.cint 9)]) (.bin .mod (.bin .fdiv (.var 2) (.cint 240)) (.cint 8))))])
noncomputable def Kd : MS := .assign 6 (.idx (.var 0) (.bin .mod (.bin .fdiv (.var 2) (.cint 8)) (.cint 3)))
noncomputable def Ji : MS := .ret (.tuple [(.cstr "undo"), (.bin .add (.cint 1) (.bin .mod (.bin .fdiv (.var 2) (.cint 8)) (.bin .sub (.var 3) (.cint 1))))])
noncomputable def Kb : MS := .ite (.and [(.cmp (.bin .mod (.var 2) (.cint 8)) [.gt] [(.cint 5)]), (.cmp (.var 3) [.gt] [(.cint 1)])]) [Ji] []
noncomputable def Jh : MS := .ret (.tuple [(.cstr "clear"), (.var 6), (.var 4), (.var 5)])
noncomputable def J9 : MS := .ite (.cmp (.bin .mod (.var 2) (.cint 8)) [.eq] [(.cint 3)]) [Jh] []
noncomputable def Jg : MS := .ret (.tuple [(.cstr "like"), (.var 6), (.var 4), (.var 5), (.idx (.var 0) (.bin .mod (.bin .fdiv (.var 2) (.cint 1920)) (.cint 3)))])
noncomputable def J8 : MS := .ite (.cmp (.bin .mod (.var 2) (.cint 8)) [.isin] [(.tuple [(.cint 4), (.cint 5)])]) [Jg] []
noncomputable def J7 : MS := .ret (.tuple [(.cstr "tell"), (.var 6), (.var 4), (.var 5), (.idx (.list [(.cint 1), (.cint 2), (.cint 1), (.cint 0), (.neg (.cint 1)), (.bin .sub (.bin .mod (.var 2) (.cint 2000000001)) (.cint 1000000000))]) (.bin .mod (.bin .fdiv (.var 2) (.cint 1920)) (.cint 6)))])
noncomputable def Jd : MFun := ⟨4, [Kg, Kf, Ke, Kd, Kb, J9, J8, J7]⟩
noncomputable def Ug : MS := .ret (.idx (.list [(.cint 0), (.cint 7), (.cint 300), (.cint 999982)]) (.bin .mod (.call "_law_of" [(.var 0), (.cint 0)]) (.cint 4)))
noncomputable def Jw : MFun := ⟨1, [Ug]⟩
noncomputable def Uf : MS := .assign 2 (.call "_law_names" [(.call "_law_of" [(.var 0), (.cint 1)]), (.cint 3)])
noncomputable def Ue : MS := .assign 3 (.bin .add (.cint 1) (.bin .mod (.bin .fdiv (.call "_law_of" [(.var 0), (.cint 0)]) (.cint 4)) (.cint 3)))
noncomputable def Ud : MS := .assign 4 (.list [])
noncomputable def Zq : MS := .assign 6 (.bin .add (.cint 1) (.bin .mul (.var 5) (.var 3)))
noncomputable def Zp : MS := .expr (.meth .append (.var 4) [(.tuple [(.var 6), (.call "_law_entry" [(.var 2), (.call "_law_base" [(.var 0)]), (.bin .add (.idx (.var 0) (.bin .add (.cint 4) (.var 5))) (.bin .mul (.cint 7) (.var 5))), (.var 6)])])])
noncomputable def Uc : MS := .for (.one 5) .range [(.bi .min2 [(.var 1), (.bin .sub (.bi .len [(.var 0)]) (.cint 4))])] [Zq, Zp]
noncomputable def Ub : MS := .assign 7 (.bin .mod (.bin .fdiv (.call "_law_of" [(.var 0), (.cint 0)]) (.cint 12)) (.bin .add (.bi .len [(.var 4)]) (.cint 1)))
noncomputable def Ua : MS := .ret (.bi .dict [(.bin .add (.slice (.var 4) (.var 7) .cnone .cnone) (.slice (.var 4) .cnone (.var 7) .cnone))])
noncomputable def Od : MFun := ⟨2, [Uf, Ue, Ud, Uc, Ub, Ua]⟩
noncomputable def Fe : MS := .ret (.and [(.isinst (.var 0) .int), (.not (.isinst (.var 0) .bool))])
noncomputable def f_law_whole : MFun := ⟨1, [Fe]⟩
end Mine
end
section
namespace Mine
open PySem
variable {G : String → Option MV} {Γ : String → Option MFun}
theorem K5 {α : Type} {l : List α} {k : Int} (h : 0 ≤ k) : atI l k = l[k.toNat]? := by simp [atI, h]
noncomputable def at0 (ns : List Int) (k : Int) : Int := ns.getD k.toNat 0
noncomputable def sel (l : List Int) (k : Int) : Int := l.getD k.toNat 0
theorem H4 {l : List Int} {k : Int} (h0 : 0 ≤ k) (h : k < l.length) : atI (l.map MV.int) k = some (.int (sel l k)) := by
  have : k.toNat < l.length := by simp [*]
  rw [K5 h0, List.getElem?_map]
  simp [sel, List.getD_eq_getElem?_getD, this]
theorem Bc {l : List Int} {k : Int} (h0 : 0 ≤ k) (h : k < l.length) : sel l k ∈ l := by
  have : k.toNat < l.length := by simp [*]
  simp [sel, List.getD_eq_getElem?_getD, this]
theorem fm {a b : Int} (h : 0 < b) : 0 ≤ a.fmod b ∧ a.fmod b < b := ⟨Int.fmod_nonneg_of_pos _ h, Int.fmod_lt_of_pos _ h⟩
theorem Yf {d : Nat} {a : Addr} {fz : List Addr} {Q : MQ} {μ : MH} {ns : List Int} {k : Int} (hΓ : Γ "_law_of" = some Kw) (hd : 1 ≤ d) (ha : μ a = some (.list (ns.map .int))) (hn : ns.length ≤ 63) (hk : 0 ≤ k)
    (h : ∀ μ', Ext μ μ' → Q (.int (at0 ns k)) μ') : calls G Γ d "_law_of" [.ref a, .int k] fz Q X0 μ := by
  refine Y3 hΓ rfl hd (seq ?_)
  ((try dsimp only [O7,X9,Qt,Qw,Qu,Qg,Qf,Xf,Xa,X2,X3,Xs,X1,Xd,Xe,Qd,Qs,Qc,Qe,Qx,Xw,Q4,Qr,Qv,Qq,Qb,Qa,Q1,Qh,Q5,Q3,Q0,Q9,Q8,Q7,Q6,Qp,X4,Qn,X5,X6,Qo,args0,Xh,Xg,Xm,Xq,Xr,Xu,Qm,X7,Qi,Qj,Qy,Q2,zgz,zgs,zlc,zln,Nat.reduceAdd,kr0,kr1,kl0,kl1,kz0]); (try simp (discharger := decide) only [O7,X9,Qt,Qw,Qu,Qg,Qf,Xf,Xa,X2,X3,Xs,X1,Xd,Xe,Qd,Qs,Qc,Qe,Qx,Xw,Q4,Qr,Qv,Qq,Qb,Qa,Q1,Qh,Q5,Q3,Q0,Q9,Q8,Q7,Q6,Qp,X4,Qn,X5,X6,Qo,args0,Xh,Xg,Xo,Xv,Xj,Xl,Xm,Xq,Xr,Xu,Y1,Y4,Qm,X7,X8,Qk,Qi,Qj,Qy,Q2,Y5,zoi,zel,zta,zat,zgz,zgs,zlc,zln,Nat.reduceAdd,zza,znt,zcn,MV.int.injEq,kr0,kr1,kl0,kl1,kz0]))
  refine Vq rfl rfl rfl (by simp) ha (by simp [fits]; exact Nat.le_trans (by assumption) (by decide)) fun c hc hcf c₂ hc₂ hcf₂ => ?_
  rw [pick_one _ hk] at hc₂ ⊢
  have ne : c ≠ c₂ := Y2 (o := .list ((List.map MV.int ns).drop k.toNat |>.take 1)) (by simp [Qz]) hc₂
  refine R0 (by rw [Y8 ne, Qz]) Qz (fit (by simp; omega)) fun c₃ hc₃ hcf₃ => ?_
  refine ⟨_, ?_, h _ ((Ext.upd hc).trans ((Ext.upd hc₂).trans (Ext.upd hc₃)))⟩
  rw [Zx Qz (by simp; omega), K5 (by first|exact dn hd rfl|exact dl hd rfl|exact Int.natCast_nonneg _)]
  simp only [Int.toNat_zero]
  by_cases hlt : k.toNat < ns.length
  · rw [List.drop_eq_getElem_cons (by simpa using hlt)]
    simp [at0, List.getD_eq_getElem?_getD, hlt]
  · rw [List.drop_eq_nil_of_le (by simp; lia)]
    simp [at0, List.getD_eq_getElem?_getD, List.getElem?_eq_none (show ns.length ≤ k.toNat by lia)]
noncomputable def baseOf (ns : List Int) : Int := sel [0, 7, 300, 999982] ((at0 ns 0).fmod 4)
theorem F3 {d : Nat} {a : Addr} {fz : List Addr} {Q : MQ} {μ : MH} {ns : List Int} (hΓ₁ : Γ "_law_of" = some Kw) (hΓ : Γ "_law_base" = some Jw) (hd : 2 ≤ d) (ha : μ a = some (.list (ns.map .int))) (hn : ns.length ≤ 63)
    (h : ∀ μ', Ext μ μ' → Q (.int (baseOf ns)) μ') : calls G Γ d "_law_base" [.ref a] fz Q X0 μ := by
  refine Y3 hΓ rfl (by first|exact dn hd rfl|exact dl hd rfl|omega) (seq ?_)
  ((try dsimp only [Ug,X9,Qt,Qw,Qu,Qg,Qf,Xf,Xa,X2,X3,Xs,X1,Xd,Xe,Qd,Qs,Qc,Qe,Qx,Xw,Q4,Qr,Qv,Qq,Qb,Qa,Q1,Qh,Q5,Q3,Q0,Q9,Q8,Q7,Q6,Qp,X4,Qn,X5,X6,Qo,args0,Xh,Xg,Xm,Xq,Xr,Xu,Qm,X7,Qi,Qj,Qy,Q2,zgz,zgs,zlc,zln,Nat.reduceAdd,kr0,kr1,kl0,kl1,kz0]); (try simp (discharger := decide) only [Ug,X9,Qt,Qw,Qu,Qg,Qf,Xf,Xa,X2,X3,Xs,X1,Xd,Xe,Qd,Qs,Qc,Qe,Qx,Xw,Q4,Qr,Qv,Qq,Qb,Qa,Q1,Qh,Q5,Q3,Q0,Q9,Q8,Q7,Q6,Qp,X4,Qn,X5,X6,Qo,args0,Xh,Xg,Xo,Xv,Xj,Xl,Xm,Xq,Xr,Xu,Y1,Y4,Qm,X7,X8,Qk,Qi,Qj,Qy,Q2,Y5,zoi,zel,zta,zat,zgz,zgs,zlc,zln,Nat.reduceAdd,zza,znt,zcn,MV.int.injEq,kr0,kr1,kl0,kl1,kz0]))
  intro c hc hcf
  refine Yf hΓ₁ (by first|exact dn hd rfl|exact dl hd rfl|omega) (by rw [Y8 (Y2 ha hc)]; exact ha) hn (by decide) fun μ' hx => ?_
  have hc' := hx c _ Qz
  ((try dsimp only [X9,Qt,Qw,Qu,Qg,Qf,Xf,Xa,X2,X3,Xs,X1,Xd,Xe,Qd,Qs,Qc,Qe,Qx,Xw,Q4,Qr,Qv,Qq,Qb,Qa,Q1,Qh,Q5,Q3,Q0,Q9,Q8,Q7,Q6,Qp,X4,Qn,X5,X6,Qo,args0,Xh,Xg,Xm,Xq,Xr,Xu,Qm,X7,Qi,Qj,Qy,Q2,zgz,zgs,zlc,zln,Nat.reduceAdd,kr0,kr1,kl0,kl1,kz0]); (try simp (discharger := decide) only [X9,Qt,Qw,Qu,Qg,Qf,Xf,Xa,X2,X3,Xs,X1,Xd,Xe,Qd,Qs,Qc,Qe,Qx,Xw,Q4,Qr,Qv,Qq,Qb,Qa,Q1,Qh,Q5,Q3,Q0,Q9,Q8,Q7,Q6,Qp,X4,Qn,X5,X6,Qo,args0,Xh,Xg,Xo,Xv,Xj,Xl,Xm,Xq,Xr,Xu,Y1,Y4,Qm,X7,X8,Qk,Qi,Qj,Qy,Q2,Y5,zoi,zel,zta,zat,zgz,zgs,zlc,zln,Nat.reduceAdd,zza,znt,zcn,MV.int.injEq,kr0,kr1,kl0,kl1,kz0]))
  refine ⟨_, ?_, h _ ((Ext.upd hc).trans hx)⟩
  rw [Zx hc' (by simp)]
  exact H4 (l := [0, 7, 300, 999982]) (fm (by first|exact dn hd rfl|exact dl hd rfl|exact Int.natCast_nonneg _)).1 (fm (by first|exact dn hd rfl|exact dl hd rfl|exact Int.natCast_nonneg _)).2
end Mine
end
section
namespace Mine
open PySem
variable {G : String → Option MV} {Γ : String → Option MFun}
noncomputable def GoodN (s : Str) : Prop := 2 ≤ s.length ∧ s.length ≤ 8 ∧ ∀ c ∈ s.cps.toList, 97 ≤ c ∧ c ≤ 122
abbrev S (x : String) : Str := Str.ofString x
noncomputable def GoodE (names : List Str) (number : Int) (e : MV) : Prop :=
  (∃ j, e = .tup [.str (S "undo"), .int j] ∧ 1 ≤ j ∧ j < number) ∨
  (∃ nm lo hi, e = .tup [.str (S "clear"), .str nm, .int lo, .int hi] ∧ nm ∈ names ∧ 0 ≤ lo ∧ lo ≤ hi ∧ hi ≤ 1000000) ∨
  (∃ nm lo hi nm', e = .tup [.str (S "like"), .str nm, .int lo, .int hi, .str nm'] ∧ nm ∈ names ∧ nm' ∈ names ∧ 0 ≤ lo ∧ lo ≤ hi ∧ hi ≤ 1000000) ∨
  (∃ nm lo hi v, e = .tup [.str (S "tell"), .str nm, .int lo, .int hi, .int v] ∧ nm ∈ names ∧ 0 ≤ lo ∧ lo ≤ hi ∧ hi ≤ 1000000 ∧ -1000000000 ≤ v ∧ v ≤ 1000000000)
theorem lit {μ : MH} {c : Addr} (l : List Int) {k : Int} (h0 : 0 ≤ k) (h1 : k < l.length) (hl : l.length ≤ 1000) {Q : MV → Prop} (h : Q (.int (sel l k))) : ∃ v, idxM (upd μ c (.list (l.map .int))) (.ref c) (.int k) = some v ∧ Q v :=
  ⟨_, by rw [Zx Qz (by simp; exact Nat.le_trans (by assumption) (by decide))]; exact H4 h0 h1, h⟩
theorem atS {μ : MH} {p : Addr} {names : List Str} {k : Int} (hp : μ p = some (.list (names.map .str))) (hl : names.length ≤ 1000) (h0 : 0 ≤ k) (h1 : k < names.length) {Q : MV → Prop} (h : ∀ nm ∈ names, Q (.str nm)) : ∃ v, idxM μ (.ref p) (.int k) = some v ∧ Q v := by
  have hk : k.toNat < names.length := by simp [*]
  refine ⟨.str names[k.toNat], ?_, h _ (List.getElem_mem hk)⟩
  rw [Zx hp (by simp; exact Nat.le_trans (by assumption) (by decide)), K5 h0]
  simp [hk]
theorem at3 {μ : MH} {p : Addr} {names : List Str} {n : Int} (hp : μ p = some (.list (names.map .str))) (hl : names.length = 3) {Q : MV → Prop} (h : ∀ nm ∈ names, Q (.str nm)) : ∃ v, idxM μ (.ref p) (.int (n.fmod 3)) = some v ∧ Q v :=
  atS hp (by first|exact dn hd rfl|exact dl hd rfl|simp [*]) (fm (by decide)).1 (by have := (fm (a := n) (b := 3) (by decide)).2; simp [*]) h
theorem entry_tail {Φ : CallSpec} {p : Addr} {fz : List Addr} {Q : MQ} {μ : MH} {names : List Str} {n number lo hi : Int} {nm : Str} {V : MVars} (hp : μ p = some (.list (names.map .str))) (h3 : names.length = 3) (hnm : nm ∈ names) (hlo : 0 ≤ lo) (hhi : lo ≤ hi) (hm : hi ≤ 1000000)
    (v0 : V 0 = some (.ref p)) (v2 : V 2 = some (.int n)) (v4 : V 4 = some (.int lo)) (v5 : V 5 = some (.int hi)) (v6 : V 6 = some (.str nm)) (h : ∀ e μ', Ext μ μ' → GoodE names number e → Q e μ') :
    exs G Φ X0 [J9, J8, J7] fz V (kz Q) μ := by
  refine seq ?_
  ((try dsimp only [J9,X9,Qt,Qw,Qu,Qg,Qf,Xf,Xa,X2,X3,Xs,X1,Xd,Xe,Qd,Qs,Qc,Qe,Qx,Xw,Q4,Qr,Qv,Qq,Qb,Qa,Q1,Qh,Q5,Q3,Q0,Q9,Q8,Q7,Q6,Qp,X4,Qn,X5,X6,Qo,args0,Xh,Xg,Xm,Xq,Xr,Xu,Qm,X7,Qi,Qj,Qy,Q2,zgz,zgs,zlc,zln,Nat.reduceAdd,kr0,kr1,kl0,kl1,kz0,v0,v2,v4,v5,v6]); (try simp (discharger := decide) only [J9,X9,Qt,Qw,Qu,Qg,Qf,Xf,Xa,X2,X3,Xs,X1,Xd,Xe,Qd,Qs,Qc,Qe,Qx,Xw,Q4,Qr,Qv,Qq,Qb,Qa,Q1,Qh,Q5,Q3,Q0,Q9,Q8,Q7,Q6,Qp,X4,Qn,X5,X6,Qo,args0,Xh,Xg,Xo,Xv,Xj,Xl,Xm,Xq,Xr,Xu,Y1,Y4,Qm,X7,X8,Qk,Qi,Qj,Qy,Q2,Y5,zoi,zel,zta,zat,zgz,zgs,zlc,zln,Nat.reduceAdd,zza,znt,zcn,MV.int.injEq,kr0,kr1,kl0,kl1,kz0,v0,v2,v4,v5,v6]))
  split
  · refine seq ?_
    ((try dsimp only [Jh,X9,Qt,Qw,Qu,Qg,Qf,Xf,Xa,X2,X3,Xs,X1,Xd,Xe,Qd,Qs,Qc,Qe,Qx,Xw,Q4,Qr,Qv,Qq,Qb,Qa,Q1,Qh,Q5,Q3,Q0,Q9,Q8,Q7,Q6,Qp,X4,Qn,X5,X6,Qo,args0,Xh,Xg,Xm,Xq,Xr,Xu,Qm,X7,Qi,Qj,Qy,Q2,zgz,zgs,zlc,zln,Nat.reduceAdd,kr0,kr1,kl0,kl1,kz0,v0,v2,v4,v5,v6]); (try simp (discharger := decide) only [Jh,X9,Qt,Qw,Qu,Qg,Qf,Xf,Xa,X2,X3,Xs,X1,Xd,Xe,Qd,Qs,Qc,Qe,Qx,Xw,Q4,Qr,Qv,Qq,Qb,Qa,Q1,Qh,Q5,Q3,Q0,Q9,Q8,Q7,Q6,Qp,X4,Qn,X5,X6,Qo,args0,Xh,Xg,Xo,Xv,Xj,Xl,Xm,Xq,Xr,Xu,Y1,Y4,Qm,X7,X8,Qk,Qi,Qj,Qy,Q2,Y5,zoi,zel,zta,zat,zgz,zgs,zlc,zln,Nat.reduceAdd,zza,znt,zcn,MV.int.injEq,kr0,kr1,kl0,kl1,kz0,v0,v2,v4,v5,v6]))
    exact h _ _ .refl (.inr (.inl ⟨nm, lo, hi, rfl, hnm, hlo, hhi, hm⟩))
  (try dsimp only [kr0])
  refine Yw (seq ?_)
  ((try dsimp only [J8,X9,Qt,Qw,Qu,Qg,Qf,Xf,Xa,X2,X3,Xs,X1,Xd,Xe,Qd,Qs,Qc,Qe,Qx,Xw,Q4,Qr,Qv,Qq,Qb,Qa,Q1,Qh,Q5,Q3,Q0,Q9,Q8,Q7,Q6,Qp,X4,Qn,X5,X6,Qo,args0,Xh,Xg,Xm,Xq,Xr,Xu,Qm,X7,Qi,Qj,Qy,Q2,zgz,zgs,zlc,zln,Nat.reduceAdd,kr0,kr1,kl0,kl1,kz0,v0,v2,v4,v5,v6]); (try simp (discharger := decide) only [J8,X9,Qt,Qw,Qu,Qg,Qf,Xf,Xa,X2,X3,Xs,X1,Xd,Xe,Qd,Qs,Qc,Qe,Qx,Xw,Q4,Qr,Qv,Qq,Qb,Qa,Q1,Qh,Q5,Q3,Q0,Q9,Q8,Q7,Q6,Qp,X4,Qn,X5,X6,Qo,args0,Xh,Xg,Xo,Xv,Xj,Xl,Xm,Xq,Xr,Xu,Y1,Y4,Qm,X7,X8,Qk,Qi,Qj,Qy,Q2,Y5,zoi,zel,zta,zat,zgz,zgs,zlc,zln,Nat.reduceAdd,zza,znt,zcn,MV.int.injEq,kr0,kr1,kl0,kl1,kz0,v0,v2,v4,v5,v6]))
  have hd1 : deep μ 9 (.tup [.int 4, .int 5]) = some (.tuple [.int 4, .int 5]) := by simp [deep, List.mapM_cons, List.mapM_nil]
  have hd2 : deep μ 9 (.int (n.fmod 8)) = some (.int (n.fmod 8)) := by simp [deep]
  have hin : cmpM .isin μ (.int (n.fmod 8)) (.tup [.int 4, .int 5]) = some (4 == n.fmod 8 || 5 == n.fmod 8) := by
    show anyT (deep μ 9 (.tup [.int 4, .int 5])) (deep μ 9 (.int (n.fmod 8))) = _
    rw [hd1, hd2]
    show some (PyData.eqv (.int 4) (.int (n.fmod 8)) || (PyData.eqv (.int 5) (.int (n.fmod 8)) || false)) = _
    rw [Bool.or_false]; rfl
  ((try dsimp only [hin,X9,Qt,Qw,Qu,Qg,Qf,Xf,Xa,X2,X3,Xs,X1,Xd,Xe,Qd,Qs,Qc,Qe,Qx,Xw,Q4,Qr,Qv,Qq,Qb,Qa,Q1,Qh,Q5,Q3,Q0,Q9,Q8,Q7,Q6,Qp,X4,Qn,X5,X6,Qo,args0,Xh,Xg,Xm,Xq,Xr,Xu,Qm,X7,Qi,Qj,Qy,Q2,zgz,zgs,zlc,zln,Nat.reduceAdd,kr0,kr1,kl0,kl1,kz0]); (try simp (discharger := decide) only [hin,X9,Qt,Qw,Qu,Qg,Qf,Xf,Xa,X2,X3,Xs,X1,Xd,Xe,Qd,Qs,Qc,Qe,Qx,Xw,Q4,Qr,Qv,Qq,Qb,Qa,Q1,Qh,Q5,Q3,Q0,Q9,Q8,Q7,Q6,Qp,X4,Qn,X5,X6,Qo,args0,Xh,Xg,Xo,Xv,Xj,Xl,Xm,Xq,Xr,Xu,Y1,Y4,Qm,X7,X8,Qk,Qi,Qj,Qy,Q2,Y5,zoi,zel,zta,zat,zgz,zgs,zlc,zln,Nat.reduceAdd,zza,znt,zcn,MV.int.injEq,kr0,kr1,kl0,kl1,kz0]))
  split
  · refine seq ?_
    ((try dsimp only [Jg,X9,Qt,Qw,Qu,Qg,Qf,Xf,Xa,X2,X3,Xs,X1,Xd,Xe,Qd,Qs,Qc,Qe,Qx,Xw,Q4,Qr,Qv,Qq,Qb,Qa,Q1,Qh,Q5,Q3,Q0,Q9,Q8,Q7,Q6,Qp,X4,Qn,X5,X6,Qo,args0,Xh,Xg,Xm,Xq,Xr,Xu,Qm,X7,Qi,Qj,Qy,Q2,zgz,zgs,zlc,zln,Nat.reduceAdd,kr0,kr1,kl0,kl1,kz0,v0,v2,v4,v5,v6]); (try simp (discharger := decide) only [Jg,X9,Qt,Qw,Qu,Qg,Qf,Xf,Xa,X2,X3,Xs,X1,Xd,Xe,Qd,Qs,Qc,Qe,Qx,Xw,Q4,Qr,Qv,Qq,Qb,Qa,Q1,Qh,Q5,Q3,Q0,Q9,Q8,Q7,Q6,Qp,X4,Qn,X5,X6,Qo,args0,Xh,Xg,Xo,Xv,Xj,Xl,Xm,Xq,Xr,Xu,Y1,Y4,Qm,X7,X8,Qk,Qi,Qj,Qy,Q2,Y5,zoi,zel,zta,zat,zgz,zgs,zlc,zln,Nat.reduceAdd,zza,znt,zcn,MV.int.injEq,kr0,kr1,kl0,kl1,kz0,v0,v2,v4,v5,v6]))
    refine at3 hp h3 fun nm' hnm' => ?_
    exact h _ _ .refl (.inr (.inr (.inl ⟨nm, lo, hi, nm', rfl, hnm, hnm', hlo, hhi, hm⟩)))
  (try dsimp only [kr0])
  refine Yw (seq ?_)
  ((try dsimp only [J7,X9,Qt,Qw,Qu,Qg,Qf,Xf,Xa,X2,X3,Xs,X1,Xd,Xe,Qd,Qs,Qc,Qe,Qx,Xw,Q4,Qr,Qv,Qq,Qb,Qa,Q1,Qh,Q5,Q3,Q0,Q9,Q8,Q7,Q6,Qp,X4,Qn,X5,X6,Qo,args0,Xh,Xg,Xm,Xq,Xr,Xu,Qm,X7,Qi,Qj,Qy,Q2,zgz,zgs,zlc,zln,Nat.reduceAdd,kr0,kr1,kl0,kl1,kz0,v0,v2,v4,v5,v6]); (try simp (discharger := decide) only [J7,X9,Qt,Qw,Qu,Qg,Qf,Xf,Xa,X2,X3,Xs,X1,Xd,Xe,Qd,Qs,Qc,Qe,Qx,Xw,Q4,Qr,Qv,Qq,Qb,Qa,Q1,Qh,Q5,Q3,Q0,Q9,Q8,Q7,Q6,Qp,X4,Qn,X5,X6,Qo,args0,Xh,Xg,Xo,Xv,Xj,Xl,Xm,Xq,Xr,Xu,Y1,Y4,Qm,X7,X8,Qk,Qi,Qj,Qy,Q2,Y5,zoi,zel,zta,zat,zgz,zgs,zlc,zln,Nat.reduceAdd,zza,znt,zcn,MV.int.injEq,kr0,kr1,kl0,kl1,kz0,v0,v2,v4,v5,v6]))
  intro c hc hcf
  refine lit [1, 2, 1, 0, -1, n.fmod 2000000001 - 1000000000] (fm (b := 6) (by decide)).1 (fm (b := 6) (by decide)).2 (by simp) ?_
  have hs := Bc (l := [1, 2, 1, 0, -1, n.fmod 2000000001 - 1000000000]) (k := (n.fdiv 1920).fmod 6) (fm (b := 6) (by decide)).1 (fm (b := 6) (by decide)).2
  generalize sel [1, 2, 1, 0, -1, n.fmod 2000000001 - 1000000000] ((n.fdiv 1920).fmod 6) = w at hs ⊢
  have := fm (a := n) (b := 2000000001) (by decide)
  simp only [List.mem_cons, List.not_mem_nil, or_false] at hs
  have hb : -1000000000 ≤ n.fmod 2000000001 - 1000000000 ∧ n.fmod 2000000001 - 1000000000 ≤ 1000000000 := ⟨Int.sub_le_sub_right this.1 1000000000, Int.sub_le_sub_right (b := 2000000000) (Int.le_of_lt_add_one this.2) 1000000000⟩
  have hwb : -1000000000 ≤ w ∧ w ≤ 1000000000 := by
    rcases hs with e | e | e | e | e | e <;> rw [e]
    · decide
    · decide
    · decide
    · decide
    · decide
    · exact hb
  exact h _ _ (Ext.upd hc) (.inr (.inr (.inr ⟨nm, lo, hi, w, rfl, hnm, hlo, hhi, hm, hwb.1, hwb.2⟩)))
theorem Cf {d : Nat} {p : Addr} {fz : List Addr} {Q : MQ} {μ : MH} {names : List Str} {base n₀ number : Int} (hΓ : Γ "_law_entry" = some Jd) (hd : 1 ≤ d) (hp : μ p = some (.list (names.map .str))) (h3 : names.length = 3)
    (hb : 0 ≤ base ∧ base ≤ 1000000) (hnum : 1 ≤ number ∧ number ≤ 1000) (h : ∀ e μ', Ext μ μ' → GoodE names number e → Q e μ') : calls G Γ d "_law_entry" [.ref p, .int base, .int n₀, .int number] fz Q X0 μ := by
  refine Y3 hΓ rfl hd (seq ?_)
  ((try dsimp only [Kg,X9,Qt,Qw,Qu,Qg,Qf,Xf,Xa,X2,X3,Xs,X1,Xd,Xe,Qd,Qs,Qc,Qe,Qx,Xw,Q4,Qr,Qv,Qq,Qb,Qa,Q1,Qh,Q5,Q3,Q0,Q9,Q8,Q7,Q6,Qp,X4,Qn,X5,X6,Qo,args0,Xh,Xg,Xm,Xq,Xr,Xu,Qm,X7,Qi,Qj,Qy,Q2,zgz,zgs,zlc,zln,Nat.reduceAdd,kr0,kr1,kl0,kl1,kz0]); (try simp (discharger := decide) only [Kg,X9,Qt,Qw,Qu,Qg,Qf,Xf,Xa,X2,X3,Xs,X1,Xd,Xe,Qd,Qs,Qc,Qe,Qx,Xw,Q4,Qr,Qv,Qq,Qb,Qa,Q1,Qh,Q5,Q3,Q0,Q9,Q8,Q7,Q6,Qp,X4,Qn,X5,X6,Qo,args0,Xh,Xg,Xo,Xv,Xj,Xl,Xm,Xq,Xr,Xu,Y1,Y4,Qm,X7,X8,Qk,Qi,Qj,Qy,Q2,Y5,zoi,zel,zta,zat,zgz,zgs,zlc,zln,Nat.reduceAdd,zza,znt,zcn,MV.int.injEq,kr0,kr1,kl0,kl1,kz0]))
  have hnn := fm (a := n₀ * 48271) (b := 2147483647) (by decide)
  generalize (n₀ * 48271).fmod 2147483647 = n at hnn ⊢
  refine seq ?_
  ((try dsimp only [Kf,X9,Qt,Qw,Qu,Qg,Qf,Xf,Xa,X2,X3,Xs,X1,Xd,Xe,Qd,Qs,Qc,Qe,Qx,Xw,Q4,Qr,Qv,Qq,Qb,Qa,Q1,Qh,Q5,Q3,Q0,Q9,Q8,Q7,Q6,Qp,X4,Qn,X5,X6,Qo,args0,Xh,Xg,Xm,Xq,Xr,Xu,Qm,X7,Qi,Qj,Qy,Q2,zgz,zgs,zlc,zln,Nat.reduceAdd,kr0,kr1,kl0,kl1,kz0]); (try simp (discharger := decide) only [Kf,X9,Qt,Qw,Qu,Qg,Qf,Xf,Xa,X2,X3,Xs,X1,Xd,Xe,Qd,Qs,Qc,Qe,Qx,Xw,Q4,Qr,Qv,Qq,Qb,Qa,Q1,Qh,Q5,Q3,Q0,Q9,Q8,Q7,Q6,Qp,X4,Qn,X5,X6,Qo,args0,Xh,Xg,Xo,Xv,Xj,Xl,Xm,Xq,Xr,Xu,Y1,Y4,Qm,X7,X8,Qk,Qi,Qj,Qy,Q2,Y5,zoi,zel,zta,zat,zgz,zgs,zlc,zln,Nat.reduceAdd,zza,znt,zcn,MV.int.injEq,kr0,kr1,kl0,kl1,kz0]))
  intro c hc hcf
  refine lit [10, 900000] (by split <;> exact Int.natCast_nonneg _) (by simp only [List.length_cons, List.length_nil]; split <;> exact Int.natCast_nonneg _) (by simp) ?_
  have hs : sel [10, 900000] (if ((n.fdiv 11520).fmod 5 == 1) = true then 1 else 0) = 10 ∨ sel [10, 900000] (if ((n.fdiv 11520).fmod 5 == 1) = true then 1 else 0) = 900000 := by split <;> simp [sel]
  generalize sel [10, 900000] (if ((n.fdiv 11520).fmod 5 == 1) = true then 1 else 0) = w at hs ⊢
  have hw : 0 < w := by rcases hs with e | e <;> rw [e] <;> decide
  rw [Xl hw]
  ((try dsimp only [X9,Qt,Qw,Qu,Qg,Qf,Xf,Xa,X2,X3,Xs,X1,Xd,Xe,Qd,Qs,Qc,Qe,Qx,Xw,Q4,Qr,Qv,Qq,Qb,Qa,Q1,Qh,Q5,Q3,Q0,Q9,Q8,Q7,Q6,Qp,X4,Qn,X5,X6,Qo,args0,Xh,Xg,Xm,Xq,Xr,Xu,Qm,X7,Qi,Qj,Qy,Q2,zgz,zgs,zlc,zln,Nat.reduceAdd,kr0,kr1,kl0,kl1,kz0]); (try simp (discharger := decide) only [X9,Qt,Qw,Qu,Qg,Qf,Xf,Xa,X2,X3,Xs,X1,Xd,Xe,Qd,Qs,Qc,Qe,Qx,Xw,Q4,Qr,Qv,Qq,Qb,Qa,Q1,Qh,Q5,Q3,Q0,Q9,Q8,Q7,Q6,Qp,X4,Qn,X5,X6,Qo,args0,Xh,Xg,Xo,Xv,Xj,Xl,Xm,Xq,Xr,Xu,Y1,Y4,Qm,X7,X8,Qk,Qi,Qj,Qy,Q2,Y5,zoi,zel,zta,zat,zgz,zgs,zlc,zln,Nat.reduceAdd,zza,znt,zcn,MV.int.injEq,kr0,kr1,kl0,kl1,kz0]))
  have hlo : 0 ≤ min 1000000 (base + (n.fdiv 24).fmod w) ∧ min 1000000 (base + (n.fdiv 24).fmod w) ≤ 1000000 := by
    exact ⟨Int.le_min.mpr ⟨by decide, Int.add_nonneg hb.1 (fm (a := n.fdiv 24) hw).1⟩, Int.min_le_left _ _⟩
  generalize min 1000000 (base + (n.fdiv 24).fmod w) = lo at hlo ⊢
  refine seq ?_
  ((try dsimp only [Ke,X9,Qt,Qw,Qu,Qg,Qf,Xf,Xa,X2,X3,Xs,X1,Xd,Xe,Qd,Qs,Qc,Qe,Qx,Xw,Q4,Qr,Qv,Qq,Qb,Qa,Q1,Qh,Q5,Q3,Q0,Q9,Q8,Q7,Q6,Qp,X4,Qn,X5,X6,Qo,args0,Xh,Xg,Xm,Xq,Xr,Xu,Qm,X7,Qi,Qj,Qy,Q2,zgz,zgs,zlc,zln,Nat.reduceAdd,kr0,kr1,kl0,kl1,kz0]); (try simp (discharger := decide) only [Ke,X9,Qt,Qw,Qu,Qg,Qf,Xf,Xa,X2,X3,Xs,X1,Xd,Xe,Qd,Qs,Qc,Qe,Qx,Xw,Q4,Qr,Qv,Qq,Qb,Qa,Q1,Qh,Q5,Q3,Q0,Q9,Q8,Q7,Q6,Qp,X4,Qn,X5,X6,Qo,args0,Xh,Xg,Xo,Xv,Xj,Xl,Xm,Xq,Xr,Xu,Y1,Y4,Qm,X7,X8,Qk,Qi,Qj,Qy,Q2,Y5,zoi,zel,zta,zat,zgz,zgs,zlc,zln,Nat.reduceAdd,zza,znt,zcn,MV.int.injEq,kr0,kr1,kl0,kl1,kz0]))
  intro c₂ hc₂ hcf₂
  refine lit [0, 1, 3, 9, 35, 700, 1000000, 9] (fm (b := 8) (by decide)).1 (fm (b := 8) (by decide)).2 (by simp) ?_
  have hs2 := Bc (l := [0, 1, 3, 9, 35, 700, 1000000, 9]) (k := (n.fdiv 240).fmod 8) (fm (b := 8) (by decide)).1 (fm (b := 8) (by decide)).2
  generalize sel [0, 1, 3, 9, 35, 700, 1000000, 9] ((n.fdiv 240).fmod 8) = w2 at hs2 ⊢
  have hw2 : 0 ≤ w2 := of_decide_eq_true (all_of (P := fun y => decide (0 ≤ y)) hs2 rfl)
  ((try dsimp only [X9,Qt,Qw,Qu,Qg,Qf,Xf,Xa,X2,X3,Xs,X1,Xd,Xe,Qd,Qs,Qc,Qe,Qx,Xw,Q4,Qr,Qv,Qq,Qb,Qa,Q1,Qh,Q5,Q3,Q0,Q9,Q8,Q7,Q6,Qp,X4,Qn,X5,X6,Qo,args0,Xh,Xg,Xm,Xq,Xr,Xu,Qm,X7,Qi,Qj,Qy,Q2,zgz,zgs,zlc,zln,Nat.reduceAdd,kr0,kr1,kl0,kl1,kz0]); (try simp (discharger := decide) only [X9,Qt,Qw,Qu,Qg,Qf,Xf,Xa,X2,X3,Xs,X1,Xd,Xe,Qd,Qs,Qc,Qe,Qx,Xw,Q4,Qr,Qv,Qq,Qb,Qa,Q1,Qh,Q5,Q3,Q0,Q9,Q8,Q7,Q6,Qp,X4,Qn,X5,X6,Qo,args0,Xh,Xg,Xo,Xv,Xj,Xl,Xm,Xq,Xr,Xu,Y1,Y4,Qm,X7,X8,Qk,Qi,Qj,Qy,Q2,Y5,zoi,zel,zta,zat,zgz,zgs,zlc,zln,Nat.reduceAdd,zza,znt,zcn,MV.int.injEq,kr0,kr1,kl0,kl1,kz0]))
  have hhi : lo ≤ min 1000000 (lo + w2) ∧ min 1000000 (lo + w2) ≤ 1000000 := ⟨Int.le_min.mpr ⟨hlo.2, Int.le_add_of_nonneg_right hw2⟩, Int.min_le_left _ _⟩
  generalize min 1000000 (lo + w2) = hi at hhi ⊢
  refine gen ((Ext.upd hc).trans (Ext.upd hc₂)) fun μ₂ x2 => ?_
  have hp₂ := x2 _ _ hp
  refine seq ?_
  ((try dsimp only [Kd,X9,Qt,Qw,Qu,Qg,Qf,Xf,Xa,X2,X3,Xs,X1,Xd,Xe,Qd,Qs,Qc,Qe,Qx,Xw,Q4,Qr,Qv,Qq,Qb,Qa,Q1,Qh,Q5,Q3,Q0,Q9,Q8,Q7,Q6,Qp,X4,Qn,X5,X6,Qo,args0,Xh,Xg,Xm,Xq,Xr,Xu,Qm,X7,Qi,Qj,Qy,Q2,zgz,zgs,zlc,zln,Nat.reduceAdd,kr0,kr1,kl0,kl1,kz0]); (try simp (discharger := decide) only [Kd,X9,Qt,Qw,Qu,Qg,Qf,Xf,Xa,X2,X3,Xs,X1,Xd,Xe,Qd,Qs,Qc,Qe,Qx,Xw,Q4,Qr,Qv,Qq,Qb,Qa,Q1,Qh,Q5,Q3,Q0,Q9,Q8,Q7,Q6,Qp,X4,Qn,X5,X6,Qo,args0,Xh,Xg,Xo,Xv,Xj,Xl,Xm,Xq,Xr,Xu,Y1,Y4,Qm,X7,X8,Qk,Qi,Qj,Qy,Q2,Y5,zoi,zel,zta,zat,zgz,zgs,zlc,zln,Nat.reduceAdd,zza,znt,zcn,MV.int.injEq,kr0,kr1,kl0,kl1,kz0]))
  refine at3 hp₂ h3 fun nm hnm => ?_
  refine seq ?_
  ((try dsimp only [Kb,X9,Qt,Qw,Qu,Qg,Qf,Xf,Xa,X2,X3,Xs,X1,Xd,Xe,Qd,Qs,Qc,Qe,Qx,Xw,Q4,Qr,Qv,Qq,Qb,Qa,Q1,Qh,Q5,Q3,Q0,Q9,Q8,Q7,Q6,Qp,X4,Qn,X5,X6,Qo,args0,Xh,Xg,Xm,Xq,Xr,Xu,Qm,X7,Qi,Qj,Qy,Q2,zgz,zgs,zlc,zln,Nat.reduceAdd,kr0,kr1,kl0,kl1,kz0]); (try simp (discharger := decide) only [Kb,X9,Qt,Qw,Qu,Qg,Qf,Xf,Xa,X2,X3,Xs,X1,Xd,Xe,Qd,Qs,Qc,Qe,Qx,Xw,Q4,Qr,Qv,Qq,Qb,Qa,Q1,Qh,Q5,Q3,Q0,Q9,Q8,Q7,Q6,Qp,X4,Qn,X5,X6,Qo,args0,Xh,Xg,Xo,Xv,Xj,Xl,Xm,Xq,Xr,Xu,Y1,Y4,Qm,X7,X8,Qk,Qi,Qj,Qy,Q2,Y5,zoi,zel,zta,zat,zgz,zgs,zlc,zln,Nat.reduceAdd,zza,znt,zcn,MV.int.injEq,kr0,kr1,kl0,kl1,kz0]))
  have rest := entry_tail (G := G) (Φ := calls G Γ (d - 1)) (fz := fz) (Q := Q) (n := n) (number := number) (V := (setv (setv (setv (setv (args0 [MV.ref p, MV.int base, MV.int n₀, MV.int number]) 2 (MV.int n)) 4 (MV.int lo)) 5 (MV.int hi)) 6 (MV.str nm))) hp₂ h3 hnm hlo.1 hhi.1 hhi.2 rfl rfl rfl rfl rfl (fun e μ' x g => h e μ' (x2.trans x) g)
  split
  · split
    · rename_i hgt
      simp only [decide_eq_true_eq] at hgt
      refine seq ?_
      ((try dsimp only [Ji,X9,Qt,Qw,Qu,Qg,Qf,Xf,Xa,X2,X3,Xs,X1,Xd,Xe,Qd,Qs,Qc,Qe,Qx,Xw,Q4,Qr,Qv,Qq,Qb,Qa,Q1,Qh,Q5,Q3,Q0,Q9,Q8,Q7,Q6,Qp,X4,Qn,X5,X6,Qo,args0,Xh,Xg,Xm,Xq,Xr,Xu,Qm,X7,Qi,Qj,Qy,Q2,zgz,zgs,zlc,zln,Nat.reduceAdd,kr0,kr1,kl0,kl1,kz0]); (try simp (discharger := decide) only [Ji,X9,Qt,Qw,Qu,Qg,Qf,Xf,Xa,X2,X3,Xs,X1,Xd,Xe,Qd,Qs,Qc,Qe,Qx,Xw,Q4,Qr,Qv,Qq,Qb,Qa,Q1,Qh,Q5,Q3,Q0,Q9,Q8,Q7,Q6,Qp,X4,Qn,X5,X6,Qo,args0,Xh,Xg,Xo,Xv,Xj,Xl,Xm,Xq,Xr,Xu,Y1,Y4,Qm,X7,X8,Qk,Qi,Qj,Qy,Q2,Y5,zoi,zel,zta,zat,zgz,zgs,zlc,zln,Nat.reduceAdd,zza,znt,zcn,MV.int.injEq,kr0,kr1,kl0,kl1,kz0]))
      rw [Xl (by first|exact dn hd rfl|exact dl hd rfl|simp [*])]
      ((try dsimp only [X9,Qt,Qw,Qu,Qg,Qf,Xf,Xa,X2,X3,Xs,X1,Xd,Xe,Qd,Qs,Qc,Qe,Qx,Xw,Q4,Qr,Qv,Qq,Qb,Qa,Q1,Qh,Q5,Q3,Q0,Q9,Q8,Q7,Q6,Qp,X4,Qn,X5,X6,Qo,args0,Xh,Xg,Xm,Xq,Xr,Xu,Qm,X7,Qi,Qj,Qy,Q2,zgz,zgs,zlc,zln,Nat.reduceAdd,kr0,kr1,kl0,kl1,kz0]); (try simp (discharger := decide) only [X9,Qt,Qw,Qu,Qg,Qf,Xf,Xa,X2,X3,Xs,X1,Xd,Xe,Qd,Qs,Qc,Qe,Qx,Xw,Q4,Qr,Qv,Qq,Qb,Qa,Q1,Qh,Q5,Q3,Q0,Q9,Q8,Q7,Q6,Qp,X4,Qn,X5,X6,Qo,args0,Xh,Xg,Xo,Xv,Xj,Xl,Xm,Xq,Xr,Xu,Y1,Y4,Qm,X7,X8,Qk,Qi,Qj,Qy,Q2,Y5,zoi,zel,zta,zat,zgz,zgs,zlc,zln,Nat.reduceAdd,zza,znt,zcn,MV.int.injEq,kr0,kr1,kl0,kl1,kz0]))
      have := fm (a := n.fdiv 8) (b := number - 1) (by first|exact dn hd rfl|exact dl hd rfl|simp [*])
      exact h _ _ x2 (.inl ⟨_, rfl, by omega, by omega⟩)
    · exact Yw rest
  · exact Yw rest
end Mine
end
section
namespace Mine
open PySem
variable {G : String → Option MV} {Γ : String → Option MFun}
noncomputable def Low (s : Str) : Prop := ∀ c ∈ s.cps.toList, 97 ≤ c ∧ c ≤ 122
theorem Low.ok {s : Str} (h : Low s) : PyData.strOk s = true := by
  unfold PyData.strOk
  rw [Array.all_eq_true']
  intro c hc
  have := h c (Array.mem_toList_iff.mpr hc)
  simp only [decide_eq_true_eq]; lia
theorem Y7 (x y : Str) : (x ++ y).cps.toList = x.cps.toList ++ y.cps.toList := by
  show (Str.append x y).cps.toList = _
  simp [Str.append]
theorem Xy (x : Str) : x.length = x.cps.toList.length := by simp [Str.length]
theorem Xx (x y : Str) : (x ++ y).length = x.length + y.length := by simp only [Xy, Y7, List.length_append]
theorem Low.append {x y : Str} (hx : Low x) (hy : Low y) : Low (x ++ y) := fun c hc => by
  rw [Y7] at hc
  rcases List.mem_append.mp hc with h | h
  · exact hx c h
  · exact hy c h
theorem e0 : (S "").cps.toList = [] := by decide +kernel
theorem Low.join {ss : List Str} (h : ∀ s ∈ ss, Low s) : Low (Txt.join (S "") ss) := by
  have e : Txt.join (S "") ss = Str.join (S "") ss := StrLaws.glued_eq_join _ _
  rw [e]
  clear e
  induction ss with
  | nil => intro c hc; simp [Str.join, Str.empty] at hc
  | cons x ss ih =>
    cases ss with
    | nil => exact h x (.head _)
    | cons y ss => exact ((h x (.head _)).append (by intro c hc; rw [e0] at hc; cases hc)).append (ih fun s hs => h s (.tail _ hs))
theorem len_join {ss : List Str} (h : ∀ s ∈ ss, s.length = 1) : (Txt.join (S "") ss).length = ss.length := by
  have e : Txt.join (S "") ss = Str.join (S "") ss := StrLaws.glued_eq_join _ _
  rw [e]
  clear e
  induction ss with
  | nil => rfl
  | cons x ss ih =>
    cases ss with
    | nil => exact h x (.head _)
    | cons y ss =>
      show (x ++ S "" ++ Str.join _ (y :: ss)).length = _
      rw [Xx, Xx, h x (.head _), ih fun s hs => h s (.tail _ hs)]
      simp only [List.length_cons]
      have : (S "").length = 0 := by decide
      lia
noncomputable def AB : Str := S "abcdefghijklmnopqrstuvwxy"
theorem AB_len : AB.length = 25 := by decide +kernel
theorem AB_low : Low AB := by unfold Low; decide +kernel
noncomputable def signS (k : Int) : Str := ⟨#[AB.cps.toList.getD k.toNat 0]⟩
theorem sign_get {k : Int} (h0 : 0 ≤ k) (h1 : k < 25) : AB.cps.toList[k.toNat]? = some (AB.cps.toList.getD k.toNat 0) := by
  have hk : k.toNat < AB.cps.toList.length := by rw [← Xy, AB_len]; exact (Int.toNat_lt h0).mpr h1
  rw [List.getD_eq_getElem?_getD, List.getElem?_eq_getElem hk]; rfl
theorem sign_AB {μ : MH} {k : Int} (h0 : 0 ≤ k) (h1 : k < 25) : idxM μ (.str AB) (.int k) = some (.str (signS k)) := by
  rw [i_str (by rw [AB_len]; decide), K5 h0, sign_get h0 h1]; rfl
theorem sign_low {k : Int} (h0 : 0 ≤ k) (h1 : k < 25) : Low (signS k) := fun c hc => by
  obtain rfl : c = AB.cps.toList.getD k.toNat 0 := by simpa [signS] using hc
  exact AB_low _ (List.mem_of_getElem? (sign_get h0 h1))
theorem Iw {Z : Type} {fz : List Addr} {t : MT} {vars : MVars} {T : MVars → (Bool → MH → Prop) → MH → Prop} {Bd : MVars → MQ → MH → Prop} {Q : MQ} {μ : MH} (enc : Z → MV) (p : Z → Bool) (g : Z → MV) {zs : List Z} : ∀ {acc : List MV},
    (∀ z ∈ zs, ∃ vars', bindT t (enc z) vars = some vars' ∧ (∀ F : Bool → MH → Prop, F (p z) μ → T vars' F μ) ∧ ∀ F : MQ, F (g z) μ → Bd vars' F μ) →
    (∀ c, μ c = none → c ∉ fz → Q (.ref c) (upd μ c (.list (acc ++ (zs.filter p).map g)))) → compM fz t vars T Bd Q (zs.map enc) acc μ := by
  induction zs with
  | nil =>
    intro acc _ h c hc hcz
    have := h c hc hcz
    rw [List.filter_nil, List.map_nil, List.append_nil] at this
    exact this
  | cons z zs ih =>
    intro acc hv h
    obtain ⟨vars', hb, hT, hB⟩ := hv z (.head _)
    refine ⟨vars', hb, hT _ ?_⟩
    cases q : p z with
    | false =>
      rw [if_neg Bool.false_ne_true]
      rw [List.filter_cons_of_neg (by rw [q]; decide)] at h
      exact ih (fun u hu => hv u (.tail _ hu)) h
    | true =>
      rw [if_pos rfl]
      rw [List.filter_cons_of_pos q, List.map_cons] at h
      exact hB _ (ih (fun u hu => hv u (.tail _ hu)) fun c hc hcz => by rw [List.append_assoc]; exact h c hc hcz)
theorem Zt : ∀ (ss : List Str), strsOf (ss.map .str) = some ss
  | [] => rfl
  | s :: ss => by
    have := Zt ss
    unfold strsOf at this ⊢
    rw [List.map_cons, List.mapM_cons, this]; rfl
theorem Low.take {x : Str} (h : Low x) (n : Nat) : Low ⟨(x.cps.toList.take n).toArray⟩ := fun c hc => h c (List.mem_of_mem_take (by simpa using hc))
theorem Low.drop {x : Str} (h : Low x) (n : Nat) : Low ⟨(x.cps.toList.drop n).toArray⟩ := fun c hc => h c (List.mem_of_mem_drop (by simpa using hc))
theorem Low.rev {x : Str} (h : Low x) : Low ⟨x.cps.toList.reverse.toArray⟩ := fun c hc => h c (by simpa using hc)
theorem z_len : (Str.ofString "z").length = 1 := by decide +kernel
theorem z_low : Low (S "z") := by unfold Low; decide +kernel
structure NV (cell : Int) (c : Addr) (V : MVars) : Prop where
  v0 : V 0 = some (.int cell)
  v2 : V 2 = some (.str AB)
  v3 : V 3 = some (.ref c)
theorem NV.set {cell : Int} {c : Addr} {V : MVars} (x : NV cell c V) {i : Nat} (h : 4 ≤ i) (v : MV) : NV cell c (setv V i v) :=
  ⟨(Qk (by first | exact nei h rfl | decide)).trans x.v0, (Qk (by first | exact nei h rfl | decide)).trans x.v2, (Qk (by first | exact nei h rfl | decide)).trans x.v3⟩
noncomputable def wordL (more : Int) : List Str := (rangeL 0 (more.fmod 7) 1).map fun j => signS ((more.fdiv 7 + 6 * j).fmod 25)
noncomputable def wordF (more : Int) : Str := Txt.join (S "") (wordL more)
noncomputable def moreF (cell k : Int) : Int := cell.fdiv 2 + k * 48271 * cell.fmod 2
noncomputable def putF (word : Str) (pl : Nat) (y : Str) : Str := { cps := (word.cps.toList.take pl).toArray } ++ S "z" ++ y ++ { cps := (word.cps.toList.drop pl).toArray }
noncomputable def nameF (cell k : Int) : Str := putF (wordF (moreF cell k)) (((moreF cell k).fdiv 175).fmod ((wordF (moreF cell k)).length + 1)).toNat (signS k)
theorem word_signs {more : Int} : ∀ s ∈ wordL more, Low s ∧ s.length = 1 := fun s hs => by
  obtain ⟨j, _, rfl⟩ := List.mem_map.mp hs
  exact ⟨sign_low (fm (by decide)).1 (fm (by decide)).2, rfl⟩
theorem word_len (more : Int) : (wordL more).length ≤ 6 := by
  unfold wordL
  rw [List.length_map, Yu]
  have := fm (a := more) (b := 7) (by decide)
  lia
set_option maxHeartbeats 4000000 in
theorem Ny {Φ : CallSpec} {fz : List Addr} {μ₀ μ : MH} {cell k : Int} {c : Addr} {V : MVars} {names : List Str} {R : MFlow → MVars → MH → Prop} (x : NV cell c V) (v4 : V 4 = some (.int k)) (hk : 0 ≤ k ∧ k < 25) (hc0 : μ₀ c = none) (hcf : c ∉ fz)
    (hx : Ext μ₀ μ) (hc : μ c = some (.list (names.map .str))) (hn : names.length ≤ 100) (h : ∀ μ' V', GoodN (nameF cell k) → NV cell c V' → Ext μ₀ μ' → μ' c = some (.list ((names ++ [nameF cell k]).map .str)) → R .next V' μ') :
    exs G Φ X0 [Zd, Zc, Yt, Ys] fz V R μ := by
  refine seq ?_
  ((try dsimp only [Zd,X9,Qt,Qw,Qu,Qg,Qf,Xf,Xa,X2,X3,Xs,X1,Xd,Xe,Qd,Qs,Qc,Qe,Qx,Xw,Q4,Qr,Qv,Qq,Qb,Qa,Q1,Qh,Q5,Q3,Q0,Q9,Q8,Q7,Q6,Qp,X4,Qn,X5,X6,Qo,args0,Xh,Xg,Xm,Xq,Xr,Xu,Qm,X7,Qi,Qj,Qy,Q2,zgz,zgs,zlc,zln,Nat.reduceAdd,kr0,kr1,kl0,kl1,kz0,x.v0,x.v2,x.v3,v4]); (try simp (discharger := decide) only [Zd,X9,Qt,Qw,Qu,Qg,Qf,Xf,Xa,X2,X3,Xs,X1,Xd,Xe,Qd,Qs,Qc,Qe,Qx,Xw,Q4,Qr,Qv,Qq,Qb,Qa,Q1,Qh,Q5,Q3,Q0,Q9,Q8,Q7,Q6,Qp,X4,Qn,X5,X6,Qo,args0,Xh,Xg,Xo,Xv,Xj,Xl,Xm,Xq,Xr,Xu,Y1,Y4,Qm,X7,X8,Qk,Qi,Qj,Qy,Q2,Y5,zoi,zel,zta,zat,zgz,zgs,zlc,zln,Nat.reduceAdd,zza,znt,zcn,MV.int.injEq,kr0,kr1,kl0,kl1,kz0,x.v0,x.v2,x.v3,v4]))
  have hc2 := fm (a := cell) (b := 2) (by decide)
  rw [Xo (by first|exact dn hd rfl|exact dl hd rfl|omega)]
  ((try dsimp only [X9,Qt,Qw,Qu,Qg,Qf,Xf,Xa,X2,X3,Xs,X1,Xd,Xe,Qd,Qs,Qc,Qe,Qx,Xw,Q4,Qr,Qv,Qq,Qb,Qa,Q1,Qh,Q5,Q3,Q0,Q9,Q8,Q7,Q6,Qp,X4,Qn,X5,X6,Qo,args0,Xh,Xg,Xm,Xq,Xr,Xu,Qm,X7,Qi,Qj,Qy,Q2,zgz,zgs,zlc,zln,Nat.reduceAdd,kr0,kr1,kl0,kl1,kz0]); (try simp (discharger := decide) only [X9,Qt,Qw,Qu,Qg,Qf,Xf,Xa,X2,X3,Xs,X1,Xd,Xe,Qd,Qs,Qc,Qe,Qx,Xw,Q4,Qr,Qv,Qq,Qb,Qa,Q1,Qh,Q5,Q3,Q0,Q9,Q8,Q7,Q6,Qp,X4,Qn,X5,X6,Qo,args0,Xh,Xg,Xo,Xv,Xj,Xl,Xm,Xq,Xr,Xu,Y1,Y4,Qm,X7,X8,Qk,Qi,Qj,Qy,Q2,Y5,zoi,zel,zta,zat,zgz,zgs,zlc,zln,Nat.reduceAdd,zza,znt,zcn,MV.int.injEq,kr0,kr1,kl0,kl1,kz0]))
  unfold nameF at h
  replace h : ∀ μ' V', GoodN (putF (wordF (cell.fdiv 2 + k * 48271 * cell.fmod 2)) (((cell.fdiv 2 + k * 48271 * cell.fmod 2).fdiv 175).fmod ((wordF (cell.fdiv 2 + k * 48271 * cell.fmod 2)).length + 1)).toNat (signS k)) → NV cell c V' → Ext μ₀ μ' → μ' c = some (.list ((names ++ [putF (wordF (cell.fdiv 2 + k * 48271 * cell.fmod 2)) (((cell.fdiv 2 + k * 48271 * cell.fmod 2).fdiv 175).fmod ((wordF (cell.fdiv 2 + k * 48271 * cell.fmod 2)).length + 1)).toNat (signS k)]).map .str)) → R .next V' μ' := h
  generalize cell.fdiv 2 + k * 48271 * cell.fmod 2 = more at h ⊢
  replace x := x.set (i := 5) (by decide) (.int more)
  have v4' : setv V 5 (.int more) 4 = some (.int k) := (Qk (by first | exact nei h rfl | decide)).trans v4
  have v5 : setv V 5 (.int more) 5 = some (.int more) := X8
  generalize setv V 5 (.int more) = V at x v4' v5
  refine seq ?_
  have hm7 := fm (a := more) (b := 7) (by decide)
  ((try dsimp only [Zc,X9,Qt,Qw,Qu,Qg,Qf,Xf,Xa,X2,X3,Xs,X1,Xd,Xe,Qd,Qs,Qc,Qe,Qx,Xw,Q4,Qr,Qv,Qq,Qb,Qa,Q1,Qh,Q5,Q3,Q0,Q9,Q8,Q7,Q6,Qp,X4,Qn,X5,X6,Qo,args0,Xh,Xg,Xm,Xq,Xr,Xu,Qm,X7,Qi,Qj,Qy,Q2,zgz,zgs,zlc,zln,Nat.reduceAdd,kr0,kr1,kl0,kl1,kz0,x.v0,x.v2,x.v3,v5]); (try simp (discharger := decide) only [Zc,X9,Qt,Qw,Qu,Qg,Qf,Xf,Xa,X2,X3,Xs,X1,Xd,Xe,Qd,Qs,Qc,Qe,Qx,Xw,Q4,Qr,Qv,Qq,Qb,Qa,Q1,Qh,Q5,Q3,Q0,Q9,Q8,Q7,Q6,Qp,X4,Qn,X5,X6,Qo,args0,Xh,Xg,Xo,Xv,Xj,Xl,Xm,Xq,Xr,Xu,Y1,Y4,Qm,X7,X8,Qk,Qi,Qj,Qy,Q2,Y5,zoi,zel,zta,zat,zgz,zgs,zlc,zln,Nat.reduceAdd,zza,znt,zcn,MV.int.injEq,kr0,kr1,kl0,kl1,kz0,x.v0,x.v2,x.v3,v5]))
  refine ⟨rfl, .ints (rangeL 0 (more.fmod 7) 1), _, ?_, rfl, ?_, ?_⟩
  · simp only [mkSrc, rangeM]
    rw [if_pos (by simp only [in62, Bool.and_eq_true, decide_eq_true_eq]; omega)]; rfl
  · rw [List.length_map, Yu]; exact fit (by first|exact dn hd rfl|exact dl hd rfl|lia)
  refine Iw MV.int (fun _ => true) (fun j => .str (signS ((more.fdiv 7 + 6 * j).fmod 25))) (fun j _ => ⟨_, rfl, fun F hF => hF, fun F hF => ?_⟩) fun c₂ hc₂ hcf₂ => ?_
  · ((try dsimp only [X9,Qt,Qw,Qu,Qg,Qf,Xf,Xa,X2,X3,Xs,X1,Xd,Xe,Qd,Qs,Qc,Qe,Qx,Xw,Q4,Qr,Qv,Qq,Qb,Qa,Q1,Qh,Q5,Q3,Q0,Q9,Q8,Q7,Q6,Qp,X4,Qn,X5,X6,Qo,args0,Xh,Xg,Xm,Xq,Xr,Xu,Qm,X7,Qi,Qj,Qy,Q2,zgz,zgs,zlc,zln,Nat.reduceAdd,kr0,kr1,kl0,kl1,kz0,x.v0,x.v2,x.v3,v5]); (try simp (discharger := decide) only [X9,Qt,Qw,Qu,Qg,Qf,Xf,Xa,X2,X3,Xs,X1,Xd,Xe,Qd,Qs,Qc,Qe,Qx,Xw,Q4,Qr,Qv,Qq,Qb,Qa,Q1,Qh,Q5,Q3,Q0,Q9,Q8,Q7,Q6,Qp,X4,Qn,X5,X6,Qo,args0,Xh,Xg,Xo,Xv,Xj,Xl,Xm,Xq,Xr,Xu,Y1,Y4,Qm,X7,X8,Qk,Qi,Qj,Qy,Q2,Y5,zoi,zel,zta,zat,zgz,zgs,zlc,zln,Nat.reduceAdd,zza,znt,zcn,MV.int.injEq,kr0,kr1,kl0,kl1,kz0,x.v0,x.v2,x.v3,v5]))
    exact ⟨_, sign_AB (fm (by decide)).1 (fm (by decide)).2, hF⟩
  have hss := word_signs (more := more)
  have hsl := word_len more
  have hwd : wordF more = Txt.join (S "") (wordL more) := rfl
  rw [hwd] at h
  have hcl : ([] ++ ((rangeL 0 (more.fmod 7) 1).filter fun _ => true).map fun j => MV.str (signS ((more.fdiv 7 + 6 * j).fmod 25))) = (wordL more).map .str := by
    rw [List.nil_append, List.filter_eq_self.mpr fun _ _ => rfl]
    unfold wordL
    rw [List.map_map]; rfl
  rw [hcl]
  generalize wordL more = ss at hss hsl h ⊢
  have hsum : (ss.map (·.length)).sum = ss.length := by
    clear hsl h hcl hwd
    induction ss with
    | nil => rfl
    | cons s ss ih => simp only [List.map_cons, List.sum_cons, List.length_cons, (hss s (.head _)).2, ih fun s hs => hss s (.tail _ hs)]; lia
  refine ⟨ss.map .str, ss, Zw Qz, Zt ss, by decide, by lia, ?_⟩
  have hwl : Low (Txt.join (S "") ss) := Low.join fun s hs => (hss s hs).1
  have hwn : (Txt.join (S "") ss).length = ss.length := len_join fun s hs => (hss s hs).2
  generalize Txt.join (S "") ss = word at hwl hwn h ⊢
  have hcc : c ≠ c₂ := Y2 hc hc₂
  have hx' : Ext μ₀ (upd μ c₂ (.list (ss.map .str))) := hx.trans (Ext.upd hc₂)
  have hc' : upd μ c₂ (.list (ss.map .str)) c = some (.list (names.map .str)) := by rw [Y8 hcc]; exact hc
  replace x := x.set (i := 6) (by decide) (.str word)
  have w4 : setv V 6 (.str word) 4 = some (.int k) := (Qk (by first | exact nei h rfl | decide)).trans v4'
  have w5 : setv V 6 (.str word) 5 = some (.int more) := (Qk (by first | exact nei h rfl | decide)).trans v5
  have w6 : setv V 6 (.str word) 6 = some (.str word) := X8
  show exs G Φ X0 [Yt, Ys] fz (setv V 6 (.str word)) R _
  generalize setv V 6 (.str word) = V at x w4 w5 w6 ⊢
  generalize upd μ c₂ (.list (ss.map .str)) = μ at hx' hc' ⊢
  refine seq ?_
  ((try dsimp only [Yt,X9,Qt,Qw,Qu,Qg,Qf,Xf,Xa,X2,X3,Xs,X1,Xd,Xe,Qd,Qs,Qc,Qe,Qx,Xw,Q4,Qr,Qv,Qq,Qb,Qa,Q1,Qh,Q5,Q3,Q0,Q9,Q8,Q7,Q6,Qp,X4,Qn,X5,X6,Qo,args0,Xh,Xg,Xm,Xq,Xr,Xu,Qm,X7,Qi,Qj,Qy,Q2,zgz,zgs,zlc,zln,Nat.reduceAdd,kr0,kr1,kl0,kl1,kz0,w5,w6]); (try simp (discharger := decide) only [Yt,X9,Qt,Qw,Qu,Qg,Qf,Xf,Xa,X2,X3,Xs,X1,Xd,Xe,Qd,Qs,Qc,Qe,Qx,Xw,Q4,Qr,Qv,Qq,Qb,Qa,Q1,Qh,Q5,Q3,Q0,Q9,Q8,Q7,Q6,Qp,X4,Qn,X5,X6,Qo,args0,Xh,Xg,Xo,Xv,Xj,Xl,Xm,Xq,Xr,Xu,Y1,Y4,Qm,X7,X8,Qk,Qi,Qj,Qy,Q2,Y5,zoi,zel,zta,zat,zgz,zgs,zlc,zln,Nat.reduceAdd,zza,znt,zcn,MV.int.injEq,kr0,kr1,kl0,kl1,kz0,w5,w6]))
  rw [bi_len_str]
  refine ⟨fit (by first|exact dn hd rfl|exact dl hd rfl|lia), ?_⟩
  ((try dsimp only [X9,Qt,Qw,Qu,Qg,Qf,Xf,Xa,X2,X3,Xs,X1,Xd,Xe,Qd,Qs,Qc,Qe,Qx,Xw,Q4,Qr,Qv,Qq,Qb,Qa,Q1,Qh,Q5,Q3,Q0,Q9,Q8,Q7,Q6,Qp,X4,Qn,X5,X6,Qo,args0,Xh,Xg,Xm,Xq,Xr,Xu,Qm,X7,Qi,Qj,Qy,Q2,zgz,zgs,zlc,zln,Nat.reduceAdd,kr0,kr1,kl0,kl1,kz0]); (try simp (discharger := decide) only [X9,Qt,Qw,Qu,Qg,Qf,Xf,Xa,X2,X3,Xs,X1,Xd,Xe,Qd,Qs,Qc,Qe,Qx,Xw,Q4,Qr,Qv,Qq,Qb,Qa,Q1,Qh,Q5,Q3,Q0,Q9,Q8,Q7,Q6,Qp,X4,Qn,X5,X6,Qo,args0,Xh,Xg,Xo,Xv,Xj,Xl,Xm,Xq,Xr,Xu,Y1,Y4,Qm,X7,X8,Qk,Qi,Qj,Qy,Q2,Y5,zoi,zel,zta,zat,zgz,zgs,zlc,zln,Nat.reduceAdd,zza,znt,zcn,MV.int.injEq,kr0,kr1,kl0,kl1,kz0]))
  rw [Xl (by first|exact dn hd rfl|exact dl hd rfl|simp)]
  have hat := fm (a := more.fdiv 175) (b := (word.length : Int) + 1) (by first|exact dn hd rfl|exact dl hd rfl|simp)
  generalize (more.fdiv 175).fmod ((word.length : Int) + 1) = pl at hat h ⊢
  replace x := x.set (i := 7) (by decide) (.int pl)
  have u4 : setv V 7 (.int pl) 4 = some (.int k) := (Qk (by first | exact nei h rfl | decide)).trans w4
  have u6 : setv V 7 (.int pl) 6 = some (.str word) := (Qk (by first | exact nei h rfl | decide)).trans w6
  have u7 : setv V 7 (.int pl) 7 = some (.int pl) := X8
  generalize setv V 7 (.int pl) = V at x u4 u6 u7 ⊢
  refine seq ?_
  ((try dsimp only [Ys,X9,Qt,Qw,Qu,Qg,Qf,Xf,Xa,X2,X3,Xs,X1,Xd,Xe,Qd,Qs,Qc,Qe,Qx,Xw,Q4,Qr,Qv,Qq,Qb,Qa,Q1,Qh,Q5,Q3,Q0,Q9,Q8,Q7,Q6,Qp,X4,Qn,X5,X6,Qo,args0,Xh,Xg,Xm,Xq,Xr,Xu,Qm,X7,Qi,Qj,Qy,Q2,zgz,zgs,zlc,zln,Nat.reduceAdd,kr0,kr1,kl0,kl1,kz0,x.v3,x.v2,u4,u6,u7]); (try simp (discharger := decide) only [Ys,X9,Qt,Qw,Qu,Qg,Qf,Xf,Xa,X2,X3,Xs,X1,Xd,Xe,Qd,Qs,Qc,Qe,Qx,Xw,Q4,Qr,Qv,Qq,Qb,Qa,Q1,Qh,Q5,Q3,Q0,Q9,Q8,Q7,Q6,Qp,X4,Qn,X5,X6,Qo,args0,Xh,Xg,Xo,Xv,Xj,Xl,Xm,Xq,Xr,Xu,Y1,Y4,Qm,X7,X8,Qk,Qi,Qj,Qy,Q2,Y5,zoi,zel,zta,zat,zgz,zgs,zlc,zln,Nat.reduceAdd,zza,znt,zcn,MV.int.injEq,kr0,kr1,kl0,kl1,kz0,x.v3,x.v2,u4,u6,u7]))
  refine ⟨Be hc', ?_⟩
  have hwc := Xy word
  refine Je rfl rfl rfl (by simp) (fit (by first|exact dn hd rfl|exact dl hd rfl|lia)) ?_
  rw [Py _ hat.1 (by first|exact dn hd rfl|exact dl hd rfl|lia), b_adds]
  have l1 : Str.length ⟨(word.cps.toList.take pl.toNat).toArray⟩ = pl.toNat := by simp [Xy]; rw [Xy] at hat; simp at hat; lia
  have lz : (Str.ofString "z").length = 1 := z_len
  refine ⟨fit (by rw [l1, lz]; lia), ?_⟩
  refine ⟨_, sign_AB hk.1 hk.2, ?_⟩
  have hy := sign_low hk.1 hk.2
  have hyl : (signS k).length = 1 := rfl
  unfold putF at h
  generalize signS k = y at hy hyl h ⊢
  rw [b_adds]
  refine ⟨fit (by rw [Xx, l1, hyl, lz]; lia), ?_⟩
  refine Je rfl rfl rfl (by simp) (fit (by first|exact dn hd rfl|exact dl hd rfl|lia)) ?_
  rw [Jl _ hat.1 (by first|exact dn hd rfl|exact dl hd rfl|lia), b_adds]
  have l2 : Str.length ⟨(word.cps.toList.drop pl.toNat).toArray⟩ = word.length - pl.toNat := by simp [Xy]
  have hlen : (({ cps := (word.cps.toList.take pl.toNat).toArray } ++ S "z" ++ y ++ { cps := (word.cps.toList.drop pl.toNat).toArray } : Str)).length = word.length + 2 := by
    rw [Xx, Xx, Xx, l1, l2, hyl, lz]; lia
  refine ⟨fit (by rw [Xx, Xx, l1, l2, hyl, lz]; lia), ?_⟩
  have hlow : Low ({ cps := (word.cps.toList.take pl.toNat).toArray } ++ S "z" ++ y ++ { cps := (word.cps.toList.drop pl.toNat).toArray } : Str) := (((hwl.take _).append z_low).append hy).append (hwl.drop _)
  generalize ({ cps := (word.cps.toList.take pl.toNat).toArray } ++ S "z" ++ y ++ { cps := (word.cps.toList.drop pl.toNat).toArray } : Str) = w at hlen hlow h ⊢
  refine ⟨_, hc', hcf, fit (by simp; exact Nat.le_trans (by assumption) (by decide)), ?_⟩
  (try dsimp only [kr0])
  refine Yw (h _ V ⟨by rw [hlen]; simp, by rw [hlen]; simp [*], hlow⟩ x ?_ ?_)
  · intro b o e
    rw [Y8 (Y2 e hc0)]; exact hx' b o e
  · rw [Qz]; simp
end Mine
end
section
namespace Mine
open PySem
variable {G : String → Option MV} {Γ : String → Option MFun}
theorem GoodN.rev {x : Str} (h : GoodN x) : GoodN ⟨x.cps.toList.reverse.toArray⟩ := by
  obtain ⟨h1, h2, h3⟩ := h
  refine ⟨?_, ?_, fun c hc => h3 c (by simpa using hc)⟩
  · simpa [Str.length] using h1
  · simpa [Str.length] using h2
theorem GoodN.ok {x : Str} (h : GoodN x) : PyData.strOk x = true := Low.ok (s := x) h.2.2
theorem Aj {μ : MH} {n : Nat} : ∀ {ss : List Str}, (∀ s ∈ ss, PyData.strOk s = true) → (ss.map MV.str).mapM (deep μ n) = some (ss.map PyData.str)
  | [] => fun _ => rfl
  | s :: ss => fun h => by
    have ih := Aj (μ := μ) (n := n) fun s hs => h s (.tail _ hs)
    rw [List.map_cons, List.mapM_cons, ih]
    have : deep μ n (.str s) = some (.str s) := by cases n <;> simp [deep, h s (.head _)]
    rw [this]; rfl
noncomputable def names3 (cell : Int) : List Str := [nameF cell 0, nameF cell 1, nameF cell 2]
noncomputable def revS (x : Str) : Str := ⟨x.cps.toList.reverse.toArray⟩
noncomputable def swapF (cell : Int) : Bool := (cell.fmod 5 == 3) && !((names3 cell).map PyData.str).any (fun y => PyData.eqv y (.str (revS (nameF cell 0))))
noncomputable def namesF (cell : Int) : List Str := if swapF cell then (names3 cell).set 1 (revS (nameF cell 0)) else names3 cell
theorem Hm {d : Nat} {fz : List Addr} {Q : MQ} {μ : MH} {cell : Int} (hΓ : Γ "_law_names" = some K1) (hd : 1 ≤ d)
    (h : ∀ (c : Addr) (μ' : MH), Ext μ μ' → μ c = none → c ∉ fz → μ' c = some (.list ((namesF cell).map .str)) → (namesF cell).length = 3 → (∀ nm ∈ namesF cell, GoodN nm) → Q (.ref c) μ') : calls G Γ d "_law_names" [.int cell, .int 3] fz Q X0 μ := by
  refine Y3 hΓ rfl hd (seq ?_)
  ((try dsimp only [Ka,X9,Qt,Qw,Qu,Qg,Qf,Xf,Xa,X2,X3,Xs,X1,Xd,Xe,Qd,Qs,Qc,Qe,Qx,Xw,Q4,Qr,Qv,Qq,Qb,Qa,Q1,Qh,Q5,Q3,Q0,Q9,Q8,Q7,Q6,Qp,X4,Qn,X5,X6,Qo,args0,Xh,Xg,Xm,Xq,Xr,Xu,Qm,X7,Qi,Qj,Qy,Q2,zgz,zgs,zlc,zln,Nat.reduceAdd,kr0,kr1,kl0,kl1,kz0]); (try simp (discharger := decide) only [Ka,X9,Qt,Qw,Qu,Qg,Qf,Xf,Xa,X2,X3,Xs,X1,Xd,Xe,Qd,Qs,Qc,Qe,Qx,Xw,Q4,Qr,Qv,Qq,Qb,Qa,Q1,Qh,Q5,Q3,Q0,Q9,Q8,Q7,Q6,Qp,X4,Qn,X5,X6,Qo,args0,Xh,Xg,Xo,Xv,Xj,Xl,Xm,Xq,Xr,Xu,Y1,Y4,Qm,X7,X8,Qk,Qi,Qj,Qy,Q2,Y5,zoi,zel,zta,zat,zgz,zgs,zlc,zln,Nat.reduceAdd,zza,znt,zcn,MV.int.injEq,kr0,kr1,kl0,kl1,kz0]))
  refine seq ?_
  ((try dsimp only [K9,X9,Qt,Qw,Qu,Qg,Qf,Xf,Xa,X2,X3,Xs,X1,Xd,Xe,Qd,Qs,Qc,Qe,Qx,Xw,Q4,Qr,Qv,Qq,Qb,Qa,Q1,Qh,Q5,Q3,Q0,Q9,Q8,Q7,Q6,Qp,X4,Qn,X5,X6,Qo,args0,Xh,Xg,Xm,Xq,Xr,Xu,Qm,X7,Qi,Qj,Qy,Q2,zgz,zgs,zlc,zln,Nat.reduceAdd,kr0,kr1,kl0,kl1,kz0]); (try simp (discharger := decide) only [K9,X9,Qt,Qw,Qu,Qg,Qf,Xf,Xa,X2,X3,Xs,X1,Xd,Xe,Qd,Qs,Qc,Qe,Qx,Xw,Q4,Qr,Qv,Qq,Qb,Qa,Q1,Qh,Q5,Q3,Q0,Q9,Q8,Q7,Q6,Qp,X4,Qn,X5,X6,Qo,args0,Xh,Xg,Xo,Xv,Xj,Xl,Xm,Xq,Xr,Xu,Y1,Y4,Qm,X7,X8,Qk,Qi,Qj,Qy,Q2,Y5,zoi,zel,zta,zat,zgz,zgs,zlc,zln,Nat.reduceAdd,zza,znt,zcn,MV.int.injEq,kr0,kr1,kl0,kl1,kz0]))
  intro c hc hcf
  refine seq ?_
  ((try dsimp only [K8,X9,Qt,Qw,Qu,Qg,Qf,Xf,Xa,X2,X3,Xs,X1,Xd,Xe,Qd,Qs,Qc,Qe,Qx,Xw,Q4,Qr,Qv,Qq,Qb,Qa,Q1,Qh,Q5,Q3,Q0,Q9,Q8,Q7,Q6,Qp,X4,Qn,X5,X6,Qo,args0,Xh,Xg,Xm,Xq,Xr,Xu,Qm,X7,Qi,Qj,Qy,Q2,zgz,zgs,zlc,zln,Nat.reduceAdd,kr0,kr1,kl0,kl1,kz0]); (try simp (discharger := decide) only [K8,X9,Qt,Qw,Qu,Qg,Qf,Xf,Xa,X2,X3,Xs,X1,Xd,Xe,Qd,Qs,Qc,Qe,Qx,Xw,Q4,Qr,Qv,Qq,Qb,Qa,Q1,Qh,Q5,Q3,Q0,Q9,Q8,Q7,Q6,Qp,X4,Qn,X5,X6,Qo,args0,Xh,Xg,Xo,Xv,Xj,Xl,Xm,Xq,Xr,Xu,Y1,Y4,Qm,X7,X8,Qk,Qi,Qj,Qy,Q2,Y5,zoi,zel,zta,zat,zgz,zgs,zlc,zln,Nat.reduceAdd,zza,znt,zcn,MV.int.injEq,kr0,kr1,kl0,kl1,kz0]))
  refine ⟨.ints [0, 1, 2], _, rfl, rfl, fit (by decide), ?_⟩
  simp only [List.map_cons, List.map_nil, Hj, Zn, Src.held, List.nil_append]
  refine ⟨_, rfl, ?_⟩
  refine Ny (names := []) (c := c) (cell := cell) ⟨rfl, rfl, rfl⟩ X8 (by decide) hc hcf (Ext.upd hc) Qz (by decide) fun μ0 V0 g0 x0 e0 c0 => ?_
  refine ⟨_, rfl, ?_⟩
  refine Ny (x0.set (by first|exact dn hd rfl|exact dl hd rfl|exact Nat.le_refl _) _) X8 (by decide) hc hcf e0 c0 (by simp) fun μ1 V1 g1 x1 e1 c1 => ?_
  refine ⟨_, rfl, ?_⟩
  refine Ny (x1.set (by first|exact dn hd rfl|exact dl hd rfl|exact Nat.le_refl _) _) X8 (by decide) hc hcf e1 c1 (by simp) fun μ2 V2 g2 x2 e2 c2 => ?_
  unfold namesF swapF names3 at h
  replace c2 : μ2 c = some (.list ([nameF cell 0, nameF cell 1, nameF cell 2].map .str)) := c2
  clear c1 c0 e1 e0 x1 x0
  generalize nameF cell 0 = w0 at g0 c2 h
  generalize nameF cell 1 = w1 at g1 c2 h
  generalize nameF cell 2 = w2 at g2 c2 h
  have hall : ∀ nm ∈ [w0, w1, w2], GoodN nm := by
    intro nm hm; simp only [List.mem_cons, List.not_mem_nil, or_false] at hm; rcases hm with rfl | rfl | rfl <;> assumption
  have i0 : idxM μ2 (.ref c) (.int 0) = some (.str w0) := by rw [Zx c2 (show 3 ≤ 2 ^ 20 by decide)]; rfl
  have fin : ∀ b : Bool, ((cell.fmod 5 == 3) && !([w0, w1, w2].map PyData.str).any fun y => PyData.eqv y (.str (revS w0))) = b → b = false → exs G (calls G Γ (d - 1)) X0 [Yv] fz V2 (kz Q) μ2 := fun b hb hf => by
    rw [hb, hf] at h
    refine seq ?_
    ((try dsimp only [Yv,X9,Qt,Qw,Qu,Qg,Qf,Xf,Xa,X2,X3,Xs,X1,Xd,Xe,Qd,Qs,Qc,Qe,Qx,Xw,Q4,Qr,Qv,Qq,Qb,Qa,Q1,Qh,Q5,Q3,Q0,Q9,Q8,Q7,Q6,Qp,X4,Qn,X5,X6,Qo,args0,Xh,Xg,Xm,Xq,Xr,Xu,Qm,X7,Qi,Qj,Qy,Q2,zgz,zgs,zlc,zln,Nat.reduceAdd,kr0,kr1,kl0,kl1,kz0,x2.v3]); (try simp (discharger := decide) only [Yv,X9,Qt,Qw,Qu,Qg,Qf,Xf,Xa,X2,X3,Xs,X1,Xd,Xe,Qd,Qs,Qc,Qe,Qx,Xw,Q4,Qr,Qv,Qq,Qb,Qa,Q1,Qh,Q5,Q3,Q0,Q9,Q8,Q7,Q6,Qp,X4,Qn,X5,X6,Qo,args0,Xh,Xg,Xo,Xv,Xj,Xl,Xm,Xq,Xr,Xu,Y1,Y4,Qm,X7,X8,Qk,Qi,Qj,Qy,Q2,Y5,zoi,zel,zta,zat,zgz,zgs,zlc,zln,Nat.reduceAdd,zza,znt,zcn,MV.int.injEq,kr0,kr1,kl0,kl1,kz0,x2.v3]))
    exact h c μ2 e2 hc hcf c2 rfl hall
  refine seq ?_
  ((try dsimp only [K7,X9,Qt,Qw,Qu,Qg,Qf,Xf,Xa,X2,X3,Xs,X1,Xd,Xe,Qd,Qs,Qc,Qe,Qx,Xw,Q4,Qr,Qv,Qq,Qb,Qa,Q1,Qh,Q5,Q3,Q0,Q9,Q8,Q7,Q6,Qp,X4,Qn,X5,X6,Qo,args0,Xh,Xg,Xm,Xq,Xr,Xu,Qm,X7,Qi,Qj,Qy,Q2,zgz,zgs,zlc,zln,Nat.reduceAdd,kr0,kr1,kl0,kl1,kz0,x2.v0,x2.v3]); (try simp (discharger := decide) only [K7,X9,Qt,Qw,Qu,Qg,Qf,Xf,Xa,X2,X3,Xs,X1,Xd,Xe,Qd,Qs,Qc,Qe,Qx,Xw,Q4,Qr,Qv,Qq,Qb,Qa,Q1,Qh,Q5,Q3,Q0,Q9,Q8,Q7,Q6,Qp,X4,Qn,X5,X6,Qo,args0,Xh,Xg,Xo,Xv,Xj,Xl,Xm,Xq,Xr,Xu,Y1,Y4,Qm,X7,X8,Qk,Qi,Qj,Qy,Q2,Y5,zoi,zel,zta,zat,zgz,zgs,zlc,zln,Nat.reduceAdd,zza,znt,zcn,MV.int.injEq,kr0,kr1,kl0,kl1,kz0,x2.v0,x2.v3]))
  cases q5 : (cell.fmod 5 == 3) with
  | false =>
    simp only [Bool.false_eq_true, if_false]
    exact Yw (fin _ rfl (by rw [q5]; rfl))
  | true =>
    simp only [if_true]
    ((try dsimp only [X9,Qt,Qw,Qu,Qg,Qf,Xf,Xa,X2,X3,Xs,X1,Xd,Xe,Qd,Qs,Qc,Qe,Qx,Xw,Q4,Qr,Qv,Qq,Qb,Qa,Q1,Qh,Q5,Q3,Q0,Q9,Q8,Q7,Q6,Qp,X4,Qn,X5,X6,Qo,args0,Xh,Xg,Xm,Xq,Xr,Xu,Qm,X7,Qi,Qj,Qy,Q2,zgz,zgs,zlc,zln,Nat.reduceAdd,kr0,kr1,kl0,kl1,kz0,x2.v3,i0]); (try simp (discharger := decide) only [X9,Qt,Qw,Qu,Qg,Qf,Xf,Xa,X2,X3,Xs,X1,Xd,Xe,Qd,Qs,Qc,Qe,Qx,Xw,Q4,Qr,Qv,Qq,Qb,Qa,Q1,Qh,Q5,Q3,Q0,Q9,Q8,Q7,Q6,Qp,X4,Qn,X5,X6,Qo,args0,Xh,Xg,Xo,Xv,Xj,Xl,Xm,Xq,Xr,Xu,Y1,Y4,Qm,X7,X8,Qk,Qi,Qj,Qy,Q2,Y5,zoi,zel,zta,zat,zgz,zgs,zlc,zln,Nat.reduceAdd,zza,znt,zcn,MV.int.injEq,kr0,kr1,kl0,kl1,kz0,x2.v3,i0]))
    refine Je rfl rfl rfl (by simp) (fit (Nat.le_trans g0.2.1 (by decide))) ?_
    rw [pick_rev]
    have hr := g0.rev
    replace h : ∀ (c : Addr) (μ' : MH), Ext μ μ' → μ c = none → c ∉ fz → μ' c = some (.list ((if ((cell.fmod 5 == 3) && !([w0, w1, w2].map PyData.str).any fun y => PyData.eqv y (.str ⟨w0.cps.toList.reverse.toArray⟩)) = true then [w0, w1, w2].set 1 ⟨w0.cps.toList.reverse.toArray⟩ else [w0, w1, w2]).map .str)) → (if ((cell.fmod 5 == 3) && !([w0, w1, w2].map PyData.str).any fun y => PyData.eqv y (.str ⟨w0.cps.toList.reverse.toArray⟩)) = true then [w0, w1, w2].set 1 ⟨w0.cps.toList.reverse.toArray⟩ else [w0, w1, w2]).length = 3 → (∀ nm ∈ if ((cell.fmod 5 == 3) && !([w0, w1, w2].map PyData.str).any fun y => PyData.eqv y (.str ⟨w0.cps.toList.reverse.toArray⟩)) = true then [w0, w1, w2].set 1 ⟨w0.cps.toList.reverse.toArray⟩ else [w0, w1, w2], GoodN nm) → Q (.ref c) μ' := h
    have hd1 : deep μ2 9 (.ref c) = some (.list ([w0, w1, w2].map .str)) := by
      simp only [deep, Zw c2, Aj fun s hs => (hall s hs).ok]; rfl
    have hd2 : deep μ2 9 (.str ⟨w0.cps.toList.reverse.toArray⟩) = some (.str ⟨w0.cps.toList.reverse.toArray⟩) := by simp only [deep, hr.ok]; rfl
    refine ⟨_, congrArg (Option.map (!·)) (in_list c2 hd1 hd2), ?_⟩
    cases q : ([w0, w1, w2].map PyData.str).any fun y => PyData.eqv y (.str ⟨w0.cps.toList.reverse.toArray⟩) with
    | true =>
      simp only [Bool.not_true, Bool.false_eq_true, if_false]
      exact Yw (fin _ rfl (by rw [show revS w0 = ⟨w0.cps.toList.reverse.toArray⟩ from rfl, q, Bool.not_true, Bool.and_false]))
    | false =>
      rw [q5, q] at h
      simp only [Bool.not_false, if_true]
      refine seq ?_
      ((try dsimp only [Jf,X9,Qt,Qw,Qu,Qg,Qf,Xf,Xa,X2,X3,Xs,X1,Xd,Xe,Qd,Qs,Qc,Qe,Qx,Xw,Q4,Qr,Qv,Qq,Qb,Qa,Q1,Qh,Q5,Q3,Q0,Q9,Q8,Q7,Q6,Qp,X4,Qn,X5,X6,Qo,args0,Xh,Xg,Xm,Xq,Xr,Xu,Qm,X7,Qi,Qj,Qy,Q2,zgz,zgs,zlc,zln,Nat.reduceAdd,kr0,kr1,kl0,kl1,kz0,x2.v3,i0]); (try simp (discharger := decide) only [Jf,X9,Qt,Qw,Qu,Qg,Qf,Xf,Xa,X2,X3,Xs,X1,Xd,Xe,Qd,Qs,Qc,Qe,Qx,Xw,Q4,Qr,Qv,Qq,Qb,Qa,Q1,Qh,Q5,Q3,Q0,Q9,Q8,Q7,Q6,Qp,X4,Qn,X5,X6,Qo,args0,Xh,Xg,Xo,Xv,Xj,Xl,Xm,Xq,Xr,Xu,Y1,Y4,Qm,X7,X8,Qk,Qi,Qj,Qy,Q2,Y5,zoi,zel,zta,zat,zgz,zgs,zlc,zln,Nat.reduceAdd,zza,znt,zcn,MV.int.injEq,kr0,kr1,kl0,kl1,kz0,x2.v3,i0]))
      refine Je rfl rfl rfl (by simp) (fit (Nat.le_trans g0.2.1 (by decide))) ?_
      rw [pick_rev]
      clear fin hd1 hd2 q
      generalize (⟨w0.cps.toList.reverse.toArray⟩ : Str) = rv at hr h ⊢
      refine Oi c2 hcf (fit (show 3 ≤ 100000 by decide)) (by decide) (show (1 : Int) < 3 by decide) (Yw (seq ?_))
      ((try dsimp only [Yv,X9,Qt,Qw,Qu,Qg,Qf,Xf,Xa,X2,X3,Xs,X1,Xd,Xe,Qd,Qs,Qc,Qe,Qx,Xw,Q4,Qr,Qv,Qq,Qb,Qa,Q1,Qh,Q5,Q3,Q0,Q9,Q8,Q7,Q6,Qp,X4,Qn,X5,X6,Qo,args0,Xh,Xg,Xm,Xq,Xr,Xu,Qm,X7,Qi,Qj,Qy,Q2,zgz,zgs,zlc,zln,Nat.reduceAdd,kr0,kr1,kl0,kl1,kz0,x2.v3]); (try simp (discharger := decide) only [Yv,X9,Qt,Qw,Qu,Qg,Qf,Xf,Xa,X2,X3,Xs,X1,Xd,Xe,Qd,Qs,Qc,Qe,Qx,Xw,Q4,Qr,Qv,Qq,Qb,Qa,Q1,Qh,Q5,Q3,Q0,Q9,Q8,Q7,Q6,Qp,X4,Qn,X5,X6,Qo,args0,Xh,Xg,Xo,Xv,Xj,Xl,Xm,Xq,Xr,Xu,Y1,Y4,Qm,X7,X8,Qk,Qi,Qj,Qy,Q2,Y5,zoi,zel,zta,zat,zgz,zgs,zlc,zln,Nat.reduceAdd,zza,znt,zcn,MV.int.injEq,kr0,kr1,kl0,kl1,kz0,x2.v3]))
      refine h c _ (fun b o e => by rw [Y8 (Y2 e hc)]; exact e2 b o e) hc hcf (by rw [Qz]; rfl) rfl fun nm hm => ?_
      rcases List.mem_or_eq_of_mem_set hm with q | rfl
      · exact hall _ q
      · exact hr
end Mine
end
section
namespace Mine
open PySem
variable {G : String → Option MV} {Γ : String → Option MFun}
noncomputable def gapOf (ns : List Int) : Int := 1 + ((at0 ns 0).fdiv 4).fmod 3
noncomputable def manyOf (ns : List Int) (many : Int) : Nat := (min many ((ns.length : Int) - 4)).toNat
noncomputable def BookOk (ns : List Int) (many : Int) (kvs : List (Int × MV)) : Prop :=
  ∃ (names : List Str) (rows : List (Int × MV)) (cut : Nat), names.length = 3 ∧ (∀ nm ∈ names, GoodN nm) ∧ rows.map (·.1) = (List.range (manyOf ns many)).map (fun (k : Nat) => 1 + (k : Int) * gapOf ns) ∧ (∀ p ∈ rows, GoodE names p.1 p.2) ∧
    cut ≤ rows.length ∧ kvs = rows.drop cut ++ rows.take cut ∧ names = namesF (at0 ns 1)
noncomputable def rowV (p : Int × MV) : MV := .tup [.int p.1, p.2]
theorem C0 : ∀ (l : List (Int × MV)), pairsI (l.map rowV) = some l
  | [] => rfl
  | p :: l => by
    have := C0 l
    unfold pairsI at this ⊢
    rw [List.map_cons, List.mapM_cons, this]; rfl
theorem put_new {K : Type} [DecidableEq K] {l : List (K × MV)} {k : K} {v : MV} (h : k ∉ l.map (·.1)) : putI l k v = l ++ [(k, v)] := by
  unfold putI
  rw [if_neg]
  simp only [List.any_eq_true, decide_eq_true_eq, not_exists, not_and]
  exact fun p hp e => h (e ▸ List.mem_map_of_mem hp)
theorem put_all {K : Type} [DecidableEq K] : ∀ {l acc : List (K × MV)}, ((acc ++ l).map (·.1)).Nodup → l.foldl (fun d kv => putI d kv.1 kv.2) acc = acc ++ l
  | [], acc => fun _ => by simp
  | p :: l, acc => fun h => by
    have hp : p.1 ∉ acc.map (·.1) := by
      rw [List.map_append, List.nodup_append] at h
      exact fun m => h.2.2 _ m _ (by simp) rfl
    rw [List.foldl_cons, put_new hp, put_all (by simpa using h)]
    simp
structure BV (a nm r : Addr) (gap : Int) (V : MVars) : Prop where
  v0 : V 0 = some (.ref a)
  v2 : V 2 = some (.ref nm)
  v3 : V 3 = some (.int gap)
  v4 : V 4 = some (.ref r)
theorem BV.set {a nm r : Addr} {gap : Int} {V : MVars} (x : BV a nm r gap V) {i : Nat} (h : 5 ≤ i) (v : MV) : BV a nm r gap (setv V i v) :=
  ⟨(Qk (by first | exact nei h rfl | decide)).trans x.v0, (Qk (by first | exact nei h rfl | decide)).trans x.v2, (Qk (by first | exact nei h rfl | decide)).trans x.v3, (Qk (by first | exact nei h rfl | decide)).trans x.v4⟩
theorem base_rng (ns : List Int) : 0 ≤ baseOf ns ∧ baseOf ns ≤ 1000000 := by
  have := Bc (l := [0, 7, 300, 999982]) (k := (at0 ns 0).fmod 4) (fm (by decide)).1 (fm (b := 4) (by decide)).2
  unfold baseOf
  exact of_decide_eq_true (all_of (P := fun y => decide (0 ≤ y ∧ y ≤ 1000000)) this rfl)
theorem Hs (ns : List Int) : 1 ≤ gapOf ns ∧ gapOf ns ≤ 3 := by
  have := fm (a := (at0 ns 0).fdiv 4) (b := 3) (by decide)
  unfold gapOf; omega
theorem at_script {μ : MH} {a : Addr} {ns : List Int} {k : Int} (ha : μ a = some (.list (ns.map .int))) (hn : ns.length ≤ 63) (h0 : 0 ≤ k) (h1 : k < ns.length) {Q : MV → Prop} (h : Q (.int (at0 ns k))) : ∃ v, idxM μ (.ref a) (.int k) = some v ∧ Q v :=
  ⟨_, by rw [Zx ha (by simp; exact Nat.le_trans (by assumption) (by decide))]; exact H4 h0 h1, h⟩
theorem Fp {d : Nat} {a nm r : Addr} {fz : List Addr} {μ₁ : MH} {ns : List Int} {names : List Str} {R : MFlow → MVars → MH → Prop} (hΓ₁ : Γ "_law_of" = some Kw) (hΓ₂ : Γ "_law_base" = some Jw) (hΓ₃ : Γ "_law_entry" = some Jd) (hd : 2 ≤ d)
    (ha : μ₁ a = some (.list (ns.map .int))) (hn : ns.length ≤ 63) (hnm : μ₁ nm = some (.list (names.map .str))) (h3 : names.length = 3) (hr : μ₁ r = none) (hrf : r ∉ fz) :
    ∀ (j i : Nat) (V : MVars) (μ : MH) (rows : List (Int × MV)), (j = 0 ∨ (i : Int) + j ≤ (ns.length : Int) - 4) → i + j ≤ 100 → BV a nm r (gapOf ns) V → Ext μ₁ μ → μ r = some (.list (rows.map rowV)) → rows.map (·.1) = (List.range i).map (fun (k : Nat) => 1 + (k : Int) * gapOf ns) → (∀ p ∈ rows, GoodE names p.1 p.2) →
      (∀ (V' : MVars) (μ' : MH) (rows' : List (Int × MV)), BV a nm r (gapOf ns) V' → Ext μ₁ μ' → μ' r = some (.list (rows'.map rowV)) → rows'.map (·.1) = (List.range (i + j)).map (fun (k : Nat) => 1 + (k : Int) * gapOf ns) → (∀ p ∈ rows', GoodE names p.1 p.2) → R .next V' μ') →
      loopM (.one 5) (fun vs F μ => exs G (calls G Γ d) X0 [Zq, Zp] fz vs F μ) R ((List.range' i j).map fun (k : Nat) => MV.int k) V μ
  | 0 => fun i V μ rows _ _ x hx hm hk hg h => by
    simp only [List.range'_zero, List.map_nil, Hj, Zn]
    exact h V μ rows x hx hm hk hg
  | j + 1 => fun i V μ rows hj hs x hx hm hk hg h => by
    simp only [List.range'_succ, List.map_cons, Hj, Zn]
    refine ⟨_, rfl, ?_⟩
    have gp := Hs ns
    have hlen : rows.length = i := by have := congrArg List.length hk; simpa using this
    replace x := x.set (i := 5) (by decide) (.int i)
    have v5 : setv V 5 (.int i) 5 = some (.int i) := X8
    generalize setv V 5 (.int i) = V at x v5 ⊢
    refine seq ?_
    ((try dsimp only [Zq,X9,Qt,Qw,Qu,Qg,Qf,Xf,Xa,X2,X3,Xs,X1,Xd,Xe,Qd,Qs,Qc,Qe,Qx,Xw,Q4,Qr,Qv,Qq,Qb,Qa,Q1,Qh,Q5,Q3,Q0,Q9,Q8,Q7,Q6,Qp,X4,Qn,X5,X6,Qo,args0,Xh,Xg,Xm,Xq,Xr,Xu,Qm,X7,Qi,Qj,Qy,Q2,zgz,zgs,zlc,zln,Nat.reduceAdd,kr0,kr1,kl0,kl1,kz0,x.v3,v5]); (try simp (discharger := decide) only [Zq,X9,Qt,Qw,Qu,Qg,Qf,Xf,Xa,X2,X3,Xs,X1,Xd,Xe,Qd,Qs,Qc,Qe,Qx,Xw,Q4,Qr,Qv,Qq,Qb,Qa,Q1,Qh,Q5,Q3,Q0,Q9,Q8,Q7,Q6,Qp,X4,Qn,X5,X6,Qo,args0,Xh,Xg,Xo,Xv,Xj,Xl,Xm,Xq,Xr,Xu,Y1,Y4,Qm,X7,X8,Qk,Qi,Qj,Qy,Q2,Y5,zoi,zel,zta,zat,zgz,zgs,zlc,zln,Nat.reduceAdd,zza,znt,zcn,MV.int.injEq,kr0,kr1,kl0,kl1,kz0,x.v3,v5]))
    rw [Xo (by first|exact dn hd rfl|exact dl hd rfl|lia)]
    ((try dsimp only [X9,Qt,Qw,Qu,Qg,Qf,Xf,Xa,X2,X3,Xs,X1,Xd,Xe,Qd,Qs,Qc,Qe,Qx,Xw,Q4,Qr,Qv,Qq,Qb,Qa,Q1,Qh,Q5,Q3,Q0,Q9,Q8,Q7,Q6,Qp,X4,Qn,X5,X6,Qo,args0,Xh,Xg,Xm,Xq,Xr,Xu,Qm,X7,Qi,Qj,Qy,Q2,zgz,zgs,zlc,zln,Nat.reduceAdd,kr0,kr1,kl0,kl1,kz0]); (try simp (discharger := decide) only [X9,Qt,Qw,Qu,Qg,Qf,Xf,Xa,X2,X3,Xs,X1,Xd,Xe,Qd,Qs,Qc,Qe,Qx,Xw,Q4,Qr,Qv,Qq,Qb,Qa,Q1,Qh,Q5,Q3,Q0,Q9,Q8,Q7,Q6,Qp,X4,Qn,X5,X6,Qo,args0,Xh,Xg,Xo,Xv,Xj,Xl,Xm,Xq,Xr,Xu,Y1,Y4,Qm,X7,X8,Qk,Qi,Qj,Qy,Q2,Y5,zoi,zel,zta,zat,zgz,zgs,zlc,zln,Nat.reduceAdd,zza,znt,zcn,MV.int.injEq,kr0,kr1,kl0,kl1,kz0]))
    have hnum : 1 ≤ 1 + (i : Int) * gapOf ns ∧ 1 + (i : Int) * gapOf ns ≤ 1000 := by
      have h1 : 0 ≤ (i : Int) * gapOf ns := Int.mul_nonneg (by first|exact dn hd rfl|exact dl hd rfl|exact Int.natCast_nonneg _) (by first|exact dn hd rfl|exact dl hd rfl|lia)
      have h2 : (i : Int) * gapOf ns ≤ (i : Int) * 3 := Int.mul_le_mul_of_nonneg_left gp.2 (by first|exact dn hd rfl|exact dl hd rfl|exact Int.natCast_nonneg _)
      lia
    generalize hno : 1 + (i : Int) * gapOf ns = number at hnum
    replace x := x.set (i := 6) (by decide) (.int number)
    have w5 : setv V 6 (.int number) 5 = some (.int i) := (Qk (by first | exact nei h rfl | decide)).trans v5
    have w6 : setv V 6 (.int number) 6 = some (.int number) := X8
    generalize setv V 6 (.int number) = V at x w5 w6 ⊢
    refine seq ?_
    ((try dsimp only [Zp,X9,Qt,Qw,Qu,Qg,Qf,Xf,Xa,X2,X3,Xs,X1,Xd,Xe,Qd,Qs,Qc,Qe,Qx,Xw,Q4,Qr,Qv,Qq,Qb,Qa,Q1,Qh,Q5,Q3,Q0,Q9,Q8,Q7,Q6,Qp,X4,Qn,X5,X6,Qo,args0,Xh,Xg,Xm,Xq,Xr,Xu,Qm,X7,Qi,Qj,Qy,Q2,zgz,zgs,zlc,zln,Nat.reduceAdd,kr0,kr1,kl0,kl1,kz0,x.v0,x.v2,x.v3,x.v4,w5,w6]); (try simp (discharger := decide) only [Zp,X9,Qt,Qw,Qu,Qg,Qf,Xf,Xa,X2,X3,Xs,X1,Xd,Xe,Qd,Qs,Qc,Qe,Qx,Xw,Q4,Qr,Qv,Qq,Qb,Qa,Q1,Qh,Q5,Q3,Q0,Q9,Q8,Q7,Q6,Qp,X4,Qn,X5,X6,Qo,args0,Xh,Xg,Xo,Xv,Xj,Xl,Xm,Xq,Xr,Xu,Y1,Y4,Qm,X7,X8,Qk,Qi,Qj,Qy,Q2,Y5,zoi,zel,zta,zat,zgz,zgs,zlc,zln,Nat.reduceAdd,zza,znt,zcn,MV.int.injEq,kr0,kr1,kl0,kl1,kz0,x.v0,x.v2,x.v3,x.v4,w5,w6]))
    refine ⟨Be hm, ?_⟩
    refine F3 hΓ₁ hΓ₂ hd (hx _ _ ha) hn fun μ₂ hx₂ => ?_
    ((try dsimp only [X9,Qt,Qw,Qu,Qg,Qf,Xf,Xa,X2,X3,Xs,X1,Xd,Xe,Qd,Qs,Qc,Qe,Qx,Xw,Q4,Qr,Qv,Qq,Qb,Qa,Q1,Qh,Q5,Q3,Q0,Q9,Q8,Q7,Q6,Qp,X4,Qn,X5,X6,Qo,args0,Xh,Xg,Xm,Xq,Xr,Xu,Qm,X7,Qi,Qj,Qy,Q2,zgz,zgs,zlc,zln,Nat.reduceAdd,kr0,kr1,kl0,kl1,kz0]); (try simp (discharger := decide) only [X9,Qt,Qw,Qu,Qg,Qf,Xf,Xa,X2,X3,Xs,X1,Xd,Xe,Qd,Qs,Qc,Qe,Qx,Xw,Q4,Qr,Qv,Qq,Qb,Qa,Q1,Qh,Q5,Q3,Q0,Q9,Q8,Q7,Q6,Qp,X4,Qn,X5,X6,Qo,args0,Xh,Xg,Xo,Xv,Xj,Xl,Xm,Xq,Xr,Xu,Y1,Y4,Qm,X7,X8,Qk,Qi,Qj,Qy,Q2,Y5,zoi,zel,zta,zat,zgz,zgs,zlc,zln,Nat.reduceAdd,zza,znt,zcn,MV.int.injEq,kr0,kr1,kl0,kl1,kz0]))
    refine at_script (hx₂ _ _ (hx _ _ ha)) hn (by first|exact dn hd rfl|exact dl hd rfl|exact Int.natCast_nonneg _) (by first|exact dn hd rfl|exact dl hd rfl|lia) ?_
    ((try dsimp only [X9,Qt,Qw,Qu,Qg,Qf,Xf,Xa,X2,X3,Xs,X1,Xd,Xe,Qd,Qs,Qc,Qe,Qx,Xw,Q4,Qr,Qv,Qq,Qb,Qa,Q1,Qh,Q5,Q3,Q0,Q9,Q8,Q7,Q6,Qp,X4,Qn,X5,X6,Qo,args0,Xh,Xg,Xm,Xq,Xr,Xu,Qm,X7,Qi,Qj,Qy,Q2,zgz,zgs,zlc,zln,Nat.reduceAdd,kr0,kr1,kl0,kl1,kz0]); (try simp (discharger := decide) only [X9,Qt,Qw,Qu,Qg,Qf,Xf,Xa,X2,X3,Xs,X1,Xd,Xe,Qd,Qs,Qc,Qe,Qx,Xw,Q4,Qr,Qv,Qq,Qb,Qa,Q1,Qh,Q5,Q3,Q0,Q9,Q8,Q7,Q6,Qp,X4,Qn,X5,X6,Qo,args0,Xh,Xg,Xo,Xv,Xj,Xl,Xm,Xq,Xr,Xu,Y1,Y4,Qm,X7,X8,Qk,Qi,Qj,Qy,Q2,Y5,zoi,zel,zta,zat,zgz,zgs,zlc,zln,Nat.reduceAdd,zza,znt,zcn,MV.int.injEq,kr0,kr1,kl0,kl1,kz0]))
    refine Cf hΓ₃ (by first|exact dn hd rfl|exact dl hd rfl|omega) (hx₂ _ _ (hx _ _ hnm)) h3 (base_rng ns) hnum fun e μ₃ hx₃ ge => ?_
    have hm₃ := hx₃ _ _ (hx₂ _ _ hm)
    ((try dsimp only [X9,Qt,Qw,Qu,Qg,Qf,Xf,Xa,X2,X3,Xs,X1,Xd,Xe,Qd,Qs,Qc,Qe,Qx,Xw,Q4,Qr,Qv,Qq,Qb,Qa,Q1,Qh,Q5,Q3,Q0,Q9,Q8,Q7,Q6,Qp,X4,Qn,X5,X6,Qo,args0,Xh,Xg,Xm,Xq,Xr,Xu,Qm,X7,Qi,Qj,Qy,Q2,zgz,zgs,zlc,zln,Nat.reduceAdd,kr0,kr1,kl0,kl1,kz0]); (try simp (discharger := decide) only [X9,Qt,Qw,Qu,Qg,Qf,Xf,Xa,X2,X3,Xs,X1,Xd,Xe,Qd,Qs,Qc,Qe,Qx,Xw,Q4,Qr,Qv,Qq,Qb,Qa,Q1,Qh,Q5,Q3,Q0,Q9,Q8,Q7,Q6,Qp,X4,Qn,X5,X6,Qo,args0,Xh,Xg,Xo,Xv,Xj,Xl,Xm,Xq,Xr,Xu,Y1,Y4,Qm,X7,X8,Qk,Qi,Qj,Qy,Q2,Y5,zoi,zel,zta,zat,zgz,zgs,zlc,zln,Nat.reduceAdd,zza,znt,zcn,MV.int.injEq,kr0,kr1,kl0,kl1,kz0]))
    refine ⟨_, hm₃, hrf, fit (by simp; lia), ?_⟩
    (try dsimp only [kr0])
    refine Yw (Fp hΓ₁ hΓ₂ hΓ₃ hd ha hn hnm h3 hr hrf j (i + 1) V _ (rows ++ [(number, e)]) (by first|exact dn hd rfl|exact dl hd rfl|lia) (by first|exact dn hd rfl|exact dl hd rfl|lia) x ?_ ?_ ?_ ?_ ?_)
    · intro b o eb
      rw [Y8 (Y2 eb hr)]; exact hx₃ _ _ (hx₂ _ _ (hx b o eb))
    · rw [Qz]; simp [rowV]
    · rw [List.range_succ, List.map_append, List.map_append, hk]; simp [hno]
    · intro p hp
      rcases List.mem_append.mp hp with q | q
      · exact hg p q
      · simp at q; subst q; exact ge
    · intro V' μ' rows' x' hx' hm' hk' hg'
      exact h V' μ' rows' x' hx' hm' (by rw [hk']; congr 2; lia) hg'
theorem Nw {n : Int} : (rangeL 0 n 1).map MV.int = (List.range' 0 n.toNat).map fun (k : Nat) => MV.int k := by
  unfold rangeL
  rw [List.map_map, List.range_eq_range']
  have : ((n - 0 + 1 - 1) / 1).toNat = n.toNat := by simp
  rw [this]
  refine List.map_congr_left fun k _ => ?_
  simp
theorem F2 {d : Nat} {a : Addr} {fz : List Addr} {Q : MQ} {μ : MH} {ns : List Int} {many : Int} (hΓ₁ : Γ "_law_of" = some Kw) (hΓ₂ : Γ "_law_base" = some Jw) (hΓ₃ : Γ "_law_entry" = some Jd) (hΓ₄ : Γ "_law_names" = some K1) (hΓ : Γ "_law_book" = some Od) (hd : 3 ≤ d)
    (ha : μ a = some (.list (ns.map .int))) (hn : ns.length ≤ 63) (hmany : 0 ≤ many ∧ many ≤ 60)
    (h : ∀ (c : Addr) (μ' : MH) (kvs : List (Int × MV)), Ext μ μ' → μ c = none → c ∉ fz → μ' c = some (.idict kvs) → BookOk ns many kvs → Q (.ref c) μ') : calls G Γ d "_law_book" [.ref a, .int many] fz Q X0 μ := by
  refine Y3 hΓ rfl (by first|exact dn hd rfl|exact dl hd rfl|omega) (seq ?_)
  ((try dsimp only [Uf,X9,Qt,Qw,Qu,Qg,Qf,Xf,Xa,X2,X3,Xs,X1,Xd,Xe,Qd,Qs,Qc,Qe,Qx,Xw,Q4,Qr,Qv,Qq,Qb,Qa,Q1,Qh,Q5,Q3,Q0,Q9,Q8,Q7,Q6,Qp,X4,Qn,X5,X6,Qo,args0,Xh,Xg,Xm,Xq,Xr,Xu,Qm,X7,Qi,Qj,Qy,Q2,zgz,zgs,zlc,zln,Nat.reduceAdd,kr0,kr1,kl0,kl1,kz0]); (try simp (discharger := decide) only [Uf,X9,Qt,Qw,Qu,Qg,Qf,Xf,Xa,X2,X3,Xs,X1,Xd,Xe,Qd,Qs,Qc,Qe,Qx,Xw,Q4,Qr,Qv,Qq,Qb,Qa,Q1,Qh,Q5,Q3,Q0,Q9,Q8,Q7,Q6,Qp,X4,Qn,X5,X6,Qo,args0,Xh,Xg,Xo,Xv,Xj,Xl,Xm,Xq,Xr,Xu,Y1,Y4,Qm,X7,X8,Qk,Qi,Qj,Qy,Q2,Y5,zoi,zel,zta,zat,zgz,zgs,zlc,zln,Nat.reduceAdd,zza,znt,zcn,MV.int.injEq,kr0,kr1,kl0,kl1,kz0]))
  refine Yf hΓ₁ (by first|exact dn hd rfl|exact dl hd rfl|omega) ha hn (by decide) fun μ₁ x₁ => ?_
  ((try dsimp only [X9,Qt,Qw,Qu,Qg,Qf,Xf,Xa,X2,X3,Xs,X1,Xd,Xe,Qd,Qs,Qc,Qe,Qx,Xw,Q4,Qr,Qv,Qq,Qb,Qa,Q1,Qh,Q5,Q3,Q0,Q9,Q8,Q7,Q6,Qp,X4,Qn,X5,X6,Qo,args0,Xh,Xg,Xm,Xq,Xr,Xu,Qm,X7,Qi,Qj,Qy,Q2,zgz,zgs,zlc,zln,Nat.reduceAdd,kr0,kr1,kl0,kl1,kz0]); (try simp (discharger := decide) only [X9,Qt,Qw,Qu,Qg,Qf,Xf,Xa,X2,X3,Xs,X1,Xd,Xe,Qd,Qs,Qc,Qe,Qx,Xw,Q4,Qr,Qv,Qq,Qb,Qa,Q1,Qh,Q5,Q3,Q0,Q9,Q8,Q7,Q6,Qp,X4,Qn,X5,X6,Qo,args0,Xh,Xg,Xo,Xv,Xj,Xl,Xm,Xq,Xr,Xu,Y1,Y4,Qm,X7,X8,Qk,Qi,Qj,Qy,Q2,Y5,zoi,zel,zta,zat,zgz,zgs,zlc,zln,Nat.reduceAdd,zza,znt,zcn,MV.int.injEq,kr0,kr1,kl0,kl1,kz0]))
  refine Hm hΓ₄ (by first|exact dn hd rfl|exact dl hd rfl|omega) fun nm μ₂ x₂ hnm hnmf hnml h3 hgood => ?_
  generalize hnF : namesF (at0 ns 1) = names at hnml h3 hgood
  refine seq ?_
  ((try dsimp only [Ue,X9,Qt,Qw,Qu,Qg,Qf,Xf,Xa,X2,X3,Xs,X1,Xd,Xe,Qd,Qs,Qc,Qe,Qx,Xw,Q4,Qr,Qv,Qq,Qb,Qa,Q1,Qh,Q5,Q3,Q0,Q9,Q8,Q7,Q6,Qp,X4,Qn,X5,X6,Qo,args0,Xh,Xg,Xm,Xq,Xr,Xu,Qm,X7,Qi,Qj,Qy,Q2,zgz,zgs,zlc,zln,Nat.reduceAdd,kr0,kr1,kl0,kl1,kz0]); (try simp (discharger := decide) only [Ue,X9,Qt,Qw,Qu,Qg,Qf,Xf,Xa,X2,X3,Xs,X1,Xd,Xe,Qd,Qs,Qc,Qe,Qx,Xw,Q4,Qr,Qv,Qq,Qb,Qa,Q1,Qh,Q5,Q3,Q0,Q9,Q8,Q7,Q6,Qp,X4,Qn,X5,X6,Qo,args0,Xh,Xg,Xo,Xv,Xj,Xl,Xm,Xq,Xr,Xu,Y1,Y4,Qm,X7,X8,Qk,Qi,Qj,Qy,Q2,Y5,zoi,zel,zta,zat,zgz,zgs,zlc,zln,Nat.reduceAdd,zza,znt,zcn,MV.int.injEq,kr0,kr1,kl0,kl1,kz0]))
  refine Yf hΓ₁ (by first|exact dn hd rfl|exact dl hd rfl|omega) (x₂ _ _ (x₁ _ _ ha)) hn (by decide) fun μ₃ x₃ => ?_
  ((try dsimp only [X9,Qt,Qw,Qu,Qg,Qf,Xf,Xa,X2,X3,Xs,X1,Xd,Xe,Qd,Qs,Qc,Qe,Qx,Xw,Q4,Qr,Qv,Qq,Qb,Qa,Q1,Qh,Q5,Q3,Q0,Q9,Q8,Q7,Q6,Qp,X4,Qn,X5,X6,Qo,args0,Xh,Xg,Xm,Xq,Xr,Xu,Qm,X7,Qi,Qj,Qy,Q2,zgz,zgs,zlc,zln,Nat.reduceAdd,kr0,kr1,kl0,kl1,kz0]); (try simp (discharger := decide) only [X9,Qt,Qw,Qu,Qg,Qf,Xf,Xa,X2,X3,Xs,X1,Xd,Xe,Qd,Qs,Qc,Qe,Qx,Xw,Q4,Qr,Qv,Qq,Qb,Qa,Q1,Qh,Q5,Q3,Q0,Q9,Q8,Q7,Q6,Qp,X4,Qn,X5,X6,Qo,args0,Xh,Xg,Xo,Xv,Xj,Xl,Xm,Xq,Xr,Xu,Y1,Y4,Qm,X7,X8,Qk,Qi,Qj,Qy,Q2,Y5,zoi,zel,zta,zat,zgz,zgs,zlc,zln,Nat.reduceAdd,zza,znt,zcn,MV.int.injEq,kr0,kr1,kl0,kl1,kz0]))
  refine seq ?_
  ((try dsimp only [Ud,X9,Qt,Qw,Qu,Qg,Qf,Xf,Xa,X2,X3,Xs,X1,Xd,Xe,Qd,Qs,Qc,Qe,Qx,Xw,Q4,Qr,Qv,Qq,Qb,Qa,Q1,Qh,Q5,Q3,Q0,Q9,Q8,Q7,Q6,Qp,X4,Qn,X5,X6,Qo,args0,Xh,Xg,Xm,Xq,Xr,Xu,Qm,X7,Qi,Qj,Qy,Q2,zgz,zgs,zlc,zln,Nat.reduceAdd,kr0,kr1,kl0,kl1,kz0]); (try simp (discharger := decide) only [Ud,X9,Qt,Qw,Qu,Qg,Qf,Xf,Xa,X2,X3,Xs,X1,Xd,Xe,Qd,Qs,Qc,Qe,Qx,Xw,Q4,Qr,Qv,Qq,Qb,Qa,Q1,Qh,Q5,Q3,Q0,Q9,Q8,Q7,Q6,Qp,X4,Qn,X5,X6,Qo,args0,Xh,Xg,Xo,Xv,Xj,Xl,Xm,Xq,Xr,Xu,Y1,Y4,Qm,X7,X8,Qk,Qi,Qj,Qy,Q2,Y5,zoi,zel,zta,zat,zgz,zgs,zlc,zln,Nat.reduceAdd,zza,znt,zcn,MV.int.injEq,kr0,kr1,kl0,kl1,kz0]))
  intro r hr hrf
  refine seq ?_
  ((try dsimp only [Uc,X9,Qt,Qw,Qu,Qg,Qf,Xf,Xa,X2,X3,Xs,X1,Xd,Xe,Qd,Qs,Qc,Qe,Qx,Xw,Q4,Qr,Qv,Qq,Qb,Qa,Q1,Qh,Q5,Q3,Q0,Q9,Q8,Q7,Q6,Qp,X4,Qn,X5,X6,Qo,args0,Xh,Xg,Xm,Xq,Xr,Xu,Qm,X7,Qi,Qj,Qy,Q2,zgz,zgs,zlc,zln,Nat.reduceAdd,kr0,kr1,kl0,kl1,kz0]); (try simp (discharger := decide) only [Uc,X9,Qt,Qw,Qu,Qg,Qf,Xf,Xa,X2,X3,Xs,X1,Xd,Xe,Qd,Qs,Qc,Qe,Qx,Xw,Q4,Qr,Qv,Qq,Qb,Qa,Q1,Qh,Q5,Q3,Q0,Q9,Q8,Q7,Q6,Qp,X4,Qn,X5,X6,Qo,args0,Xh,Xg,Xo,Xv,Xj,Xl,Xm,Xq,Xr,Xu,Y1,Y4,Qm,X7,X8,Qk,Qi,Qj,Qy,Q2,Y5,zoi,zel,zta,zat,zgz,zgs,zlc,zln,Nat.reduceAdd,zza,znt,zcn,MV.int.injEq,kr0,kr1,kl0,kl1,kz0]))
  have ha₃ := x₃ _ _ (x₂ _ _ (x₁ _ _ ha))
  refine Yg (by rw [Y8 (Y2 ha₃ hr)]; exact ha₃) (fit (by simp; exact Nat.le_trans (by assumption) (by decide))) ?_
  ((try dsimp only [X9,Qt,Qw,Qu,Qg,Qf,Xf,Xa,X2,X3,Xs,X1,Xd,Xe,Qd,Qs,Qc,Qe,Qx,Xw,Q4,Qr,Qv,Qq,Qb,Qa,Q1,Qh,Q5,Q3,Q0,Q9,Q8,Q7,Q6,Qp,X4,Qn,X5,X6,Qo,args0,Xh,Xg,Xm,Xq,Xr,Xu,Qm,X7,Qi,Qj,Qy,Q2,zgz,zgs,zlc,zln,Nat.reduceAdd,kr0,kr1,kl0,kl1,kz0]); (try simp (discharger := decide) only [X9,Qt,Qw,Qu,Qg,Qf,Xf,Xa,X2,X3,Xs,X1,Xd,Xe,Qd,Qs,Qc,Qe,Qx,Xw,Q4,Qr,Qv,Qq,Qb,Qa,Q1,Qh,Q5,Q3,Q0,Q9,Q8,Q7,Q6,Qp,X4,Qn,X5,X6,Qo,args0,Xh,Xg,Xo,Xv,Xj,Xl,Xm,Xq,Xr,Xu,Y1,Y4,Qm,X7,X8,Qk,Qi,Qj,Qy,Q2,Y5,zoi,zel,zta,zat,zgz,zgs,zlc,zln,Nat.reduceAdd,zza,znt,zcn,MV.int.injEq,kr0,kr1,kl0,kl1,kz0]))
  rw [List.length_map]
  have hmn : min many ((ns.length : Int) - 4) ≤ 60 := Int.le_trans (Int.min_le_left _ _) hmany.2
  have hmn' : -4 ≤ min many ((ns.length : Int) - 4) := Int.le_min.mpr ⟨Int.le_trans (by decide) hmany.1, Int.sub_le_sub_right (Int.natCast_nonneg _) 4⟩
  have hmr : min many ((ns.length : Int) - 4) ≤ (ns.length : Int) - 4 := Int.min_le_right _ _
  have hM : (min many ((ns.length : Int) - 4)).toNat = manyOf ns many := rfl
  generalize min many ((ns.length : Int) - 4) = M at hmn hmn' hmr hM ⊢
  have hml : manyOf ns many ≤ 60 := hM ▸ Int.toNat_le.mpr hmn
  refine ⟨.ints (rangeL 0 M 1), _, ?_, rfl, ?_, ?_⟩
  · simp only [mkSrc, rangeM]
    rw [if_pos (by simp only [in62, Bool.and_eq_true, decide_eq_true_eq]; lia)]; rfl
  · rw [List.length_map, Yu]; exact fit (by first|exact dn hd rfl|exact dl hd rfl|lia)
  simp only [Src.held, List.nil_append]
  rw [Nw]
  refine Fp hΓ₁ hΓ₂ hΓ₃ (by first|exact dn hd rfl|exact dl hd rfl|omega) ha₃ hn (x₃ _ _ hnml) h3 hr hrf _ 0 _ _ [] (by first|exact dn hd rfl|exact dl hd rfl|lia) (by first|exact dn hd rfl|exact dl hd rfl|lia) ⟨rfl, rfl, rfl, rfl⟩ (Ext.upd hr) Qz rfl (by simp) fun V μ₄ rows bv x₄ hm₄ hk hg => ?_
  have hlen : rows.length = manyOf ns many := by have := congrArg List.length hk; simpa [hM] using this
  refine seq ?_
  ((try dsimp only [Ub,X9,Qt,Qw,Qu,Qg,Qf,Xf,Xa,X2,X3,Xs,X1,Xd,Xe,Qd,Qs,Qc,Qe,Qx,Xw,Q4,Qr,Qv,Qq,Qb,Qa,Q1,Qh,Q5,Q3,Q0,Q9,Q8,Q7,Q6,Qp,X4,Qn,X5,X6,Qo,args0,Xh,Xg,Xm,Xq,Xr,Xu,Qm,X7,Qi,Qj,Qy,Q2,zgz,zgs,zlc,zln,Nat.reduceAdd,kr0,kr1,kl0,kl1,kz0,bv.v0,bv.v4]); (try simp (discharger := decide) only [Ub,X9,Qt,Qw,Qu,Qg,Qf,Xf,Xa,X2,X3,Xs,X1,Xd,Xe,Qd,Qs,Qc,Qe,Qx,Xw,Q4,Qr,Qv,Qq,Qb,Qa,Q1,Qh,Q5,Q3,Q0,Q9,Q8,Q7,Q6,Qp,X4,Qn,X5,X6,Qo,args0,Xh,Xg,Xo,Xv,Xj,Xl,Xm,Xq,Xr,Xu,Y1,Y4,Qm,X7,X8,Qk,Qi,Qj,Qy,Q2,Y5,zoi,zel,zta,zat,zgz,zgs,zlc,zln,Nat.reduceAdd,zza,znt,zcn,MV.int.injEq,kr0,kr1,kl0,kl1,kz0,bv.v0,bv.v4]))
  refine Yf hΓ₁ (by first|exact dn hd rfl|exact dl hd rfl|omega) (x₄ _ _ ha₃) hn (by decide) fun μ₅ x₅ => ?_
  ((try dsimp only [X9,Qt,Qw,Qu,Qg,Qf,Xf,Xa,X2,X3,Xs,X1,Xd,Xe,Qd,Qs,Qc,Qe,Qx,Xw,Q4,Qr,Qv,Qq,Qb,Qa,Q1,Qh,Q5,Q3,Q0,Q9,Q8,Q7,Q6,Qp,X4,Qn,X5,X6,Qo,args0,Xh,Xg,Xm,Xq,Xr,Xu,Qm,X7,Qi,Qj,Qy,Q2,zgz,zgs,zlc,zln,Nat.reduceAdd,kr0,kr1,kl0,kl1,kz0]); (try simp (discharger := decide) only [X9,Qt,Qw,Qu,Qg,Qf,Xf,Xa,X2,X3,Xs,X1,Xd,Xe,Qd,Qs,Qc,Qe,Qx,Xw,Q4,Qr,Qv,Qq,Qb,Qa,Q1,Qh,Q5,Q3,Q0,Q9,Q8,Q7,Q6,Qp,X4,Qn,X5,X6,Qo,args0,Xh,Xg,Xo,Xv,Xj,Xl,Xm,Xq,Xr,Xu,Y1,Y4,Qm,X7,X8,Qk,Qi,Qj,Qy,Q2,Y5,zoi,zel,zta,zat,zgz,zgs,zlc,zln,Nat.reduceAdd,zza,znt,zcn,MV.int.injEq,kr0,kr1,kl0,kl1,kz0]))
  refine Yg (x₅ _ _ hm₄) (fit (by simp; lia)) ?_
  ((try dsimp only [X9,Qt,Qw,Qu,Qg,Qf,Xf,Xa,X2,X3,Xs,X1,Xd,Xe,Qd,Qs,Qc,Qe,Qx,Xw,Q4,Qr,Qv,Qq,Qb,Qa,Q1,Qh,Q5,Q3,Q0,Q9,Q8,Q7,Q6,Qp,X4,Qn,X5,X6,Qo,args0,Xh,Xg,Xm,Xq,Xr,Xu,Qm,X7,Qi,Qj,Qy,Q2,zgz,zgs,zlc,zln,Nat.reduceAdd,kr0,kr1,kl0,kl1,kz0]); (try simp (discharger := decide) only [X9,Qt,Qw,Qu,Qg,Qf,Xf,Xa,X2,X3,Xs,X1,Xd,Xe,Qd,Qs,Qc,Qe,Qx,Xw,Q4,Qr,Qv,Qq,Qb,Qa,Q1,Qh,Q5,Q3,Q0,Q9,Q8,Q7,Q6,Qp,X4,Qn,X5,X6,Qo,args0,Xh,Xg,Xo,Xv,Xj,Xl,Xm,Xq,Xr,Xu,Y1,Y4,Qm,X7,X8,Qk,Qi,Qj,Qy,Q2,Y5,zoi,zel,zta,zat,zgz,zgs,zlc,zln,Nat.reduceAdd,zza,znt,zcn,MV.int.injEq,kr0,kr1,kl0,kl1,kz0]))
  rw [List.length_map]
  rw [Xl (by first|exact dn hd rfl|exact dl hd rfl|simp)]
  have hcut := fm (a := (at0 ns 0).fdiv 12) (b := (rows.length : Int) + 1) (by first|exact dn hd rfl|exact dl hd rfl|simp)
  generalize ((at0 ns 0).fdiv 12).fmod ((rows.length : Int) + 1) = cut at hcut ⊢
  refine seq ?_
  ((try dsimp only [Ua,X9,Qt,Qw,Qu,Qg,Qf,Xf,Xa,X2,X3,Xs,X1,Xd,Xe,Qd,Qs,Qc,Qe,Qx,Xw,Q4,Qr,Qv,Qq,Qb,Qa,Q1,Qh,Q5,Q3,Q0,Q9,Q8,Q7,Q6,Qp,X4,Qn,X5,X6,Qo,args0,Xh,Xg,Xm,Xq,Xr,Xu,Qm,X7,Qi,Qj,Qy,Q2,zgz,zgs,zlc,zln,Nat.reduceAdd,kr0,kr1,kl0,kl1,kz0,bv.v4]); (try simp (discharger := decide) only [Ua,X9,Qt,Qw,Qu,Qg,Qf,Xf,Xa,X2,X3,Xs,X1,Xd,Xe,Qd,Qs,Qc,Qe,Qx,Xw,Q4,Qr,Qv,Qq,Qb,Qa,Q1,Qh,Q5,Q3,Q0,Q9,Q8,Q7,Q6,Qp,X4,Qn,X5,X6,Qo,args0,Xh,Xg,Xo,Xv,Xj,Xl,Xm,Xq,Xr,Xu,Y1,Y4,Qm,X7,X8,Qk,Qi,Qj,Qy,Q2,Y5,zoi,zel,zta,zat,zgz,zgs,zlc,zln,Nat.reduceAdd,zza,znt,zcn,MV.int.injEq,kr0,kr1,kl0,kl1,kz0,bv.v4]))
  have hm₅ := x₅ _ _ hm₄
  refine Vq rfl rfl rfl (by simp) hm₅ (fit (by simp; lia)) fun c₁ hc₁ hcf₁ => ?_
  refine Vq rfl rfl rfl (by simp) (by rw [Y8 (Y2 hm₅ hc₁)]; exact hm₅) (fit (by simp; lia)) fun c₂ hc₂ hcf₂ => ?_
  have e1 : pick (rows.map rowV) (some cut) none none = (rows.drop cut.toNat).map rowV := by rw [Jl _ hcut.1 (by simp; lia), List.map_drop]
  have e2 : pick (rows.map rowV) none (some cut) none = (rows.take cut.toNat).map rowV := by rw [Py _ hcut.1 (by simp; lia), List.map_take]
  rw [e1] at hc₂ ⊢
  rw [e2]
  have ne : c₁ ≠ c₂ := Y2 (o := .list ((rows.drop cut.toNat).map rowV)) Qz hc₂
  refine R0 (by rw [Y8 ne, Qz]) Qz (fit (by simp; omega)) fun c₃ hc₃ hcf₃ => ?_
  rw [← List.map_append]
  refine bi_dict_l Qz ?_
  refine ⟨_, C0 _, fit (by simp; omega), fun c₄ hc₄ hcf₄ => ?_⟩
  have hnd : ((rows.drop cut.toNat ++ rows.take cut.toNat).map (·.1)).Nodup := by
    have h1 : (rows.map (·.1)).Nodup := by
      rw [hk]
      have gp := Hs ns
      refine List.Pairwise.map _ ?_ List.nodup_range
      intro x y hxy e
      have : ((x : Int) - y) * gapOf ns = 0 := by rw [Int.sub_mul]; lia
      rcases Int.mul_eq_zero.mp this with q | q
      · exact hxy (by first|exact dn hd rfl|exact dl hd rfl|lia)
      · lia
    have hp : (rows.drop cut.toNat ++ rows.take cut.toNat).Perm rows := by
      have := List.perm_append_comm (l₁ := rows.drop cut.toNat) (l₂ := rows.take cut.toNat)
      rwa [List.take_append_drop] at this
    exact (hp.map (·.1)).nodup_iff.mpr h1
  rw [put_all (acc := []) (by simpa using hnd), List.nil_append]
  have xx : Ext μ μ₅ := (((x₁.trans x₂).trans x₃).trans x₄).trans x₅
  have x6 := ((xx.trans (Ext.upd hc₁)).trans (Ext.upd hc₂)).trans (Ext.upd (o := .list ((rows.drop cut.toNat ++ rows.take cut.toNat).map rowV)) hc₃)
  refine h c₄ _ _ (x6.trans (Ext.upd hc₄)) ?_ hcf₄ Qz ⟨names, rows, cut.toNat, h3, hgood, ?_, hg, by lia, rfl, hnF.symm⟩
  · cases q : μ c₄ with
    | none => rfl
    | some o => rw [x6 _ _ q] at hc₄; cases hc₄
  · rw [hk]; simp [hM]
end Mine
end
section
namespace Mine
open PySem
noncomputable def Ip : MS := .assign 2 (.dict0 false)
noncomputable def Io : MS := .assign 3 (.list [])
noncomputable def Ai : MS := .expr (.meth .append (.var 3) [(.var 4)])
noncomputable def Oe : MS := .setidx (.var 2) (.idx (.idx (.var 0) (.var 4)) (.cint 1)) (.cbool true)
noncomputable def Ah : MS := .ite (.cmp (.idx (.idx (.var 0) (.var 4)) (.cint 0)) [.eq] [(.cstr "undo")]) [Oe] []
noncomputable def Dl : MS := .ite (.and [(.cmp (.var 4) [.le] [(.var 1)]), (.cmp (.var 4) [.notin] [(.var 2)])]) [Ai, Ah] []
noncomputable def Im : MS := .for (.one 4) .plain [(.bi .sortedR [(.meth .keys (.var 0) [])])] [Dl]
noncomputable def Il : MS := .ret (.bi .sorted [(.var 3)])
noncomputable def f_counting : MFun := ⟨2, [Ip, Io, Im, Il]⟩
end Mine
end
section
namespace Mine
open PySem
variable {G : String → Option MV} {Γ : String → Option MFun}
noncomputable def Atom (v : MV) : Prop := (∃ i, v = .int i) ∨ ∃ s, v = .str s ∧ PyData.strOk s = true
noncomputable def EntOk (e : MV) : Prop := (∃ j, e = .tup [.str (S "undo"), .int j]) ∨ ∃ s rest, e = .tup (.str s :: rest) ∧ s ≠ S "undo" ∧ PyData.strOk s = true ∧ rest.length ≤ 10 ∧ ∀ v ∈ rest, Atom v
noncomputable def undoOf (e : MV) : Option Int := match e with
  | .tup [.str s, .int j] => if s = S "undo" then some j else none
  | _ => none
noncomputable def undoAt (kvs : List (Int × MV)) (k : Int) : Option Int := (lookI kvs k).bind undoOf
theorem H0 : PyData.strOk (S "undo") = true := by decide +kernel
theorem EntOk.other {s : Str} {rest : List MV} (h : s ≠ S "undo") : undoOf (.tup (.str s :: rest)) = none := by
  unfold undoOf
  split
  · rename_i q; cases q; rw [if_neg h]
  · rfl
theorem EntOk.undo {j : Int} : undoOf (.tup [.str (S "undo"), .int j]) = some j := by simp [undoOf]
theorem GoodE.ent {names : List Str} {number : Int} {e : MV} (hn : ∀ nm ∈ names, GoodN nm) (h : GoodE names number e) : EntOk e := by
  have a1 : S "clear" ≠ S "undo" := by decide +kernel
  have a2 : S "like" ≠ S "undo" := by decide +kernel
  have a3 : S "tell" ≠ S "undo" := by decide +kernel
  have b1 : PyData.strOk (S "clear") = true := by decide +kernel
  have b2 : PyData.strOk (S "like") = true := by decide +kernel
  have b3 : PyData.strOk (S "tell") = true := by decide +kernel
  have hs : ∀ nm ∈ names, Atom (.str nm) := fun nm h => .inr ⟨nm, rfl, (hn nm h).ok⟩
  have hi : ∀ i, Atom (.int i) := fun i => .inl ⟨i, rfl⟩
  rcases h with ⟨j, rfl, _⟩ | ⟨nm, lo, hi', rfl, h1, _⟩ | ⟨nm, lo, hi', nm', rfl, h1, h2, _⟩ | ⟨nm, lo, hi', v, rfl, h1, _⟩
  · exact .inl ⟨j, rfl⟩
  · exact .inr ⟨_, _, rfl, a1, b1, by simp, by simp [hs nm h1, hi]⟩
  · exact .inr ⟨_, _, rfl, a2, b2, by simp, by simp [hs nm h1, hs nm' h2, hi]⟩
  · exact .inr ⟨_, _, rfl, a3, b3, by simp, by simp [hs nm h1, hi]⟩
theorem Of {μ : MH} {n : Nat} : ∀ {l : List MV}, (∀ v ∈ l, Atom v) → ∃ ds, l.mapM (deep μ n) = some ds
  | [] => fun _ => ⟨[], rfl⟩
  | v :: l => fun h => by
    obtain ⟨ds, hd⟩ := Of (μ := μ) (n := n) fun v hv => h v (.tail _ hv)
    have : ∃ d, deep μ n v = some d := by
      rcases h v (.head _) with ⟨i, rfl⟩ | ⟨s, rfl, hs⟩
      · exact ⟨.int i, by cases n <;> simp [deep]⟩
      · exact ⟨.str s, by cases n <;> simp [deep, hs]⟩
    obtain ⟨d, hv⟩ := this
    exact ⟨d :: ds, by rw [List.mapM_cons, hv, hd]; rfl⟩
theorem eq_undo {μ : MH} {e : MV} {k : Int} (h : EntOk e) : cmpM .eq μ e (.tup [.str (S "undo"), .int k]) = some (decide (undoOf e = some k)) := by
  have hd2 : deep μ 9 (.tup [.str (S "undo"), .int k]) = some (.tuple [.str (S "undo"), .int k]) := by
    simp [deep, List.mapM_cons, List.mapM_nil, H0]
  rcases h with ⟨j, rfl⟩ | ⟨s, rest, rfl, hs, ho, _, ha⟩
  · have hd1 : deep μ 9 (.tup [.str (S "undo"), .int j]) = some (.tuple [.str (S "undo"), .int j]) := by
      simp [deep, List.mapM_cons, List.mapM_nil, H0]
    rw [EntOk.undo]
    simp only [cmpM, eqM, eqD, hd1, hd2, PyData.eqv, PyData.eqvAll]
    by_cases q : j = k <;> simp [q]
  · obtain ⟨ds, hds⟩ := Of (μ := μ) (n := 8) ha
    have hd1 : deep μ 9 (.tup (.str s :: rest)) = some (.tuple (.str s :: ds)) := by
      simp only [deep, List.mapM_cons, ho, hds]; rfl
    rw [EntOk.other hs]
    have hne : (s == S "undo") = false := by rw [beq_eq_false_iff_ne]; exact hs
    simp only [cmpM, eqM, eqD, hd1, hd2, PyData.eqv, PyData.eqvAll, hne]
    simp
theorem look_mem {K : Type} [DecidableEq K] {kvs : List (K × MV)} (hn : (kvs.map (·.1)).Nodup) {p : K × MV} (hp : p ∈ kvs) : lookI kvs p.1 = some p.2 := by
  induction kvs with
  | nil => cases hp
  | cons q l ih =>
    simp only [List.map_cons, List.nodup_cons] at hn
    unfold lookI
    rw [List.find?_cons]
    rcases List.mem_cons.mp hp with rfl | hp'
    · simp
    · have : q.1 ≠ p.1 := fun e => hn.1 (e ▸ List.mem_map_of_mem hp')
      simp only [this, decide_false]
      exact ih hn.2 hp'
end Mine
end
section
namespace Mine
open PySem
variable {G : String → Option MV} {Γ : String → Option MFun}
noncomputable def cntF (kvs : List (Int × MV)) (n : Int) : List Int → List Int → List Int
  | [], _ => []
  | k :: ks, u => if k ≤ n ∧ k ∉ u then k :: cntF kvs n ks (match undoAt kvs k with | some j => j :: u | none => u) else cntF kvs n ks u
theorem Cr : ∀ (l : List Int), intsOf (l.map .int) = some l
  | [] => rfl
  | i :: l => by
    have := Cr l
    unfold intsOf at this ⊢
    rw [List.map_cons, List.mapM_cons, this]; rfl
theorem Vp (l : List Int) : (sortI l).length = l.length := by unfold sortI; exact List.length_mergeSort ..
theorem Gs {fz : List Addr} {Q : MQ} {μ : MH} {v : MV} (l : List MV) (ns : List Int) (h0 : isStrV v = false) (h1 : items μ v = some l) (h2 : intsOf l = some ns) (h3 : l.length < 64) (hq : ∀ c, μ c = none → c ∉ fz → Q (.ref c) (upd μ c (.list ((sortI ns).map .int)))) : biM fz .sorted [v] Q μ := by
  exact ⟨l, ns, h0, h1, h2, h3, hq⟩
structure CV (b u f : Addr) (n : Int) (V : MVars) : Prop where
  v0 : V 0 = some (.ref b)
  v1 : V 1 = some (.int n)
  v2 : V 2 = some (.ref u)
  v3 : V 3 = some (.ref f)
theorem CV.set {b u f : Addr} {n : Int} {V : MVars} (x : CV b u f n V) {i : Nat} (h : 4 ≤ i) (v : MV) : CV b u f n (setv V i v) :=
  ⟨(Qk (by first | exact nei h rfl | decide)).trans x.v0, (Qk (by first | exact nei h rfl | decide)).trans x.v1, (Qk (by first | exact nei h rfl | decide)).trans x.v2, (Qk (by first | exact nei h rfl | decide)).trans x.v3⟩
noncomputable def cntOf (kvs : List (Int × MV)) (n : Int) : List Int := sortI (cntF kvs n (sortI (kvs.map (·.1))).reverse [])
end Mine
end
section
namespace Mine
open PySem
variable {G : String → Option MV} {Γ : String → Option MFun}
theorem Nu (l : List Int) : (sortI l).Perm l := List.mergeSort_perm ..
theorem sortI_le (l : List Int) : (sortI l).Pairwise (· ≤ ·) := by
  have := List.pairwise_mergeSort (le := fun (a b : Int) => decide (a ≤ b)) (by intro a b c; simp; solve_by_elim (maxDepth := 3) only [*, Int.le_trans, Int.lt_of_lt_of_le, Int.lt_of_le_of_lt, Int.le_of_lt]) (by intro a b; simp; lia) l
  exact this.imp (by simp)
theorem sortI_uniq {a b : List Int} (ha : a.Pairwise (· ≤ ·)) (hb : b.Pairwise (· ≤ ·)) (h : a.Perm b) : a = b :=
  h.eq_of_pairwise (fun a b _ _ x y => by lia) ha hb
theorem sortI_lt {l : List Int} (h : l.Nodup) : (sortI l).Pairwise (· < ·) := by
  have h1 := sortI_le l
  have h2 : (sortI l).Nodup := (Nu l).nodup_iff.mpr h
  have := h1.and h2
  exact this.imp fun {a b} ⟨x, y⟩ => by have : a ≠ b := y; lia
theorem eqv_self {μ : MH} : ∀ (n : Nat) {v : MV} {d : PyData}, deep μ n v = some d → PyData.eqv d d = true := by
  have hall : ∀ (n : Nat), (∀ {v : MV} {d : PyData}, deep μ n v = some d → PyData.eqv d d = true) → ∀ {l : List MV} {ds : List PyData}, l.mapM (deep μ n) = some ds → PyData.eqvAll ds ds = true := by
    intro n ih l
    induction l with
    | nil => intro ds h; simp at h; subst h; rfl
    | cons v l il =>
      intro ds h
      rw [List.mapM_cons] at h
      cases h1 : deep μ n v with
      | none => rw [h1] at h; cases h
      | some d =>
        cases h2 : l.mapM (deep μ n) with
        | none => rw [h1, h2] at h; cases h
        | some es =>
          rw [h1, h2] at h
          cases h
          simp only [PyData.eqvAll, ih h1, il h2, Bool.and_self]
  intro n
  induction n with
  | zero => 
    intro v d h
    cases v <;> simp [deep] at h
    all_goals first | (subst h; simp [PyData.eqv]; done) | (obtain ⟨_, rfl⟩ := h; simp [PyData.eqv])
  | succ n ih =>
    intro v d h
    cases v with
    | tup l =>
      simp only [deep, Option.map_eq_some_iff] at h
      obtain ⟨ds, h, rfl⟩ := h
      simpa [PyData.eqv] using hall n ih h
    | ref a =>
      simp only [deep] at h
      split at h
      · simp only [Option.map_eq_some_iff] at h
        obtain ⟨ds, h, rfl⟩ := h
        simpa [PyData.eqv] using hall n ih h
      · cases h
    | none => simp [deep] at h; subst h; simp [PyData.eqv]
    | bool b => simp [deep] at h; subst h; simp [PyData.eqv]
    | int b => simp [deep] at h; subst h; simp [PyData.eqv]
    | str b => simp [deep] at h; obtain ⟨_, rfl⟩ := h; simp [PyData.eqv]
    | keys b => simp [deep] at h
    | vals b => simp [deep] at h
theorem eqD_self {μ : MH} {v : MV} (h : ∃ d, deep μ 9 v = some d) : eqD μ v v = some true := by
  obtain ⟨d, h⟩ := h
  simp only [eqD, h, eqv_self 9 h]
theorem EntOk.deep {μ : MH} {e : MV} (h : EntOk e) : ∃ d, deep μ 9 e = some d := by
  rcases h with ⟨j, rfl⟩ | ⟨s, rest, rfl, hs, ho, _, ha⟩
  · exact ⟨.tuple [.str (S "undo"), .int j], by simp [Mine.deep, List.mapM_cons, List.mapM_nil, H0]⟩
  · obtain ⟨ds, hds⟩ := Of (μ := μ) (n := 8) ha
    exact ⟨.tuple (.str s :: ds), by simp only [Mine.deep, List.mapM_cons, ho, hds]; rfl⟩
theorem G2 {α : Type} {f : α → Option Bool} : ∀ {l : List α}, (∀ x ∈ l, f x = some true) → l.mapM f = some (l.map fun _ => true)
  | [] => fun _ => rfl
  | x :: l => fun h => by rw [List.mapM_cons, h x (.head _), G2 fun y hy => h y (.tail _ hy)]; rfl
theorem eq_dict {μ : MH} {b e : Addr} {kvs : List (Int × MV)} (hb : μ b = some (.idict kvs)) (he : μ e = some (.idict kvs)) (hnd : (kvs.map (·.1)).Nodup) (h : ∀ p ∈ kvs, ∃ d, deep μ 9 p.2 = some d) : eqM μ (.ref b) (.ref e) = some true := by
  simp only [eqM, hb, he, eqDicts, if_true]
  rw [G2]
  · simp [List.all_map]
  · intro p hp
    rw [look_mem hnd hp]; exact eqD_self (h p hp)
theorem Ak {μ : MH} {n : Nat} : ∀ (l : List Int), (l.map MV.int).mapM (deep μ n) = some (l.map PyData.int)
  | [] => rfl
  | i :: l => by rw [List.map_cons, List.mapM_cons, Ak l]; cases n <;> rfl
theorem eq_ints {μ : MH} {b e : Addr} {l : List Int} (hb : μ b = some (.list (l.map .int))) (he : μ e = some (.list (l.map .int))) : eqM μ (.ref b) (.ref e) = some true := by
  have hd1 : deep μ 9 (.ref b) = some (.list (l.map PyData.int)) := by simp only [deep, Zw hb, Ak]; rfl
  have hd2 : deep μ 9 (.ref e) = some (.list (l.map PyData.int)) := by simp only [deep, Zw he, Ak]; rfl
  simp only [eqM, hb, he, eqD, hd1, hd2, eqv_self 9 hd1]
theorem book_facts {ns : List Int} {many : Int} {kvs : List (Int × MV)} (h : BookOk ns many kvs) (hm : 0 ≤ many ∧ many ≤ 14) : (kvs.map (·.1)).Nodup ∧ kvs.length ≤ 14 ∧ (∀ p ∈ kvs, EntOk p.2) ∧ ∀ k ∈ kvs.map (·.1), 1 ≤ k ∧ k ≤ 40 := by
  obtain ⟨names, rows, cut, h3, hg, hk, he, hc, rfl, _⟩ := h
  have gp := Hs ns
  have hp : (rows.drop cut ++ rows.take cut).Perm rows := by
    have := List.perm_append_comm (l₁ := rows.drop cut) (l₂ := rows.take cut)
    rwa [List.take_append_drop] at this
  have hl : rows.length ≤ 14 := by
    have := congrArg List.length hk
    simp at this; unfold manyOf at this; omega
  refine ⟨?_, ?_, fun p q => (he p (hp.mem_iff.mp q)).ent hg, ?_⟩
  · refine (hp.map (·.1)).nodup_iff.mpr ?_
    rw [hk]
    refine List.Pairwise.map _ ?_ List.nodup_range
    intro x y hxy e
    have : ((x : Int) - y) * gapOf ns = 0 := by rw [Int.sub_mul]; lia
    rcases Int.mul_eq_zero.mp this with q | q
    · exact hxy (by first|exact dn hd rfl|exact dl hd rfl|lia)
    · lia
  · rw [hp.length_eq]; exact hl
  · intro k q
    have q := (hp.map (·.1)).mem_iff.mp q
    rw [hk] at q
    obtain ⟨i, hi, rfl⟩ := List.mem_map.mp q
    have hi := List.mem_range.mp hi
    have : manyOf ns many ≤ 14 := by unfold manyOf; omega
    have h1 : 0 ≤ (i : Int) * gapOf ns := Int.mul_nonneg (by first|exact dn hd rfl|exact dl hd rfl|exact Int.natCast_nonneg _) (by first|exact dn hd rfl|exact dl hd rfl|lia)
    have h2 : (i : Int) * gapOf ns ≤ 13 * gapOf ns := Int.mul_le_mul_of_nonneg_right (by first|exact dn hd rfl|exact dl hd rfl|lia) (by first|exact dn hd rfl|exact dl hd rfl|lia)
    lia
end Mine
end
section
namespace Mine
open PySem
noncomputable def Ie : MS := .ret (.and [(.cmp (.idx (.var 0) (.cint 0)) [.ne] [(.cstr "undo")]), (.cmp (.idx (.var 0) (.cint 1)) [.eq] [(.var 1)]), (.cmp (.idx (.var 0) (.cint 2)) [.le, .le] [(.var 2), (.idx (.var 0) (.cint 3))])])
noncomputable def f_is_about : MFun := ⟨3, [Ie]⟩
noncomputable def Cv : MS := .assign 5 (.idx (.var 0) (.var 4))
noncomputable def O3 : MS := .ret (.idx (.var 5) (.cint 4))
noncomputable def A8 : MS := .ite (.cmp (.idx (.var 5) (.cint 0)) [.eq] [(.cstr "tell")]) [O3] []
noncomputable def O2 : MS := .ret .cnone
noncomputable def A7 : MS := .ite (.cmp (.idx (.var 5) (.cint 0)) [.eq] [(.cstr "clear")]) [O2] []
noncomputable def A6 : MS := .assign 2 (.idx (.var 5) (.cint 4))
noncomputable def Cu : MS := .ite (.call "is_about" [(.var 5), (.var 2), (.var 3)]) [A8, A7, A6] []
noncomputable def Hw : MS := .for (.one 4) .rev [(.var 1)] [Cv, Cu]
noncomputable def Hv : MS := .ret .cnone
noncomputable def f_worth_by : MFun := ⟨4, [Hw, Hv]⟩
noncomputable def Hu : MS := .ret (.call "worth_by" [(.var 0), (.call "counting" [(.var 0), (.var 1)]), (.var 2), (.var 3)])
noncomputable def f_worth_of : MFun := ⟨4, [Hu]⟩
noncomputable def Ag : MS := .assign 2 (.list [])
noncomputable def Af : MS := .assign 3 (.list [])
noncomputable def Vj : MS := .expr (.meth .append (.var 3) [(.var 4)])
noncomputable def U9 : MS := .expr (.meth .append (.var 2) [(.idx (.idx (.var 0) (.var 4)) (.cint 1))])
noncomputable def Vi : MS := .ite (.cmp (.idx (.idx (.var 0) (.var 4)) (.cint 0)) [.eq] [(.cstr "undo")]) [U9] []
noncomputable def Oc : MS := .ite (.and [(.cmp (.var 4) [.le] [(.var 1)]), (.cmp (.var 4) [.notin] [(.var 2)])]) [Vj, Vi] []
noncomputable def Ae : MS := .for (.one 4) .plain [(.bi .sortedR [(.var 0)])] [Oc]
noncomputable def Ad : MS := .ret (.slice (.var 3) .cnone .cnone (.neg (.cint 1)))
noncomputable def f_law_counting : MFun := ⟨2, [Ag, Af, Ae, Ad]⟩
noncomputable def I3 : MS := .assign 3 (.dict0 true)
noncomputable def D1 : MS := .assign 5 (.idx (.var 0) (.var 4))
noncomputable def O6 : MS := .setidx (.var 3) (.idx (.var 5) (.cint 1)) (.idx (.var 5) (.cint 4))
noncomputable def Ux : MS := .setidx (.var 3) (.idx (.var 5) (.cint 1)) .cnone
noncomputable def U8 : MS := .setidx (.var 3) (.idx (.var 5) (.cint 1)) (.meth .get2 (.var 3) [(.idx (.var 5) (.cint 4)), .cnone])
noncomputable def N5 : MS := .ite (.cmp (.idx (.var 5) (.cint 0)) [.eq] [(.cstr "clear")]) [Ux] [U8]
noncomputable def A9 : MS := .ite (.cmp (.idx (.var 5) (.cint 0)) [.eq] [(.cstr "tell")]) [O6] [N5]
noncomputable def D0 : MS := .ite (.and [(.cmp (.idx (.var 5) (.cint 0)) [.ne] [(.cstr "undo")]), (.cmp (.idx (.var 5) (.cint 2)) [.le, .le] [(.var 2), (.idx (.var 5) (.cint 3))])]) [A9] []
noncomputable def I2 : MS := .for (.one 4) .plain [(.call "_law_counting" [(.var 0), (.var 1)])] [D1, D0]
noncomputable def I1 : MS := .ret (.var 3)
noncomputable def f_law_said : MFun := ⟨3, [I3, I2, I1]⟩
end Mine
end
section
namespace Mine
open PySem
variable {G : String → Option MV} {Γ : String → Option MFun}
section
variable {μ : MH} {a b c d e : MV}
theorem ix2_0 : idxM μ (.tup [a, b]) (.int 0) = some a := by simp [idxM, intO, atI]
theorem ix2_1 : idxM μ (.tup [a, b]) (.int 1) = some b := by simp [idxM, intO, atI]
theorem ix4_0 : idxM μ (.tup [a, b, c, d]) (.int 0) = some a := by simp [idxM, intO, atI]
theorem G6 : idxM μ (.tup [a, b, c, d, e]) (.int 0) = some a := by simp [idxM, intO, atI]
theorem ix5_4 : idxM μ (.tup [a, b, c, d, e]) (.int 4) = some e := by simp [idxM, intO, atI]
theorem U4 : PyData.strOk (S "undo") = true := by decide +kernel
theorem Z2 : PyData.strOk (S "clear") = true := by decide +kernel
theorem Jk : PyData.strOk (S "like") = true := by decide +kernel
theorem J5 : PyData.strOk (S "tell") = true := by decide +kernel
theorem Ov : cmpM .eq μ (.str (S "undo")) (.str (S "undo")) = some true := by rw [Zb U4 U4]; simp
theorem Na : cmpM .eq μ (.str (S "clear")) (.str (S "undo")) = some false := by rw [Zb Z2 U4]; exact congrArg some (beq_eq_false_iff_ne.mpr (by decide +kernel))
theorem F6 : cmpM .eq μ (.str (S "clear")) (.str (S "tell")) = some false := by rw [Zb Z2 J5]; exact congrArg some (beq_eq_false_iff_ne.mpr (by decide +kernel))
theorem Cg : cmpM .eq μ (.str (S "clear")) (.str (S "clear")) = some true := by rw [Zb Z2 Z2]; simp
theorem Oy : cmpM .eq μ (.str (S "like")) (.str (S "undo")) = some false := by rw [Zb Jk U4]; exact congrArg some (beq_eq_false_iff_ne.mpr (by decide +kernel))
theorem Oz : cmpM .eq μ (.str (S "like")) (.str (S "tell")) = some false := by rw [Zb Jk J5]; exact congrArg some (beq_eq_false_iff_ne.mpr (by decide +kernel))
theorem F5 : cmpM .eq μ (.str (S "like")) (.str (S "clear")) = some false := by rw [Zb Jk Z2]; exact congrArg some (beq_eq_false_iff_ne.mpr (by decide +kernel))
theorem Ow : cmpM .eq μ (.str (S "tell")) (.str (S "undo")) = some false := by rw [Zb J5 U4]; exact congrArg some (beq_eq_false_iff_ne.mpr (by decide +kernel))
theorem Ox : cmpM .eq μ (.str (S "tell")) (.str (S "tell")) = some true := by rw [Zb J5 J5]; simp
theorem F4 : cmpM .eq μ (.str (S "tell")) (.str (S "clear")) = some false := by rw [Zb J5 Z2]; exact congrArg some (beq_eq_false_iff_ne.mpr (by decide +kernel))
end
inductive Ent where
  | undo (j : Int)
  | clear (nm : Str) (lo hi : Int)
  | like (nm : Str) (lo hi : Int) (nm' : Str)
  | tell (nm : Str) (lo hi v : Int)
noncomputable def Ent.mv : Ent → MV
  | .undo j => .tup [.str (S "undo"), .int j]
  | .clear nm lo hi => .tup [.str (S "clear"), .str nm, .int lo, .int hi]
  | .like nm lo hi nm' => .tup [.str (S "like"), .str nm, .int lo, .int hi, .str nm']
  | .tell nm lo hi v => .tup [.str (S "tell"), .str nm, .int lo, .int hi, .int v]
noncomputable def Ent.ok : Ent → Prop
  | .undo _ => True
  | .clear nm _ _ => PyData.strOk nm = true
  | .like nm _ _ nm' => PyData.strOk nm = true ∧ PyData.strOk nm' = true
  | .tell nm _ _ _ => PyData.strOk nm = true
noncomputable def Ent.good (names : List Str) (k : Int) : Ent → Prop
  | .undo j => 1 ≤ j ∧ j < k
  | .clear nm lo hi => nm ∈ names ∧ 0 ≤ lo ∧ lo ≤ hi ∧ hi ≤ 1000000
  | .like nm lo hi nm' => nm ∈ names ∧ nm' ∈ names ∧ 0 ≤ lo ∧ lo ≤ hi ∧ hi ≤ 1000000
  | .tell nm lo hi v => nm ∈ names ∧ 0 ≤ lo ∧ lo ≤ hi ∧ hi ≤ 1000000 ∧ -1000000000 ≤ v ∧ v ≤ 1000000000
theorem Ent.good.ok {names : List Str} {k : Int} {e : Ent} (hn : ∀ nm ∈ names, GoodN nm) (h : e.good names k) : e.ok := by
  cases e with
  | undo j => trivial
  | clear nm lo hi => exact (hn _ h.1).ok
  | like nm lo hi nm' => exact ⟨(hn _ h.1).ok, (hn _ h.2.1).ok⟩
  | tell nm lo hi v => exact (hn _ h.1).ok
theorem Ent.ok.ent {e : Ent} (h : e.ok) : EntOk e.mv := by
  have a1 : S "clear" ≠ S "undo" := by decide +kernel
  have a2 : S "like" ≠ S "undo" := by decide +kernel
  have a3 : S "tell" ≠ S "undo" := by decide +kernel
  have hi : ∀ i, Atom (.int i) := fun i => .inl ⟨i, rfl⟩
  cases e with
  | undo j => exact .inl ⟨j, rfl⟩
  | clear nm lo hi' => exact .inr ⟨_, _, rfl, a1, Z2, by simp, by simpa [hi] using .inr ⟨_, rfl, h⟩⟩
  | like nm lo hi' nm' =>
    have h1 : Atom (.str nm) := .inr ⟨_, rfl, h.1⟩
    have h2 : Atom (.str nm') := .inr ⟨_, rfl, h.2⟩
    exact .inr ⟨_, _, rfl, a2, Jk, by simp, by simp [hi, h1, h2]⟩
  | tell nm lo hi' v => exact .inr ⟨_, _, rfl, a3, J5, by simp, by simpa [hi] using .inr ⟨_, rfl, h⟩⟩
theorem GoodE.to {names : List Str} {k : Int} {v : MV} (h : GoodE names k v) : ∃ e : Ent, v = e.mv ∧ e.good names k := by
  rcases h with ⟨j, rfl, h⟩ | ⟨nm, lo, hi, rfl, h⟩ | ⟨nm, lo, hi, nm', rfl, h⟩ | ⟨nm, lo, hi, v, rfl, h⟩
  · exact ⟨.undo j, rfl, h⟩
  · exact ⟨.clear nm lo hi, rfl, h⟩
  · exact ⟨.like nm lo hi nm', rfl, h⟩
  · exact ⟨.tell nm lo hi v, rfl, h⟩
abbrev Book := List (Int × Ent)
noncomputable def Book.mv (B : Book) : List (Int × MV) := B.map fun p => (p.1, p.2.mv)
noncomputable def Book.keys (B : Book) : List Int := B.map (·.1)
noncomputable def Book.at (B : Book) (k : Int) : Option Ent := (B.find? fun p => p.1 = k).map (·.2)
theorem Book.mv_keys (B : Book) : (Book.mv B).map (·.1) = B.keys := by simp [Book.mv, Book.keys, List.map_map, Function.comp_def]
theorem Book.mv_len (B : Book) : (Book.mv B).length = B.length := by simp [Book.mv]
theorem Book.look (B : Book) (k : Int) : lookI (Book.mv B) k = (Book.at B k).map Ent.mv := by
  unfold lookI Book.mv Book.at
  induction B with
  | nil => rfl
  | cons p B ih =>
    simp only [List.map_cons, List.find?_cons]
    by_cases h : p.1 = k
    · simp [h]
    · simpa [h] using ih
theorem Book.at_mem {B : Book} (hn : B.keys.Nodup) {p : Int × Ent} (hp : p ∈ B) : Book.at B p.1 = some p.2 := by
  induction B with
  | nil => cases hp
  | cons q l ih =>
    simp only [Book.keys, List.map_cons, List.nodup_cons] at hn
    unfold Book.at
    rw [List.find?_cons]
    rcases List.mem_cons.mp hp with rfl | hp'
    · simp
    · have : q.1 ≠ p.1 := fun e => hn.1 (e ▸ List.mem_map_of_mem hp')
      simp only [this, decide_false]
      exact ih hn.2 hp'
theorem Book.at_some {B : Book} {k : Int} {e : Ent} (h : Book.at B k = some e) : (k, e) ∈ B := by
  unfold Book.at at h
  rw [Option.map_eq_some_iff] at h
  obtain ⟨p, hp, rfl⟩ := h
  have h1 := List.find?_some hp
  have h2 := List.mem_of_find?_eq_some hp
  simp only [decide_eq_true_eq] at h1
  rw [← h1]; exact h2
theorem Book.at_key {B : Book} {k : Int} (h : k ∈ B.keys) : ∃ e, Book.at B k = some e := by
  unfold Book.keys at h
  obtain ⟨p, hp, rfl⟩ := List.mem_map.mp h
  cases q : Book.at B p.1 with
  | some e => exact ⟨e, rfl⟩
  | none =>
    unfold Book.at at q
    rw [Option.map_eq_none_iff, List.find?_eq_none] at q
    exact absurd (by simp) (q p hp)
structure BOk (B : Book) : Prop where
  nodup : B.keys.Nodup
  ok : ∀ p ∈ B, p.2.ok
  len : B.length ≤ 40
theorem BOk.ent {B : Book} (h : BOk B) : ∀ p ∈ Book.mv B, EntOk p.2 := by
  intro p hp
  obtain ⟨q, hq, rfl⟩ := List.mem_map.mp hp
  exact (h.ok q hq).ent
theorem good_all {names : List Str} : ∀ {kvs : List (Int × MV)}, (∀ p ∈ kvs, GoodE names p.1 p.2) → ∃ B : Book, kvs = Book.mv B ∧ ∀ p ∈ B, p.2.good names p.1
  | [] => fun _ => ⟨[], rfl, by simp⟩
  | p :: kvs => fun h => by
    obtain ⟨B, rfl, hB⟩ := good_all fun p hp => h p (.tail _ hp)
    obtain ⟨e, he, hg⟩ := (h p (.head _)).to
    refine ⟨(p.1, e) :: B, ?_, ?_⟩
    · simp [Book.mv, ← he]
    · intro q hq
      rcases List.mem_cons.mp hq with rfl | hq
      · exact hg
      · exact hB q hq
theorem book_at {ns : List Int} {many : Int} {kvs : List (Int × MV)} (h : BookOk ns many kvs) (hm : 0 ≤ many ∧ many ≤ 14) : ∃ (names : List Str) (B : Book), names = namesF (at0 ns 1) ∧ names.length = 3 ∧ (∀ nm ∈ names, GoodN nm) ∧ kvs = Book.mv B ∧ BOk B ∧ B.length ≤ 14 ∧ (∀ p ∈ B, p.2.good names p.1) ∧ ∀ k ∈ B.keys, 1 ≤ k ∧ k ≤ 40 := by
  have hf := book_facts h hm
  obtain ⟨names, rows, cut, h3, hg, hk, he, hc, rfl, hnF⟩ := h
  have hp : (rows.drop cut ++ rows.take cut).Perm rows := by
    have := List.perm_append_comm (l₁ := rows.drop cut) (l₂ := rows.take cut)
    rwa [List.take_append_drop] at this
  obtain ⟨B, hB, hgB⟩ := good_all (names := names) (kvs := rows.drop cut ++ rows.take cut) fun p q => he p (hp.mem_iff.mp q)
  rw [hB] at hf
  rw [Book.mv_keys, Book.mv_len] at hf
  exact ⟨names, B, hnF, h3, hg, hB, ⟨hf.1, fun p hp => (hgB p hp).ok hg, by omega⟩, hf.2.1, hgB, hf.2.2.2⟩
theorem book_of {ns : List Int} {many : Int} {kvs : List (Int × MV)} (h : BookOk ns many kvs) (hm : 0 ≤ many ∧ many ≤ 14) : ∃ (names : List Str) (B : Book), names.length = 3 ∧ (∀ nm ∈ names, GoodN nm) ∧ kvs = Book.mv B ∧ BOk B ∧ B.length ≤ 14 ∧ (∀ p ∈ B, p.2.good names p.1) ∧ ∀ k ∈ B.keys, 1 ≤ k ∧ k ≤ 40 := by
  obtain ⟨names, B, _, r⟩ := book_at h hm
  exact ⟨names, B, r⟩
end Mine
end
section
set_option maxRecDepth 100000
namespace Mine
open PySem PySem.Calls PyProof.Rows PySem.W
abbrev bmV : List Value := [.type "ValueError", .type "Exception", .type "BaseException", .type "object"]
noncomputable def qn : List Str := ["__init__", "__getattribute__", "__getattr__", "__class__"]
inductive ClsAt (h : Heap) (C : Addr) (own : List Addr) : Prop
  | mk (N : _) (nm : _) (q : _) (bs : _) (hdct : _) (sn : _) (sub : _) (ab : _) (col : _) (dd : _) (k0 : _) (k1 : _) (k2 : _) (k3 : _) (k5 : _) (mN : _) (h1 : h.get? C = some (excClassObj nm q C N bs (own.map .ref ++ bmV) hdct sn sub ab col dd k0 k1 k2 k3 k5 "ValueError.__new__")) (h2 : h.Ns N mN) (h3 : ∀ n ∈ qn, mN n = none)
theorem ClsAt.keeps {h h' : Heap} {C : Addr} {own : List Addr} (x : ClsAt h C own) (k : ∀ b o, h.get? b = some o → h'.get? b = some o) : ClsAt h' C own := by
  obtain ⟨N, nm, q, bs, hdct, sn, sub, ab, col, dd, k0, k1, k2, k3, k5, mN, h1, h2, h3⟩ := x
  exact ⟨N, nm, q, bs, hdct, sn, sub, ab, col, dd, k0, k1, k2, k3, k5, mN, k _ _ h1, h2.keeps k, h3⟩
section
variable {M : Model} {prog : Program} {w : World} {A : Around} {E : Value → Shared → Prop} {h : Heap} {g : Array GenState} {d : Drawn} {t : Nat} {os : OsState} {a C D : Addr} {o : Obj}
theorem Nz {n : Str} {y : Option Value} {Q : Option Value → Shared → Prop} (K : ClsAt h C [D]) (K' : ClsAt h D []) (hn : n ∈ qn) (hB : typeLookup (.type "ValueError") n = pure y) (hq : Q y ⟨h, g, d, t, os⟩) : wpAny M A (typeLookup (.ref C) n) Q E ⟨h, g, d, t, os⟩ := by
  obtain ⟨N, nm, q, bs, hdct, sn, sub, ab, col, dd, k0, k1, k2, k3, k5, mN, h1, h2, h3⟩ := K
  obtain ⟨N', nm', q', bs', hdct', sn', sub', ab', col', dd', k0', k1', k2', k3', k5', mN', h1', h2', h3'⟩ := K'
  have hrest : lookupAlong bmV n = pure y := by rw [typeLookup_eq, F.attrBase_ValueError.mro] at hB; exact hB
  rw [typeLookup_eq]
  refine wpAny_bind (wpAny_mroOf_exc h1 ?_)
  show wpAny M A (lookupAlong (.ref C :: .ref D :: bmV) n) Q E _
  rw [lookupAlong_cons]
  refine wpAny_bind (wpAny_classOwn_exc h1 h2 ?_)
  rw [h3 n hn]
  show wpAny M A (lookupAlong (.ref D :: bmV) n) Q E _
  rw [lookupAlong_cons]
  refine wpAny_bind (wpAny_classOwn_exc h1' h2' ?_)
  rw [h3' n hn]
  show wpAny M A (lookupAlong bmV n) Q E _
  rw [hrest]
  exact wpAny_pure hq
theorem H1 {base : Value} {Q : Bool → Shared → Prop} (K : ClsAt h C [D]) (hq : Q ((Value.ref C :: .ref D :: bmV).contains base) ⟨h, g, d, t, os⟩) : wpAny M A (isSubtype (.ref C) base) Q E ⟨h, g, d, t, os⟩ := by
  obtain ⟨N, nm, q, bs, hdct, sn, sub, ab, col, dd, k0, k1, k2, k3, k5, mN, h1, h2, h3⟩ := K
  exact wpAny_isSubtype_exc h1 hq
theorem ve_class : typeLookup (.type "ValueError") "__class__" = pure (some (.builtin "object.__class__")) := by rw [typeLookup_type, builtinLookup_eq_fast]; kernel_rfl
theorem Fi {R : Result → Shared → Prop} (K : ClsAt h C [D]) (hx : h.get? a = some o) (hc : o.cls = .ref C) (hq : R (.ok (.ret (.ref C))) ⟨h, g, d, t, os⟩) :
    codeAny (model prog w) A (.call (.builtin "getset_descriptor.__get__") ⟨[.builtin "object.__class__", .ref a, .ref C], []⟩) R ⟨h, g, d, t, os⟩ := by
  have hT5 : (⟨h, g, d, t, os⟩ : Shared).TypeIs (.builtin "object.__class__") "getset_descriptor" := F.typeOf_object_class
  have hcB : (Value.ref C :: .ref D :: bmV).contains (.type (".".intercalate ("object.__class__".cutAt '.').dropLast)) = true := by
    rw [F.owner_object_class, List.contains_cons, List.contains_cons]
    have : bmV.contains (.type "object") = true := by decide +kernel
    rw [this]; simp
  refine codeAny_call_builtin F.slot_gs_get.plain F.entry_gs_get (F.slot_gs_get.check _ _ _ _ _ _ _ _ hT5 (F.args_gs_get _ _ _) ?_)
  repeat (any_goals (first | assumption | (with_reducible refine wpAny_loadPart_at hx ?_; rw [hc]) | (with_reducible refine H1 K ?_; rw [hcB]) | wp_step))
  refine ⟨Code.quiet_builtin _ (by decide +kernel), codeAny_builtin F.entry_object_class ?_⟩
  repeat (any_goals (first | assumption | (with_reducible refine wpAny_loadPart_at hx ?_; rw [hc]) | wp_step))
theorem Ba {tk : Tok} {Q : Fin → Shared → Prop} (K : ClsAt h C [D]) (K' : ClsAt h D []) (hx : h.get? a = some o) (hc : o.cls = .ref C) (hq : Q (.done (.ret (.ref C))) ⟨h, g, d, t, os⟩) :
    wpAny (model prog w) A (Builtin.«object.__getattribute__» ⟨[.ref a, .str "__class__" tk], []⟩) Q E ⟨h, g, d, t, os⟩ := by
  have hT5 : (⟨h, g, d, t, os⟩ : Shared).TypeIs (.builtin "object.__class__") "getset_descriptor" := F.typeOf_object_class
  have f5 := F.typeOf_object_class
  have f6 := F.slot_gs_get.lookup
  have f7 := F.slot_gs_set.lookup
  have hmA : ("__class__" : Str) ∈ qn := .tail _ (.tail _ (.tail _ (.head _)))
  repeat (any_goals (first | assumption | (with_reducible refine wpAny_loadPart_at hx ?_; rw [hc]) | with_reducible refine Nz K K' hmA ve_class ?_ | wp_step))
  refine Fi K hx hc ?_
  repeat (any_goals (first | assumption | wp_step))
theorem Iy {nameV : Value} {Q : Unit → Shared → Prop} (K : ClsAt h C [D]) (hx : h.get? a = some o) (hc : o.cls = .ref C) (hq : Q () ⟨h, g, d, t, os⟩) : wpAny M A (checkBuiltinCall "BaseException.__getattribute__" ⟨[.ref a, nameV], []⟩) Q E ⟨h, g, d, t, os⟩ := by
  have hk : builtinKind "BaseException.__getattribute__" = some .slot := by decide +kernel
  have hsplit : splitId "BaseException.__getattribute__" = some ("BaseException", "__getattribute__") := by decide +kernel
  have hcB : (Value.ref C :: .ref D :: bmV).contains (.type "BaseException") = true := by
    rw [List.contains_cons, List.contains_cons]
    have : bmV.contains (.type "BaseException") = true := by decide +kernel
    rw [this]; simp
  have ha := F.args_bexc_ga (.ref a) nameV
  simp only [checkBuiltinCall, hk, hsplit]
  refine wpAny_bind ?_
  · unfold isInstance
    repeat (first | (with_reducible refine wpAny_loadPart_at hx ?_; rw [hc]) | (with_reducible refine H1 K ?_; rw [hcB]) | wp_step)
    exact hq
theorem Dn {tk : Tok} {R : Result → Shared → Prop} (K : ClsAt h C [D]) (K' : ClsAt h D []) (hx : h.get? a = some o) (hc : o.cls = .ref C) (hq : R (.ok (.ret (.ref C))) ⟨h, g, d, t, os⟩) :
    codeAny (model prog w) A (.call (.builtin "BaseException.__getattribute__") ⟨[.ref a, .str "__class__" tk], []⟩) R ⟨h, g, d, t, os⟩ :=
  codeAny_call_builtin F.attrBase_ValueError.ga.plain F.entry_bexc_ga (Iy K hx hc (Ba K K' hx hc hq))
theorem Ix {tk : Tok} {fill expr : Bool} {Q : Value → Shared → Prop} (K : ClsAt h C [D]) (K' : ClsAt h D []) (hx : h.get? a = some o) (hc : o.cls = .ref C) (hq : Q (.ref C) ⟨h, g, d, t, os⟩) :
    wpAny (model prog w) A (getAttrBy (.ref a) (.str "__class__" tk) fill expr) Q E ⟨h, g, d, t, os⟩ := by
  have f3 := F.attrBase_ValueError.ga.bind (.ref a)
  have hx0 : (expr && onTheHeap (Value.builtin "BaseException.__getattribute__")) = false := by cases expr <;> rfl
  have hx2 : (Value.builtin "BaseException.__getattribute__" == Value.builtin "object.__getattribute__") = false := by decide +kernel
  have hx1 : (onTheHeap (Value.ref C) && Value.builtin "BaseException.__getattribute__" == Value.builtin "object.__getattribute__") = false := by rw [hx2]; rfl
  have hm1 : ("__getattribute__" : Str) ∈ qn := .tail _ (.head _)
  have hm2 : ("__getattr__" : Str) ∈ qn := .tail _ (.tail _ (.head _))
  repeat (any_goals (first | assumption | (with_reducible refine wpAny_loadPart_at hx ?_; rw [hc]) | with_reducible refine Nz K K' hm1 F.attrBase_ValueError.ga.lookup ?_ | with_reducible refine Nz K K' hm2 F.attrBase_ValueError.noGetattr ?_ | wp_step))
  refine Dn K K' hx hc ?_
  repeat (any_goals (first | assumption | wp_step))
theorem Do {Q : Option Value → Shared → Prop} (K : ClsAt h C [D]) (K' : ClsAt h D []) (hx : h.get? a = some o) (hc : o.cls = .ref C) (hq : Q (some (.ref C)) ⟨h, g, d, t + 1, os⟩) : wpAny (model prog w) A (getAttr? (.ref a) "__class__") Q E ⟨h, g, d, t, os⟩ := by
  unfold getAttr? getAttrBy?
  repeat (any_goals (first | assumption | with_reducible apply Ix K K' hx hc | wp_step))
theorem U6 {own : List Addr} (K : ClsAt h C own) : Looks M h (isType (.ref C)) true := by
  obtain ⟨N, nm, q, bs, hdct, sn, sub, ab, col, dd, k0, k1, k2, k3, k5, mN, h1, h2, h3⟩ := K
  intro A' Q' E' s' k q
  unfold isType loadHead
  exact wpAny_bind (wpAny_loadPart (k _ _ h1) (wpAny_pure q))
theorem Os {v : Value} (hx : h.get? a = some o) (hc : o.cls = v) : Looks M h (typeOf (.ref a)) v := by
  intro A' Q' E' s' k q
  obtain ⟨h', g', d', t', os'⟩ := s'
  have hx' := k _ _ hx
  repeat (first | assumption | (with_reducible refine wpAny_loadPart_at hx' ?_; rw [hc]) | wp_step)
theorem Cc {own : List Addr} (K : ClsAt h C own) : Looks M h (typeOf (.ref C)) (.type "type") := by
  obtain ⟨N, nm, q, bs, hdct, sn, sub, ab, col, dd, k0, k1, k2, k3, k5, mN, h1, h2, h3⟩ := K
  exact Os h1 rfl
theorem looks_sub {c : Value} (K : ClsAt h C [D]) : Looks M h (isSubtype (.ref C) c) ((Value.ref C :: .ref D :: bmV).contains c) := by
  intro A' Q' E' s' k q
  obtain ⟨h', g', d', t', os'⟩ := s'
  exact H1 (K.keeps k) q
theorem isi_own {c : Value} {v : Bool} {Q : Value → Shared → Prop} (K : ClsAt h C [D]) (K' : ClsAt h D []) (hx : h.get? a = some o) (hc : o.cls = .ref C) (hty : ∀ M, Looks M h (typeOf c) (.type "type")) (his : ∀ M, Looks M h (isType c) true) (hv : (Value.ref C :: .ref D :: bmV).contains c = v)
    (hq : ∀ tk, Q (.bool v) ⟨h, g, d, tk, os⟩) : wpAny (model prog w) A (call (.builtin "isinstance") [.ref a, c]) Q E ⟨h, g, d, t, os⟩ := by
  refine call_isinstance_of ?_ (by intro e; cases e)
  unfold Builtin.«isinstance.nested»
  have LT : Looks (model prog w) h (typeOf (.ref a)) (.ref C) := Os hx hc
  refine wpAny_bind (LT.at ?_)
  by_cases q : ((Value.ref C : Value) == c) = true
  · rw [if_pos q]
    have hv' : v = true := by rw [← hv, List.contains_cons]; rw [beq_iff_eq] at q; subst q; simp
    subst hv'
    first
      | ((repeat lk); exact hq t)
      | exact wpAny_bind (wpAny_rule (hq t))
      | exact wpAny_bind (wpAny_rule (wpAny_pure (hq t)))
  · rw [if_neg q]
    have hsub : Looks (model prog w) h (isSubtype (.ref C) c) v := hv ▸ looks_sub K
    have LI : Looks (model prog w) h (isInstance (.ref a) c) v := LT.andThen hsub
    refine wpAny_bind ((hty _).at ?_)
    rw [if_pos (by decide)]
    k_delta "plainIsInstance"
    refine wpAny_bind (wpAny_bind ((his _).at ?_))
    simp only [Bool.not_true, Bool.false_eq_true, if_false]
    refine wpAny_bind (LI.at ?_)
    cases v with
    | true =>
      first
        | exact wpAny_pure (wpAny_pure (hq t))
        | (simp only [if_true]; first | exact wpAny_pure (wpAny_pure (hq t)) | exact wpAny_pure (hq t) | exact wpAny_bind (wpAny_pure (wpAny_pure (hq t))))
    | false =>
      simp only [Bool.false_eq_true, if_false]
      refine wpAny_bind (Do K K' hx hc ?_)
      refine wpAny_bind ((U6 K).at ?_)
      simp only [Bool.not_true, Bool.false_eq_true, if_false]
      refine wpAny_bind (wpAny_rule ?_)
      refine hsub.at ?_
      first
        | exact wpAny_pure (hq _)
        | exact wpAny_pure (wpAny_pure (hq _))
        | exact wpAny_bind (wpAny_pure (wpAny_pure (hq _)))
end
end Mine
end
section
set_option maxRecDepth 100000
namespace Mine
open PySem PySem.Calls PyProof.Rows PySem.W
structure Xcs (h₀ : Heap) (mg mb : Str → Option Value) (bk bad : String) (others : List String) (C D : Addr) : Prop where
  gD : mg (Str.ofString bk) = some (.ref D)
  gC : mg (Str.ofString bad) = some (.ref C)
  cD : ClsAt h₀ D []
  cC : ClsAt h₀ C [D]
  oth : ∀ n ∈ others, ∃ X, mg (Str.ofString n) = some (.ref X) ∧ ClsAt h₀ X [D] ∧ X ≠ C ∧ X ≠ D
  ve : mg (Str.ofString "ValueError") = none ∧ mb (Str.ofString "ValueError") = some (.type "ValueError")
noncomputable def isGlobN (S : Sc) (g : String) (x : PySem.Expr) : Bool := decide ((node x).t = .name) && S.isGlob g (node x).s
theorem V8 {S : Sc} {g : String} {x : PySem.Expr} (h : isGlobN S g x = true) : ∃ n p, x = .Name n p ∧ S.isGlob g n = true := ⟨_, _, inv (and2 h).1, (and2 h).2⟩
noncomputable def oneStr (l : List PySem.Expr) : Bool := match l with
  | [y] => decide ((node y).t = .cstr)
  | _ => false
theorem oneStr_inv {l : List PySem.Expr} (h : oneStr l = true) : ∃ s k p, l = [.Constant (.str s) k p] := by
  cases l with
  | nil => cases h
  | cons y l => cases l with
    | nil => exact ⟨(node y).s, (node y).k, (node y).p, congrArg (fun z => [z]) (inv h)⟩
    | cons _ _ => cases h
noncomputable def chkRaise (cls : String) (tab : List (Nat × Str)) (names : List (Str × NameKind)) (x : PySem.Stmt) : Bool := match x with
  | .Raise (some c) none _ => callsG ⟨tab, names, []⟩ cls c && oneStr (node c).l
  | _ => false
theorem Dr {S : Sc} {g : String} {x : PySem.Expr} (h : callsG S g x = true) : ∃ n np p, x = .Call (.Name n np) (node x).l [] p ∧ S.isGlob g n = true := by
  unfold callsG at h
  simp only [Bool.and_eq_true, List.isEmpty_iff] at h
  refine ⟨(node x).s, (node x).p2, (node x).p, ?_, h.1.2⟩
  have := inv h.1.1
  simp only [buildT, h.2] at this
  exact this
theorem Pt {cls : String} {tab : List (Nat × Str)} {names : List (Str × NameKind)} {x : PySem.Stmt} (h : chkRaise cls tab names x = true) : ∃ n np y k p' cpos pos, x = .Raise (some (.Call (.Name n np) [.Constant (.str y) k p'] [] cpos)) none pos ∧ (⟨tab, names, []⟩ : Sc).isGlob cls n = true := by
  unfold chkRaise at h
  split at h
  · rename_i c pos
    rw [Bool.and_eq_true] at h
    obtain ⟨n, np, p, e, hg⟩ := Dr h.1
    obtain ⟨y, k, p', e'⟩ := oneStr_inv h.2
    rw [e'] at e
    exact ⟨n, np, y, k, p', p, pos, by rw [e], hg⟩
  · cases h
section
variable {prog : Program} {w : World} {G : String → Option MV} {Γ : String → Option MFun} {h₀ : Heap} {mg mb : Str → Option Value}
theorem Cn {tab : List (Nat × Str)} {names : List (Str × NameKind)} {f f' : List String} {g : String} {n : Str} (h : (⟨tab, names, f⟩ : Sc).isGlob g n = true) : (⟨tab, names, f'⟩ : Sc).isGlob g n = true := h
theorem H6 {bk bad : String} {others : List String} {K D : Addr} (pg : PG prog w G Γ h₀ mg mb) (X : Xcs h₀ mg mb bk bad others K D) {S : Sc} {env : Env} {vars : MVars} {fz : List Addr} {μ : MH} {s : Shared} {A : Around} {E : Value → Shared → Prop} {Q : Flow → Shared → Prop} {x : PySem.Stmt} (C : Cur prog w h₀ S env vars fz μ s) (hh : A.handled = none) (hx : chkRaise bad S.tab S.names x = true)
    (hE : ∀ e h' tk args, Heap.MadeExcOf s.heap h' e (.ref K) args → E (.ref e) { s with heap := h', toks := tk }) : wpAny (model prog w) A (exec x env) Q E s := by
  obtain ⟨n, np, y, k, p', cpos, pos, rfl, hg⟩ := Pt hx
  have kp : ∀ b o, h₀.get? b = some o → s.heap.get? b = some o := fun b o e => (C.base b o e).1
  have KC := X.cC.keeps kp
  have KD := X.cD.keeps kp
  obtain ⟨N, nm, q, bs, hdct, sn, sub, ab, col, dd, k0, k1, k2, k3, k5, mN, h1, h2, h3⟩ := KC
  obtain ⟨N', nm', q', bs', hdct', sn', sub', ab', col', dd', k0', k1', k2', k3', k5', mN', h1', h2', h3'⟩ := KD
  have hqi : ("__init__" : Str) ∈ qn := .head _
  refine wpAny_Raise_call_subU (bmB := bmV) F.excBase_ValueError (by decide +kernel) F.excBase_ValueError (C := K) (mN := mN) (bm := [.ref D] ++ bmV) (nm := nm) (q := q) (N := N) (bs := bs) (hdct := hdct) (sn := sn) (sub := sub) (ab := ab) (col := col) (dd := dd) (k0 := k0) (k1 := k1) (k2 := k2) (k3 := k3) (k5 := k5) (by rw [List.singleton_append, List.contains_cons, show bmV.contains (.type "BaseException") = true by decide +kernel, Bool.or_true]) hh rfl (h3 _ hqi) ?_
  refine Jn pg C (S := S) (Cn hg) X.gC ⟨rfl, ?_⟩
  rw [show backTo cpos (starEach [.Constant (.str y) k p'] env) = [(false, eval (.Constant (.str y) k p') env)] from rfl]
  refine Yc rfl (Calls.spliced_cons (Calls.Constant_str (Calls.spliced_nil ?_)))
  refine ⟨rfl, by show 1 ≤ sizeLine; decide, h1, h2, .own h1' h2' (h3' _ hqi) .base, fun h' e hm => hE e h' _ _ hm⟩
end
end Mine
end
section
set_option maxRecDepth 100000
namespace Mine
open PySem PySem.Calls PyProof.Rows PySem.W
structure Stk (A : Around) (h₀ h : Heap) (μ : MH) (outer : List Env) : Prop where
  fr : A.frames = some outer
  ff : h.FunFrames h₀ outer
  nt : ∀ e ∈ outer, ∀ L, e.frame = some L → μ L = none
noncomputable def Upto (μ : MH) (h h' : Heap) : Prop := ∀ b o, μ b = none → h.get? b = some o → (∀ vs, o.data ≠ .fields vs) → ∃ sl, h'.get? b = some { o with slots := sl }
section
variable {prog : Program} {w : World} {G : String → Option MV} {Γ : String → Option MFun} {h₀ : Heap} {mg mb : Str → Option Value}
theorem ff_push {S : Sc} {env : Env} {vars : MVars} {fz : List Addr} {μ : MH} {s : Shared} {outer : List Env} (C : Cur prog w h₀ S env vars fz μ s) (hf : env.frame = some env.locals) (ff : s.heap.FunFrames h₀ outer) : s.heap.FunFrames h₀ (env :: outer) := by
  refine ⟨by rw [C.fr.kind]; decide, ?_, ff⟩
  obtain ⟨m, ⟨o, es, ep, ho, hd, _⟩, _⟩ := C.fr.ns
  exact ⟨env.locals, o, hf, C.newl, ho, fun vs q => by rw [hd] at q; cases q⟩
noncomputable def needBody (t bad : String) : List MS := [.ite (.not (.call t [.var 0])) [.opq (chkRaise bad)] [], .ret (.var 0)]
end
end Mine
end
section
set_option maxRecDepth 100000
namespace Mine
open PySem PySem.Calls PyProof.Rows PySem.W
noncomputable def two (l : List PySem.Expr) (f g : PySem.Expr → Bool) : Bool := match l with
  | [y, z] => f y && g z
  | _ => false
theorem two_inv {l : List PySem.Expr} {f g : PySem.Expr → Bool} (h : two l f g = true) : ∃ y z, l = [y, z] ∧ f y = true ∧ g z = true := by
  cases l with
  | nil => cases h
  | cons y l => cases l with
    | nil => cases h
    | cons z l => cases l with
      | nil => exact ⟨y, z, rfl, and2 h⟩
      | cons _ _ => cases h
noncomputable def chkIsi (S : Sc) (i : Nat) (cls : String) (x : PySem.Expr) : Bool := callsG S "isinstance" x && two (node x).l (isE S (.var i)) (isGlobN S cls)
theorem Dp {S : Sc} {i : Nat} {cls : String} {x : PySem.Expr} (h : chkIsi S i cls x = true) : ∃ g gp y n p cp, x = .Call (.Name g gp) [y, .Name n p] [] cp ∧ S.isGlob "isinstance" g = true ∧ isE S (.var i) y = true ∧ S.isGlob cls n = true := by
  obtain ⟨h1, h2⟩ := and2 h
  obtain ⟨g, gp, cp, e, hg⟩ := Dr h1
  obtain ⟨y, z, e', hy, hz⟩ := two_inv h2
  obtain ⟨n, p, rfl, hn⟩ := V8 hz
  rw [e'] at e
  exact ⟨g, gp, y, n, p, cp, e, hg, hy, hn⟩
noncomputable def chkIsis (S : Sc) (i : Nat) : List String → List PySem.Expr → Bool
  | [], [] => true
  | c :: cs, x :: xs => chkIsi S i c x && chkIsis S i cs xs
  | _, _ => false
section
variable {prog : Program} {w : World} {G : String → Option MV} {Γ : String → Option MFun} {h₀ : Heap} {mg mb : Str → Option Value}
noncomputable def Says (h₀ : Heap) (mg mb : Str → Option Value) (K D : Addr) (cls : String) (b : Bool) : Prop := ∃ c, (mg (Str.ofString cls) = some c ∨ (mg (Str.ofString cls) = none ∧ mb (Str.ofString cls) = some c)) ∧ (∀ M, Looks M h₀ (typeOf c) (.type "type")) ∧ (∀ M, Looks M h₀ (isType c) true) ∧ (Value.ref K :: .ref D :: bmV).contains c = b
theorem says_bad {bk bad : String} {others : List String} {K D : Addr} (X : Xcs h₀ mg mb bk bad others K D) : Says h₀ mg mb K D bad true := ⟨_, .inl X.gC, fun _ => Cc X.cC, fun _ => U6 X.cC, by simp⟩
theorem says_ve {bk bad : String} {others : List String} {K D : Addr} (X : Xcs h₀ mg mb bk bad others K D) : Says h₀ mg mb K D "ValueError" true := ⟨_, .inr X.ve, fun _ => Looks.of_pure (kitMeta_of (by decide +kernel)), fun _ => Looks.of_pure rfl, by
  rw [List.contains_cons, List.contains_cons, show bmV.contains (.type "ValueError") = true by decide +kernel]; simp⟩
theorem says_oth {bk bad : String} {others : List String} {K D : Addr} (X : Xcs h₀ mg mb bk bad others K D) {n : String} (h : n ∈ others) : Says h₀ mg mb K D n false := by
  obtain ⟨Y, h1, h2, h3, h4⟩ := X.oth n h
  refine ⟨_, .inl h1, fun _ => Cc h2, fun _ => U6 h2, ?_⟩
  have a : ((Value.ref Y : Value) == .ref K) = false := by rw [beq_eq_false_iff_ne]; exact fun e => h3 (Value.ref.inj e)
  have b : ((Value.ref Y : Value) == .ref D) = false := by rw [beq_eq_false_iff_ne]; exact fun e => h4 (Value.ref.inj e)
  rw [List.contains_cons, List.contains_cons, a, b]
  rfl
theorem Cur.toks {S : Sc} {env : Env} {vars : MVars} {fz : List Addr} {μ : MH} {s s' : Shared} (C : Cur prog w h₀ S env vars fz μ s) (h : s'.heap = s.heap) : Cur prog w h₀ S env vars fz μ s' := by
  obtain ⟨hp, g, d, t, os⟩ := s
  obtain ⟨hp', g', d', t', os'⟩ := s'
  obtain rfl : hp' = hp := h
  exact ⟨C.base, C.heap, C.fzin, C.fr, C.newl, C.newc, C.known⟩
theorem Cl {K D : Addr} (pg : PG prog w G Γ h₀ mg mb) (cC : ClsAt h₀ K [D]) (cD : ClsAt h₀ D []) {S : Sc} {env : Env} {vars : MVars} {fz : List Addr} {μ : MH} {s : Shared} {A : Around} {E : Value → Shared → Prop} {Q : Value → Shared → Prop} {x : PySem.Expr} {cls : String} {b : Bool} {i : Nat} {e : Addr} {oe : Obj}
    (C : Cur prog w h₀ S env vars fz μ s) (hv : vars i = some (.ref e)) (he : s.heap.get? e = some oe) (hc : oe.cls = .ref K) (hs : Says h₀ mg mb K D cls b) (hx : chkIsi S i cls x = true) (hq : ∀ tk, Q (.bool b) { s with toks := tk }) : wpAny (model prog w) A (eval x env) Q E s := by
  obtain ⟨g, gp, y, n, p, cp, rfl, hg, hy, hn⟩ := Dp hx
  have kp : ∀ b o, h₀.get? b = some o → s.heap.get? b = some o := fun b o e => (C.base b o e).1
  refine wpAny_Call_ofName (Ou pg C hg (v := .builtin "isinstance") (by decide) ?_)
  show wpAny _ A (callWith cp (.builtin "isinstance") [] (backTo cp (starEach [y, .Name n p] env)) []) _ _ s
  rw [show backTo cp (starEach [y, .Name n p] env) = [(false, eval y env), (false, eval (.Name n p) env)] by rw [Bo hy]; rfl]
  refine callWith_builtin rfl (Yc rfl ?_)
  obtain ⟨yn, yp, rfl, hyv⟩ := Bf hy
  refine Calls.spliced_cons (wpAny_Name (Ot C hyv hv fun u ru => ?_) (K0 hyv))
  obtain rfl : u = .ref e := ru
  obtain ⟨c, hl, hty, his, hval⟩ := hs
  have ld : ∀ {Q : Value → Shared → Prop}, Q c s → wpAny (model prog w) A (eval (.Name n p) env) Q E s := fun hq => by
    rcases hl with h1 | ⟨h1, h2⟩
    · exact Jn pg C hn h1 hq
    · obtain ⟨rfl, hk, hd⟩ := Jo hn
      refine Name_function_global C.fr.kind (by unfold Env.kindOf; rw [C.fr.names]; exact hk) (loadGlobal_builtin (mg := mg) (mb := mb) ?_ h1 ?_ h2 hq) hd
      · rw [C.fr.glob]; exact pg.g.keeps kp
      · rw [C.fr.bui]; exact pg.b.keeps kp
  refine Calls.spliced_cons (ld (Calls.spliced_nil ?_))
  obtain ⟨hp, g', d', t', os'⟩ := s
  exact isi_own (cC.keeps kp) (cD.keeps kp) he hc (fun M => (hty M).keeps kp) (fun M => (his M).keeps kp) hval hq
theorem G7 {K D : Addr} (pg : PG prog w G Γ h₀ mg mb) (cC : ClsAt h₀ K [D]) (cD : ClsAt h₀ D []) {S : Sc} {env : Env} {vars : MVars} {fz : List Addr} {μ : MH} {A : Around} {E : Value → Shared → Prop} {b : Bool} {i : Nat} {e : Addr} {oe : Obj} (hv : vars i = some (.ref e)) (hc : oe.cls = .ref K) {p : Pos} :
    ∀ (cs : List String) (xs : List PySem.Expr) (s : Shared) (Q : List Value → Shared → Prop), Cur prog w h₀ S env vars fz μ s → s.heap.get? e = some oe → (∀ c ∈ cs, Says h₀ mg mb K D c b) → chkIsis S i cs xs = true → (∀ tk, Q (cs.map fun _ => .bool b) { s with toks := tk }) → wpAny (model prog w) A (spliced (backTo p (starEach xs env))) Q E s
  | [], [], s, Q, C, he, hs, h, hq => by
    obtain ⟨hp, g', d', t', os'⟩ := s
    exact Calls.spliced_nil (hq t')
  | c :: cs, x :: xs, s, Q, C, he, hs, h, hq => by
    obtain ⟨h1, h2⟩ := and2 h
    have hx : backTo p (starEach (x :: xs) env) = (false, eval x env) :: backTo p (starEach xs env) := by
      obtain ⟨g, gp, y, n, p, cp, rfl, _⟩ := Dp h1
      rfl
    rw [hx]
    refine Calls.spliced_cons (Cl pg cC cD C hv he hc (hs c (.head _)) h1 fun tk => ?_)
    exact G7 pg cC cD hv hc cs xs _ _ (C.toks rfl) he (fun c' h' => hs c' (.tail _ h')) h2 fun tk' => hq tk'
  | [], _ :: _, s, Q, C, he, hs, h, hq => (Bool.false_ne_true h).elim
  | _ :: _, [], s, Q, C, he, hs, h, hq => (Bool.false_ne_true h).elim
end
end Mine
end
section
set_option maxRecDepth 100000
namespace Mine
open PySem PySem.Calls PyProof.Rows PySem.W
noncomputable def three (l : List PySem.Expr) (f g k : PySem.Expr → Bool) : Bool := match l with
  | [y, z, u] => f y && (g z && k u)
  | _ => false
theorem three_inv {l : List PySem.Expr} {f g k : PySem.Expr → Bool} (h : three l f g k = true) : ∃ y z u, l = [y, z, u] ∧ f y = true ∧ g z = true ∧ k u = true := by
  cases l with
  | nil => cases h
  | cons y l => cases l with
    | nil => cases h
    | cons z l => cases l with
      | nil => cases h
      | cons u l => cases l with
        | nil => exact ⟨y, z, u, rfl, (and2 h).1, and2 (and2 h).2⟩
        | cons _ _ => cases h
noncomputable def chkK1 (S : Sc) (ei ki : Nat) (cs : List String) (s : PySem.Stmt) : Bool := decide ((nodeS s).t = .asn) && (S.isSt ki (nodeS s).s && (decide ((node (nodeS s).a).t = .list) && chkIsis S ei cs (node (nodeS s).a).l))
theorem chkK1_inv {S : Sc} {ei ki : Nat} {cs : List String} {s : PySem.Stmt} (h : chkK1 S ei ki cs s = true) : ∃ y py xs lp p, s = .Assign [.Name y py] (.List xs lp) p ∧ S.isSt ki y = true ∧ chkIsis S ei cs xs = true := by
  obtain ⟨h1, h2⟩ := and2 h
  obtain ⟨h2, h3⟩ := and2 h2
  obtain ⟨h3, h4⟩ := and2 h3
  have e : s = .Assign [.Name (nodeS s).s (nodeS s).p2] (nodeS s).a (nodeS s).p := A5 h1
  have e' : (nodeS s).a = .List (node (nodeS s).a).l (node (nodeS s).a).p := inv h3
  exact ⟨_, _, _, _, _, e.trans (congrArg (fun z => PySem.Stmt.Assign [.Name (nodeS s).s (nodeS s).p2] z (nodeS s).p) e'), h2, h4⟩
noncomputable def chkK2 (S : Sc) (ei ki : Nat) (cs : List String) (s : PySem.Stmt) : Bool := decide ((nodeS s).t = .asn) && (S.isSt ki (nodeS s).s && (decide ((node (nodeS s).a).t = .bin) && (opIs .add (node (nodeS s).a).op && (isE S (.var ki) (node (nodeS s).a).a && (decide ((node (node (nodeS s).a).b).t = .list) && chkIsis S ei cs (node (node (nodeS s).a).b).l)))))
theorem chkK2_inv {S : Sc} {ei ki : Nat} {cs : List String} {s : PySem.Stmt} (h : chkK2 S ei ki cs s = true) : ∃ y py l o xs lp bp p, s = .Assign [.Name y py] (.BinOp l o (.List xs lp) bp) p ∧ S.isSt ki y = true ∧ opIs .add o = true ∧ isE S (.var ki) l = true ∧ chkIsis S ei cs xs = true := by
  obtain ⟨h1, h2⟩ := and2 h
  obtain ⟨h2, h3⟩ := and2 h2
  obtain ⟨h3, h4⟩ := and2 h3
  obtain ⟨h4, h5⟩ := and2 h4
  obtain ⟨h5, h6⟩ := and2 h5
  obtain ⟨h6, h7⟩ := and2 h6
  have e : s = .Assign [.Name (nodeS s).s (nodeS s).p2] (nodeS s).a (nodeS s).p := A5 h1
  have e' : (nodeS s).a = .BinOp (node (nodeS s).a).a (node (nodeS s).a).op (node (nodeS s).a).b (node (nodeS s).a).p := inv h3
  have e'' : (node (nodeS s).a).b = .List (node (node (nodeS s).a).b).l (node (node (nodeS s).a).b).p := inv h6
  exact ⟨_, _, _, _, _, _, _, _, e.trans (congrArg (fun z => PySem.Stmt.Assign [.Name (nodeS s).s (nodeS s).p2] z (nodeS s).p) (e'.trans (congrArg (fun z => PySem.Expr.BinOp (node (nodeS s).a).a (node (nodeS s).a).op z (node (nodeS s).a).p) e''))), h2, h4, h5, h7⟩
noncomputable def chkK3 (S : Sc) (ei ki : Nat) (c1 c2 : String) (s : PySem.Stmt) : Bool := decide ((nodeS s).t = .ret) && (decide ((node (nodeS s).a).t = .and) && three (node (nodeS s).a).l (chkIsi S ei c1) (chkIsi S ei c2) (isE S (.cmp (.cbool true) [.notin] [.var ki])))
theorem chkK3_inv {S : Sc} {ei ki : Nat} {c1 c2 : String} {s : PySem.Stmt} (h : chkK3 S ei ki c1 c2 s = true) : ∃ x y z bp p, s = .Return (some (.BoolOp .And [x, y, z] bp)) p ∧ chkIsi S ei c1 x = true ∧ chkIsi S ei c2 y = true ∧ isE S (.cmp (.cbool true) [.notin] [.var ki]) z = true := by
  obtain ⟨h1, h2⟩ := and2 h
  obtain ⟨h2, h3⟩ := and2 h2
  obtain ⟨x, y, z, e3, hx, hy, hz⟩ := three_inv h3
  have e : s = .Return (some (nodeS s).a) (nodeS s).p := A5 h1
  have e' : (nodeS s).a = .BoolOp .And (node (nodeS s).a).l (node (nodeS s).a).p := inv h2
  rw [e3] at e'
  exact ⟨x, y, z, _, _, e.trans (congrArg (fun z => PySem.Stmt.Return (some z) (nodeS s).p) e'), hx, hy, hz⟩
section
variable {prog : Program} {w : World} {G : String → Option MV} {Γ : String → Option MFun} {h₀ : Heap} {mg mb : Str → Option Value}
abbrev fls (cs : List String) : List MV := cs.map fun _ => .bool false
theorem rep_fls {h : Heap} : ∀ cs : List String, RepVs h (fls cs) (cs.map fun _ => Value.bool false)
  | [] => trivial
  | _ :: cs => by simp only [fls, List.map_cons, RepVs]; exact ⟨by simp [RepV], rep_fls cs⟩
theorem G5 {K D : Addr} (pg : PG prog w G Γ h₀ mg mb) (cC : ClsAt h₀ K [D]) (cD : ClsAt h₀ D []) {S : Sc} {env : Env} {vars : MVars} {fz : List Addr} {μ : MH} {s : Shared} {A : Around} {E : Value → Shared → Prop} {Q : Value → Shared → Prop} {i : Nat} {e : Addr} {oe : Obj} {cs : List String} {xs : List PySem.Expr} {lp : Pos}
    (C : Cur prog w h₀ S env vars fz μ s) (hv : vars i = some (.ref e)) (he : s.heap.get? e = some oe) (hc : oe.cls = .ref K) (hs : ∀ c ∈ cs, Says h₀ mg mb K D c false) (hx : chkIsis S i cs xs = true) (hl : cs.length ≤ 100)
    (hq : ∀ v s', PostV prog w fz μ s (fun v μ' => ∃ c, v = .ref c ∧ μ c = none ∧ μ' = upd μ c (.list (fls cs))) v s' → Q v s') : wpAny (model prog w) A (eval (.List xs lp) env) Q E s := by
  refine wpAny_List_spliced (G7 pg cC cD hv hc cs xs s _ C he hs hx fun tk => ⟨by rw [List.length_map]; exact Y0 (Nat.le_trans hl (by decide)), hq _ _ ?_⟩)
  have p : PostV prog w fz μ { s with toks := tk } (fun v μ' => ∃ c, v = .ref c ∧ μ c = none ∧ μ' = upd μ c (.list (fls cs))) (.ref s.heap.objs.size) { s with heap := s.heap.push { cls := .type "list", data := .seq (cs.map fun _ => Value.bool false).toArray }, toks := tk } :=
    Zj (tk := tk) (s := { s with toks := tk }) (fun c hc _ => ⟨c, rfl, hc, rfl⟩) C.heap C.fzin (Zl (rep_fls cs))
  obtain ⟨mv, μ', q, rv, r, g⟩ := p
  exact ⟨mv, μ', q, rv, r, ⟨g.keep, g.os, g.gens⟩⟩
theorem k1_exec {K D : Addr} (pg : PG prog w G Γ h₀ mg mb) (cC : ClsAt h₀ K [D]) (cD : ClsAt h₀ D []) {S : Sc} {env : Env} {vars : MVars} {fz : List Addr} {μ : MH} {s : Shared} {A : Around} {E : Value → Shared → Prop} {Q : Flow → Shared → Prop} {ei ki : Nat} {e : Addr} {oe : Obj} {cs : List String} {x : PySem.Stmt}
    (C : Cur prog w h₀ S env vars fz μ s) (hv : vars ei = some (.ref e)) (he : s.heap.get? e = some oe) (hc : oe.cls = .ref K) (hs : ∀ c ∈ cs, Says h₀ mg mb K D c false) (hx : chkK1 S ei ki cs x = true) (hl : cs.length ≤ 100)
    (hq : ∀ c s', μ c = none → Cur prog w h₀ S env (setv vars ki (.ref c)) fz (upd μ c (.list (fls cs))) s' → GrowS env fz μ s (upd μ c (.list (fls cs))) s' → Q .next s') : wpAny (model prog w) A (exec x env) Q E s := by
  obtain ⟨y, py, xs, lp, p, rfl, hy, hxs⟩ := chkK1_inv hx
  refine wpAny_Assign_Name (G5 pg cC cD C hv he hc hs hxs hl fun v s₁ h₁ => ?_) rfl
  obtain ⟨mv, μ₁, ⟨c, rfl, hcn, rfl⟩, rv, r₁, g₁⟩ := h₁
  exact Zu (C.grow g₁ r₁) hy rv fun s₂ C₂ g₂ _ _ => hq c s₂ hcn C₂ (g₁.toS.trans g₂)
theorem k2_exec {K D : Addr} (pg : PG prog w G Γ h₀ mg mb) (cC : ClsAt h₀ K [D]) (cD : ClsAt h₀ D []) {S : Sc} {env : Env} {vars : MVars} {fz : List Addr} {μ : MH} {s : Shared} {A : Around} {E : Value → Shared → Prop} {Q : Flow → Shared → Prop} {ei ki : Nat} {e c₁ : Addr} {oe : Obj} {cs cs₁ : List String} {x : PySem.Stmt}
    (C : Cur prog w h₀ S env vars fz μ s) (hv : vars ei = some (.ref e)) (hk : vars ki = some (.ref c₁)) (hm : μ c₁ = some (.list (fls cs₁))) (he : s.heap.get? e = some oe) (hc : oe.cls = .ref K) (hs : ∀ c ∈ cs, Says h₀ mg mb K D c false) (hx : chkK2 S ei ki cs x = true) (hl : cs.length ≤ 100) (hl₁ : cs₁.length ≤ 100)
    (hq : ∀ c μ' s', μ' c = some (.list (fls (cs₁ ++ cs))) → Cur prog w h₀ S env (setv vars ki (.ref c)) fz μ' s' → GrowS env fz μ s μ' s' → Q .next s') : wpAny (model prog w) A (exec x env) Q E s := by
  obtain ⟨y, py, l, o, xs, lp, bp, p, rfl, hy, ho, hlv, hxs⟩ := chkK2_inv hx
  obtain ⟨ln, lnp, rfl, hln⟩ := Bf hlv
  obtain rfl : o = .Add := by cases o <;> first | rfl | (cases ho; done)
  refine wpAny_Assign_Name (wpAny_BinOp (wpAny_Name (Ot C hln hk fun u ru => ?_) (K0 hln))) rfl
  obtain rfl : u = .ref c₁ := ru
  refine G5 pg cC cD C hv he hc hs hxs hl fun v s₁ h₁ => ?_
  obtain ⟨mv, μ₁, ⟨c, rfl, hcn, rfl⟩, rv, r₁, g₁⟩ := h₁
  obtain rfl : v = .ref c := rv
  have hne : c₁ ≠ c := fun q => by rw [q, hcn] at hm; cases hm
  have m1 : lst (upd μ c (.list (fls cs))) c₁ = some (fls cs₁) := by unfold lst upd; rw [if_neg hne, hm]
  have m2 : lst (upd μ c (.list (fls cs))) c = some (fls cs) := by unfold lst upd; rw [if_pos rfl]
  obtain ⟨vs, ⟨n1, h1⟩, hv1, _⟩ := U5 r₁ m1
  obtain ⟨ws, ⟨n2, h2⟩, hw1, _⟩ := U5 r₁ m2
  have C₁ := C.grow g₁ r₁
  have e1 := hv1.length
  have e2 := hw1.length
  simp only [fls, List.length_map] at e1 e2
  refine P.add_list h1 h2 ?_ (by have : 200 ≤ sizeLine := by decide
                                 simp only [List.size_toArray]; lia)
  rw [show vs.toArray ++ ws.toArray = (vs ++ ws).toArray by simp]
  have p : PostV prog w fz (upd μ c (.list (fls cs))) s₁ (fun v μ' => ∃ c', v = .ref c' ∧ μ' c' = some (.list (fls (cs₁ ++ cs)))) (.ref s₁.heap.objs.size) { s₁ with heap := s₁.heap.push { cls := .type "list", data := .seq (vs ++ ws).toArray } } :=
    Zj (tk := s₁.toks) (fun c' _ _ => ⟨c', rfl, by unfold upd fls; rw [if_pos rfl, List.map_append]⟩) r₁ C₁.fzin (Zl (hv1.append hw1))
  obtain ⟨mv, μ₂, ⟨c', rfl, hm'⟩, rv, r₂, g₂⟩ := p
  exact Zu (C₁.grow g₂ r₂) hy rv fun s₃ C₃ g₃ _ _ => hq c' μ₂ s₃ hm' C₃ ((g₁.trans g₂).toS.trans g₃)
end
end Mine
end
section
set_option maxRecDepth 100000
namespace Mine
open PySem PySem.Calls PyProof.Rows PySem.W
section
variable {prog : Program} {w : World} {G : String → Option MV} {Γ : String → Option MFun} {h₀ : Heap} {mg mb : Str → Option Value}
theorem deep_fls {μ : MH} {n : Nat} : ∀ cs : List String, (fls cs).mapM (deep μ n) = some (cs.map fun _ => PyData.bool false)
  | [] => rfl
  | _ :: cs => by simp only [fls, List.map_cons, List.mapM_cons]; rw [show List.mapM (deep μ n) (List.map (fun _ => MV.bool false) cs) = _ from deep_fls cs]; cases n <;> rfl
theorem notin_fls {s : Shared} {μ : MH} {A : Around} {E : Value → Shared → Prop} {Q : Value → Shared → Prop} {c : Addr} {cs : List String} (r : RepH prog w μ s.heap) (hm : μ c = some (.list (fls cs))) (hu : A.units + 10 < cLine) (hq : Q (.bool true) s) : wpAny (model prog w) A (compareOp .NotIn (.bool true) (.ref c)) Q E s := by
  have e1 : deep μ 9 (.ref c) = some (.list (cs.map fun _ => PyData.bool false)) := by
    have : lst μ c = some (fls cs) := by unfold lst; rw [hm]
    simp only [deep, this, deep_fls]; rfl
  have e2 : deep μ 9 (.bool true) = some (.bool true) := rfl
  obtain ⟨as, a1, a2, a3⟩ := Yk r 9 _ (.ref c) _ e1 (show RepV s.heap (.ref c) (.ref c) by simp [RepV])
  obtain ⟨bs, b1, b2, b3⟩ := Yk r 9 _ (.bool true) _ e2 (show RepV s.heap (.bool true) (.bool true) by simp [RepV])
  have a2' : PyData.canLayAll0 (cs.map fun _ => PyData.bool false) = true := by simpa [PyData.canLay0] using a2
  refine SeqAt.notIn_list_reads a1 b1 a2' b2 (Nat.lt_of_le_of_lt (Nat.add_le_add_left (Nat.le_trans (Nat.min_le_right _ _) b3) _) (by assumption)) ?_
  have : ((cs.map fun _ => PyData.bool false).any fun y => PyData.eqv y (.bool true)) = false := by
    rw [List.any_eq_false]
    intro y hy
    obtain ⟨_, _, rfl⟩ := List.mem_map.mp hy
    decide
  rw [this]; exact hq
theorem k3_exec {K D : Addr} (pg : PG prog w G Γ h₀ mg mb) (cC : ClsAt h₀ K [D]) (cD : ClsAt h₀ D []) {S : Sc} {env : Env} {vars : MVars} {fz : List Addr} {μ : MH} {s : Shared} {A : Around} {E : Value → Shared → Prop} {Q : Flow → Shared → Prop} {ei ki : Nat} {e c : Addr} {oe : Obj} {cs : List String} {c1 c2 : String} {x : PySem.Stmt}
    (C : Cur prog w h₀ S env vars fz μ s) (hv : vars ei = some (.ref e)) (hk : vars ki = some (.ref c)) (hm : μ c = some (.list (fls cs))) (he : s.heap.get? e = some oe) (hc : oe.cls = .ref K) (hs1 : Says h₀ mg mb K D c1 true) (hs2 : Says h₀ mg mb K D c2 true) (hx : chkK3 S ei ki c1 c2 x = true) (hu : A.units + 10 < cLine)
    (hq : ∀ s', s'.heap = s.heap → s'.os = s.os → s'.gens = s.gens → Q (.ret (.bool true)) s') : wpAny (model prog w) A (exec x env) Q E s := by
  obtain ⟨x, y, z, bp, p, rfl, hx, hy, hz⟩ := chkK3_inv hx
  refine wpAny_Return_some ?_
  show wpAny _ A (eval x env >>= _) _ _ s
  refine wpAny_bind (Cl pg cC cD C hv he hc hs1 hx fun tk => ?_)
  refine wpAny_bind (wpAny_standAt (wpAny_bind (wpAny_holding (wpAny_mono (Kt (v := .bool true) (x := .bool true) (b := true) (prog := prog) (w := w) (μ := μ) (s := { s with toks := tk }) (by simp [RepV]) C.heap rfl) (fun b' s₂ h₂ => ?_) fun _ _ e => e))))
  obtain ⟨rfl, st⟩ := h₂
  have C₂ : Cur prog w h₀ S env vars fz μ s₂ := C.toks st.1
  have he₂ : s₂.heap.get? e = some oe := by rw [st.1]; exact he
  show wpAny _ A (eval y env >>= _) _ _ s₂
  refine wpAny_bind (Cl pg cC cD C₂ hv he₂ hc hs2 hy fun tk' => ?_)
  refine wpAny_bind (wpAny_standAt (wpAny_bind (wpAny_holding (wpAny_mono (Kt (v := .bool true) (x := .bool true) (b := true) (prog := prog) (w := w) (μ := μ) (s := { s₂ with toks := tk' }) (by simp [RepV]) C₂.heap rfl) (fun b' s₃ h₃ => ?_) fun _ _ e => e))))
  obtain ⟨rfl, st'⟩ := h₃
  have C₃ : Cur prog w h₀ S env vars fz μ s₃ := C₂.toks st'.1
  show wpAny _ A (eval z env) _ _ s₃
  obtain ⟨l, os, cs', p', rfl, h⟩ := Hp hz
  simp only [Bool.and_eq_true] at h
  show wpAny _ A (eval l env >>= fun v => compareChain p' v os (markedEach os cs' (evalEach cs' env))) _ _ s₃
  rw [markedEach_of_false _ _ _ (Zo os h.2)]
  obtain ⟨k, lp, rfl⟩ := Gb h.1.1
  refine wpAny_bind (wpAny_pure ?_)
  obtain ⟨ho, hcs⟩ := And.intro h.1.2 h.2
  cases os with
  | nil => simp [copsIs] at ho
  | cons o os =>
    cases os with
    | cons _ _ => simp [copsIs] at ho
    | nil =>
      cases cs' with
      | nil => simp [isEs] at hcs
      | cons u us =>
        cases us with
        | cons _ _ => simp [isEs] at hcs
        | nil =>
          simp only [copsIs, Bool.and_true] at ho
          obtain rfl : o = .NotIn := by cases o <;> first | rfl | (cases ho; done)
          obtain ⟨un, up, rfl, hun⟩ := Bf (Y9 hcs).1
          refine chain_last (wpAny_Name (Ot C₃ hun hk fun uv ru => ?_) (K0 hun))
          obtain rfl : uv = .ref c := ru
          exact notin_fls C₃.heap hm hu (hq s₃ (st'.1.trans st.1) (st'.2.1.trans st.2.1) (st'.2.2.trans st.2.2))
end
end Mine
end
section
set_option maxRecDepth 100000
namespace Mine
open PySem PySem.Calls PyProof.Rows PySem.W
section
variable {M : Model} {A : Around} {E : Value → Shared → Prop} {h : Heap} {g : Array GenState} {d : Drawn} {t : Nat} {os : OsState} {C D e : Addr} {oe : Obj}
theorem match_own {Q : Bool → Shared → Prop} (K : ClsAt h C [D]) (K' : ClsAt h D []) (he : h.get? e = some oe) (hcls : oe.cls = .ref C) (hq : Q true ⟨h, g, d, t, os⟩) : wpAny M A (excMatches (.ref e) (.ref D)) Q E ⟨h, g, d, t, os⟩ := by
  obtain ⟨N, nm, q, bs, hdct, sn, sub, ab, col, dd, k0, k1, k2, k3, k5, mN, hC, h2, h3⟩ := K
  obtain ⟨N', nm', q', bs', hdct', sn', sub', ab', col', dd', k0', k1', k2', k3', k5', mN', hD, h2', h3'⟩ := K'
  have hcB : (Value.ref D :: (([] : List Addr).map .ref ++ bmV)).contains (.type "BaseException") = true := by
    rw [List.contains_cons]
    have : (([] : List Addr).map Value.ref ++ bmV).contains (.type "BaseException") = true := by decide +kernel
    rw [this, Bool.or_true]
  have hcC : (Value.ref C :: ([D].map .ref ++ bmV)).contains (.ref D) = true := by simp
  have f := tc_notTuple
  unfold excMatches
  repeat (first | (with_reducible refine wpAny_loadPart_at he ?_; rw [hcls]) | with_reducible refine wpAny_loadPart_at hD ?_ | (with_reducible refine wpAny_isSubtype_exc hD ?_; rw [hcB]) | (with_reducible refine wpAny_isSubtype_exc hC ?_; rw [hcC]) | wp_step)
  exact hq
end
noncomputable def oneH (l : List ExceptHandler) (f : PySem.Expr → Str → List PySem.Stmt → Bool) : Bool := match l with
  | [.ExceptHandler (some t) (some n) suite _] => f t n suite
  | _ => false
theorem oneH_inv {l : List ExceptHandler} {f : PySem.Expr → Str → List PySem.Stmt → Bool} (h : oneH l f = true) : ∃ t n suite pos, l = [.ExceptHandler (some t) (some n) suite pos] ∧ f t n suite = true := by
  cases l with
  | nil => cases h
  | cons x l =>
    cases l with
    | cons _ _ => obtain ⟨t, n, suite, pos⟩ := x; cases t <;> cases n <;> cases h
    | nil =>
      obtain ⟨t, n, suite, pos⟩ := x
      cases t with
      | none => cases h
      | some t => cases n with
        | none => cases h
        | some n => exact ⟨t, n, suite, pos, rfl, h⟩
noncomputable def threeS (l : List PySem.Stmt) (f g k : PySem.Stmt → Bool) : Bool := match l with
  | [y, z, u] => f y && (g z && k u)
  | _ => false
theorem threeS_inv {l : List PySem.Stmt} {f g k : PySem.Stmt → Bool} (h : threeS l f g k = true) : ∃ y z u, l = [y, z, u] ∧ f y = true ∧ g z = true ∧ k u = true := by
  cases l with
  | nil => cases h
  | cons y l => cases l with
    | nil => cases h
    | cons z l => cases l with
      | nil => cases h
      | cons u l => cases l with
        | nil => exact ⟨y, z, u, rfl, (and2 h).1, and2 (and2 h).2⟩
        | cons _ _ => cases h
noncomputable def chkCatch (need bk bad : String) (o1 o2 : List String) (ei ki : Nat) (tab : List (Nat × Str)) (names : List (Str × NameKind)) (x : PySem.Stmt) : Bool :=
  decide ((nodeS x).t = .tri) && (isSs ⟨tab, names, [need]⟩ [.expr (.call need [.var 0])] (nodeS x).x && oneH (nodeS x).hs fun t n suite =>
    isGlobN ⟨tab, names, [need]⟩ bk t && ((⟨tab, names, [need]⟩ : Sc).isSt ei n && (decide (names.lookup n = some .local) && threeS suite (chkK1 ⟨tab, names, [need]⟩ ei ki o1) (chkK2 ⟨tab, names, [need]⟩ ei ki o2) (chkK3 ⟨tab, names, [need]⟩ ei ki bad "ValueError"))))
section
variable {prog : Program} {w : World} {G : String → Option MV} {Γ : String → Option MFun} {h₀ : Heap} {mg mb : Str → Option Value}
theorem Cur.withF {S : Sc} {env : Env} {vars : MVars} {fz : List Addr} {μ : MH} {s : Shared} (C : Cur prog w h₀ S env vars fz μ s) {fs : List String} (h : ∀ f ∈ fs, ∃ fa, FnAt h₀ f fa) : Cur prog w h₀ ⟨S.tab, S.names, fs⟩ env vars fz μ s :=
  ⟨C.base, C.heap, C.fzin, ⟨C.fr.names, C.fr.inj, C.fr.nk, C.fr.nv, C.fr.kind, C.fr.glob, C.fr.bui, C.fr.ns, C.fr.cells, C.fr.apart, C.fr.fixl, C.fr.fixc⟩, C.newl, C.newc, h⟩
theorem Cur.after {S : Sc} {env : Env} {vars : MVars} {fz : List Addr} {μ : MH} {s s' : Shared} (C : Cur prog w h₀ S env vars fz μ s) (k : ∀ b o, h₀.get? b = some o → s'.heap.get? b = some o) (u : Upto μ s.heap s'.heap) : Cur prog w h₀ S env (fun _ => none) [] (fun _ => none) s' where
  base := fun b o e => ⟨k b o e, .inl rfl⟩
  heap := fun a o e => by cases e
  fzin := fun a h => by cases h
  fr := {
    names := C.fr.names, inj := C.fr.inj, nk := C.fr.nk, nv := C.fr.nv, kind := C.fr.kind, glob := C.fr.glob, bui := C.fr.bui, cells := C.fr.cells, apart := C.fr.apart, fixl := rfl
    ns := by
      obtain ⟨m, ⟨o, es, ep, ho, hd, hr⟩, _⟩ := C.fr.ns
      obtain ⟨sl, hs⟩ := u _ _ C.fr.fixl ho fun vs q => by rw [hd] at q; cases q
      exact ⟨m, ⟨_, es, ep, hs, hd, hr⟩, fun i x mv _ _ h => by cases h⟩
    fixc := fun x c hm => by
      obtain ⟨h1, h2, v, o, ho, hd⟩ := C.fr.fixc x c hm
      obtain ⟨sl, hs⟩ := u _ _ h1 ho fun vs q => by rw [hd] at q; cases q
      exact ⟨rfl, h2, v, _, hs, hd⟩ }
  newl := C.newl
  newc := C.newc
  known := C.known
theorem Cur.apart_exc {S : Sc} {env : Env} {vars : MVars} {fz : List Addr} {μ : MH} {s : Shared} (C : Cur prog w h₀ S env vars fz μ s) {e : Addr} {oe : Obj} {ws : Array Value} (he : s.heap.get? e = some oe) (hd : oe.data = .fields ws) : e ≠ env.locals ∧ ∀ x c, (x, c) ∈ env.cells → e ≠ c := by
  constructor
  · rintro rfl
    obtain ⟨m, ⟨o, es, ep, ho, hd', _⟩, _⟩ := C.fr.ns
    rw [he] at ho; cases ho; rw [hd] at hd'; cases hd'
  · rintro x c hm rfl
    obtain ⟨_, _, v, o, ho, hd'⟩ := C.fr.fixc x e hm
    rw [he] at ho; cases ho; rw [hd] at hd'; cases hd'
end
end Mine
end
section
set_option maxRecDepth 100000
namespace Mine
open PySem PySem.Calls PyProof.Rows PySem.W
theorem Bl {vars : MVars} {i : Nat} {v : MV} : setv vars i v i = some v := by simp [setv]
theorem sv_ne' {vars : MVars} {i j : Nat} {v : MV} (h : j ≠ i) : setv vars i v j = vars j := by simp [setv, h]
theorem upd_self' {μ : MH} {a : Addr} {o : MO} : upd μ a o a = some o := by simp [upd]
section
variable {prog : Program} {w : World} {G : String → Option MV} {Γ : String → Option MFun} {h₀ : Heap} {mg mb : Str → Option Value}
end
end Mine
end
section
set_option maxRecDepth 100000
namespace Mine
open PySem PySem.Calls PyProof.Rows PySem.W
section
variable {prog : Program} {w : World} {G : String → Option MV} {Γ : String → Option MFun} {h₀ : Heap} {mg mb : Str → Option Value}
noncomputable def refuseBody (need bk bad : String) (o1 o2 : List String) (ei ki : Nat) : List MS := [.opq (chkCatch need bk bad o1 o2 ei ki), .ret (.cbool false)]
end
end Mine
end
section
set_option maxRecDepth 100000
namespace Mine
open PySem PySem.Calls PyProof.Rows PySem.W
section
variable {prog : Program} {w : World} {G : String → Option MV} {Γ : String → Option MFun} {h₀ : Heap} {mg mb : Str → Option Value}
noncomputable def runT (G : String → Option MV) (Φ : CallSpec) (fz : List Addr) (Fin : MVars → MH → Prop) : List MS → MVars → MH → Prop
  | [], vars, μ => Fin vars μ
  | st :: r, vars, μ => ex G Φ X0 st fz vars (fun fl vars' μ' => fl = .next ∧ runT G Φ fz Fin r vars' μ') μ
theorem An (pg : PG prog w G Γ h₀ mg mb) {Φ : CallSpec} {d : Nat} (hc : SC prog w h₀ Φ d) {fz : List Addr} {Fin : MVars → MH → Prop} {S : Sc} {env : Env} {A : Around} {E : Value → Shared → Prop} {Q : Flow → Shared → Prop} {rest : List MS} (hA : OkA d A) :
    ∀ (pre : List MS) (xs : List PySem.Stmt) (vars : MVars) (μ : MH) (s : Shared), isSs S (pre ++ rest) xs = true → Cur prog w h₀ S env vars fz μ s → runT G Φ fz Fin pre vars μ →
      (∀ xs' vars' μ' s', isSs S rest xs' = true → Cur prog w h₀ S env vars' fz μ' s' → s'.os = s.os → s'.gens = s.gens → Fin vars' μ' → wpAny (model prog w) A (execs xs' env) Q E s') → wpAny (model prog w) A (execs xs env) Q E s
  | [] => fun xs vars μ s h C hr k => k xs vars μ s h C rfl rfl hr
  | st :: pre => fun xs vars μ s h C hr k => by
    cases xs with
    | nil => exact (Bool.false_ne_true h).elim
    | cons x xs =>
      replace h := Zk h
      refine wpAny_execs_cons (wpAny_mono (soundS pg hc st S x env vars fz μ s _ A E h.1 hA C hr) (fun f s₁ h₁ => ?_) fun _ _ e => e)
      obtain ⟨fl, vars₁, μ₁, ⟨rfl, hr₁⟩, hf, C₁, g₁⟩ := h₁
      obtain rfl := hf
      exact An pg hc hA pre xs vars₁ μ₁ s₁ h.2 C₁ hr₁ fun xs' vars' μ' s' a b c e f => k xs' vars' μ' s' a b (c.trans g₁.os) (e.trans g₁.gens) f
end
end Mine
end
section
set_option maxRecDepth 100000
namespace Mine
open PySem PySem.Calls PyProof.Rows PySem.W
section
variable {M : Model} {A : Around} {E : Value → Shared → Prop} {s : Shared}
end
end Mine
end
section
set_option maxRecDepth 100000
namespace Mine
open PySem PySem.Calls PyProof.Rows PySem.W
section
variable {prog : Program} {w : World} {G : String → Option MV} {Γ : String → Option MFun} {h₀ : Heap} {mg mb : Str → Option Value}
noncomputable def tstM (G : String → Option MV) (Φ : CallSpec) (c : ME) (fz : List Addr) (vars : MVars) (K : MH → Prop) (μ : MH) : Prop := ev G Φ X0 c fz vars (fun u μ₁ => ∃ b, truthy μ₁ u = some b ∧ if b then True else K μ₁) μ
noncomputable def needBody2 (c1 c2 c3 : ME) (bad : String) (ret : MS) : List MS := [.ite c1 [.opq (chkRaise bad)] [], .for (.one 1) .plain [.var 0] [.ite c2 [.opq (chkRaise bad)] [], .ite c3 [.opq (chkRaise bad)] []], ret]
noncomputable def stepM (G : String → Option MV) (Φ : CallSpec) (c2 c3 : ME) (fz held : List Addr) (vs : MVars) (F : MFlow → MVars → MH → Prop) (μ : MH) : Prop := tstM G Φ c2 (held ++ fz) vs (fun μ₁ => tstM G Φ c3 (held ++ fz) vs (fun μ₂ => F .next vs μ₂) μ₁) μ
end
end Mine
end
section
set_option maxRecDepth 100000
namespace Mine
open PySem PySem.Calls PyProof.Rows PySem.W
noncomputable def Raises (prog : Program) (w : World) (h₀ : Heap) (K : Addr) (need : String) (v : MV) (fz : List Addr) (μ : MH) (d : Nat) : Prop := ∀ (s : Shared) (A : Around) (val : Value) (fa : Addr) (outer : List Env) (R : Result → Shared → Prop), OkA (d + 1) A → Base h₀ fz μ s → RepH prog w μ s.heap → FzIn fz μ → RepV s.heap v val → FnAt h₀ need fa → Stk A h₀ s.heap μ outer →
  (∀ e a0 s', Heap.FlyingW h₀ outer e (.ref K) a0 s'.heap → Upto μ s.heap s'.heap → s'.os = s.os → s'.gens = s.gens → R (.error (.ref e)) s') → codeAny (model prog w) A (.call (.ref fa) ⟨[val], []⟩) R s
section
variable {prog : Program} {w : World} {G : String → Option MV} {Γ : String → Option MFun} {h₀ : Heap} {mg mb : Str → Option Value}
end
end Mine
end
section
namespace Mine
open PySem
noncomputable def frs (l : List Env) : List Addr := l.filterMap (·.frame)
structure Way (l : List Env) (e : Addr) (h h' : Heap) : Prop where
  keep : ∀ b o, h.get? b = some o → b ∉ frs l → b ≠ e → o.cls ≠ .type "traceback" → h'.get? b = some o
  slot : ∀ b o, h.get? b = some o → (∀ vs, o.data ≠ .fields vs) → ∃ sl, h'.get? b = some { o with slots := sl }
theorem Way.refl {l : List Env} {e : Addr} {h : Heap} : Way l e h h := ⟨fun _ _ x _ _ _ => x, fun _ o x _ => ⟨o.slots, x⟩⟩
theorem Way.trans {l : List Env} {e : Addr} {h h₁ h₂ : Heap} (x : Way l e h h₁) (y : Way l e h₁ h₂) : Way l e h h₂ :=
  ⟨fun b o a1 a2 a3 a4 => y.keep b o (x.keep b o a1 a2 a3 a4) a2 a3 a4, fun b o a1 a2 => by
    obtain ⟨sl, q⟩ := x.slot b o a1 a2
    obtain ⟨sl', q'⟩ := y.slot b _ q a2
    exact ⟨sl', q'⟩⟩
inductive TbAt (base h : Heap) (e : Addr) (v fl : Value) : Prop
  | mk (T : Addr) (oT : Obj) (ts : Array Value) (h1 : v = .ref T) (h2 : base.get? T = none) (h3 : T ≠ e) (h4 : h.get? T = some oT) (h5 : oT.cls = .type "traceback") (h6 : oT.data = .fields ts) (h7 : ts[3]? = some fl)
noncomputable def Tb (base h : Heap) (e : Addr) (v : Value) : Option Value → Prop
  | none => v = .none
  | some fl => TbAt base h e v fl
inductive ExcTr (base h : Heap) (e : Addr) (cls c : Value) (fl : Option Value) : Prop
  | mk (oe : Obj) (vs : Array Value) (a0 v : Value) (h1 : h.get? e = some oe) (h2 : oe.cls = cls) (h3 : oe.data = .fields vs) (h4 : vs[0]? = some a0) (h5 : vs[1]? = some v) (h6 : vs[2]? = some c) (h7 : Tb base h e v fl)
structure Exc (base : Heap) (l : List Env) (e : Addr) (cls c : Value) (fl : Option Value) (h : Heap) : Prop where
  stays : base.StaysIn h
  new : base.get? e = none
  ff : h.FunFrames base l
  tr : ExcTr base h e cls c fl
section
variable {M : Model} {A : Around} {E : Value → Shared → Prop} {s : Shared} {base : Heap} {env : Env} {outer : List Env} {L e : Addr} {cls c : Value}
theorem Exc.apart {l : List Env} {fl : Option Value} {h : Heap} (x : Exc base l e cls c fl h) : e ∉ frs l := fun hm => by
  obtain ⟨oe, vs, a0, v, he, _, hd, _⟩ := x.tr
  obtain ⟨_, o, ho, hnf⟩ := x.ff.mem hm
  rw [he] at ho; cases ho; exact hnf vs hd
theorem Fz {oe : Obj} {vs : Array Value} {head a0 : Value} {hadNext : Bool} {Q : Unit → Shared → Prop}
    (hfr : A.frames = some (env :: outer)) (hl : s.heap.FunFrames base (env :: outer)) (hf : env.frame = some L)
    (he : s.heap.get? e = some oe) (hkb : base.StaysIn s.heap) (hen : base.get? e = none) (hd : oe.data = .fields vs) (hsz : 1 < vs.size) (h0 : vs[0]? = some a0) (h2 : vs[2]? = some c)
    (h : ∀ h', Exc base (env :: outer) e oe.cls c (some (rawInt L)) h' → Way (env :: outer) e s.heap h' → Q () { s with heap := h' }) :
    wpAny M A (do let a ← frameOf env; let pl ← entryPlaceOf L hadNext; let b ← EntryCells.newEntry head a .none (rawInt L) .none pl; setField (.ref e) 1 b) Q E s := by
  have hene : e ∉ (env :: outer).filterMap (·.frame) := fun hm => by
    obtain ⟨_, o, ho, hnf⟩ := hl.mem hm
    rw [he] at ho; cases ho; exact hnf vs hd
  refine wpAny_bind (wpAny_frameOf_fun hfr hl hf fun h₁ hs₁ => ?_)
  refine wpAny_bind (wpAny_entryPlaceOf fun pl hpl => ?_)
  unfold EntryCells.newEntry newFields
  refine wpAny_bind (wpAny_newObj_type ?_ (hpl.sizeOk5 _ _ _ _ _))
  have he₁ : h₁.get? e = some oe := (hs₁.2.1 e hene).trans he
  have kb₁ : base.StaysIn h₁ := fun b o hbo => (hs₁.2.1 b fun hm => by rw [(hl.mem hm).1] at hbo; cases hbo).trans (hkb b o hbo)
  generalize hN : ({ cls := .type "traceback", dict := none, data := .fields ([head, .ref L, .none, rawInt L, .none] ++ (if pl.isEmpty then List.replicate 6 Value.none else pl)).toArray } : Obj) = N
  have hNd : N.data = .fields ([head, .ref L, .none, rawInt L, .none] ++ (if pl.isEmpty then List.replicate 6 Value.none else pl)).toArray := by rw [← hN]
  have hNc : N.cls = .type "traceback" := by rw [← hN]
  have hNf : N.isFreed = false := Obj.isFreed_of_fields hNd
  have he₂ := Heap.get?_push_of_some (h := h₁) N he₁
  refine wpAny_setField he₂ hd hsz ?_
  have hTe : h₁.objs.size ≠ e := Nat.ne_of_gt (Heap.lt_size he₁)
  have hd₃ := Obj.data_mapFields hd (·.setIfInBounds 1 (Value.ref h₁.objs.size))
  have he₃ := Heap.get?_update_self (Obj.mapFields (·.setIfInBounds 1 (Value.ref h₁.objs.size))) he₂ (Obj.isFreed_of_fields hd₃)
  have hT₃ := (Heap.get?_update_other (h₁.push N) (Obj.mapFields (·.setIfInBounds 1 (Value.ref h₁.objs.size))) (Ne.symm hTe)).trans (Heap.get?_push_size h₁ hNf)
  have keep : ∀ b o, b ≠ e → h₁.get? b = some o → ((h₁.push N).update e (Obj.mapFields (·.setIfInBounds 1 (Value.ref h₁.objs.size)))).get? b = some o := fun b o hbe hb => by
    rw [Heap.get?_update_other _ _ (Ne.symm hbe)]
    exact Heap.get?_push_of_some _ hb
  have noRecord : ∀ b o, s.heap.get? b = some o → (∀ vs, o.data ≠ .fields vs) → b ≠ e := fun b o hb hnf q => by
    rw [q, he] at hb; cases hb; exact hnf vs hd
  refine h _ ⟨fun b o hbo => keep b o (fun q => by rw [q, hen] at hbo; cases hbo) (kb₁ b o hbo), hen, hl.of_keeps fun b o hb hnf => ?_, ?_⟩ ⟨fun b o hb hm hne _ => keep b o hne ((hs₁.2.1 b hm).trans hb), fun b o hb hnf => ?_⟩
  · obtain ⟨sl, hs⟩ := hs₁.2.2 b o hb
    exact ⟨_, keep b _ (noRecord b o hb hnf) hs, rfl⟩
  · refine ⟨_, _, a0, .ref h₁.objs.size, he₃, Obj.cls_mapFields _ _, hd₃, by rw [Array.getElem?_setIfInBounds_ne (by decide)]; exact h0, by simp [hsz], by rw [Array.getElem?_setIfInBounds_ne (by decide)]; exact h2, h₁.objs.size, N, _, rfl, kb₁.fresh, hTe, hT₃, hNc, hNd, ?_⟩
    first | (simp; done) | (rcases hpl with rfl | ⟨_, _, _, _, _, _, _, rfl⟩ <;> simp)
  · obtain ⟨sl, hs⟩ := hs₁.2.2 b o hb
    exact ⟨sl, keep b _ (noRecord b o hb hnf) hs⟩
theorem note {fl : Option Value} {Q : Unit → Shared → Prop} (hfr : A.frames = some (env :: outer)) (hf : env.frame = some L) (x : Exc base (env :: outer) e cls c fl s.heap) (hfl : fl = none ∨ fl = some .none ∨ fl = some (rawInt L))
    (h : ∀ h', Exc base (env :: outer) e cls c (some (rawInt L)) h' → Way (env :: outer) e s.heap h' → Q () { s with heap := h' }) : wpAny M A (noteFrame (.ref e) env) Q E s := by
  have hap := x.apart
  obtain ⟨hkb, hen, hl, oe, vs, a0, v, he, hc, hd, h0, h1, h2, ht⟩ := x
  subst hc
  have hsz := (Array.getElem?_eq_some_iff.mp h1).1
  unfold noteFrame
  simp only [hf]
  refine wpAny_bind (wpAny_field he hd h1 ?_)
  rcases hfl with rfl | hfl
  · have ht : v = .none := ht
    subst ht
    rw [if_neg (by decide)]
    exact Fz hfr hl hf he hkb hen hd hsz h0 h2 h
  obtain ⟨f, rfl, hf2⟩ : ∃ f, fl = some f ∧ (f = .none ∨ f = rawInt L) := by
    rcases hfl with rfl | rfl
    · exact ⟨_, rfl, .inl rfl⟩
    · exact ⟨_, rfl, .inr rfl⟩
  obtain ⟨T, oT, ts, rfl, hnT, hTe, hT, hcT, hdT, h3⟩ := ht
  rw [if_pos (show (Value.ref T != Value.none) = true from by simp)]
  refine wpAny_bind (wpAny_field hT hdT h3 ?_)
  clear hfl
  rcases hf2 with rfl | rfl
  · rw [if_neg (show ¬ ((Value.none == rawInt L) = true) from by simp [rawInt])]
    refine wpAny_bind (wpAny_setField hT hdT (Array.getElem?_eq_some_iff.mp h3).1 ?_)
    have other : ∀ b, b ≠ T → (s.heap.update T (Obj.mapFields (·.setIfInBounds 3 Value.none))).get? b = s.heap.get? b := fun b hb => Heap.get?_update_other _ _ (Ne.symm hb)
    have noT : ∀ b o, s.heap.get? b = some o → o.cls ≠ .type "traceback" → b ≠ T := fun b o hb hnc q => by
      rw [q, hT] at hb; cases hb; exact hnc hcT
    refine Fz hfr (hl.of_keeps fun b o hb hnf => ⟨o, (other b fun q => ?_).trans hb, rfl⟩) hf ((other e (Ne.symm hTe)).trans he) (fun b o hbo => (other b fun q => by rw [q, hnT] at hbo; cases hbo).trans (hkb b o hbo)) hen hd hsz h0 h2 fun h' hx hw => h h' hx ?_
    · rw [q, hT] at hb; cases hb; exact hnf ts hdT
    · exact ⟨fun b o hb hm hne hnc => hw.keep b o ((other b (noT b o hb hnc)).trans hb) hm hne hnc, fun b o hb hnf => hw.slot b o ((other b fun q => by rw [q, hT] at hb; cases hb; exact hnf ts hdT).trans hb) hnf⟩
  · rw [if_pos (show (rawInt L == rawInt L) = true from by simp)]
    exact wpAny_pure (h s.heap ⟨hkb, hen, hl, oe, vs, a0, _, he, rfl, hd, h0, h1, h2, T, oT, ts, rfl, hnT, hTe, hT, hcT, hdT, h3⟩ .refl)
theorem Ht {l : List Env} {f : Value} {o : Option Addr} {Q : Unit → Shared → Prop} (x : Exc base l e cls c (some f) s.heap)
    (h : ∀ h', Exc base l e cls c (some (o.elim Value.none fun f => rawInt f)) h' → Way l e s.heap h' → Q () { s with heap := h' }) : wpAny M A (setFlight (.ref e) o) Q E s := by
  obtain ⟨hkb, hen, hl, oe, vs, a0, v, he, hc, hd, h0, h1, h2, T, oT, ts, rfl, hnT, hTe, hT, hcT, hdT, h3⟩ := x
  have hsz3 : 3 < ts.size := (Array.getElem?_eq_some_iff.mp h3).1
  have other : ∀ b, b ≠ T → (s.heap.update T (Obj.mapFields (·.setIfInBounds 3 (o.elim Value.none fun f => rawInt f)))).get? b = s.heap.get? b := fun b hb => Heap.get?_update_other _ _ (Ne.symm hb)
  have noT : ∀ b o, s.heap.get? b = some o → o.cls ≠ .type "traceback" → b ≠ T := fun b o hb hnc q => by
    rw [q, hT] at hb; cases hb; exact hnc hcT
  unfold setFlight
  refine wpAny_bind (wpAny_field he hd h1 ?_)
  rw [if_pos (show (Value.ref T != Value.none) = true from by simp)]
  refine wpAny_setField hT hdT hsz3 (h _ ⟨fun b o hbo => (other b fun q => by rw [q, hnT] at hbo; cases hbo).trans (hkb b o hbo), hen, hl.of_keeps fun b o hb hnf => ⟨o, (other b fun q => ?_).trans hb, rfl⟩, ?_⟩ ⟨fun b o hb hm hne hnc => (other b (noT b o hb hnc)).trans hb, fun b o hb hnf => ⟨o.slots, (other b fun q => by rw [q, hT] at hb; cases hb; exact hnf ts hdT).trans hb⟩⟩)
  · rw [q, hT] at hb; cases hb; exact hnf ts hdT
  · exact ⟨oe, vs, a0, _, (other e (Ne.symm hTe)).trans he, hc, hd, h0, h1, h2, T, _, _, rfl, hnT, hTe, Heap.get?_update_self _ hT (Obj.isFreed_of_fields (Obj.data_mapFields hdT _)), (Obj.cls_mapFields _ _).trans hcT, Obj.data_mapFields hdT _, by simp [hsz3]⟩
theorem Exc.out {fl : Option Value} {h : Heap} (x : Exc base (env :: outer) e cls c fl h) : Exc base outer e cls c fl h := ⟨x.stays, x.new, x.ff.2.2, x.tr⟩
theorem leave {fl : Option Value} {Q : Unit → Shared → Prop} (hfr : A.frames = some (env :: outer)) (hf : env.frame = some L) (x : Exc base (env :: outer) e cls c fl s.heap) (hfl : fl = none ∨ fl = some .none ∨ fl = some (rawInt L))
    (h : ∀ h', Exc base outer e cls c (some .none) h' → Way (env :: outer) e s.heap h' → Q () { s with heap := h' }) : wpAny M A (leaving env (.ref e)) Q E s := by
  unfold leaving
  exact wpAny_bind (note hfr hf x hfl fun h₁ x₁ w₁ => Ht (s := { s with heap := h₁ }) x₁ fun h₂ x₂ w₂ => h h₂ x₂.out (w₁.trans w₂))
theorem back {l : List Env} {f : Value} (hf : env.frame = some L) (x : Exc base l e cls c (some f) s.heap)
    (h : ∀ h', Exc base l e cls c (some (rawInt L)) h' → Way l e s.heap h' → E (.ref e) { s with heap := h' }) : cameBackBy M A env E (.ref e) s := by
  obtain ⟨hkb, hen, hl, oe, vs, a0, v, he, hc, hd, h0, h1, h2, ht⟩ := id x
  obtain ⟨T, oT, ts, rfl, _⟩ := id ht
  unfold cameBackBy
  refine wpAny_bind (wpAny_field he hd h1 ?_)
  rw [if_neg (show ¬ ((Value.ref T == Value.none) = true) from Bool.false_ne_true)]
  refine Ht x fun h' x' w' => ?_
  rw [hf] at x'
  exact h h' x' w'
theorem Exc.made {h h' : Heap} {args : List Value} {l : List Env} (hkb : base.StaysIn h) (hl : h.FunFrames base l) (hx : Heap.MadeExcOf h h' e cls args) : Exc base l e cls .none none h' := by
  obtain ⟨t, he, htn, ht⟩ := hx.there
  refine ⟨fun b o hb => hx.keeps b o (hkb b o hb), ?_, hl.of_keeps fun b o hb _ => ⟨o, hx.keeps b o hb, rfl⟩, _, _, .ref t, .none, he, rfl, rfl, rfl, rfl, rfl, rfl⟩
  cases hq : base.get? e with
  | none => rfl
  | some o' => have := hkb e o' hq; rw [hx.new] at this; cases this
theorem Exc.fly {l : List Env} {h : Heap} (x : Exc base l e cls c (some .none) h) : ∃ a0, Heap.FlyingW base l e cls a0 h := by
  obtain ⟨hkb, hen, hl, oe, vs, a0, v, he, hc, hd, h0, h1, h2, T, oT, ts, rfl, hnT, hTe, hT, hcT, hdT, h3⟩ := x
  exact ⟨a0, hkb, hen, hl, oe, vs, T, oT, ts, he, ⟨hc, h0⟩, hd, h1, hnT, hTe, hT, hdT, h3⟩
end
end Mine
end
section
set_option maxRecDepth 100000
namespace Mine
open PySem PySem.Calls PyProof.Rows PySem.W
theorem RepO.cls {prog : Program} {w : World} {h : Heap} {a : Addr} {o : MO} (r : RepO prog w h a o) : ∃ x, h.get? a = some x ∧ (x.cls = .type "list" ∨ x.cls = .type "dict") := by
  cases o with
  | list l => obtain ⟨vs, ⟨n, ho⟩, _⟩ := r; exact ⟨_, ho, .inl rfl⟩
  | idict l => obtain ⟨kvs, ⟨o, es, ep, ho, hc, _⟩, _⟩ := r; exact ⟨o, ho, .inr hc.1⟩
  | sdict l => obtain ⟨kvs, ⟨o, es, ep, ho, hc, _⟩, _⟩ := r; exact ⟨o, ho, .inr hc.1⟩
structure Frs (h₀ h : Heap) (μ : MH) (l : List Env) : Prop where
  ff : h.FunFrames h₀ l
  nt : ∀ b ∈ frs l, μ b = none
  fd : ∀ b ∈ frs l, ∃ o es ep, h.get? b = some o ∧ o.data = .dict es ep
theorem P4 {l : List Env} {e : Env} {L : Addr} (he : e ∈ l) (hL : e.frame = some L) : L ∈ frs l := List.mem_filterMap.mpr ⟨e, he, hL⟩
theorem Ct {l : List Env} {env : Env} {b L : Addr} (hL : env.frame = some L) (hb : b ∈ frs (env :: l)) : b = L ∨ b ∈ frs l := by
  obtain ⟨e, he, q⟩ := List.mem_filterMap.mp hb
  rcases List.mem_cons.mp he with rfl | he
  · rw [hL] at q; cases q; exact .inl rfl
  · exact .inr (P4 he q)
theorem Frs.map {h₀ h h' : Heap} {μ μ' : MH} {l : List Env} (f : Frs h₀ h μ l) (k : ∀ b o es ep, b ∈ frs l → h.get? b = some o → o.data = .dict es ep → ∃ sl, h'.get? b = some { o with slots := sl }) (km : ∀ b ∈ frs l, μ' b = none) : Frs h₀ h' μ' l := by
  refine ⟨?_, km, fun b hb => ?_⟩
  · have : ∀ (l' : List Env), (∀ b ∈ frs l', b ∈ frs l) → h.FunFrames h₀ l' → h'.FunFrames h₀ l' := by
      intro l'
      induction l' with
      | nil => exact fun _ _ => trivial
      | cons env rest ih =>
        rintro hs ⟨hk, ⟨L, o, hf, hn, ho, hd⟩, hr⟩
        have hL : L ∈ frs l := hs L (P4 (.head _) hf)
        obtain ⟨o', es, ep, ho', hd'⟩ := f.fd L hL
        obtain ⟨sl, e⟩ := k L o' es ep hL ho' hd'
        refine ⟨hk, ⟨L, _, hf, hn, e, fun vs q => by rw [show ({ o' with slots := sl } : Obj).data = o'.data from rfl, hd'] at q; cases q⟩, ih (fun b hb => hs b ?_) hr⟩
        obtain ⟨e', he', q⟩ := List.mem_filterMap.mp hb
        exact P4 (.tail _ he') q
    exact this l (fun b hb => hb) f.ff
  · obtain ⟨o, es, ep, ho, hd⟩ := f.fd b hb
    obtain ⟨sl, e⟩ := k b o es ep hb ho hd
    exact ⟨_, es, ep, e, hd⟩
theorem Frs.way {h₀ h h' : Heap} {μ : MH} {l l' : List Env} {e : Addr} (f : Frs h₀ h μ l) (hw : Way l' e h h') : Frs h₀ h' μ l :=
  f.map (fun b o es ep hb ho hd => hw.slot b o ho fun vs q => by rw [hd] at q; cases q) f.nt
theorem Frs.grow {h₀ : Heap} {fz : List Addr} {μ μ' : MH} {s s' : Shared} {l : List Env} (f : Frs h₀ s.heap μ l) (g : Grow fz μ s μ' s') : Frs h₀ s'.heap μ' l :=
  f.map (fun b o es ep hb ho hd => ⟨o.slots, (g.keep b o (.inl (f.nt b hb)) ho).1⟩) fun b hb => by
    obtain ⟨o, es, ep, ho, _⟩ := f.fd b hb
    exact (g.keep b o (.inl (f.nt b hb)) ho).2.trans (f.nt b hb)
theorem RepH.way {prog : Program} {w : World} {μ : MH} {h h' h₀ base : Heap} {l : List Env} {e : Addr} {c : Value} {fl : Option Value} {K : Addr} (r : RepH prog w μ h) (x : Exc base l e (.ref K) c fl h) (f : Frs h₀ h μ l) (hw : Way l e h h') : RepH prog w μ h' := by
  obtain ⟨oe, vs, a0, v, he, hc, _⟩ := x.tr
  have kt : KeepsT h h' := fun b o hb hi => by
    refine hw.keep b o hb (fun hm => ?_) (fun q => ?_) fun q => ?_
    · obtain ⟨o', es, ep, ho', hd⟩ := f.fd b hm
      rw [hb] at ho'; cases ho'
      rcases hi with ⟨_, _, _, q⟩ | ⟨_, _, q⟩ | ⟨_, _, q⟩ <;> rw [hd] at q <;> cases q
    · subst q; rw [he] at hb; cases hb; unfold ImmCls at hi; rw [hc] at hi; simp at hi
    · unfold ImmCls at hi; rw [q] at hi; simp at hi
  intro a o ea
  obtain ⟨y, hy, hyc⟩ := (r a o ea).cls
  refine (r a o ea).keeps kt fun z hz => ?_
  have hyz : z = y := Option.some.inj (hz.symm.trans hy)
  rw [hyz] at hz ⊢
  refine hw.keep a y hz (fun hm => ?_) (fun q => ?_) fun q => ?_
  · rw [f.nt a hm] at ea; cases ea
  · rw [q, he] at hz; cases hz; rw [hc] at hyc; rcases hyc with q | q <;> cases q
  · rw [q] at hyc
    rcases hyc with q | q
    · exact absurd q (by decide)
    · exact absurd q (by decide)
structure GrowW (l : List Env) (fz : List Addr) (μ : MH) (s : Shared) (μ' : MH) (s' : Shared) : Prop where
  keep : ∀ b o, (μ b = none ∨ b ∈ fz) → s.heap.get? b = some o → (o.cls ≠ .type "traceback" → b ∉ frs l → s'.heap.get? b = some o) ∧ ((∀ vs, o.data ≠ .fields vs) → ∃ sl, s'.heap.get? b = some { o with slots := sl }) ∧ μ' b = μ b
  os : s'.os = s.os
  gens : s'.gens = s.gens
inductive PostX (prog : Program) (w : World) (h₀ : Heap) (K : Addr) (l : List Env) (fz : List Addr) (μ : MH) (s : Shared) (X : Value → MH → Prop) (v : Value) (s' : Shared) : Prop
  | mk (e : Addr) (μ' : MH) (c : Value) (hv : v = .ref e) (q : X c μ') (x : Exc h₀ l e (.ref K) c (some .none) s'.heap) (r : RepH prog w μ' s'.heap) (fs : Frs h₀ s'.heap μ' l) (g : GrowW l fz μ s μ' s') (ne : ∀ b o, (μ b = none ∨ b ∈ fz) → s.heap.get? b = some o → o.cls ≠ .type "traceback" → b ∉ frs l → b ≠ e)
theorem GrowW.after {l : List Env} {fz : List Addr} {μ μ₁ μ' : MH} {s s₁ s' : Shared} (g : Grow fz μ s μ₁ s₁) (x : GrowW l fz μ₁ s₁ μ' s') : GrowW l fz μ s μ' s' :=
  ⟨fun b o f e => by
    obtain ⟨e1, q1⟩ := g.keep b o f e
    obtain ⟨a1, a2, a3⟩ := x.keep b o (f.imp (fun z => q1.trans z) id) e1
    exact ⟨a1, a2, a3.trans q1⟩, x.os.trans g.os, x.gens.trans g.gens⟩
theorem PostX.after {prog : Program} {w : World} {h₀ : Heap} {K : Addr} {l : List Env} {fz : List Addr} {μ μ₁ : MH} {s s₁ : Shared} {X : Value → MH → Prop} {v : Value} {s' : Shared} (g : Grow fz μ s μ₁ s₁) (x : PostX prog w h₀ K l fz μ₁ s₁ X v s') : PostX prog w h₀ K l fz μ s X v s' := by
  obtain ⟨e, μ', c, hv, q, x, r, fs, g', ne⟩ := x
  exact ⟨e, μ', c, hv, q, x, r, fs, g'.after g, fun b o f hb => by
    obtain ⟨e1, q1⟩ := g.keep b o f hb
    exact ne b o (f.imp (fun z => q1.trans z) id) e1⟩
structure GrowZ (env : Env) (l : List Env) (fz : List Addr) (μ : MH) (s : Shared) (μ' : MH) (s' : Shared) : Prop where
  keep : ∀ b o, (μ b = none ∨ b ∈ fz) → b ≠ env.locals → (∀ x c, (x, c) ∈ env.cells → b ≠ c) → s.heap.get? b = some o → (o.cls ≠ .type "traceback" → b ∉ frs l → s'.heap.get? b = some o) ∧ ((∀ vs, o.data ≠ .fields vs) → ∃ sl, s'.heap.get? b = some { o with slots := sl }) ∧ μ' b = μ b
  os : s'.os = s.os
  gens : s'.gens = s.gens
inductive PostY (prog : Program) (w : World) (h₀ : Heap) (K : Addr) (env : Env) (outer : List Env) (fz : List Addr) (μ : MH) (s : Shared) (X : Value → MH → Prop) (fl : Option Value) (v : Value) (s' : Shared) : Prop
  | mk (e : Addr) (μ' : MH) (c : Value) (hv : v = .ref e) (q : X c μ') (x : Exc h₀ (env :: outer) e (.ref K) c fl s'.heap) (r : RepH prog w μ' s'.heap) (fs : Frs h₀ s'.heap μ' (env :: outer)) (g : GrowZ env (env :: outer) fz μ s μ' s') (ne : ∀ b o, (μ b = none ∨ b ∈ fz) → b ≠ env.locals → (∀ x c, (x, c) ∈ env.cells → b ≠ c) → s.heap.get? b = some o → o.cls ≠ .type "traceback" → b ∉ frs (env :: outer) → b ≠ e)
noncomputable def PostZ (prog : Program) (w : World) (h₀ : Heap) (K : Addr) (env : Env) (outer : List Env) (fz : List Addr) (μ : MH) (s : Shared) (X : Value → MH → Prop) (v : Value) (s' : Shared) : Prop := ∃ fl, (fl = none ∨ fl = some .none ∨ fl = some (rawInt env.locals)) ∧ PostY prog w h₀ K env outer fz μ s X fl v s'
theorem PostX.toZ {prog : Program} {w : World} {h₀ : Heap} {K : Addr} {env : Env} {outer : List Env} {fz : List Addr} {μ : MH} {s : Shared} {X : Value → MH → Prop} {v : Value} {s' : Shared} (x : PostX prog w h₀ K (env :: outer) fz μ s X v s') : PostZ prog w h₀ K env outer fz μ s X v s' := by
  obtain ⟨e, μ', c, hv, q, x, r, fs, g', ne⟩ := x
  exact ⟨_, .inr (.inl rfl), e, μ', c, hv, q, x, r, fs, ⟨fun b o f _ _ e => g'.keep b o f e, g'.os, g'.gens⟩, fun b o f _ _ e => ne b o f e⟩
theorem PostZ.after {prog : Program} {w : World} {h₀ : Heap} {K : Addr} {env : Env} {outer : List Env} {fz cs : List Addr} {μ μ₁ : MH} {s s₁ : Shared} {X : Value → MH → Prop} {v : Value} {s' : Shared} (g : GrowS env fz μ s μ₁ s₁) (x : PostZ prog w h₀ K env outer (cs ++ fz) μ₁ s₁ X v s') : PostZ prog w h₀ K env outer fz μ s X v s' := by
  obtain ⟨fl, hfl, e, μ', c, hv, q, x, r, fs, g', ne⟩ := x
  have im : ∀ {b : Addr} {o : Obj}, (μ b = none ∨ b ∈ fz) → μ₁ b = μ b → (μ₁ b = none ∨ b ∈ cs ++ fz) := fun f q1 => f.imp (fun z => q1.trans z) (List.mem_append_right _)
  refine ⟨fl, hfl, e, μ', c, hv, q, x, r, fs, ⟨fun b o f l cs eb => ?_, g'.os.trans g.os, g'.gens.trans g.gens⟩, fun b o f l cs eb => ?_⟩
  · obtain ⟨e1, q1⟩ := g.keep b o f l cs eb
    obtain ⟨a1, a2, a3⟩ := g'.keep b o (im (o := o) f q1) l cs e1
    exact ⟨a1, a2, a3.trans q1⟩
  · obtain ⟨e1, q1⟩ := g.keep b o f l cs eb
    exact ne b o (im (o := o) f q1) l cs e1
theorem PostY.step {prog : Program} {w : World} {h₀ : Heap} {K : Addr} {env : Env} {outer : List Env} {fz : List Addr} {μ : MH} {s : Shared} {X : Value → MH → Prop} {fl : Option Value} {v : Value} {s' : Shared} (x : PostY prog w h₀ K env outer fz μ s X fl v s') :
    ∃ e c, v = .ref e ∧ Exc h₀ (env :: outer) e (.ref K) c fl s'.heap ∧ ∀ fl' h', Exc h₀ (env :: outer) e (.ref K) c fl' h' → Way (env :: outer) e s'.heap h' → PostY prog w h₀ K env outer fz μ s X fl' v { s' with heap := h' } := by
  obtain ⟨e, μ', c, hv, q, x, r, fs, g', ne⟩ := x
  refine ⟨e, c, hv, x, fun fl' h' x' hw => ⟨e, μ', c, hv, q, x', r.way x fs hw, fs.way hw, ⟨fun b o f l cs eb => ?_, g'.os, g'.gens⟩, ne⟩⟩
  obtain ⟨a1, a2, a3⟩ := g'.keep b o f l cs eb
  refine ⟨fun hc hm => hw.keep b o (a1 hc hm) hm (ne b o f l cs eb hc hm) hc, fun hn => ?_, a3⟩
  obtain ⟨sl, a⟩ := a2 hn
  obtain ⟨sl', a'⟩ := hw.slot b _ a hn
  exact ⟨sl', a'⟩
structure InF (h₀ : Heap) (A : Around) (env : Env) (outer : List Env) (μ : MH) (h : Heap) : Prop where
  fr : A.frames = some (env :: outer)
  frame : env.frame = some env.locals
  fs : Frs h₀ h μ outer
  ap : ∀ b ∈ frs outer, b ≠ env.locals ∧ ∀ x c, (x, c) ∈ env.cells → b ≠ c
section
variable {prog : Program} {w : World} {G : String → Option MV} {Γ : String → Option MFun} {h₀ : Heap} {mg mb : Str → Option Value}
theorem InF.grow {A : Around} {env : Env} {outer : List Env} {fz : List Addr} {μ μ' : MH} {s s' : Shared} (i : InF h₀ A env outer μ s.heap) (g : Grow fz μ s μ' s') : InF h₀ A env outer μ' s'.heap := ⟨i.fr, i.frame, i.fs.grow g, i.ap⟩
theorem InF.growS {A : Around} {env : Env} {outer : List Env} {fz : List Addr} {μ μ' : MH} {s s' : Shared} (i : InF h₀ A env outer μ s.heap) (g : GrowS env fz μ s μ' s') : InF h₀ A env outer μ' s'.heap := by
  refine ⟨i.fr, i.frame, i.fs.map (fun b o es ep hb ho hd => ⟨o.slots, (g.keep b o (.inl (i.fs.nt b hb)) (i.ap b hb).1 (i.ap b hb).2 ho).1⟩) fun b hb => ?_, i.ap⟩
  obtain ⟨o, es, ep, ho, _⟩ := i.fs.fd b hb
  exact (g.keep b o (.inl (i.fs.nt b hb)) (i.ap b hb).1 (i.ap b hb).2 ho).2.trans (i.fs.nt b hb)
theorem InF.all {S : Sc} {A : Around} {env : Env} {vars : MVars} {outer : List Env} {fz : List Addr} {μ : MH} {s : Shared} (i : InF h₀ A env outer μ s.heap) (C : Cur prog w h₀ S env vars fz μ s) : Frs h₀ s.heap μ (env :: outer) := by
  refine ⟨ff_push C i.frame i.fs.ff, fun b hb => ?_, fun b hb => ?_⟩ <;> rcases Ct i.frame hb with rfl | hb
  · exact C.fr.fixl
  · exact i.fs.nt b hb
  · obtain ⟨m, ⟨o, es, ep, ho, hd, _⟩, _⟩ := C.fr.ns
    exact ⟨o, es, ep, ho, hd⟩
  · exact i.fs.fd b hb
end
end Mine
end
section
set_option maxRecDepth 100000
namespace Mine
open PySem PySem.Calls PyProof.Rows PySem.W
section
variable (prog : Program) (w : World) (h₀ : Heap) (K : Addr) (d : Nat)
noncomputable def MXE (e : ME) (fz : List Addr) (vars : MVars) (Q : MQ) (X : Value → MH → Prop) (μ : MH) : Prop := ∀ (S : Sc) (x : PySem.Expr) (env : Env) (outer : List Env) (s : Shared) (A : Around) (E : Value → Shared → Prop), isE S e x = true → OkA d A → Cur prog w h₀ S env vars fz μ s → InF h₀ A env outer μ s.heap →
  (∀ v s', PostX prog w h₀ K (env :: outer) fz μ s X v s' → E v s') → wpAny (model prog w) A (eval x env) (PostV prog w fz μ s Q) E s
noncomputable def MXL (l : List ME) (fz : List Addr) (vars : MVars) (Q : List MV → MH → Prop) (X : Value → MH → Prop) (μ : MH) : Prop := ∀ (S : Sc) (xs : List PySem.Expr) (env : Env) (outer : List Env) (s : Shared) (A : Around) (E : Value → Shared → Prop), isEs S l xs = true → OkA d A → Cur prog w h₀ S env vars fz μ s → InF h₀ A env outer μ s.heap →
  (∀ v s', PostX prog w h₀ K (env :: outer) fz μ s X v s' → E v s') → wpAny (model prog w) A (spliced (xs.map fun x => (false, eval x env))) (PostL prog w fz μ s Q) E s
noncomputable def MXC (f : String) (vs : List MV) (fz : List Addr) (Q : MQ) (X : Value → MH → Prop) (μ : MH) : Prop := ∀ (vals : List Value) (s : Shared) (A : Around) (R : Result → Shared → Prop) (fa : Addr) (outer : List Env), OkA d A → Base h₀ fz μ s → RepH prog w μ s.heap → FzIn fz μ → RepVs s.heap vs vals → FnAt h₀ f fa → A.frames = some outer → Frs h₀ s.heap μ outer →
  (∀ v s', PostV prog w fz μ s Q v s' → R (.ok (.ret v)) s') → (∀ v s', PostX prog w h₀ K outer fz μ s X v s' → R (.error v) s') → codeAny (model prog w) A (.call (.ref fa) ⟨vals, []⟩) R s
noncomputable def MXT (st : MS) (fz : List Addr) (vars : MVars) (R : MFlow → MVars → MH → Prop) (X : Value → MH → Prop) (μ : MH) : Prop := ∀ (S : Sc) (x : PySem.Stmt) (env : Env) (outer : List Env) (s : Shared) (A : Around) (E : Value → Shared → Prop), isS S st x = true → OkA d A → Cur prog w h₀ S env vars fz μ s → InF h₀ A env outer μ s.heap →
  (∀ v s', PostZ prog w h₀ K env outer fz μ s X v s' → E v s') → wpAny (model prog w) A (exec x env) (PostF prog w h₀ S env fz μ s R) E s
noncomputable def MXS (l : List MS) (fz : List Addr) (vars : MVars) (R : MFlow → MVars → MH → Prop) (X : Value → MH → Prop) (μ : MH) : Prop := ∀ (S : Sc) (xs : List PySem.Stmt) (env : Env) (outer : List Env) (s : Shared) (A : Around) (E : Value → Shared → Prop), isSs S l xs = true → OkA d A → Cur prog w h₀ S env vars fz μ s → InF h₀ A env outer μ s.heap →
  (∀ v s', PostZ prog w h₀ K env outer fz μ s X v s' → E v s') → wpAny (model prog w) A (execs xs env) (PostF prog w h₀ S env fz μ s R) E s
end
section
variable {prog : Program} {w : World} {G : String → Option MV} {Γ : String → Option MFun} {h₀ : Heap} {mg mb : Str → Option Value} {K : Addr} {d : Nat} {fz : List Addr} {vars : MVars} {Q : MQ} {X : Value → MH → Prop} {μ : MH} {R : MFlow → MVars → MH → Prop}
theorem Z5 (pg : PG prog w G Γ h₀ mg mb) {e : ME} (h : ev G (calls G Γ d) X0 e fz vars Q μ) : MXE prog w h₀ K d e fz vars Q X μ :=
  fun S x env outer s A E hx hA C i hE => (Yd pg (Jr pg d) e).1 S x env vars fz μ s Q A E hx hA C h
theorem Hh {P : List MV → MH → Prop} (h : P [] μ) : MXL prog w h₀ K d [] fz vars P X μ := fun S xs env outer s A E hx hA C i hE => by
  cases xs with
  | cons _ _ => exact (Bool.false_ne_true hx).elim
  | nil => exact Calls.spliced_nil ⟨[], μ, h, trivial, C.heap, .refl⟩
theorem Ym {e : ME} {r : List ME} {P : List MV → MH → Prop} (h : MXE prog w h₀ K d e fz vars (fun v μ' => MXL prog w h₀ K d r fz vars (fun vs μ'' => P (v :: vs) μ'') X μ') X μ) : MXL prog w h₀ K d (e :: r) fz vars P X μ := fun S xs env outer s A E hx hA C i hE => by
  cases xs with
  | nil => exact (Bool.false_ne_true hx).elim
  | cons x xs =>
    have hx := Y9 hx
    refine Calls.spliced_cons (wpAny_mono (h S x env outer s A E hx.1 hA C i hE) (fun v s₁ h₁ => ?_) fun _ _ e => e)
    obtain ⟨mv, μ₁, hq₁, rv, r₁, g₁⟩ := h₁
    refine wpAny_mono (hq₁ S xs env outer s₁ A E hx.2 hA (C.grow g₁ r₁) (i.grow g₁) fun v s' h => hE v s' (h.after g₁)) (fun vs s₂ h₂ => ?_) fun _ _ e => e
    obtain ⟨ms, μ₂, hq₂, rvs, r₂, g₂⟩ := h₂
    exact ⟨mv :: ms, μ₂, hq₂, ⟨rv.keepT (g₂.keepT r₁), rvs⟩, r₂, g₁.trans g₂⟩
theorem Op {l : List ME} (h : MXL prog w h₀ K d l fz vars (fun vs μ' => fits vs.length ∧ Q (.tup vs) μ') X μ) : MXE prog w h₀ K d (.tuple l) fz vars Q X μ := fun S x env outer s A E hx hA C i hE => by
  replace hx := Ga hx
  obtain ⟨es, kk, p, rfl, hx⟩ := hx
  refine wpAny_Tuple_spliced ?_
  rw [Z1 p hx]
  refine wpAny_mono (h S es env outer s A E hx hA C i hE) (fun vs s₁ h₁ => ?_) fun _ _ e => e
  obtain ⟨ms, μ₁, ⟨hf, hq₁⟩, rv, r₁, g₁⟩ := h₁
  refine ⟨by rw [rv.length]; exact Y0 hf, PostV.trans g₁ ?_⟩
  exact Z8 (tk := s₁.toks) hq₁ r₁ (fun b o e => Heap.get?_push_of_some _ e) (Jy rv)
theorem Hi {f : String} {l : List ME} (h : MXL prog w h₀ K d l fz vars (fun vs μ' => MXC prog w h₀ K d f vs fz Q X μ') X μ) : MXE prog w h₀ K d (.call f l) fz vars Q X μ := fun S x env outer s A E hx hA C i hE => by
  replace hx := Co hx
  obtain ⟨g, np, as, p, rfl, hg, hx⟩ := hx
  simp only [Bool.and_eq_true, decide_eq_true_eq, List.contains_iff_mem] at hx
  obtain ⟨⟨hf, ha⟩, hn⟩ := hx
  obtain ⟨fa, m, hm, hmf, o, fd, ho, hfd⟩ := C.known f hf
  obtain ⟨rfl, hk, hd⟩ := Jo hg
  refine wpAny_Call_ofName (Name_function_global C.fr.kind (by unfold Env.kindOf; rw [C.fr.names]; exact hk) (loadGlobal_global (mg := m) ?_ hmf ?_) hd)
  · rw [C.fr.glob]
    exact hm.keeps fun b o e => (C.base b o e).1
  rw [Z1 p ha]
  show wpAny _ A (callWith p (.ref fa) [] _ []) _ _ s
  refine callWith_function (o := o) (fd := fd) (Yc (Yb as) (wpAny_mono (h S as env outer s A E ha hA C i hE) (fun vs s₁ h₁ => ?_) fun _ _ e => e))
  obtain ⟨ms, μ₁, hq₁, rv, r₁, g₁⟩ := h₁
  have C₁ := C.grow g₁ r₁
  refine ⟨⟨(C₁.base _ _ ho).1, hfd⟩, ?_⟩
  exact wpAny_call (hq₁ vs s₁ A _ fa (env :: outer) hA C₁.base r₁ C₁.fzin rv ⟨m, hm, hmf, o, fd, ho, hfd⟩ i.fr ((i.grow g₁).all C₁) (fun v' s₃ h₃ => h₃.trans g₁) fun v s' h => hE v s' (h.after g₁))
theorem mc_body (pg : PG prog w G Γ h₀ mg mb) {f : String} {fd : MFun} {vs : List MV} (hΓ : Γ f = some fd) (hn : vs.length = fd.n) (h : MXS prog w h₀ K d fd.body fz (args0 vs) (fun fl _ μ' => match fl with | .ret v => Q v μ' | .next => Q .none μ' | _ => False) X μ) : MXC prog w h₀ K (d + 1) f vs fz Q X μ := fun vals s A R fa outer hA B r fi rv hfn hfr fs hQ hE => by
  refine enter pg hΓ hn hA B r fi rv hfn fun S env body s₁ hb C hA' en => ?_
  have ap : ∀ b ∈ frs outer, b ≠ env.locals ∧ ∀ x c, (x, c) ∈ env.cells → b ≠ c := fun b hb => by
    obtain ⟨o, es, ep, ho, _⟩ := fs.fd b hb
    exact ⟨fun q => (by rw [q, en.new] at ho; cases ho), fun x c hc q => (by rw [q, en.cells x c hc] at ho; cases ho)⟩
  have i : InF h₀ (A.deeper env) env outer μ s₁.heap := ⟨Around.frames_deeper hfr, en.frame, fs.map (fun b o es ep _ ho _ => ⟨o.slots, en.keep b o ho⟩) fs.nt, ap⟩
  refine wpAny_mono (h S body env outer s₁ (A.deeper env) _ hb hA' C i fun v s' hz => ?_) (fun fl s' hf => ?_) fun _ _ e => e
  · obtain ⟨fl, hfl, hy⟩ := hz
    obtain ⟨e, μ', c, rfl, q, x, rr, fs', g', ne⟩ := hy
    refine leave i.fr i.frame x hfl fun h' x' hw => hE _ _ ⟨e, μ', c, rfl, q, x', rr.way x fs' hw, ?_, ⟨fun b o f hb => ?_, g'.os.trans en.os, g'.gens.trans en.gens⟩, fun b o f hb hc hm => ?_⟩
    · have : Frs h₀ s'.heap μ' outer := ⟨fs'.ff.2.2, fun b hb => fs'.nt b ?_, fun b hb => fs'.fd b ?_⟩
      · exact this.way hw
      · obtain ⟨e', he', q'⟩ := List.mem_filterMap.mp hb; exact P4 (.tail _ he') q'
      · obtain ⟨e', he', q'⟩ := List.mem_filterMap.mp hb; exact P4 (.tail _ he') q'
    · have nl : b ≠ env.locals := fun q => by rw [q, en.new] at hb; cases hb
      have nc : ∀ x c, (x, c) ∈ env.cells → b ≠ c := fun x c hc q => by rw [q, en.cells x c hc] at hb; cases hb
      obtain ⟨a1, a2, a3⟩ := g'.keep b o f nl nc (en.keep b o hb)
      refine ⟨fun hc hm => ?_, fun hn => ?_, a3⟩
      · have hm' : b ∉ frs (env :: outer) := fun hm' => by
          rcases Ct i.frame hm' with q | q
          · exact nl q
          · exact hm q
        exact hw.keep b o (a1 hc hm') hm' (ne b o f nl nc (en.keep b o hb) hc hm') hc
      · obtain ⟨sl, a⟩ := a2 hn
        obtain ⟨sl', a'⟩ := hw.slot b _ a hn
        exact ⟨sl', a'⟩
    · have nl : b ≠ env.locals := fun q => by rw [q, en.new] at hb; cases hb
      have nc : ∀ x c, (x, c) ∈ env.cells → b ≠ c := fun x c hc q => by rw [q, en.cells x c hc] at hb; cases hb
      exact ne b o f nl nc (en.keep b o hb) hc fun hm' => (Ct i.frame hm').elim nl hm
  · obtain ⟨fl', vars', μ', hq, hff, C', g'⟩ := hf
    have gr : Grow fz μ s μ' s' := ⟨fun b o f hb => by
      have nl : b ≠ env.locals := fun q => by rw [q, en.new] at hb; cases hb
      have nc : ∀ x c, (x, c) ∈ env.cells → b ≠ c := fun x c hc q => by rw [q, en.cells x c hc] at hb; cases hb
      exact g'.keep b o f nl nc (en.keep b o hb), g'.os.trans en.os, g'.gens.trans en.gens⟩
    cases fl' with
    | next => obtain rfl := hff; exact hQ _ _ ⟨.none, μ', hq, rfl, C'.heap, gr⟩
    | brk => exact hq.elim
    | cont => exact hq.elim
    | ret m => obtain ⟨v, rfl, rv'⟩ := hff; exact hQ _ _ ⟨m, μ', hq, rv', C'.heap, gr⟩
end
end Mine
end
section
set_option maxRecDepth 100000
namespace Mine
open PySem PySem.Calls PyProof.Rows PySem.W
section
variable {prog : Program} {w : World} {G : String → Option MV} {Γ : String → Option MFun} {h₀ : Heap} {mg mb : Str → Option Value} {K : Addr} {d : Nat} {fz : List Addr} {vars : MVars} {Q : MQ} {X : Value → MH → Prop} {μ : MH} {R : MFlow → MVars → MH → Prop}
noncomputable def kx (N : MVars → MH → Prop) (R : MFlow → MVars → MH → Prop) : MFlow → MVars → MH → Prop := fun fl vars' μ' => match fl with
  | .next => N vars' μ'
  | fl => R fl vars' μ'
theorem Z7 (h : R .next vars μ) : MXS prog w h₀ K d [] fz vars R X μ := fun S xs env outer s A E hx hA C i hE => by
  cases xs with
  | cons _ _ => exact (Bool.false_ne_true hx).elim
  | nil => exact wpAny_execs_nil ⟨.next, vars, μ, h, rfl, C, .refl⟩
theorem Xk {st : MS} {l : List MS} (h : MXT prog w h₀ K d st fz vars (kx (fun vars' μ' => MXS prog w h₀ K d l fz vars' R X μ') R) X μ) : MXS prog w h₀ K d (st :: l) fz vars R X μ := fun S xs env outer s A E hx hA C i hE => by
  cases xs with
  | nil => exact (Bool.false_ne_true hx).elim
  | cons x xs =>
    have hx := Zk hx
    refine wpAny_execs_cons (wpAny_mono (h S x env outer s A E hx.1 hA C i hE) (fun f s₁ h₁ => ?_) fun _ _ e => e)
    obtain ⟨fl, vars₁, μ₁, hq₁, hf, C₁, g₁⟩ := h₁
    cases fl with
    | next =>
      obtain rfl := hf
      exact wpAny_mono (hq₁ S xs env outer s₁ A E hx.2 hA C₁ (i.growS g₁) fun v s' h => hE v s' (h.after (cs := []) g₁)) (fun f' s₂ h₂ => h₂.trans g₁) fun _ _ e => e
    | brk => obtain rfl := hf; exact ⟨.brk, vars₁, μ₁, hq₁, rfl, C₁, g₁⟩
    | cont => obtain rfl := hf; exact ⟨.cont, vars₁, μ₁, hq₁, rfl, C₁, g₁⟩
    | ret m => obtain ⟨v, rfl, rv⟩ := hf; exact ⟨.ret m, vars₁, μ₁, hq₁, ⟨v, rfl, rv⟩, C₁, g₁⟩
theorem On (pg : PG prog w G Γ h₀ mg mb) {st : MS} (h : ex G (calls G Γ d) X0 st fz vars R μ) : MXT prog w h₀ K d st fz vars R X μ :=
  fun S x env outer s A E hx hA C i hE => soundS pg (Jr pg d) st S x env vars fz μ s R A E hx hA C h
theorem He {e : ME} (h : MXE prog w h₀ K d e fz vars (fun v μ' => R (.ret v) vars μ') X μ) : MXT prog w h₀ K d (.ret e) fz vars R X μ := fun S x env outer s A E hx hA C i hE => by
  replace hx := Cp hx; obtain ⟨v, p, rfl, hx⟩ := hx
  refine wpAny_Return_some (wpAny_mono (h S _ env outer s A E hx hA C i fun v s' h => hE v s' h.toZ) (fun v s₁ h₁ => ?_) fun _ _ e => e)
  obtain ⟨mv, μ₁, hq₁, rv, r₁, g₁⟩ := h₁
  exact ⟨.ret mv, vars, μ₁, hq₁, ⟨v, rfl, rv⟩, C.grow g₁ r₁, g₁.toS⟩
theorem mt_ite (pg : PG prog w G Γ h₀ mg mb) {c : ME} {a b : List MS} (h : ev G (calls G Γ d) X0 c fz vars (fun v μ' => ∃ t, truthy μ' v = some t ∧ if t then MXS prog w h₀ K d a fz vars R X μ' else MXS prog w h₀ K d b fz vars R X μ') μ) : MXT prog w h₀ K d (.ite c a b) fz vars R X μ := fun S x env outer s A E hx hA C i hE => by
  replace hx := Cq hx; obtain ⟨tt, y, z, p, rfl, hx⟩ := hx
  simp only [Bool.and_eq_true] at hx
  refine wpAny_If (wpAny_mono ((Yd pg (Jr pg d) c).2 S _ env _ fz μ s (fun t μ' => if t then MXS prog w h₀ K d a fz vars R X μ' else MXS prog w h₀ K d b fz vars R X μ') _ _ hx.1.1 hA C h) (fun b s₂ h₂ => ?_) fun _ _ e => e)
  obtain ⟨μ₂, hq₂, r₂, g₂⟩ := h₂
  have C₂ := C.grow g₂ r₂
  cases b with
  | true => exact wpAny_mono (hq₂ S y env outer s₂ A E hx.1.2 hA C₂ (i.grow g₂) fun v s' h => hE v s' (h.after (cs := []) g₂.toS)) (fun f' s₃ h₃ => h₃.trans g₂.toS) fun _ _ e => e
  | false => exact wpAny_mono (hq₂ S z env outer s₂ A E hx.2 hA C₂ (i.grow g₂) fun v s' h => hE v s' (h.after (cs := []) g₂.toS)) (fun f' s₃ h₃ => h₃.trans g₂.toS) fun _ _ e => e
theorem mt_for (pg : PG prog w G Γ h₀ mg mb) {t : MT} {k : SK} {its : List ME} {body : List MS} (h : evs G (calls G Γ d) X0 its fz vars (fun vs μ' => ∃ src all, mkSrc k vs = some src ∧ src.items μ' = some all ∧ fits all.length ∧ loopM t (fun vs F μ => MXS prog w h₀ K d body (src.held ++ fz) vs F X μ) R all vars μ') μ) : MXT prog w h₀ K d (.for t k its body) fz vars R X μ := fun S x env outer s A E hx hA C i hE => by
  refine for_gen (d := d) pg (Ya pg (Jr pg d) its) (B := fun held vs F μ => MXS prog w h₀ K d body (held ++ fz) vs F X μ) hx hA C h fun held bd vars' μ' s' F hb C' g' hB => ?_
  refine hB S bd env outer s' A _ hb hA C' (i.growS g') fun v s₁ hz => ?_
  obtain ⟨fl, hfl, hy⟩ := hz
  obtain ⟨e, c, rfl, x, st⟩ := hy.step
  unfold notedBy
  refine note i.fr i.frame x hfl fun h₂ x₂ w₂ => ?_
  have hy₂ := st _ h₂ x₂ w₂
  obtain ⟨e', c', q, x₂', st₂⟩ := hy₂.step
  cases q
  refine back (s := { s₁ with heap := h₂ }) i.frame x₂' fun h₃ x₃ w₃ => hE _ _ ?_
  exact PostZ.after (cs := held) g' ⟨_, .inr (.inr rfl), st₂ _ h₃ x₃ w₃⟩
theorem mt_setidx {o ix e : ME} (h : MXE prog w h₀ K d e fz vars (fun v μ₁ => MXE prog w h₀ K d o fz vars (fun u μ₂ => MXE prog w h₀ K d ix fz vars (fun y μ₃ => setM fz u y v (fun μ₄ => R .next vars μ₄) μ₃) X μ₂) X μ₁) X μ) : MXT prog w h₀ K d (.setidx o ix e) fz vars R X μ := fun S x env outer s A E hx hA C i hE => by
  replace hx := Au hx; obtain ⟨ov, iv, sp, v, p, rfl, hx⟩ := hx
  simp only [Bool.and_eq_true] at hx
  refine wpAny_Assign_Subscript (wpAny_mono (h S _ env outer s A E hx.2 hA C i fun v s' h => hE v s' h.toZ) (fun v s₁ h₁ => ?_) fun _ _ e => e) ?_
  · obtain ⟨mv, μ₁, hq₁, rv, r₁, g₁⟩ := h₁
    have C₁ := C.grow g₁ r₁
    refine wpAny_mono (hq₁ S _ env outer s₁ A E hx.1.1 hA C₁ (i.grow g₁) fun v s' h => hE v s' (h.after g₁).toZ) (fun u s₂ h₂ => ?_) fun _ _ e => e
    obtain ⟨mu, μ₂, hq₂, ru, r₂, g₂⟩ := h₂
    have C₂ := C₁.grow g₂ r₂
    refine wpAny_mono (hq₂ S _ env outer s₂ A E hx.1.2 hA C₂ ((i.grow g₁).grow g₂) fun v s' h => hE v s' ((h.after g₂).after g₁).toZ) (fun y s₃ h₃ => ?_) fun _ _ e => e
    obtain ⟨my, μ₃, hq₃, ry, r₃, g₃⟩ := h₃
    have C₃ := C₂.grow g₃ r₃
    refine wpAny_mono (op_set (ru.keepT (g₃.keepT r₂)) ry ((rv.keepT (g₂.keepT r₁)).keepT (g₃.keepT r₂)) r₃ hq₃) (fun _ s₄ h₄ => ?_) fun _ _ e => e
    obtain ⟨μ₄, hq₄, r₄, g₄⟩ := h₄
    exact ⟨.next, vars, μ₄, hq₄, rfl, C₃.grow g₄ r₄, (((g₁.trans g₂).trans g₃).trans g₄).toS⟩
  · cases v <;> rfl
theorem Z9 {bk bad : String} {others : List String} {D : Addr} (pg : PG prog w G Γ h₀ mg mb) (Xc : Xcs h₀ mg mb bk bad others K D) (h : X .none μ) : MXT prog w h₀ K d (.opq (chkRaise bad)) fz vars R X μ := fun S x env outer s A E hx hA C i hE => by
  refine H6 pg Xc C hA.hand hx fun e h' tk args hm => hE _ _ ⟨none, .inl rfl, e, μ, .none, rfl, h, Exc.made (fun b o eb => (C.base b o eb).1) (i.all C).ff hm, C.heap.ext hm.keeps, (i.all C).map (fun b o es ep _ ho _ => ⟨o.slots, hm.keeps b o ho⟩) (i.all C).nt, ⟨fun b o _ _ _ eb => ⟨fun _ _ => hm.keeps b o eb, fun _ => ⟨o.slots, hm.keeps b o eb⟩, rfl⟩, rfl, rfl⟩, fun b o _ _ _ eb _ _ q => ?_⟩
  rw [q, hm.new] at eb; cases eb
end
end Mine
end
section
set_option maxRecDepth 100000
namespace Mine
open PySem PySem.Calls PyProof.Rows PySem.W
theorem Fh : entryFor table "proto.unchain" = some Builtin.«proto.unchain» := entryFor_of_fast (by kernel_rfl)
section
variable {prog : Program} {w : World} {A : Around} {E : Value → Shared → Prop} {s : Shared}
theorem H7 {α : Type} {e h : Addr} {oe oh : Obj} {vs ws : Array Value} {Q : α → Shared → Prop} (hh : A.handled = some (.ref h)) (hne : h ≠ e) (he : s.heap.get? e = some oe) (hd : oe.data = .fields vs) (hsz : 2 < vs.size) (ho : s.heap.get? h = some oh) (hdh : oh.data = .fields ws) (h2 : ws[2]? = some .none)
    (hE : E (.ref e) { s with heap := s.heap.update e (Obj.mapFields (·.setIfInBounds 2 (.ref h))) }) : wpAny (model prog w) A (raiseNew (.ref e) : Sem α) Q E s := by
  unfold raiseNew
  refine wpAny_bind (wpAny_handled ?_)
  rw [hh]
  dsimp only
  rw [if_pos (show (Value.ref h != Value.ref e) = true by simp [hne])]
  refine wpAny_bind (wpAny_holding (wpAny_runValue (codeAny_builtin Fh ?_)))
  show wpAny _ _ (field (.ref h) 2 >>= _) _ _ s
  refine wpAny_bind (wpAny_field ho hdh h2 ?_)
  rw [if_pos (by decide)]
  refine wpAny_bind (wpAny_pure (wpAny_pure ?_))
  unfold updateField
  refine wpAny_bind (wpAny_bind (wpAny_load he ?_))
  rw [hd]
  dsimp only
  rw [if_pos hsz]
  exact wpAny_update he (wpAny_throw hE)
end
end Mine
end
section
set_option maxRecDepth 100000
namespace Mine
open PySem PySem.Calls PyProof.Rows PySem.W
section
variable {M : Model} {A : Around} {E : Value → Shared → Prop} {h : Heap} {g : Array GenState} {dr : Drawn} {t : Nat} {os : OsState} {C D e : Addr} {oe : Obj}
theorem match_self {Q : Bool → Shared → Prop} (K : ClsAt h C [D]) (he : h.get? e = some oe) (hcls : oe.cls = .ref C) (hq : Q true ⟨h, g, dr, t, os⟩) : wpAny M A (excMatches (.ref e) (.ref C)) Q E ⟨h, g, dr, t, os⟩ := by
  obtain ⟨N, nm, q, bs, hdct, sn, sub, ab, col, dd, k0, k1, k2, k3, k5, mN, hC, h2, h3⟩ := K
  have hcB : (Value.ref C :: ([D].map .ref ++ bmV)).contains (.type "BaseException") = true := by
    rw [List.contains_cons, List.map_cons, List.map_nil, List.cons_append, List.contains_cons]
    have : (([] : List Value) ++ bmV).contains (.type "BaseException") = true := by decide +kernel
    rw [this, Bool.or_true, Bool.or_true]
  have hcC : (Value.ref C :: ([D].map .ref ++ bmV)).contains (.ref C) = true := by simp
  have f := tc_notTuple
  unfold excMatches
  repeat (first | (with_reducible refine wpAny_loadPart_at he ?_; rw [hcls]) | with_reducible refine wpAny_loadPart_at hC ?_ | (with_reducible refine wpAny_isSubtype_exc hC ?_; first | rw [hcB] | rw [hcC]) | wp_step)
  exact hq
end
section
variable {prog : Program} {w : World} {A : Around} {E : Value → Shared → Prop} {env : Env} {nm q : Str} {C N : Addr} {bs bm : List Value} {hdct : Bool} {sn : List Str} {sub : List Value} {ab : Bool} {col : Option Bool} {dd : Option Addr} {k0 k1 k2 k3 k5 : Option Value} {newId : String}
theorem Dz {s : Shared} {x : Sem Value} {Q : Flow → Shared → Prop} {hd : Addr} (hbase : bm.contains (.type "BaseException") = true) (hh : A.handled = some (.ref hd))
    (h : wpAny (model prog w) A x (fun v s₁ => ∃ e t oh ws, v = .ref e ∧ s₁.heap.get? C = some (excClassObj nm q C N bs bm hdct sn sub ab col dd k0 k1 k2 k3 k5 newId) ∧
      s₁.heap.get? e = some { cls := .ref C, data := .fields #[.ref t, .none, .none, .none, .bool false, .none] } ∧ hd ≠ e ∧ s₁.heap.get? hd = some oh ∧ oh.data = .fields ws ∧ ws[2]? = some .none ∧ E (.ref e) { s₁ with heap := s₁.heap.update e (Obj.mapFields (·.setIfInBounds 2 (.ref hd))) }) E s) :
    wpAny (model prog w) A (raiseStmt env (some x) none) Q E s := by
  have hcB : (Value.ref C :: bm).contains (.type "BaseException") = true := by rw [List.contains_cons, hbase, Bool.or_true]
  unfold raiseStmt
  refine wpAny_bind (wpAny_mono h (fun v s₁ h₁ => ?_) fun _ _ x => x)
  obtain ⟨e, t, oh, ws, rfl, hC, he, hne, ho, hdh, h2, hE⟩ := h₁
  obtain ⟨hp, g, d, tk, os⟩ := s₁
  repeat (first | with_reducible refine wpAny_loadPart_at he ?_ | with_reducible refine wpAny_loadPart_at hC ?_ | (with_reducible refine wpAny_isSubtype_exc hC ?_; rw [hcB]) | wp_step)
  exact H7 hh hne he rfl (show 2 < 6 by decide) ho hdh h2 hE
end
section
variable {prog : Program} {w : World} {G : String → Option MV} {Γ : String → Option MFun} {h₀ : Heap} {mg mb : Str → Option Value}
theorem raise_ctx {bk bad : String} {others : List String} {K D : Addr} (pg : PG prog w G Γ h₀ mg mb) (X : Xcs h₀ mg mb bk bad others K D) {S : Sc} {env : Env} {vars : MVars} {fz : List Addr} {μ : MH} {s : Shared} {A : Around} {E : Value → Shared → Prop} {Q : Flow → Shared → Prop} {x : PySem.Stmt} {hd : Addr} {oh : Obj} {ws : Array Value} (C : Cur prog w h₀ S env vars fz μ s) (hh : A.handled = some (.ref hd)) (hx : chkRaise bad S.tab S.names x = true) (ho : s.heap.get? hd = some oh) (hdh : oh.data = .fields ws) (h2 : ws[2]? = some .none)
    (hE : ∀ e h' tk args, Heap.MadeExcOf s.heap h' e (.ref K) args → E (.ref e) { s with heap := h'.update e (Obj.mapFields (·.setIfInBounds 2 (.ref hd))), toks := tk }) : wpAny (model prog w) A (exec x env) Q E s := by
  obtain ⟨n, np, y, k, p', cpos, pos, rfl, hg⟩ := Pt hx
  have kp : ∀ b o, h₀.get? b = some o → s.heap.get? b = some o := fun b o e => (C.base b o e).1
  have KC := X.cC.keeps kp
  have KD := X.cD.keeps kp
  obtain ⟨N, nm, q, bs, hdct, sn, sub, ab, col, dd, k0, k1, k2, k3, k5, mN, h1, h2', h3⟩ := KC
  obtain ⟨N', nm', q', bs', hdct', sn', sub', ab', col', dd', k0', k1', k2', k3', k5', mN', h1', h2'', h3'⟩ := KD
  have hqi : ("__init__" : Str) ∈ qn := .head _
  have hbase : ([Value.ref D] ++ bmV).contains (.type "BaseException") = true := by rw [List.singleton_append, List.contains_cons, show bmV.contains (.type "BaseException") = true by decide +kernel, Bool.or_true]
  rw [arm_exec_Raise]
  simp only [evalOpt, Option.map]
  refine wpAny_bind (wpAny_standAt (Dz (C := K) (nm := nm) (q := q) (N := N) (bs := bs) (bm := [.ref D] ++ bmV) (hdct := hdct) (sn := sn) (sub := sub) (ab := ab) (col := col) (dd := dd) (k0 := k0) (k1 := k1) (k2 := k2) (k3 := k3) (k5 := k5) (newId := "ValueError.__new__") hbase hh (wpAny_bind (wpAny_mono (wpAny_Call_ofName (Jn pg C (S := S) (Cn hg) X.gC ?_)) (fun v s₃ h₃ => wpAny_bind (wpAny_standAt (wpAny_pure h₃))) fun _ _ x => x))))
  unfold callWith
  rw [show backTo cpos (starEach [.Constant (.str y) k p'] env) = [(false, eval (.Constant (.str y) k p') env)] from rfl]
  refine wpAny_bind (wpAny_holding (Yc rfl (Calls.spliced_cons (Calls.Constant_str (Calls.spliced_nil ?_)))))
  refine wpAny_bind (wpAny_standAt ?_)
  obtain ⟨hp, gs, dr, tk, os⟩ := s
  refine wpAny_bind (wpAny_keeperOf_exc h1 ?_)
  refine wpAny_bind (wpAny_call_exc_subU (bmB := bmV) F.excBase_ValueError (by decide +kernel) F.excBase_ValueError (.own h1' h2'' (h3' _ hqi) .base) h1 h2' (h3 _ hqi) fun h' e hm => wpAny_bind (wpAny_holding (wpAny_point (wpAny_pure ?_))))
  obtain ⟨t, ht, _, _⟩ := hm.there
  exact ⟨e, t, oh, ws, rfl, hm.keeps _ _ h1, ht, fun q => (by rw [q, hm.new] at ho; cases ho), hm.keeps _ _ ho, hdh, h2, hE e h' _ _ hm⟩
end
end Mine
end
section
set_option maxRecDepth 100000
namespace Mine
open PySem PySem.Calls PyProof.Rows PySem.W
noncomputable def oneHN (l : List ExceptHandler) (f : PySem.Expr → PySem.Stmt → Bool) : Bool := match l with
  | [.ExceptHandler (some t) none [x] _] => f t x
  | _ => false
theorem oneHN_inv {l : List ExceptHandler} {f : PySem.Expr → PySem.Stmt → Bool} (h : oneHN l f = true) : ∃ t x pos, l = [.ExceptHandler (some t) none [x] pos] ∧ f t x = true := by
  cases l with
  | nil => cases h
  | cons y l =>
    cases l with
    | cons _ _ => obtain ⟨t, n, suite, pos⟩ := y; cases t <;> cases n <;> cases suite <;> first | (cases h; done) | (rename_i a b; cases b <;> cases h)
    | nil =>
      obtain ⟨t, n, suite, pos⟩ := y
      cases t with
      | none => cases h
      | some t => cases n with
        | some n => cases h
        | none => cases suite with
          | nil => cases h
          | cons x r => cases r with
            | nil => exact ⟨t, x, pos, rfl, h⟩
            | cons _ _ => cases h
noncomputable def chkTry (need bk2 bad : String) (vi : Nat) (tab : List (Nat × Str)) (names : List (Str × NameKind)) (x : PySem.Stmt) : Bool :=
  decide ((nodeS x).t = .tri) && (isSs ⟨tab, names, [need]⟩ [.expr (.call need [.var vi])] (nodeS x).x && oneHN (nodeS x).hs fun t y => isGlobN ⟨tab, names, [need]⟩ bk2 t && chkRaise bad tab names y)
section
variable {prog : Program} {w : World} {G : String → Option MV} {Γ : String → Option MFun} {h₀ : Heap} {mg mb : Str → Option Value} {K : Addr} {d : Nat} {fz : List Addr} {vars : MVars} {Q : MQ} {X : Value → MH → Prop} {μ : MH} {R : MFlow → MVars → MH → Prop}
theorem mt_try {need bk bad bk2 : String} {others : List String} {D K2 : Addr} {vi : Nat} {u : MV} (pg : PG prog w G Γ h₀ mg mb) (Xc : Xcs h₀ mg mb bk bad others K D) (g2 : mg (Str.ofString bk2) = some (.ref K2)) (c2 : ClsAt h₀ K2 [D]) (hfn : ∃ fn, FnAt h₀ need fn) (hv : vars vi = some u)
    (h : MXC prog w h₀ K2 d need [u] fz (fun _ μ' => R .next vars μ') (fun c μ' => c = .none ∧ ∀ c', X c' μ') μ) : MXT prog w h₀ K d (.opq (chkTry need bk2 bad vi)) fz vars R X μ := fun S x env outer s A E hx hA C i hE => by
  replace hx : chkTry need bk2 bad vi S.tab S.names x = true := hx
  obtain ⟨c1, c2'⟩ := and2 hx
  obtain ⟨c3, c4⟩ := and2 c2'
  obtain ⟨t, y, pos, ehs, c4⟩ := oneHN_inv c4
  obtain ⟨ht, hy⟩ := and2 c4
  have ex : x = .Try (nodeS x).x (nodeS x).hs [] [] (nodeS x).p := A5 c1
  rw [ehs] at ex
  rw [ex]
  have C' : Cur prog w h₀ ⟨S.tab, S.names, [need]⟩ env vars fz μ s := C.withF fun g hg => by
    obtain rfl := List.mem_singleton.mp hg
    exact hfn
  refine wpAny_Try_except ?_
  generalize (nodeS x).x = b at c3
  cases b with
  | nil => exact (Bool.false_ne_true c3).elim
  | cons sx bs =>
    have c3 := Zk c3
    cases bs with
    | cons _ _ => exact (Bool.false_ne_true c3.2).elim
    | nil =>
    have c5 := c3.1
    replace c5 := A4 c5
    obtain ⟨ve, pe, rfl, hn0, hve⟩ := c5
    have me : MXE prog w h₀ K2 d (.call need [.var vi]) fz vars (fun _ μ' => R .next vars μ') (fun c μ' => c = .none ∧ ∀ c', X c' μ') μ := Hi (Ym (Z5 pg ⟨u, hv, Hh h⟩))
    refine wpAny_execs_cons (wpAny_Expr_any (wpAny_mono (me _ ve env outer s A _ hve hA C' i fun v s' hp => ?_) (fun v s₁ h₁ => ?_) fun _ _ e => e) (by unfold interactive; rw [C.fr.kind]; rfl) (Nr hn0 _ _))
    · -- the handler
      obtain ⟨e, μ', c, rfl, ⟨rfl, hX⟩, x₁, r₁, fs₁, g₁, ne₁⟩ := hp
      refine note i.fr i.frame x₁ (.inr (.inl rfl)) fun h₂ x₂ w₂ => ?_
      refine Ht (s := { s' with heap := h₂ }) (o := none) x₂ fun h₃ x₃ w₃ => ?_
      have w23 := w₂.trans w₃
      have r₃ := r₁.way x₁ fs₁ w23
      have fs₃ := fs₁.way w23
      have up : ∀ {h' : Heap}, Way (env :: outer) e s'.heap h' → Upto μ s.heap h' := fun hw b o hm eb hnf => by
        obtain ⟨sl, q⟩ := (g₁.keep b o (.inl hm) eb).2.1 hnf
        obtain ⟨sl', q'⟩ := hw.slot b _ q hnf
        exact ⟨sl', q'⟩
      have C₃ : Cur prog w h₀ S env (fun _ => none) [] (fun _ => none) { s' with heap := h₃ } := C.after x₃.stays (up w23)
      obtain ⟨oe, ws, a0, v1, he, hec, hed, _, _, he2, _⟩ := id x₃.tr
      obtain ⟨tn, tp, rfl, htg⟩ := V8 ht
      refine wpAny_handleBy_cons (codeAny_handlers_test (Jn pg C₃ htg g2 ?_)) (by intro q; cases q)
      refine match_self (c2.keeps x₃.stays) he hec ?_
      refine codeAny_handlers_suite (Ht (s := { s' with heap := h₃ }) (o := none) x₃ fun h₄ x₄ w₄ => ?_)
      have w24 := w23.trans w₄
      have C₄ : Cur prog w h₀ S env (fun _ => none) [] (fun _ => none) { s' with heap := h₄ } := C.after x₄.stays (up w24)
      obtain ⟨oe, ws, a0, v1, he, hec, hed, _, _, he2, _⟩ := id x₄.tr
      have r₄ := r₃.way x₃ fs₃ w₄
      have fs₄ := fs₃.way w₄
      refine wpAny_execs_cons (raise_ctx pg Xc C₄ rfl hy he hed he2 fun e₅ h₅ tk args hm => ?_)
      have k46 : ∀ b o, h₄.get? b = some o → (h₅.update e₅ (Obj.mapFields (·.setIfInBounds 2 (.ref e)))).get? b = some o := fun b o eb => by
        rw [Heap.get?_update_other _ _ fun q => by rw [← q, hm.new] at eb; cases eb]
        exact hm.keeps b o eb
      obtain ⟨t5, he5, _, _⟩ := hm.there
      have hd6 := Obj.data_mapFields (o := { cls := .ref K, data := .fields #[.ref t5, .none, .none, .none, .bool false, .none] }) rfl (·.setIfInBounds 2 (.ref e))
      have he6 := Heap.get?_update_self (Obj.mapFields (·.setIfInBounds 2 (.ref e))) he5 (Obj.isFreed_of_fields hd6)
      have r₆ := r₄.ext k46
      have fs₆ : Frs h₀ (h₅.update e₅ (Obj.mapFields (·.setIfInBounds 2 (.ref e)))) μ' (env :: outer) := fs₄.map (fun b o es ep _ ho _ => ⟨o.slots, k46 b o ho⟩) fs₄.nt
      have x₆ : Exc h₀ (env :: outer) e₅ (.ref K) (.ref e) none (h₅.update e₅ (Obj.mapFields (·.setIfInBounds 2 (.ref e)))) := by
        refine ⟨fun b o eb => k46 b o (x₄.stays b o eb), ?_, fs₆.ff, _, _, .ref t5, .none, he6, Obj.cls_mapFields _ _, hd6, rfl, rfl, rfl, rfl⟩
        cases hq : h₀.get? e₅ with
        | none => rfl
        | some o' => have := x₄.stays e₅ o' hq; rw [hm.new] at this; cases this
      generalize h₅.update e₅ (Obj.mapFields (·.setIfInBounds 2 (.ref e))) = h₆ at k46 r₆ fs₆ x₆ ⊢
      unfold notedBy
      refine note (s := { s' with heap := h₆, toks := tk }) i.fr i.frame x₆ (.inl rfl) fun h₇ x₇ w₇ => ?_
      refine back (s := { s' with heap := h₇, toks := tk }) i.frame x₇ fun h₈ x₈ w₈ => ?_
      have w68 := w₇.trans w₈
      refine hE _ _ ⟨_, .inr (.inr rfl), e₅, μ', .ref e, rfl, hX _, x₈, r₆.way x₆ fs₆ w68, fs₆.way w68, ⟨fun b o f _ _ eb => ?_, g₁.os, g₁.gens⟩, fun b o f _ _ eb hc hm' q => ?_⟩
      · obtain ⟨a1, a2, a3⟩ := g₁.keep b o f eb
        refine ⟨fun hc hm' => ?_, fun hn => ?_, a3⟩
        · have e4 := w24.keep b o (a1 hc hm') hm' (ne₁ b o f eb hc hm') hc
          exact w68.keep b o (k46 b o e4) hm' (fun q => by rw [q, hm.new] at e4; cases e4) hc
        · obtain ⟨sl, a⟩ := a2 hn
          obtain ⟨sl', a'⟩ := w24.slot b _ a hn
          obtain ⟨sl'', a''⟩ := w68.slot b _ (k46 _ _ a') hn
          exact ⟨sl'', a''⟩
      · have e4 := w24.keep b o ((g₁.keep b o f eb).1 hc hm') hm' (ne₁ b o f eb hc hm') hc
        rw [q, hm.new] at e4; cases e4
    · obtain ⟨mv, μ₁, hq₁, rv, r₁, g₁⟩ := h₁
      exact wpAny_execs_nil (wpAny_execs_nil ⟨.next, vars, μ₁, hq₁, rfl, C.grow g₁ r₁, g₁.toS⟩)
end
end Mine
end
section
set_option maxRecDepth 100000
namespace Mine
open PySem PySem.Calls PyProof.Rows PySem.W
noncomputable def UptoE (env : Env) (h h' : Heap) : Prop := ∀ b o, b ≠ env.locals → (∀ x c, (x, c) ∈ env.cells → b ≠ c) → h.get? b = some o → (∀ vs, o.data ≠ .fields vs) → ∃ sl, h'.get? b = some { o with slots := sl }
section
variable {prog : Program} {w : World} {G : String → Option MV} {Γ : String → Option MFun} {h₀ : Heap} {mg mb : Str → Option Value}
theorem suite3 {bk bad : String} {others o1 o2 : List String} {K D : Addr} (pg : PG prog w G Γ h₀ mg mb) (X : Xcs h₀ mg mb bk bad others K D) {S : Sc} {env : Env} {s : Shared} {A : Around} {E : Value → Shared → Prop} {Q : Flow → Shared → Prop} {ei ki : Nat} {e : Addr} {oe : Obj} {ws : Array Value} {y z u : PySem.Stmt}
    (C : Cur prog w h₀ S env (setv (fun _ => none) ei (.ref e)) [] (fun _ => none) s) (hek : ei ≠ ki) (he : s.heap.get? e = some oe) (hc : oe.cls = .ref K) (hd : oe.data = .fields ws) (h1 : ∀ c ∈ o1, c ∈ others) (h2 : ∀ c ∈ o2, c ∈ others) (hl1 : o1.length ≤ 100) (hl2 : o2.length ≤ 100) (hy : chkK1 S ei ki o1 y = true) (hz : chkK2 S ei ki o2 z = true) (hu : chkK3 S ei ki bad "ValueError" u = true) (hA : A.units + 10 < cLine)
    (hq : ∀ s' μ' vars', Cur prog w h₀ S env vars' [] μ' s' → GrowS env [] (fun _ => none) s μ' s' → Q (.ret (.bool true)) s') : wpAny (model prog w) A (execs [y, z, u] env) Q E s := by
  have ap := C.apart_exc he hd
  refine wpAny_execs_cons (k1_exec pg X.cC X.cD C Bl he hc (fun c h => says_oth X (h1 c h)) hy hl1 fun c s₁ hcn C₁ g₁ => ?_)
  obtain ⟨he₁, hm₁⟩ := g₁.keep e oe (.inl rfl) ap.1 ap.2 he
  refine wpAny_execs_cons (k2_exec pg X.cC X.cD C₁ (vars := setv (setv (fun _ => none) ei (.ref e)) ki (.ref c)) ((sv_ne' hek).trans Bl) Bl upd_self' he₁ hc (fun c h => says_oth X (h2 c h)) hz hl2 hl1 fun c' μ₂ s₂ hm₂ C₂ g₂ => ?_)
  obtain ⟨he₂, _⟩ := g₂.keep e oe (.inl hm₁) ap.1 ap.2 he₁
  refine wpAny_execs_cons (k3_exec pg X.cC X.cD C₂ ((sv_ne' hek).trans ((sv_ne' hek).trans Bl)) Bl hm₂ he₂ hc (says_bad X) (says_ve X) hu hA fun s₃ e1 e2 e3 => ?_)
  refine hq s₃ _ _ (C₂.toks e1) ((g₁.trans g₂).trans ⟨fun b o _ _ _ eb => ⟨by rw [e1]; exact eb, rfl⟩, e2, e3⟩)
theorem handler3 {bk bad : String} {others o1 o2 : List String} {K D : Addr} (pg : PG prog w G Γ h₀ mg mb) (X : Xcs h₀ mg mb bk bad others K D) {S : Sc} {env : Env} {vars : MVars} {fz : List Addr} {μ : MH} {s s' : Shared} {A : Around} {E : Value → Shared → Prop} {Q : Flow → Shared → Prop} {ei ki : Nat} {e : Addr} {a0 : Value} {outer : List Env} {t : PySem.Expr} {n : Str} {pos : Pos} {y z u : PySem.Stmt}
    (C : Cur prog w h₀ S env vars fz μ s) (hfr : A.frames = some (env :: outer)) (hf : env.frame = some env.locals) (hfl : Heap.FlyingW h₀ (env :: outer) e (.ref K) a0 s'.heap) (hup : Upto μ s.heap s'.heap) (hek : ei ≠ ki)
    (h1 : ∀ c ∈ o1, c ∈ others) (h2 : ∀ c ∈ o2, c ∈ others) (hl1 : o1.length ≤ 100) (hl2 : o2.length ≤ 100) (ht : isGlobN S bk t = true) (hn : S.isSt ei n = true) (hloc : S.names.lookup n = some .local) (hy : chkK1 S ei ki o1 y = true) (hz : chkK2 S ei ki o2 z = true) (hu : chkK3 S ei ki bad "ValueError" u = true) (hA : A.units + 10 < cLine)
    (hq : ∀ s'', (∀ b o, h₀.get? b = some o → s''.heap.get? b = some o) → UptoE env s'.heap s''.heap → s''.os = s'.os → s''.gens = s'.gens → Q (.ret (.bool true)) s'') :
    wpAny (model prog w) A (noteFrame (.ref e) env) (fun _ s₂ => wpAny (model prog w) A (setFlight (.ref e) none) (fun _ s₃ => wpAny (model prog w) A (handleBy (.ref e) env [.ExceptHandler (some t) (some n) [y, z, u] pos]) Q E s₃) E s₂) E s' := by
  refine wpAny_looks_onW hfr hf hfl fun h₄ hheld hsm₄ => ?_
  refine wpAny_landsW hheld fun h₅ hfl₅ hsm₅ => ?_
  have up₅ : Upto μ s.heap h₅ := fun b o hm e hd => by
    obtain ⟨sl, e1⟩ := hup b o hm e hd
    obtain ⟨sl', e2⟩ := (hsm₄.trans hsm₅) b _ e1 hd
    exact ⟨sl', e2⟩
  have C₅ : Cur prog w h₀ S env (fun _ => none) [] (fun _ => none) { s' with heap := h₅ } := C.after hfl₅.1 up₅
  obtain ⟨oe, ws, hoe, hoec, hoed, _⟩ := hfl₅.first
  obtain ⟨tn, tp, rfl, htg⟩ := V8 ht
  refine wpAny_handleBy_cons (codeAny_handlers_test (Jn pg C₅ htg X.gD ?_)) (by intro q; cases q)
  have kp₅ : ∀ b o, h₀.get? b = some o → h₅.get? b = some o := hfl₅.1
  refine match_own (X.cC.keeps kp₅) (X.cD.keeps kp₅) hoe hoec ?_
  refine codeAny_handlers_suite_as (lands_againW hfl₅ fun h₆ hfl₆ hsm₆ => ?_)
  have up₆ : Upto μ s.heap h₆ := fun b o hm e hd => by
    obtain ⟨sl, e1⟩ := up₅ b o hm e hd
    obtain ⟨sl', e2⟩ := hsm₆ b _ e1 hd
    exact ⟨sl', e2⟩
  have C₆ : Cur prog w h₀ S env (fun _ => none) [] (fun _ => none) { s' with heap := h₆ } := C.after hfl₆.1 up₆
  obtain ⟨oe, ws, hoe, hoec, hoed, _⟩ := hfl₆.first
  have ap := C₆.apart_exc hoe hoed
  refine Zu C₆ hn (mv := .ref e) (by simp [RepV]) fun s₇ C₇ g₇ _ k₇ => ?_
  have he₇ := k₇ hloc e oe ap.1 hoe
  refine suite3 pg X C₇ hek he₇ hoec hoed h1 h2 hl1 hl2 hy hz hu hA fun s₈ μ₈ vars₈ C₈ g₈ => ?_
  obtain ⟨m, hns, _⟩ := C₈.fr.ns
  have hko : env.kindOf n = some .local := by unfold Env.kindOf; rw [C₈.fr.names]; exact hloc
  refine wpAny_nameGoes hko hns (by rw [C₈.fr.kind]; rfl) fun h₉ m₉ hn₉ hsb => ?_
  refine hq _ (fun b o e => ?_) (fun b o nl nc eb hnf => ?_) (g₈.os.trans g₇.os) (g₈.gens.trans g₇.gens)
  · have e₈ := (C₈.base b o e).1
    exact SameBut.keep hsb b o (fun q => by rw [List.mem_singleton.mp q, C₈.newl] at e; cases e) e₈
  · obtain ⟨sl, e6⟩ := ((hsm₄.trans hsm₅).trans hsm₆) b o eb hnf
    have e7 := k₇ hloc b _ nl e6
    have e8 := (g₈.keep b _ (.inl rfl) nl nc e7).1
    exact ⟨sl, SameBut.keep hsb b _ (fun q => nl (List.mem_singleton.mp q)) e8⟩
theorem refuse3 {bk bad need f : String} {others o1 o2 : List String} {K D : Addr} {ei ki : Nat} (pg : PG prog w G Γ h₀ mg mb) (X : Xcs h₀ mg mb bk bad others K D) {d : Nat} {v : MV} {val : Value} {fz : List Addr} {μ : MH} {s : Shared} {A : Around} {fa : Addr} {outer : List Env} {R : Result → Shared → Prop}
    (hΓ : Γ f = some ⟨1, refuseBody need bk bad o1 o2 ei ki⟩) (hfnN : ∃ fn, FnAt h₀ need fn) (hA : OkA (d + 1) A) (B : Base h₀ fz μ s) (r : RepH prog w μ s.heap) (fi : FzIn fz μ) (rv : RepV s.heap v val) (hfn : FnAt h₀ f fa) (hfr : A.frames = some outer) (fs : Frs h₀ s.heap μ outer) (hek : ei ≠ ki)
    (h1 : ∀ c ∈ o1, c ∈ others) (h2 : ∀ c ∈ o2, c ∈ others) (hl1 : o1.length ≤ 100) (hl2 : o2.length ≤ 100)
    (hbad : MXC prog w h₀ K d need [v] fz (fun _ _ => False) (fun _ _ => True) μ)
    (hR : ∀ s', (∀ b o, h₀.get? b = some o → s'.heap.get? b = some o) → Upto μ s.heap s'.heap → s'.os = s.os → s'.gens = s.gens → R (.ok (.ret (.bool true))) s') : codeAny (model prog w) A (.call (.ref fa) ⟨[val], []⟩) R s := by
  refine enter (d := d) pg hΓ rfl hA B r fi (vs := [v]) (by simp only [RepVs]; exact ⟨rv, trivial⟩) hfn fun S env body s₁ hb C hA' en => ?_
  have ap : ∀ b ∈ frs outer, b ≠ env.locals ∧ ∀ x c, (x, c) ∈ env.cells → b ≠ c := fun b hb => by
    obtain ⟨o, es, ep, ho, _⟩ := fs.fd b hb
    exact ⟨fun q => (by rw [q, en.new] at ho; cases ho), fun x c hc q => (by rw [q, en.cells x c hc] at ho; cases ho)⟩
  have i : InF h₀ (A.deeper env) env outer μ s₁.heap := ⟨Around.frames_deeper hfr, en.frame, fs.map (fun b o es ep _ ho _ => ⟨o.slots, en.keep b o ho⟩) fs.nt, ap⟩
  cases body with
  | nil => exact (Bool.false_ne_true hb).elim
  | cons x xs =>
    have hx : chkCatch need bk bad o1 o2 ei ki S.tab S.names x = true := (Zk hb).1
    obtain ⟨c1, c2⟩ := and2 hx
    obtain ⟨c2, c3⟩ := and2 c2
    obtain ⟨tx, n, suite, pos, ehs, c3⟩ := oneH_inv c3
    obtain ⟨d3, c4⟩ := and2 c3
    obtain ⟨d4, c5⟩ := and2 c4
    obtain ⟨d5, c6⟩ := and2 c5
    obtain ⟨y, z, u, rfl, hy, hz, hu⟩ := threeS_inv c6
    have ex : x = .Try (nodeS x).x (nodeS x).hs [] [] (nodeS x).p := A5 c1
    rw [ehs] at ex
    rw [ex]
    have C' : Cur prog w h₀ ⟨S.tab, S.names, [need]⟩ env (args0 [v]) fz μ s₁ := C.withF fun g hg => by
      obtain rfl := List.mem_singleton.mp hg
      exact hfnN
    refine wpAny_execs_cons (wpAny_Try_except ?_)
    generalize (nodeS x).x = b at c2
    cases b with
    | nil => exact (Bool.false_ne_true c2).elim
    | cons sx bs =>
      have c2 := (Zk c2).1
      replace c2 := A4 c2
      obtain ⟨ve, pe, rfl, hn0, hve⟩ := c2
      have me : MXE prog w h₀ K d (.call need [.var 0]) fz (args0 [v]) (fun _ _ => False) (fun _ _ => True) μ := Hi (Ym (Z5 pg ⟨v, rfl, Hh hbad⟩))
      refine wpAny_execs_cons (wpAny_Expr_any (wpAny_mono (me _ ve env outer s₁ (A.deeper env) _ hve hA' C' i fun v' s₂ hp => ?_) (fun v' s₂ h₂ => ?_) fun _ _ e => e) (by unfold interactive; rw [C.fr.kind]; rfl) (Nr hn0 _ _))
      · obtain ⟨e, μ', c, rfl, _, x₁, r₁, fs₁, g₁, ne₁⟩ := hp
        obtain ⟨a0, hfl⟩ := x₁.fly
        have up₁ : Upto μ s₁.heap s₂.heap := fun b o hm eb hnf => (g₁.keep b o (.inl hm) eb).2.1 hnf
        refine handler3 pg X C' i.fr i.frame hfl up₁ hek h1 h2 hl1 hl2 d3 d4 (of_decide_eq_true d5) hy hz hu (by have := hA'.units; lia) fun s₃ k₃ u₃ ho₃ hg₃ => ?_
        refine hR s₃ k₃ (fun b o hm eb hnf => ?_) (ho₃.trans (g₁.os.trans en.os)) (hg₃.trans (g₁.gens.trans en.gens))
        obtain ⟨sl, e2⟩ := up₁ b o hm (en.keep b o eb) hnf
        obtain ⟨sl', e3⟩ := u₃ b _ (fun q => by rw [q, en.new] at eb; cases eb) (fun x c hc q => by rw [q, en.cells x c hc] at eb; cases eb) e2 hnf
        exact ⟨sl', e3⟩
      · obtain ⟨mv, μ₁, hq₁, _⟩ := h₂
        exact hq₁.elim
end
end Mine
end
section
set_option maxRecDepth 100000
namespace Mine
open PySem PySem.Calls PyProof.Rows PySem.W
noncomputable def flatV : MV → Bool
  | .str _ => true
  | .ref _ => true
  | _ => false
section
variable {prog : Program} {w : World} {G : String → Option MV} {Γ : String → Option MFun} {h₀ : Heap} {mg mb : Str → Option Value}
theorem Cur.again {S : Sc} {env : Env} {vars vars' : MVars} {fz : List Addr} {μ : MH} {s s' : Shared} {a : Addr} {vs : List Value} {ns : List Int} (C : Cur prog w h₀ S env vars fz μ s) (k : ∀ b o, h₀.get? b = some o → s'.heap.get? b = some o) (u : Upto μ s.heap s'.heap) (hp : h₀.PlainList a vs.toArray) (hi : IntsAre vs ns) (hl : a ≠ env.locals) (hc : ∀ x c, (x, c) ∈ env.cells → c ≠ a) (hv : ∀ i mv, vars' i = some mv → vars i = some mv ∧ flatV mv = true) : Cur prog w h₀ S env vars' [a] (upd (fun _ => none) a (.list (ns.map .int))) s' where
  base := fun b o e => ⟨k b o e, by
    by_cases q : b = a
    · exact .inr (q ▸ .head _)
    · exact .inl (by simp [upd, q])⟩
  heap := fun b o e => by
    unfold upd at e
    split at e
    · rename_i q; cases e; subst q
      obtain ⟨n, ho⟩ := hp
      exact ⟨vs, ⟨n, k _ _ ho⟩, U3 hi⟩
    · cases e
  fzin := fun b hb => by rw [List.mem_singleton.mp hb]; simp [upd]
  fr := {
    names := C.fr.names, inj := C.fr.inj, nk := C.fr.nk, nv := C.fr.nv, kind := C.fr.kind, glob := C.fr.glob, bui := C.fr.bui, cells := C.fr.cells, apart := C.fr.apart, fixl := by simp [upd, Ne.symm hl]
    ns := by
      obtain ⟨m, ⟨o, es, ep, ho, hd, hr⟩, hm⟩ := C.fr.ns
      obtain ⟨sl, hs⟩ := u _ _ C.fr.fixl ho fun vs q => by rw [hd] at q; cases q
      refine ⟨m, ⟨_, es, ep, hs, hd, hr⟩, fun i x mv h1 h2 h3 => ?_⟩
      obtain ⟨hv1, hf⟩ := hv i mv h3
      obtain ⟨v, rv, va⟩ := hm i x mv h1 h2 hv1
      refine ⟨v, ?_, ?_⟩
      · cases mv <;> first | (cases hf; done) | exact rv
      · unfold VarAt at va ⊢
        split at va
        · exact va
        · obtain ⟨c, e, oc, ho', hd'⟩ := va
          obtain ⟨sl', hs'⟩ := u c oc (C.fr.fixc _ _ (mem_of_lookup e)).1 ho' fun vs q => by rw [hd'] at q; cases q
          exact ⟨c, e, _, hs', hd'⟩
        · obtain ⟨c, e, oc, ho', hd'⟩ := va
          obtain ⟨sl', hs'⟩ := u c oc (C.fr.fixc _ _ (mem_of_lookup e)).1 ho' fun vs q => by rw [hd'] at q; cases q
          exact ⟨c, e, _, hs', hd'⟩
        · exact va.elim
    fixc := fun x c hm => by
      obtain ⟨h1, h2, v, o, ho, hd⟩ := C.fr.fixc x c hm
      obtain ⟨sl, hs⟩ := u _ _ h1 ho fun vs q => by rw [hd] at q; cases q
      exact ⟨by simp [upd, hc x c hm], h2, v, _, hs, hd⟩ }
  newl := C.newl
  newc := C.newc
  known := C.known
theorem refcall {bk bad need rf : String} {others o1 o2 : List String} {K D : Addr} {ei ki : Nat} (pg : PG prog w G Γ h₀ mg mb) (X : Xcs h₀ mg mb bk bad others K D) {d : Nat} {fz : List Addr} {μ : MH} {s : Shared} {A : Around} {E : Value → Shared → Prop} {Q : Value → Shared → Prop} {S : Sc} {env : Env} {vars : MVars} {x : PySem.Expr} {e : ME}
    (hΓ : Γ rf = some ⟨1, refuseBody need bk bad o1 o2 ei ki⟩) (hfnN : ∃ fn, FnAt h₀ need fn) (hek : ei ≠ ki) (h1 : ∀ c ∈ o1, c ∈ others) (h2 : ∀ c ∈ o2, c ∈ others) (hl1 : o1.length ≤ 100) (hl2 : o2.length ≤ 100)
    (hA : OkA (d + 1) A) (C : Cur prog w h₀ S env vars fz μ s) (i : InF h₀ A env [] μ s.heap) (hx : isE S (.call rf [e]) x = true)
    (h : ev G (calls G Γ (d + 1)) X0 e fz vars (fun v μ' => MXC prog w h₀ K d need [v] fz (fun _ _ => False) (fun _ _ => True) μ') μ)
    (hQ : ∀ s', (∀ b o, h₀.get? b = some o → s'.heap.get? b = some o) → Upto μ s.heap s'.heap → s'.os = s.os → s'.gens = s.gens → Q (.bool true) s') : wpAny (model prog w) A (eval x env) Q E s := by
  replace hx := Co hx
  obtain ⟨g, np, as, p, rfl, hg, hx⟩ := hx
  simp only [Bool.and_eq_true, decide_eq_true_eq, List.contains_iff_mem] at hx
  obtain ⟨⟨hf, ha⟩, hn⟩ := hx
  obtain ⟨fa, m, hm, hmf, o, fd, ho, hfd⟩ := C.known rf hf
  obtain ⟨rfl, hk, hd⟩ := Jo hg
  refine wpAny_Call_ofName (Name_function_global C.fr.kind (by unfold Env.kindOf; rw [C.fr.names]; exact hk) (loadGlobal_global (mg := m) ?_ hmf ?_) hd)
  · rw [C.fr.glob]
    exact hm.keeps fun b o e => (C.base b o e).1
  rw [Z1 p ha]
  show wpAny _ A (callWith p (.ref fa) [] _ []) _ _ s
  refine callWith_function (o := o) (fd := fd) (Yc (Yb as) (wpAny_mono (Zi (l := [e]) (Q := fun vs μ' => a1 vs fun v => MXC prog w h₀ K d need [v] fz (fun _ _ => False) (fun _ _ => True) μ') (Ya pg (Jr pg (d + 1)) [e]) ha hA C h) (fun vs s₁ h₁ => ?_) fun _ _ e => e))
  obtain ⟨ms, μ₁, hq₁, rv, r₁, g₁⟩ := h₁
  replace hq₁ := Ko hq₁; obtain ⟨v, rfl, hq₁⟩ := hq₁
  have C₁ := C.grow g₁ r₁
  replace rv := rv.one; obtain ⟨val, rfl, rv⟩ := rv
  refine ⟨⟨(C₁.base _ _ ho).1, hfd⟩, ?_⟩
  refine wpAny_call (refuse3 (d := d) pg X hΓ hfnN hA C₁.base r₁ C₁.fzin rv ⟨m, hm, hmf, o, fd, ho, hfd⟩ i.fr ((i.grow g₁).all C₁) hek h1 h2 hl1 hl2 hq₁ fun s' k' u' ho' hg' => ?_)
  refine hQ s' k' (fun b o hm eb hnf => ?_) (ho'.trans g₁.os) (hg'.trans g₁.gens)
  obtain ⟨e1, q1⟩ := g₁.keep b o (.inl hm) eb
  exact u' b o (q1.trans hm) e1 hnf
theorem both_native {bk bad need rf : String} {others o1 o2 : List String} {K D : Addr} {ei ki ti si : Nat} (pg : PG prog w G Γ h₀ mg mb) (X : Xcs h₀ mg mb bk bad others K D) {d : Nat} {μ : MH} {s : Shared} {A : Around} {E : Value → Shared → Prop} {Q : Flow → Shared → Prop} {S : Sc} {env : Env} {vars : MVars} {x : PySem.Stmt} {e : ME} {a : Addr} {vs : List Value} {ns : List Int} {tx : Str}
    (hΓ : Γ rf = some ⟨1, refuseBody need bk bad o1 o2 ei ki⟩) (hfnN : ∃ fn, FnAt h₀ need fn) (hek : ei ≠ ki) (h1 : ∀ c ∈ o1, c ∈ others) (h2 : ∀ c ∈ o2, c ∈ others) (hl1 : o1.length ≤ 100) (hl2 : o2.length ≤ 100) (hts : ti ≠ si)
    (hA : OkA (d + 1) A) (C : Cur prog w h₀ S env vars [a] μ s) (i : InF h₀ A env [] μ s.heap) (hx : isS S (.ret (.and [.call rf [.var ti], .call rf [e]])) x = true) (hp : h₀.PlainList a vs.toArray) (hi : IntsAre vs ns) (vt : vars ti = some (.str tx)) (va : vars si = some (.ref a))
    (hb1 : MXC prog w h₀ K d need [.str tx] [a] (fun _ _ => False) (fun _ _ => True) μ)
    (hb2 : ev G (calls G Γ (d + 1)) X0 e [a] (setv (setv (fun _ => none) si (.ref a)) ti (.str tx)) (fun v μ' => MXC prog w h₀ K d need [v] [a] (fun _ _ => False) (fun _ _ => True) μ') (upd (fun _ => none) a (.list (ns.map .int))))
    (hQ : ∀ s', (∀ b o, h₀.get? b = some o → s'.heap.get? b = some o) → s'.os = s.os → s'.gens = s.gens → Q (.ret (.bool true)) s') : wpAny (model prog w) A (exec x env) Q E s := by
  replace hx := Cp hx; obtain ⟨v, p, rfl, hx⟩ := hx
  refine wpAny_Return_some ?_
  replace hx := Hq hx; obtain ⟨xs, bp, rfl, hx⟩ := hx
  cases xs with
  | nil => exact (Bool.false_ne_true hx).elim
  | cons x1 xs =>
    replace hx := Y9 hx
    cases xs with
    | nil => exact (Bool.false_ne_true hx.2).elim
    | cons x2 xs =>
      have hx2 := Y9 hx.2
      cases xs with
      | cons _ _ => exact (Bool.false_ne_true hx2.2).elim
      | nil =>
        obtain ⟨n, hpo⟩ := id hp
        have ane : a ≠ env.locals := fun q => by have := C.newl; rw [← q, hpo] at this; cases this
        have anc : ∀ x c, (x, c) ∈ env.cells → c ≠ a := fun x c hc q => by have := C.newc x c hc; rw [q, hpo] at this; cases this
        show wpAny _ A (eval x1 env >>= _) _ _ s
        refine wpAny_bind (refcall pg X hΓ hfnN hek h1 h2 hl1 hl2 hA C i hx.1 ⟨_, vt, hb1⟩ fun s₁ k₁ u₁ ho₁ hg₁ => ?_)
        refine wpAny_bind (wpAny_standAt (wpAny_bind (wpAny_holding (wpAny_truthy_bool ?_))))
        have C₁ : Cur prog w h₀ S env (setv (setv (fun _ => none) si (.ref a)) ti (.str tx)) [a] (upd (fun _ => none) a (.list (ns.map .int))) s₁ := C.again k₁ u₁ hp hi ane anc fun j mv hj => by
          unfold setv at hj
          split at hj
          · rename_i q; cases hj; rw [q]; exact ⟨vt, rfl⟩
          · split at hj
            · rename_i q; cases hj; rw [q]; exact ⟨va, rfl⟩
            · cases hj
        show wpAny _ A (boolOp bp .And (evalEach [x2] env)) _ _ s₁
        show wpAny _ A (eval x2 env) _ _ s₁
        refine refcall pg X hΓ hfnN hek h1 h2 hl1 hl2 hA C₁ ⟨i.fr, i.frame, ⟨trivial, nofun, nofun⟩, nofun⟩ hx2.1 hb2 fun s₂ k₂ u₂ ho₂ hg₂ => ?_
        exact hQ s₂ k₂ (ho₂.trans ho₁) (hg₂.trans hg₁)
theorem law3_native {bk bad need rf f : String} {others o1 o2 : List String} {K D : Addr} {ei ki ti si : Nat} (pg : PG prog w G Γ h₀ mg mb) (X : Xcs h₀ mg mb bk bad others K D) {d : Nat} {pre post : List MS} {c e2 : ME} {s : Shared} {a fa : Addr} {vs : List Value} {ns : List Int} {E : Value → Shared → Prop}
    (hs : s.heap = h₀) (hfa : mg (Str.ofString f) = some (.ref fa)) (hΓ : Γ f = some ⟨1, pre ++ (.ite c [.ret (.and [.call rf [.var ti], .call rf [e2]])] [] :: post)⟩) (hΓr : Γ rf = some ⟨1, refuseBody need bk bad o1 o2 ei ki⟩) (hfnN : ∃ fn, FnAt h₀ need fn) (hek : ei ≠ ki)
    (h1 : ∀ c ∈ o1, c ∈ others) (h2 : ∀ c ∈ o2, c ∈ others) (hl1 : o1.length ≤ 100) (hl2 : o2.length ≤ 100) (hts : ti ≠ si) (hA : OkA (d + 2) callerA) (hp : s.heap.PlainList a vs.toArray) (hi : IntsAre vs ns)
    (hrun : runT G (calls G Γ (d + 1)) [a] (fun vars μ => ev G (calls G Γ (d + 1)) X0 c [a] vars (fun v μ' => ∃ b, truthy μ' v = some b ∧ if b then (∃ tx, vars ti = some (.str tx) ∧ vars si = some (.ref a) ∧ MXC prog w h₀ K d need [.str tx] [a] (fun _ _ => False) (fun _ _ => True) μ' ∧
      ev G (calls G Γ (d + 1)) X0 e2 [a] (setv (setv (fun _ => none) si (.ref a)) ti (.str tx)) (fun v μ' => MXC prog w h₀ K d need [v] [a] (fun _ _ => False) (fun _ _ => True) μ') (upd (fun _ => none) a (.list (ns.map .int)))) else MXS prog w h₀ K (d + 1) post [a] vars (fun fl _ _ => fl = .ret (.bool true)) (fun _ _ => False) μ') μ) pre (args0 [.ref a]) (upd (fun _ => none) a (.list (ns.map .int)))) :
    wpAny (model prog w) callerA (call (.ref fa) [.ref a]) (fun v s' => v = .bool true ∧ (∀ b o, s.heap.get? b = some o → s'.heap.get? b = some o) ∧ s'.os = s.os ∧ s'.gens = s.gens) E s := by
  subst hs
  have hrep : RepVs s.heap (ns.map .int) vs := U3 hi
  have hfn : FnAt s.heap f fa := by
    obtain ⟨fa', m, hm, hmf, r⟩ := pg.fnAt hΓ
    have : m = mg := hm.eq_nsMap.trans pg.g.eq_nsMap.symm
    subst this
    rw [hfa] at hmf; cases hmf
    exact ⟨m, hm, hfa, r⟩
  refine wpAny_call (enter (d := d + 1) pg hΓ rfl hA (fz := [a]) (μ := upd (fun _ => none) a (.list (ns.map .int))) (vs := [.ref a]) (fun b o e => ⟨e, ?_⟩) ?_ ?_ (by simp [RepVs, RepV]) hfn fun S env body s₁ hb C hA' en => ?_)
  · unfold upd
    split
    · rename_i q; subst q; exact .inr (by simp)
    · exact .inl rfl
  · intro b o e
    unfold upd at e
    split at e
    · rename_i q; subst q; cases e; exact ⟨vs, hp, hrep⟩
    · cases e
  · intro b hb
    obtain rfl := List.mem_singleton.mp hb
    simp [upd]
  refine An pg (Jr pg (d + 1)) hA' pre body _ _ s₁ hb C hrun fun xs' vars' μ' s' hxs C' ho' hg' hfin => ?_
  cases xs' with
  | nil => exact (Bool.false_ne_true hxs).elim
  | cons x xs =>
    replace hxs := Zk hxs
    obtain ⟨tt, y, z, p, rfl, h⟩ := Cq hxs.1
    simp only [Bool.and_eq_true] at h
    refine wpAny_execs_cons (wpAny_If (wpAny_mono ((Yd pg (Jr pg (d + 1)) c).2 S _ env _ [a] μ' s' (fun b μ' => if b then (∃ tx, vars' ti = some (.str tx) ∧ vars' si = some (.ref a) ∧ MXC prog w s.heap K d need [.str tx] [a] (fun _ _ => False) (fun _ _ => True) μ' ∧
      ev G (calls G Γ (d + 1)) X0 e2 [a] (setv (setv (fun _ => none) si (.ref a)) ti (.str tx)) (fun v μ' => MXC prog w s.heap K d need [v] [a] (fun _ _ => False) (fun _ _ => True) μ') (upd (fun _ => none) a (.list (ns.map .int)))) else MXS prog w s.heap K (d + 1) post [a] vars' (fun fl _ _ => fl = .ret (.bool true)) (fun _ _ => False) μ') _ _ h.1.1 hA' C' hfin) (fun b s₂ h₂ => ?_) fun _ _ e => e))
    obtain ⟨μ₂, hq₂, r₂, g₂⟩ := h₂
    have C₂ := C'.grow g₂ r₂
    have ho₂ : s₂.os = s.os := g₂.os.trans (ho'.trans en.os)
    have hg₂ : s₂.gens = s.gens := g₂.gens.trans (hg'.trans en.gens)
    cases b with
    | true =>
      obtain ⟨tx, vt, va, hb1, hb2⟩ := hq₂
      have hy := h.1.2
      cases y with
      | nil => exact (Bool.false_ne_true hy).elim
      | cons x' ys =>
        refine wpAny_execs_cons (both_native pg X hΓr hfnN hek h1 h2 hl1 hl2 hts hA' C₂ ⟨Around.frames_deeper (outer := []) rfl, en.frame, ⟨trivial, nofun, nofun⟩, nofun⟩ (Zk hy).1 hp hi vt va hb1 hb2 fun s₃ k₃ ho₃ hg₃ => ⟨rfl, k₃, ho₃.trans ho₂, hg₃.trans hg₂⟩)
    | false =>
      have hz := h.2
      cases z with
      | cons _ _ => exact (Bool.false_ne_true hz).elim
      | nil =>
        refine wpAny_execs_nil ?_
        refine wpAny_mono (hq₂ S xs env [] s₂ _ _ hxs.2 hA' C₂ ⟨Around.frames_deeper (outer := []) rfl, en.frame, ⟨trivial, nofun, nofun⟩, nofun⟩ fun v s₃ hz => ?_) (fun f s₃ h₃ => ?_) fun _ _ e => e
        · obtain ⟨fl, _, e, μ', c, _, hq, _⟩ := hz
          exact hq.elim
        obtain ⟨fl, vars₃, μ₃, rfl, hf, C₃, g₃⟩ := h₃
        obtain ⟨v, rfl, rv⟩ := hf
        obtain rfl : v = .bool true := by simpa [RepV] using rv
        exact ⟨rfl, fun b o e => (C₃.base b o e).1, g₃.os.trans ho₂, g₃.gens.trans hg₂⟩
end
end Mine
end
section
namespace Mine
open PySem
noncomputable def Ng : MFun := ⟨1, refuseBody "read" "BookError" "BadText" ["BadEntry", "NoEntry", "Closed", "TooMany"] ["Gone", "BadBook"] 1 2⟩
end Mine
end
section
namespace Mine
open PySem
noncomputable def Id : MS := .ret (.and [(.isinst (.var 0) .int), (.not (.isinst (.var 0) .bool))])
noncomputable def D6 : MFun := ⟨1, [Id]⟩
noncomputable def Fg : MS := .ret (.cbool false)
noncomputable def f_is_name_1 : MS := .ite (.or [(.not (.isinst (.var 0) .str)), (.not (.cmp (.cint 1) [.le, .le] [(.bi .len [(.var 0)]), (.glob "MOST_SIGNS")]))]) [Fg] []
noncomputable def B9 : MS := .ret (.cbool false)
noncomputable def Nq : MS := .ite (.cmp (.var 1) [.notin] [(.glob "LETTERS")]) [B9] []
noncomputable def f_is_name_2 : MS := .for (.one 1) .plain [(.var 0)] [Nq]
noncomputable def f_is_name_3 : MS := .ret (.cbool true)
noncomputable def Gg : MFun := ⟨1, [f_is_name_1, f_is_name_2, f_is_name_3]⟩
noncomputable def f_is_day_1 : MS := .ret (.and [(.call "is_whole" [(.var 0)]), (.cmp (.cint 0) [.le, .le] [(.var 0), (.glob "MOST_DAY")])])
noncomputable def f_is_day : MFun := ⟨1, [f_is_day_1]⟩
noncomputable def Ic : MS := .ret (.and [(.call "is_whole" [(.var 0)]), (.cmp (.bin .sub (.cint 0) (.glob "MOST_WORTH")) [.le, .le] [(.var 0), (.glob "MOST_WORTH")])])
noncomputable def D5 : MFun := ⟨1, [Ic]⟩
noncomputable def De : MS := .ret (.cbool false)
noncomputable def Uk : MS := .ite (.or [(.not (.isinst (.var 0) .tuple)), (.cmp (.bi .len [(.var 0)]) [.lt] [(.cint 2)]), (.not (.isinst (.idx (.var 0) (.cint 0)) .str))]) [De] []
noncomputable def Dd : MS := .ret (.and [(.cmp (.bi .len [(.var 0)]) [.eq] [(.cint 2)]), (.call "is_whole" [(.idx (.var 0) (.cint 1))]), (.cmp (.idx (.var 0) (.cint 1)) [.ge] [(.cint 1)])])
noncomputable def Uj : MS := .ite (.cmp (.idx (.var 0) (.cint 0)) [.eq] [(.cstr "undo")]) [Dd] []
noncomputable def Db : MS := .ret (.cbool false)
noncomputable def Ui : MS := .ite (.or [(.cmp (.idx (.var 0) (.cint 0)) [.notin] [(.tuple [(.cstr "tell"), (.cstr "clear"), (.cstr "like")])]), (.cmp (.bi .len [(.var 0)]) [.lt] [(.cint 4)])]) [Db] []
noncomputable def Da : MS := .ret (.cbool false)
noncomputable def Uh : MS := .ite (.or [(.not (.call "is_name" [(.idx (.var 0) (.cint 1))])), (.not (.call "is_day" [(.idx (.var 0) (.cint 2))])), (.not (.call "is_day" [(.idx (.var 0) (.cint 3))])), (.cmp (.idx (.var 0) (.cint 2)) [.gt] [(.idx (.var 0) (.cint 3))])]) [Da] []
noncomputable def D9 : MS := .ret (.cmp (.bi .len [(.var 0)]) [.eq] [(.cint 4)])
noncomputable def Po : MS := .ite (.cmp (.idx (.var 0) (.cint 0)) [.eq] [(.cstr "clear")]) [D9] []
noncomputable def D8 : MS := .ret (.cbool false)
noncomputable def Pn : MS := .ite (.cmp (.bi .len [(.var 0)]) [.ne] [(.cint 5)]) [D8] []
noncomputable def D7 : MS := .ret (.call "is_worth" [(.idx (.var 0) (.cint 4))])
noncomputable def Pm : MS := .ite (.cmp (.idx (.var 0) (.cint 0)) [.eq] [(.cstr "tell")]) [D7] []
noncomputable def Pl : MS := .ret (.call "is_name" [(.idx (.var 0) (.cint 4))])
noncomputable def Df : MFun := ⟨1, [Uk, Uj, Ui, Uh, Po, Pn, Pm, Pl]⟩
noncomputable def B6 : MS := .opq (chkRaise "BadBook")
noncomputable def Fd : MS := .ite (.or [(.not (.isinst (.var 0) .dict)), (.cmp (.bi .len [(.var 0)]) [.gt] [(.glob "MOST")])]) [B6] []
noncomputable def P7 : MS := .opq (chkRaise "BadBook")
noncomputable def Uq : MS := .ite (.or [(.not (.call "is_whole" [(.var 1)])), (.cmp (.var 1) [.lt] [(.cint 1)]), (.not (.call "is_entry" [(.idx (.var 0) (.var 1))]))]) [P7] []
noncomputable def P6 : MS := .opq (chkRaise "BadBook")
noncomputable def Up : MS := .ite (.and [(.cmp (.idx (.idx (.var 0) (.var 1)) (.cint 0)) [.eq] [(.cstr "undo")]), (.cmp (.idx (.idx (.var 0) (.var 1)) (.cint 1)) [.ge] [(.var 1)])]) [P6] []
noncomputable def Fc : MS := .for (.one 1) .plain [(.var 0)] [Uq, Up]
noncomputable def Fb : MS := .ret (.bi .dict [(.var 0)])
noncomputable def Ax : MFun := ⟨1, [Fd, Fc, Fb]⟩
noncomputable def f_shown_1 : MS := .ret (.meth .join (.cstr " ") [(.comp (.bi .str [(.var 1)]) (.one 1) .plain [(.var 0)] [])])
noncomputable def f_shown : MFun := ⟨1, [f_shown_1]⟩
noncomputable def f_written_1 : MS := .ret (.meth .join (.cstr "\n") [(.comp (.bin .add (.bin .add (.bi .str [(.var 1)]) (.cstr ": ")) (.call "shown" [(.idx (.var 0) (.var 1))])) (.one 1) .plain [(.bi .sorted [(.meth .keys (.var 0) [])])] [])])
noncomputable def Ge : MFun := ⟨1, [f_written_1]⟩
noncomputable def Fa : MS := .assign 1 (.var 0)
noncomputable def B5 : MS := .assign 1 (.slice (.var 0) (.cint 1) .cnone .cnone)
noncomputable def F9 : MS := .ite (.cmp (.slice (.var 0) .cnone (.cint 1) .cnone) [.eq] [(.cstr "-")]) [B5] []
noncomputable def B4 : MS := .opq (chkRaise "BadText")
noncomputable def Nf : MS := .ite (.cmp (.var 1) [.eq] [(.cstr "")]) [B4] []
noncomputable def P5 : MS := .opq (chkRaise "BadText")
noncomputable def Uo : MS := .ite (.cmp (.var 2) [.notin] [(.glob "FIGURES")]) [P5] []
noncomputable def Nc : MS := .for (.one 2) .plain [(.var 1)] [Uo]
noncomputable def Nb : MS := .ret (.bi .int [(.var 0)])
noncomputable def Aw : MFun := ⟨1, [Fa, F9, Nf, Nc, Nb]⟩
noncomputable def Dj : MS := .ret (.tuple [(.cstr "undo"), (.call "number_in" [(.idx (.var 0) (.cint 1))])])
noncomputable def Ik : MS := .ite (.and [(.cmp (.idx (.var 0) (.cint 0)) [.eq] [(.cstr "undo")]), (.cmp (.bi .len [(.var 0)]) [.eq] [(.cint 2)])]) [Dj] []
noncomputable def Di : MS := .ret (.tuple [(.cstr "clear"), (.idx (.var 0) (.cint 1)), (.call "number_in" [(.idx (.var 0) (.cint 2))]), (.call "number_in" [(.idx (.var 0) (.cint 3))])])
noncomputable def Ij : MS := .ite (.and [(.cmp (.idx (.var 0) (.cint 0)) [.eq] [(.cstr "clear")]), (.cmp (.bi .len [(.var 0)]) [.eq] [(.cint 4)])]) [Di] []
noncomputable def Dh : MS := .ret (.tuple [(.cstr "like"), (.idx (.var 0) (.cint 1)), (.call "number_in" [(.idx (.var 0) (.cint 2))]), (.call "number_in" [(.idx (.var 0) (.cint 3))]), (.idx (.var 0) (.cint 4))])
noncomputable def Ii : MS := .ite (.and [(.cmp (.idx (.var 0) (.cint 0)) [.eq] [(.cstr "like")]), (.cmp (.bi .len [(.var 0)]) [.eq] [(.cint 5)])]) [Dh] []
noncomputable def Dg : MS := .ret (.tuple [(.cstr "tell"), (.idx (.var 0) (.cint 1)), (.call "number_in" [(.idx (.var 0) (.cint 2))]), (.call "number_in" [(.idx (.var 0) (.cint 3))]), (.call "number_in" [(.idx (.var 0) (.cint 4))])])
noncomputable def Ih : MS := .ite (.and [(.cmp (.idx (.var 0) (.cint 0)) [.eq] [(.cstr "tell")]), (.cmp (.bi .len [(.var 0)]) [.eq] [(.cint 5)])]) [Dg] []
noncomputable def Ig : MS := .opq (chkRaise "BadText")
noncomputable def Dk : MFun := ⟨1, [Ik, Ij, Ii, Ih, Ig]⟩
noncomputable def f_read_1_1 : MS := .opq (chkRaise "BadText")
noncomputable def f_read_1 : MS := .ite (.not (.isinst (.var 0) .str)) [f_read_1_1] []
noncomputable def f_read_2 : MS := .assign 1 (.dict0 false)
noncomputable def f_read_3_1 : MS := .ret (.var 1)
noncomputable def f_read_3 : MS := .ite (.cmp (.var 0) [.eq] [(.cstr "")]) [f_read_3_1] []
noncomputable def Cx : MS := .assign 3 (.meth .split (.var 2) [(.cstr " ")])
noncomputable def Hx : MS := .opq (chkRaise "BadText")
noncomputable def O5 : MS := .ite (.or [(.cmp (.bi .len [(.var 3)]) [.lt] [(.cint 2)]), (.cmp (.slice (.idx (.var 3) (.cint 0)) (.neg (.cint 1)) .cnone .cnone) [.ne] [(.cstr ":")])]) [Hx] []
noncomputable def O4 : MS := .setidx (.var 1) (.call "number_in" [(.slice (.idx (.var 3) (.cint 0)) .cnone (.neg (.cint 1)) .cnone)]) (.call "entry_in" [(.slice (.var 3) (.cint 1) .cnone .cnone)])
noncomputable def f_read_4 : MS := .for (.one 2) .plain [(.meth .split (.var 0) [(.cstr "\n")])] [Cx, O5, O4]
noncomputable def f_read_5 : MS := .opq (chkTry "need_book" "BadBook" "BadText" 1)
noncomputable def f_read_6_1 : MS := .opq (chkRaise "BadText")
noncomputable def f_read_6 : MS := .ite (.cmp (.call "written" [(.var 1)]) [.ne] [(.var 0)]) [f_read_6_1] []
noncomputable def f_read_7 : MS := .ret (.var 1)
noncomputable def f_read : MFun := ⟨1, [f_read_1, f_read_2, f_read_3, f_read_4, f_read_5, f_read_6, f_read_7]⟩
noncomputable def I0 : MS := .assign 1 (.list [])
noncomputable def Va : MS := .expr (.meth .append (.var 1) [(.bin .add (.bin .add (.bi .str [(.var 2)]) (.cstr ": ")) (.meth .join (.cstr " ") [(.comp (.bi .str [(.var 3)]) (.one 3) .plain [(.idx (.var 0) (.var 2))] [])]))])
noncomputable def Hz : MS := .for (.one 2) .plain [(.bi .sorted [(.var 0)])] [Va]
noncomputable def Hy : MS := .ret (.meth .join (.cstr "\n") [(.var 1)])
noncomputable def Cz : MFun := ⟨1, [I0, Hz, Hy]⟩
noncomputable def I6 : MS := .assign 3 (.bin .add (.bin .add (.cstr " !\"#$&'()*+,-./") (.cstr "0123456789")) (.cstr ":;<=>?@ABCDEFGHIJKLMNOPQRSTUVWXYZ[\\]^_`"))
noncomputable def I5 : MS := .assign 3 (.bin .add (.var 3) (.cstr "abcdefghijklmnopqrstuvwxyz{|}~\n\t"))
noncomputable def Pg : MS := .assign 4 (.bin .mod (.var 2) (.bin .add (.bi .len [(.var 0)]) (.cint 1)))
noncomputable def Pf : MS := .assign 5 (.meth .split (.var 0) [(.cstr "\n")])
noncomputable def Pe : MS := .assign 6 (.bin .mod (.var 2) (.bi .len [(.var 5)]))
noncomputable def Pd : MS := .assign 7 (.meth .split (.var 0) [(.cstr " ")])
noncomputable def Pc : MS := .assign 8 (.bin .mod (.var 2) (.bi .len [(.var 7)]))
noncomputable def Pb : MS := .assign 9 (.bin .mod (.var 1) (.cint 12))
noncomputable def Vl : MS := .assign 10 (.idx (.var 3) (.bin .mod (.bin .fdiv (.var 1) (.cint 50)) (.bi .len [(.var 3)])))
noncomputable def Vk : MS := .ret (.bin .add (.bin .add (.slice (.var 0) .cnone (.var 4) .cnone) (.idx (.list [(.var 10), (.var 10), (.cstr "0"), (.cstr "-"), (.cstr "")]) (.bin .mod (.bin .fdiv (.var 1) (.cint 10)) (.cint 5)))) (.slice (.var 0) (.bin .add (.var 4) (.bin .fdiv (.var 9) (.cint 2))) .cnone .cnone))
noncomputable def Pa : MS := .ite (.cmp (.var 9) [.lt] [(.cint 3)]) [Vl, Vk] []
noncomputable def Uw : MS := .assign 11 (.bin .mod (.bin .add (.var 6) (.cint 1)) (.bi .len [(.var 5)]))
noncomputable def Uv : MS := .assign 12 (.list [(.bin .add (.bin .add (.slice (.var 5) .cnone (.var 6) .cnone) (.slice (.var 5) (.var 6) (.bin .add (.var 6) (.cint 1)) .cnone)) (.slice (.var 5) (.var 6) .cnone .cnone)), (.bin .add (.slice (.var 5) .cnone (.var 6) .cnone) (.slice (.var 5) (.bin .add (.var 6) (.cint 1)) .cnone .cnone))])
noncomputable def Uu : MS := .expr (.meth .append (.var 12) [(.bin .add (.bin .add (.slice (.var 5) .cnone (.var 6) .cnone) (.list [(.cstr "")])) (.slice (.var 5) (.var 6) .cnone .cnone))])
noncomputable def Pj : MS := .setidx (.var 12) (.bin .sub (.var 9) (.cint 3)) (.bi .list [(.var 5)])
noncomputable def Pi : MS := .setidx (.idx (.var 12) (.bin .sub (.var 9) (.cint 3))) (.var 6) (.idx (.var 5) (.var 11))
noncomputable def Ph : MS := .setidx (.idx (.var 12) (.bin .sub (.var 9) (.cint 3))) (.var 11) (.idx (.var 5) (.var 6))
noncomputable def Ut : MS := .ite (.cmp (.bin .mod (.bin .fdiv (.var 1) (.cint 10)) (.cint 4)) [.eq] [(.cint 1)]) [Pj, Pi, Ph] []
noncomputable def Jj : MS := .ret (.meth .join (.cstr "\n") [(.idx (.var 12) (.bin .sub (.var 9) (.cint 3)))])
noncomputable def Np : MS := .ite (.cmp (.var 9) [.lt] [(.cint 6)]) [Uw, Uv, Uu, Ut, Jj] []
noncomputable def Us : MS := .assign 13 (.idx (.list [(.bin .add (.idx (.var 5) (.var 6)) (.cstr " ")), (.bin .add (.cstr " ") (.idx (.var 5) (.var 6))), (.bin .add (.idx (.var 5) (.var 6)) (.cstr "\t")), (.bin .add (.idx (.var 5) (.var 6)) (.cstr " 1"))]) (.bin .mod (.bin .fdiv (.var 1) (.cint 12)) (.cint 4)))
noncomputable def Ur : MS := .ret (.meth .join (.cstr "\n") [(.bin .add (.bin .add (.slice (.var 5) .cnone (.var 6) .cnone) (.list [(.var 13)])) (.slice (.var 5) (.bin .add (.var 6) (.cint 1)) .cnone .cnone))])
noncomputable def No : MS := .ite (.cmp (.var 9) [.eq] [(.cint 11)]) [Us, Ur] []
noncomputable def Km : MS := .assign 14 (.idx (.list [(.cstr "tell"), (.cstr "undo"), (.cstr "like"), (.cstr "clear"), (.cstr "7"), (.cstr "-1"), (.cstr "1000001"), (.cstr "x"), (.cstr "0")]) (.bin .mod (.bin .fdiv (.var 1) (.cint 10)) (.cint 9)))
noncomputable def Kl : MS := .assign 15 (.bin .add (.idx (.list [(.cstr "0"), (.cstr "-"), (.cstr "+"), (.cstr "x")]) (.bin .mod (.bin .fdiv (.var 1) (.cint 10)) (.cint 4))) (.idx (.var 7) (.var 8)))
noncomputable def Kk : MS := .assign 12 (.list [(.bin .add (.slice (.var 7) .cnone (.var 8) .cnone) (.slice (.var 7) (.bin .add (.var 8) (.cint 1)) .cnone .cnone)), (.bin .add (.bin .add (.slice (.var 7) .cnone (.var 8) .cnone) (.slice (.var 7) (.var 8) (.bin .add (.var 8) (.cint 1)) .cnone)) (.slice (.var 7) (.var 8) .cnone .cnone))])
noncomputable def Kj : MS := .assign 12 (.bin .add (.var 12) (.list [(.bin .add (.bin .add (.slice (.var 7) .cnone (.var 8) .cnone) (.list [(.var 14)])) (.slice (.var 7) (.bin .add (.var 8) (.cint 1)) .cnone .cnone)), (.bin .add (.bin .add (.slice (.var 7) .cnone (.var 8) .cnone) (.list [(.var 14)])) (.slice (.var 7) (.var 8) .cnone .cnone))]))
noncomputable def Ki : MS := .expr (.meth .append (.var 12) [(.bin .add (.bin .add (.slice (.var 7) .cnone (.var 8) .cnone) (.list [(.var 15)])) (.slice (.var 7) (.bin .add (.var 8) (.cint 1)) .cnone .cnone))])
noncomputable def Kh : MS := .ret (.meth .join (.cstr " ") [(.idx (.var 12) (.bin .sub (.var 9) (.cint 6)))])
noncomputable def D4 : MFun := ⟨3, [I6, I5, Pg, Pf, Pe, Pd, Pc, Pb, Pa, Np, No, Km, Kl, Kk, Kj, Ki, Kh]⟩
noncomputable def D2 : MS := .assign 1 (.slice (.var 0) (.bi .int [(.cmp (.slice (.var 0) .cnone (.cint 1) .cnone) [.eq] [(.cstr "-")])]) .cnone .cnone)
noncomputable def Ab : MS := .ret .cnone
noncomputable def Vd : MS := .ite (.or [(.cmp (.var 1) [.eq] [(.cstr "")]), (.cmp (.comp (.var 2) (.one 2) .plain [(.var 1)] [(.cmp (.var 2) [.notin] [(.cstr "0123456789")])]) [.ne] [(.list [])])]) [Ab] []
noncomputable def Aa : MS := .ret .cnone
noncomputable def Vc : MS := .ite (.cmp (.bi .str [(.bi .int [(.var 0)])]) [.ne] [(.var 0)]) [Aa] []
noncomputable def Vb : MS := .ret (.bi .int [(.var 0)])
noncomputable def P9 : MFun := ⟨1, [D2, Vd, Vc, Vb]⟩
noncomputable def I4 : MS := .ret (.and [(.cmp (.cint 1) [.le, .le] [(.bi .len [(.var 0)]), (.cint 8)]), (.cmp (.comp (.var 1) (.one 1) .plain [(.var 0)] [(.cmp (.var 1) [.notin] [(.cstr "abcdefghijklmnopqrstuvwxyz")])]) [.eq] [(.list [])])])
noncomputable def D3 : MFun := ⟨1, [I4]⟩
noncomputable def Cy : MS := .ret (.and [(.cmp (.var 0) [.isnot] [.cnone]), (.cmp (.var 1) [.le, .le] [(.var 0), (.var 2)])])
noncomputable def P8 : MFun := ⟨3, [Cy]⟩
noncomputable def Ac : MS := .assign 2 (.comp (.call "_law_number" [(.var 5)]) (.one 5) .plain [(.var 0)] [])
noncomputable def Ve : MS := .ret .cnone
noncomputable def Jv : MS := .ite (.or [(.cmp (.bi .len [(.var 0)]) [.ne] [(.cint 2)]), (.not (.call "_law_within" [(.idx (.var 2) (.cint 1)), (.cint 1), (.bin .sub (.var 1) (.cint 1))]))]) [Ve] []
noncomputable def Ju : MS := .ret (.tuple [(.cstr "undo"), (.idx (.var 2) (.cint 1))])
noncomputable def Ky : MS := .ite (.cmp (.idx (.var 0) (.cint 0)) [.eq] [(.cstr "undo")]) [Jv, Ju] []
noncomputable def Kx : MS := .assign 3 (.dict3 "tell" "clear" "like" 5 4 5)
noncomputable def Ob : MS := .ret .cnone
noncomputable def J3 : MS := .ite (.or [(.cmp (.idx (.var 0) (.cint 0)) [.notin] [(.var 3)]), (.cmp (.bi .len [(.var 0)]) [.ne] [(.idx (.var 3) (.idx (.var 0) (.cint 0)))]), (.not (.call "_law_name" [(.idx (.var 0) (.cint 1))]))]) [Ob] []
noncomputable def Oa : MS := .ret .cnone
noncomputable def J2 : MS := .ite (.or [(.not (.call "_law_within" [(.idx (.var 2) (.cint 2)), (.cint 0), (.cint 1000000)])), (.not (.call "_law_within" [(.idx (.var 2) (.cint 3)), (.idx (.var 2) (.cint 2)), (.cint 1000000)]))]) [Oa] []
noncomputable def J1 : MS := .assign 4 (.tuple [(.idx (.var 0) (.cint 0)), (.idx (.var 0) (.cint 1)), (.idx (.var 2) (.cint 2)), (.idx (.var 2) (.cint 3))])
noncomputable def O9 : MS := .ret (.ite (.call "_law_within" [(.idx (.var 2) (.cint 4)), (.neg (.cint 1000000000)), (.cint 1000000000)]) (.bin .add (.var 4) (.tuple [(.idx (.var 2) (.cint 4))])) .cnone)
noncomputable def J0 : MS := .ite (.cmp (.idx (.var 0) (.cint 0)) [.eq] [(.cstr "tell")]) [O9] []
noncomputable def O8 : MS := .ret (.ite (.call "_law_name" [(.idx (.var 0) (.cint 4))]) (.bin .add (.var 4) (.tuple [(.idx (.var 0) (.cint 4))])) .cnone)
noncomputable def Zz : MS := .ite (.cmp (.idx (.var 0) (.cint 0)) [.eq] [(.cstr "like")]) [O8] []
noncomputable def Zy : MS := .ret (.var 4)
noncomputable def Vf : MFun := ⟨2, [Ac, Ky, Kx, J3, J2, J1, J0, Zz, Zy]⟩
noncomputable def f_law_due_1 : MS := .assign 1 (.dict0 false)
noncomputable def Ff : MS := .ret (.var 1)
noncomputable def Az : MS := .ite (.cmp (.var 0) [.eq] [(.cstr "")]) [Ff] []
noncomputable def Ay : MS := .assign 2 (.cint 0)
noncomputable def Nn : MS := .assign 4 (.meth .split (.var 3) [(.cstr " ")])
noncomputable def Nm : MS := .assign 5 (.call "_law_number" [(.slice (.idx (.var 4) (.cint 0)) .cnone (.neg (.cint 1)) .cnone)])
noncomputable def B8 : MS := .ret .cnone
noncomputable def Nl : MS := .ite (.or [(.cmp (.slice (.idx (.var 4) (.cint 0)) (.neg (.cint 1)) .cnone .cnone) [.ne] [(.cstr ":")]), (.cmp (.var 5) [.is] [.cnone]), (.cmp (.var 5) [.le] [(.var 2)]), (.cmp (.bi .len [(.var 4)]) [.lt] [(.cint 2)])]) [B8] []
noncomputable def Nk : MS := .assign 6 (.call "_law_entry_in" [(.slice (.var 4) (.cint 1) .cnone .cnone), (.var 5)])
noncomputable def B7 : MS := .ret .cnone
noncomputable def Nj : MS := .ite (.cmp (.var 6) [.is] [.cnone]) [B7] []
noncomputable def Ni : MS := .setidx (.var 1) (.var 5) (.var 6)
noncomputable def Nh : MS := .assign 2 (.var 5)
noncomputable def Vh : MS := .for (.one 3) .plain [(.meth .split (.var 0) [(.cstr "\n")])] [Nn, Nm, Nl, Nk, Nj, Ni, Nh]
noncomputable def Vg : MS := .ret (.ite (.cmp (.bi .len [(.var 1)]) [.le] [(.cint 30)]) (.var 1) .cnone)
noncomputable def Gf : MFun := ⟨1, [f_law_due_1, Az, Ay, Vh, Vg]⟩
noncomputable def Ib : MS := .assign 1 (.call "_law_book" [(.var 0), (.cint 8)])
noncomputable def B0 : MS := .setidx (.var 1) (.bin .add (.cint 100) (.bin .mul (.cint 2) (.var 2))) (.tuple [(.cstr "clear"), (.cstr "a"), (.var 2), (.bin .mul (.cint 3) (.var 2))])
noncomputable def f_law_2_1 : MS := .for (.one 2) .range [(.bin .sub (.bin .add (.cint 28) (.bin .mod (.bin .fdiv (.call "_law_of" [(.var 0), (.cint 2)]) (.cint 9)) (.cint 4))) (.bi .len [(.var 1)]))] [B0]
noncomputable def I9 : MS := .ite (.cmp (.bin .mod (.call "_law_of" [(.var 0), (.cint 2)]) (.cint 9)) [.eq] [(.cint 1)]) [f_law_2_1] []
noncomputable def Bh : MS := .assign 3 (.call "_law_text" [(.var 1)])
noncomputable def N1 : MS := .assign 4 (.bin .mod (.bin .mul (.bin .add (.bin .add (.call "_law_of" [(.var 0), (.cint 3)]) (.bin .mul (.cint 7919) (.var 2))) (.bin .mul (.cint 13) (.call "_law_of" [(.var 0), (.cint 4)]))) (.cint 48271)) (.cint 2147483647))
noncomputable def N0 : MS := .assign 3 (.call "_law_bent" [(.var 3), (.bin .fdiv (.var 4) (.cint 5)), (.bin .fdiv (.var 4) (.cint 7919))])
noncomputable def Pk : MS := .for (.one 2) .range [(.idx (.list [(.cint 1), (.cint 1), (.cint 2), (.cint 0)]) (.bin .mod (.call "_law_of" [(.var 0), (.cint 3)]) (.cint 4)))] [N1, N0]
noncomputable def K3 : MS := .assign 5 (.call "_law_due" [(.var 3)])
noncomputable def f_law_6_1 : MS := .ret (.and [(.call "_law_refused" [(.var 3)]), (.call "_law_refused" [(.idx (.list [.cnone, (.cint 5), (.list [(.var 3)]), (.tuple [(.cstr "1: undo 1")])]) (.bin .mod (.bin .fdiv (.call "_law_of" [(.var 0), (.cint 3)]) (.cint 4)) (.cint 4)))])])
noncomputable def f_law_6 : MS := .ite (.cmp (.var 5) [.is] [.cnone]) [f_law_6_1] []
noncomputable def I8 : MS := .assign 6 (.call "read" [(.var 3)])
noncomputable def I7 : MS := .ret (.and [(.isinst (.var 6) .dict), (.cmp (.var 6) [.eq] [(.var 5)])])
noncomputable def f_law : MFun := ⟨1, [Ib, I9, Bh, Pk, K3, f_law_6, I8, I7]⟩
noncomputable def defs14 : Defs := [
  ("is_whole", D6, [(0, Str.ofString "thing")]),
  ("is_name", Gg, [(0, Str.ofString "thing"), (1, Str.ofString "sign")]),
  ("is_day", f_is_day, [(0, Str.ofString "thing")]),
  ("is_worth", D5, [(0, Str.ofString "thing")]),
  ("is_entry", Df, [(0, Str.ofString "thing")]),
  ("need_book", Ax, [(0, Str.ofString "book"), (1, Str.ofString "number")]),
  ("shown", f_shown, [(0, Str.ofString "entry")]),
  ("written", Ge, [(0, Str.ofString "book")]),
  ("number_in", Aw, [(0, Str.ofString "word"), (1, Str.ofString "body"), (2, Str.ofString "sign")]),
  ("entry_in", Dk, [(0, Str.ofString "words")]),
  ("read", f_read, [(0, Str.ofString "text"), (1, Str.ofString "found"), (2, Str.ofString "line"), (3, Str.ofString "words")]),
  ("_law_of", Kw, [(0, Str.ofString "_law_script"), (1, Str.ofString "_law_k")]),
  ("_law_names", K1, [(0, Str.ofString "_law_cell"), (1, Str.ofString "_law_many"), (2, Str.ofString "_law_some"), (3, Str.ofString "_law_names_here"), (4, Str.ofString "_law_k"), (5, Str.ofString "_law_more"), (6, Str.ofString "_law_word"), (7, Str.ofString "_law_at")]),
  ("_law_entry", Jd, [(0, Str.ofString "_law_names_here"), (1, Str.ofString "_law_base_here"), (2, Str.ofString "_law_n"), (3, Str.ofString "_law_number_here"), (4, Str.ofString "_law_low"), (5, Str.ofString "_law_high"), (6, Str.ofString "_law_name_here")]),
  ("_law_base", Jw, [(0, Str.ofString "_law_script")]),
  ("_law_book", Od, [(0, Str.ofString "_law_script"), (1, Str.ofString "_law_many"), (2, Str.ofString "_law_names_here"), (3, Str.ofString "_law_gap"), (4, Str.ofString "_law_rows"), (5, Str.ofString "_law_k"), (6, Str.ofString "_law_number_here"), (7, Str.ofString "_law_cut")]),
  ("_law_text", Cz, [(0, Str.ofString "_law_book_here"), (1, Str.ofString "_law_lines"), (2, Str.ofString "_law_number_here")]),
  ("_law_bent", D4, [(0, Str.ofString "_law_text_here"), (1, Str.ofString "_law_cell"), (2, Str.ofString "_law_more"), (3, Str.ofString "_law_some"), (4, Str.ofString "_law_at"), (5, Str.ofString "_law_lines"), (6, Str.ofString "_law_place"), (7, Str.ofString "_law_words"), (8, Str.ofString "_law_spot"), (9, Str.ofString "_law_kind"), (10, Str.ofString "_law_sign"), (11, Str.ofString "_law_other"), (12, Str.ofString "_law_row"), (13, Str.ofString "_law_line"), (14, Str.ofString "_law_word"), (15, Str.ofString "_law_longer")]),
  ("_law_number", P9, [(0, Str.ofString "_law_word"), (1, Str.ofString "_law_body")]),
  ("_law_name", D3, [(0, Str.ofString "_law_word")]),
  ("_law_within", P8, [(0, Str.ofString "_law_number_here"), (1, Str.ofString "_law_least"), (2, Str.ofString "_law_most")]),
  ("_law_entry_in", Vf, [(0, Str.ofString "_law_words"), (1, Str.ofString "_law_own"), (2, Str.ofString "_law_numbers"), (3, Str.ofString "_law_many"), (4, Str.ofString "_law_found")]),
  ("_law_due", Gf, [(0, Str.ofString "_law_text_here"), (1, Str.ofString "_law_book_here"), (2, Str.ofString "_law_last"), (3, Str.ofString "_law_line"), (4, Str.ofString "_law_words"), (5, Str.ofString "_law_number_here"), (6, Str.ofString "_law_entry_here")]),
  ("_law_refused", Ng, [(0, Str.ofString "_law_text_here"), (1, Str.ofString "e"), (2, Str.ofString "_law_kinds")]),
  ("law", f_law, [(0, Str.ofString "_law_script"), (1, Str.ofString "_law_book_here"), (2, Str.ofString "_law_k"), (3, Str.ofString "_law_text_here"), (4, Str.ofString "_law_mixed"), (5, Str.ofString "_law_due_here"), (6, Str.ofString "_law_found")])]
end Mine
end
section
namespace Mine
open PySem
theorem Vo {x y : Str} (h : x.cps.toList = y.cps.toList) : x = y := by
  cases x; cases y; exact congrArg Str.mk (Array.toList_inj.mp h)
theorem cut_eq (c : Nat) : ∀ {a a' b b' : List Nat}, c ∉ a → c ∉ a' → (b = [] ∨ ∃ t, b = c :: t) → (b' = [] ∨ ∃ t, b' = c :: t) → a ++ b = a' ++ b' → a = a' ∧ b = b'
  | [], [], b, b' => fun _ _ _ _ h => ⟨rfl, h⟩
  | [], y :: a', b, b' => fun _ h2 hb _ h => by
    rcases hb with rfl | ⟨t, rfl⟩
    · cases h
    · cases h; exact absurd (.head _) h2
  | x :: a, [], b, b' => fun h1 _ _ hb h => by
    rcases hb with rfl | ⟨t, rfl⟩
    · cases h
    · cases h; exact absurd (.head _) h1
  | x :: a, y :: a', b, b' => fun h1 h2 hb hb' h => by
    rw [List.cons_append, List.cons_append, List.cons.injEq] at h
    obtain ⟨e1, e2⟩ := cut_eq c (fun q => h1 (.tail _ q)) (fun q => h2 (.tail _ q)) hb hb' h.2
    exact ⟨by rw [h.1, e1], e2⟩
noncomputable def rst (c : Nat) : List Str → List Nat
  | [] => []
  | l => c :: (Str.join ⟨#[c]⟩ l).cps.toList
theorem Jt (c : Nat) (x : Str) : ∀ l : List Str, (Str.join ⟨#[c]⟩ (x :: l)).cps.toList = x.cps.toList ++ rst c l
  | [] => (List.append_nil _).symm
  | y :: l => by
    show (x ++ ⟨#[c]⟩ ++ Str.join ⟨#[c]⟩ (y :: l)).cps.toList = _
    rw [Y7, Y7, List.append_assoc]; rfl
theorem rst_or (c : Nat) : ∀ l : List Str, rst c l = [] ∨ ∃ t, rst c l = c :: t
  | [] => .inl rfl
  | _ :: _ => .inr ⟨_, rfl⟩
theorem join_inj (c : Nat) : ∀ (l m : List Str), l ≠ [] → m ≠ [] → (∀ p ∈ l, c ∉ p.cps.toList) → (∀ p ∈ m, c ∉ p.cps.toList) → Str.join ⟨#[c]⟩ l = Str.join ⟨#[c]⟩ m → l = m
  | [], _ => fun h _ _ _ _ => absurd rfl h
  | _ :: _, [] => fun _ h _ _ _ => absurd rfl h
  | x :: l, y :: m => fun _ _ hl hm h => by
    have e := congrArg (fun s : Str => s.cps.toList) h
    simp only [Jt] at e
    obtain ⟨e1, e2⟩ := cut_eq c (hl x (.head _)) (hm y (.head _)) (rst_or c l) (rst_or c m) e
    rw [Vo e1]
    cases l with
    | nil =>
      cases m with
      | nil => rfl
      | cons b m => cases e2
    | cons a l =>
      cases m with
      | nil => cases e2
      | cons b m =>
        simp only [rst, List.cons.injEq, true_and] at e2
        rw [join_inj c (a :: l) (b :: m) (by simp) (by simp) (fun p hp => hl p (.tail _ hp)) (fun p hp => hm p (.tail _ hp)) (Vo e2)]
theorem V3 (x y : Str) : Txt.split x y ≠ [] := by
  unfold Txt.split
  split
  · simp
  · split
    · simp
    · rw [StrLaws.partsBetween_eq]
      obtain ⟨p, r, e⟩ := StrLaws.partsFrom_ne x y.length 0 (Builtin.Str.occurrences x y 0 x.length (x.length + 1))
      rw [e]; simp
theorem Z0 (s : Str) (l : List Str) : Txt.join s l = Str.join s l := StrLaws.glued_eq_join _ _
theorem Bp {c : Nat} {l : List Str} (h : l ≠ []) (hf : ∀ p ∈ l, c ∉ p.cps.toList) : Txt.split (Txt.join ⟨#[c]⟩ l) ⟨#[c]⟩ = l := by
  rw [Z0]
  exact join_inj c _ _ (V3 _ _) h (StrLaws.split_free _ c) hf (StrLaws.join_split _ _)
theorem Dw : S " " = ⟨#[32]⟩ := by decide +kernel
theorem Dx : S "\n" = ⟨#[10]⟩ := by decide +kernel
theorem S_co : S ":" = ⟨#[58]⟩ := by decide +kernel
theorem S_cs : S ": " = S ":" ++ S " " := by decide +kernel
theorem S_mi : S "-" = ⟨#[45]⟩ := by decide +kernel
abbrev num (i : Int) : Str := Str.ofString (toString i)
theorem Vu {i : Int} (h : i < 0) : (num i).cps.toList = 45 :: (num (-i)).cps.toList := by
  rw [PyProof.Rows.signs_ofString, PyProof.Rows.signs_ofString, Int.toString_eq_repr, Int.toString_eq_repr, Int.repr_eq_if, if_neg (by simp [*]), Int.repr_eq_if, if_pos (by lia), String.toList_append, List.map_append]
  rfl
theorem Vv {i : Int} (h0 : 0 ≤ i) : NumText.AllDigits (num i).cps.toList := by
  obtain ⟨m, rfl⟩ := Int.eq_ofNat_of_zero_le h0
  intro c hc
  rw [W.KIN.signs_num] at hc
  obtain ⟨ch, hch, e⟩ := List.mem_map.mp hc
  rw [← e]
  exact PyProof.Rows.digit_range (Nat.isDigit_of_mem_toDigits (by decide) (by decide) hch)
theorem Hc {i : Int} (h0 : 0 ≤ i) (h1 : i ≤ 1000000000) : (num i).length ≤ 10 := W.KT.len_num h0 (Int.lt_of_le_of_lt h1 (by decide))
theorem num_ne {i : Int} (h0 : 0 ≤ i) : (num i).cps.toList ≠ [] := by
  obtain ⟨m, rfl⟩ := Int.eq_ofNat_of_zero_le h0
  rw [W.KIN.signs_num]
  intro e
  have h := Nat.length_toDigits_pos (b := 10) (n := m)
  rw [List.map_eq_nil_iff.mp e] at h
  exact absurd h (by decide)
theorem num_val {i : Int} (h0 : 0 ≤ i) : ((NumText.digitsVal (num i).cps.toList : Nat) : Int) = i := by
  obtain ⟨m, rfl⟩ := Int.eq_ofNat_of_zero_le h0
  rw [W.KIN.signs_num, W.KIN.val_back]
theorem num_len' {i : Int} (h0 : -1000000000 ≤ i) (h1 : i ≤ 1000000000) : (num i).length ≤ 11 := by
  by_cases h : 0 ≤ i
  · exact Nat.le_succ_of_le (Hc h h1)
  · have := Hc (i := -i) (by lia) (by lia)
    rw [Xy] at this ⊢
    rw [Vu (by lia), List.length_cons]; exact Nat.succ_le_succ (by assumption)
structure Wrd (x : Str) : Prop where
  len : x.length ≤ 11
  sg : ∀ c ∈ x.cps.toList, c = 45 ∨ (48 ≤ c ∧ c ≤ 57) ∨ (97 ≤ c ∧ c ≤ 122)
theorem Wrd.free {x : Str} (h : Wrd x) {c : Nat} (hc : c ≤ 44 ∨ c = 58) : c ∉ x.cps.toList := fun m => by
  have := h.sg c m; lia
theorem V7 {x : Str} (h : ∀ c ∈ x.cps.toList, c ≤ 127) : PyData.strOk x = true := by
  unfold PyData.strOk
  rw [Array.all_eq_true']
  intro c hc
  have := h c (Array.mem_toList_iff.mpr hc)
  simp only [decide_eq_true_eq]; exact Nat.lt_of_le_of_lt (by assumption) (by decide)
noncomputable def Part (v : MV) : Prop := (∃ i, v = .int i ∧ -1000000000 ≤ i ∧ i ≤ 1000000000) ∨ ∃ s, v = .str s ∧ s.length ≤ 8 ∧ Low s
noncomputable def strOf : MV → Str
  | .str s => s
  | .int i => num i
  | _ => S ""
theorem Hb {i : Int} (h0 : -1000000000 ≤ i) (h1 : i ≤ 1000000000) : Wrd (num i) := ⟨num_len' h0 h1, fun c hc => by
  by_cases h : 0 ≤ i
  · exact .inr (.inl (Vv h c hc))
  · rw [Vu (by lia)] at hc
    rcases List.mem_cons.mp hc with rfl | hc
    · exact .inl rfl
    · exact .inr (.inl (Vv (by lia) c hc))⟩
theorem Part.wrd {v : MV} (h : Part v) : Wrd (strOf v) := by
  rcases h with ⟨i, rfl, h0, h1⟩ | ⟨s, rfl, h0, h1⟩
  · exact Hb h0 h1
  · exact ⟨Nat.le_trans h0 (by decide), fun c hc => .inr (.inr (h1 c hc))⟩
noncomputable def Ent.parts : Ent → List MV
  | .undo j => [.str (S "undo"), .int j]
  | .clear nm lo hi => [.str (S "clear"), .str nm, .int lo, .int hi]
  | .like nm lo hi nm' => [.str (S "like"), .str nm, .int lo, .int hi, .str nm']
  | .tell nm lo hi v => [.str (S "tell"), .str nm, .int lo, .int hi, .int v]
theorem Ent.mv_parts (e : Ent) : e.mv = .tup e.parts := by cases e <;> rfl
theorem Ent.parts_len (e : Ent) : 2 ≤ e.parts.length ∧ e.parts.length ≤ 5 := by cases e <;> exact ⟨by simp [Ent.parts], by simp [Ent.parts]⟩
theorem low_undo : Part (.str (S "undo")) := .inr ⟨_, rfl, by decide +kernel, by unfold Low; decide +kernel⟩
theorem G3 : Part (.str (S "clear")) := .inr ⟨_, rfl, by decide +kernel, by unfold Low; decide +kernel⟩
theorem low_like : Part (.str (S "like")) := .inr ⟨_, rfl, by decide +kernel, by unfold Low; decide +kernel⟩
theorem low_tell : Part (.str (S "tell")) := .inr ⟨_, rfl, by decide +kernel, by unfold Low; decide +kernel⟩
inductive Fine (k : Int) : Ent → Prop where
  | undo {j : Int} : 1 ≤ j → j < k → Fine k (.undo j)
  | clear {nm : Str} {lo hi : Int} : GoodN nm → 0 ≤ lo → lo ≤ hi → hi ≤ 1000000 → Fine k (.clear nm lo hi)
  | like {nm nm' : Str} {lo hi : Int} : GoodN nm → GoodN nm' → 0 ≤ lo → lo ≤ hi → hi ≤ 1000000 → Fine k (.like nm lo hi nm')
  | tell {nm : Str} {lo hi v : Int} : GoodN nm → 0 ≤ lo → lo ≤ hi → hi ≤ 1000000 → -1000000000 ≤ v → v ≤ 1000000000 → Fine k (.tell nm lo hi v)
theorem Ent.good.fine {names : List Str} {k : Int} {e : Ent} (hn : ∀ nm ∈ names, GoodN nm) (h : e.good names k) : Fine k e := by
  cases e with
  | undo j => exact .undo h.1 h.2
  | clear nm lo hi => exact .clear (hn _ h.1) h.2.1 h.2.2.1 h.2.2.2
  | like nm lo hi nm' => exact .like (hn _ h.1) (hn _ h.2.1) h.2.2.1 h.2.2.2.1 h.2.2.2.2
  | tell nm lo hi v => exact .tell (hn _ h.1) h.2.1 h.2.2.1 h.2.2.2.1 h.2.2.2.2.1 h.2.2.2.2.2
theorem V6 {i : Int} (h0 : -1000000000 ≤ i) (h1 : i ≤ 1000000000) : Part (.int i) := .inl ⟨i, rfl, h0, h1⟩
theorem Kr {i : Int} (h0 : 0 ≤ i) (h1 : i ≤ 1000000) : Part (.int i) := V6 (by lia) (by exact Int.le_trans (by assumption) (by decide))
theorem Vt {x : Str} (h : GoodN x) : Part (.str x) := .inr ⟨x, rfl, h.2.1, h.2.2⟩
theorem Fine.part {k : Int} {e : Ent} (hk : k ≤ 40) (h : Fine k e) : ∀ v ∈ e.parts, Part v := by
  cases h with
  | undo a b =>
    simp only [Ent.parts, List.forall_mem_cons]
    exact ⟨low_undo, V6 (by lia) (by lia), by simp⟩
  | clear a b c d =>
    simp only [Ent.parts, List.forall_mem_cons]
    exact ⟨G3, Vt a, Kr b (by lia), Kr (by lia) d, by simp⟩
  | like a a' b c d =>
    simp only [Ent.parts, List.forall_mem_cons]
    exact ⟨low_like, Vt a, Kr b (by lia), Kr (by lia) d, Vt a', by simp⟩
  | tell a b c d f g =>
    simp only [Ent.parts, List.forall_mem_cons]
    exact ⟨low_tell, Vt a, Kr b (by lia), Kr (by lia) d, V6 f g, by simp⟩
noncomputable def Ent.words (e : Ent) : List Str := e.parts.map strOf
noncomputable def Ent.shown (e : Ent) : Str := Txt.join (S " ") e.words
noncomputable def rowS (k : Int) (e : Ent) : Str := num k ++ S ": " ++ e.shown
theorem Zh (e : Ent) : 2 ≤ e.words.length ∧ e.words.length ≤ 5 := by
  unfold Ent.words; rw [List.length_map]; exact e.parts_len
structure WEnt (e : Ent) : Prop where
  w : ∀ x ∈ e.words, Wrd x
theorem Fine.w {k : Int} {e : Ent} (hk : k ≤ 40) (h : Fine k e) : WEnt e := ⟨fun x hx => by
  obtain ⟨v, hv, rfl⟩ := List.mem_map.mp hx
  exact (h.part hk v hv).wrd⟩
theorem Pu {l : List Str} {n : Nat} (h : ∀ x ∈ l, x.length ≤ n) : (l.map (·.length)).sum ≤ l.length * n := by
  induction l with
  | nil => simp
  | cons x l ih =>
    have := h x (.head _)
    have := ih fun y hy => h y (.tail _ hy)
    rw [List.map_cons, List.sum_cons, List.length_cons, Nat.succ_mul]; lia
theorem WEnt.sum {e : Ent} (h : WEnt e) : (e.words.map (·.length)).sum ≤ 55 := by
  have h1 := Pu (n := 11) fun x hx => (h.w x hx).len
  have h2 := (Zh e).2
  lia
theorem Nt : (S " ").length = 1 := by decide +kernel
theorem WEnt.len {e : Ent} (h : WEnt e) : e.shown.length ≤ 60 := by
  unfold Ent.shown
  rw [Z0]
  have h1 := StrLaws.join_length_le (S " ") e.words
  have h2 := h.sum
  have h3 := (Zh e).2
  rw [Nt] at h1; lia
theorem WEnt.sg {e : Ent} (h : WEnt e) {c : Nat} (hc : c ∈ e.shown.cps.toList) : c = 32 ∨ c = 45 ∨ (48 ≤ c ∧ c ≤ 57) ∨ (97 ≤ c ∧ c ≤ 122) := by
  unfold Ent.shown at hc
  rw [Z0, PyProof.Rows.mem_join] at hc
  rcases hc with ⟨x, hx, hc⟩ | ⟨_, hc⟩
  · exact .inr ((h.w x hx).sg c hc)
  · rw [Dw] at hc; simp at hc; exact .inl hc
theorem WEnt.ok {e : Ent} (h : WEnt e) : PyData.strOk e.shown = true := V7 fun c hc => by have := h.sg hc; lia
theorem Vr (k : Int) (e : Ent) : rowS k e = Txt.join ⟨#[32]⟩ ((num k ++ S ":") :: e.words) := by
  unfold rowS Ent.shown
  rw [Z0, Z0, S_cs, ← Dw]
  have h := (Zh e).1
  revert h
  generalize e.words = l
  intro h
  cases l with
  | nil => exact absurd h (by decide)
  | cons w ws =>
    show _ = num k ++ S ":" ++ S " " ++ Str.join (S " ") (w :: ws)
    apply Vo
    simp only [Y7, List.append_assoc]
theorem Iv : (S ": ").length = 2 := by decide +kernel
theorem row_len {k : Int} {e : Ent} (h0 : 0 ≤ k) (h1 : k ≤ 40) (h : WEnt e) : (rowS k e).length ≤ 100 := by
  have := num_len' (i := k) (by lia) (by exact Int.le_trans (by assumption) (by decide))
  have := h.len
  unfold rowS
  rw [Xx, Xx, Iv]; lia
theorem row_sg {k : Int} {e : Ent} (h0 : 0 ≤ k) (h1 : k ≤ 40) (h : WEnt e) {c : Nat} (hc : c ∈ (rowS k e).cps.toList) : 32 ≤ c ∧ c ≤ 127 := by
  unfold rowS at hc
  rw [Y7, Y7, S_cs, Y7, S_co, Dw] at hc
  rcases List.mem_append.mp hc with hc | hc
  · rcases List.mem_append.mp hc with hc | hc
    · have := (Hb (i := k) (by lia) (by exact Int.le_trans (by assumption) (by decide))).sg c hc; lia
    · simp at hc; lia
  · have := h.sg hc; lia
theorem row_ne (k : Int) (e : Ent) : (rowS k e).cps.toList ≠ [] := by
  unfold rowS
  rw [Y7, Y7, S_cs, Y7, S_co]
  simp
noncomputable def atD (B : Book) (k : Int) : Ent := (Book.at B k).getD (.undo 0)
noncomputable def rowsOf (B : Book) : List Str := (sortI B.keys).map fun k => rowS k (atD B k)
noncomputable def textOf (B : Book) : Str := Txt.join (S "\n") (rowsOf B)
structure FB (B : Book) : Prop where
  ok : BOk B
  len : B.length ≤ 14
  fine : ∀ p ∈ B, Fine p.1 p.2
  key : ∀ k ∈ B.keys, 1 ≤ k ∧ k ≤ 40
theorem Du {B : Book} {k : Int} (h : k ∈ B.keys) : Book.at B k = some (atD B k) := by
  obtain ⟨e, he⟩ := Book.at_key h
  unfold atD; rw [he]; rfl
theorem FB.fineD {B : Book} (h : FB B) {k : Int} (hk : k ∈ B.keys) : Fine k (atD B k) := h.fine _ (Book.at_some (Du hk))
theorem FB.w {B : Book} (h : FB B) {k : Int} (hk : k ∈ B.keys) : WEnt (atD B k) := (h.fineD hk).w (h.key k hk).2
theorem Jb {B : Book} {k : Int} : k ∈ sortI B.keys ↔ k ∈ B.keys := (Nu _).mem_iff
theorem Ch (B : Book) : B.keys.length = B.length := List.length_map _
theorem Oj (B : Book) : (rowsOf B).length = B.length := by unfold rowsOf; rw [List.length_map, Vp, Ch]
theorem FB.row {B : Book} (h : FB B) {x : Str} (hx : x ∈ rowsOf B) : x.length ≤ 100 ∧ (∀ c ∈ x.cps.toList, 32 ≤ c ∧ c ≤ 127) ∧ x.cps.toList ≠ [] := by
  obtain ⟨k, hk, rfl⟩ := List.mem_map.mp hx
  have hk := Jb.mp hk
  have hr := h.key k hk
  exact ⟨row_len (by lia) hr.2 (h.w hk), fun c hc => row_sg (by lia) hr.2 (h.w hk) hc, row_ne _ _⟩
theorem FB.sum {B : Book} (h : FB B) : ((rowsOf B).map (·.length)).sum + (rowsOf B).length ≤ 2000 := by
  have h1 := Pu (n := 100) fun x hx => (h.row (x := x) hx).1
  have h2 := h.len
  rw [Oj] at h1 ⊢; lia
theorem C4 : (S "\n").length = 1 := by decide +kernel
noncomputable def srt (B : Book) : Book := (sortI B.keys).map fun k => (k, atD B k)
end Mine
end
section
namespace Mine
open PySem
noncomputable def NmOk (s : Str) : Prop := 1 ≤ s.length ∧ s.length ≤ 8 ∧ Low s
theorem abc_eq : (S "abcdefghijklmnopqrstuvwxyz").cps.toList = (List.range 26).map (97 + ·) := by decide +kernel
theorem fig_eq : (S "0123456789").cps.toList = (List.range 10).map (48 + ·) := by decide +kernel
theorem abc_iff {c : Nat} : (S "abcdefghijklmnopqrstuvwxyz").cps.toList.contains c = true ↔ 97 ≤ c ∧ c ≤ 122 := by
  rw [abc_eq, List.contains_iff_mem, List.mem_map]
  constructor
  · rintro ⟨a, h, rfl⟩; have := List.mem_range.mp h; lia
  · exact fun h => ⟨c - 97, List.mem_range.mpr (by omega), by simp [*]⟩
theorem fig_iff {c : Nat} : (S "0123456789").cps.toList.contains c = true ↔ 48 ≤ c ∧ c ≤ 57 := by
  rw [fig_eq, List.contains_iff_mem, List.mem_map]
  constructor
  · rintro ⟨a, h, rfl⟩; have := List.mem_range.mp h; lia
  · exact fun h => ⟨c - 48, List.mem_range.mpr (by omega), by simp [*]⟩
noncomputable def minus (w : Str) : Bool := (⟨(w.cps.toList.take 1).toArray⟩ : Str) == S "-"
noncomputable def bodyS (w : Str) : Str := if minus w then ⟨(w.cps.toList.drop 1).toArray⟩ else w
noncomputable def figs (w : Str) : Bool := w.cps.toList.all fun c => (S "0123456789").cps.toList.contains c
noncomputable def dig (w : Str) : Bool := !(bodyS w == S "") && figs (bodyS w)
noncomputable def val (w : Str) : Int := if minus w then -((NumText.digitsVal (bodyS w).cps.toList : Nat) : Int) else ((NumText.digitsVal (bodyS w).cps.toList : Nat) : Int)
theorem A1 {w : Str} : minus w = true ↔ ∃ cs, w.cps.toList = 45 :: cs := by
  unfold minus
  rw [beq_iff_eq]
  constructor
  · intro h
    have := congrArg (fun s : Str => s.cps.toList) h
    rw [S_mi] at this
    cases q : w.cps.toList with
    | nil => rw [q] at this; cases this
    | cons c cs => rw [q] at this; simp at this; exact ⟨cs, by rw [this]⟩
  · rintro ⟨cs, h⟩
    rw [h, S_mi]; rfl
theorem S_em : (S "").cps.toList = [] := by decide +kernel
theorem em_iff {w : Str} : (w == S "") = true ↔ w.cps.toList = [] := by
  rw [beq_iff_eq]
  exact ⟨fun h => by rw [h, S_em], fun h => Vo (by rw [h, S_em])⟩
theorem dig_spec {w : Str} (h : dig w = true) : NumText.AllDigits (bodyS w).cps.toList ∧ (bodyS w).cps.toList ≠ [] := by
  unfold dig figs at h
  rw [Bool.and_eq_true, Bool.not_eq_true'] at h
  exact ⟨fun c hc => fig_iff.mp (List.all_eq_true.mp h.2 c hc), fun q => by rw [em_iff.mpr q] at h; exact Bool.noConfusion h.1⟩
theorem dig_of {w : Str} (h1 : NumText.AllDigits (bodyS w).cps.toList) (h2 : (bodyS w).cps.toList ≠ []) : dig w = true := by
  unfold dig figs
  rw [Bool.and_eq_true, Bool.not_eq_true', List.all_eq_true]
  refine ⟨?_, fun c hc => fig_iff.mpr (h1 c hc)⟩
  cases q : bodyS w == S "" with
  | false => rfl
  | true => exact absurd (em_iff.mp q) h2
theorem val_int {w : Str} (h : dig w = true) (hl : w.length ≤ 640) : intText? w = some (val w) := by
  obtain ⟨h1, h2⟩ := dig_spec h
  unfold val
  unfold bodyS at h1 h2 ⊢
  cases q : minus w with
  | true =>
    simp only [q, if_true] at h1 h2 ⊢
    obtain ⟨cs, hc⟩ := A1.mp q
    rw [hc] at h1 h2 ⊢
    exact intText_neg hc h1 h2 (by exact Nat.le_trans (by assumption) (by decide))
  | false =>
    simp only [q, Bool.false_eq_true, if_false] at h1 h2 ⊢
    exact intText_digits h1 h2 (by exact Nat.le_trans (by assumption) (by decide))
theorem Fx (i : Int) : minus (num i) = decide (i < 0) := by
  by_cases h : i < 0
  · rw [decide_eq_true h]; exact A1.mpr ⟨_, Vu h⟩
  · rw [decide_eq_false h]
    cases q : minus (num i) with
    | false => rfl
    | true =>
      obtain ⟨cs, hc⟩ := A1.mp q
      have := Vv (i := i) (by lia) 45 (by rw [hc]; exact .head _)
      lia
theorem Fy (i : Int) : (bodyS (num i)).cps.toList = (num (if i < 0 then -i else i)).cps.toList := by
  unfold bodyS
  rw [Fx]
  by_cases h : i < 0
  · simp only [h, decide_true, if_true]; rw [Vu h]; rfl
  · simp only [h, decide_false, if_false, Bool.false_eq_true]
theorem abs_nn (i : Int) : 0 ≤ (if i < 0 then -i else i) := by split <;> lia
theorem Ja (i : Int) : dig (num i) = true := by
  refine dig_of ?_ ?_ <;> rw [Fy]
  · exact Vv (abs_nn i)
  · exact num_ne (abs_nn i)
theorem Yx (i : Int) : val (num i) = i := by
  unfold val
  rw [Fx, Fy, num_val (abs_nn i)]
  by_cases h : i < 0
  · simp only [h, decide_true, if_true]; simp
  · simp only [h, decide_false, if_false, Bool.false_eq_true]
theorem num_inj {i j : Int} (h : num i = num j) : i = j := by rw [← Yx i, h, Yx]
noncomputable def isNum (w : Str) : Bool := dig w && (num (val w) == w)
theorem G9 {w : Str} : isNum w = true ↔ ∃ i, w = num i := by
  unfold isNum
  rw [Bool.and_eq_true, beq_iff_eq]
  constructor
  · exact fun h => ⟨_, h.2.symm⟩
  · rintro ⟨i, rfl⟩
    exact ⟨Ja i, by rw [Yx]⟩
theorem dv_lt : ∀ (n : Nat) (cs : List Nat), cs.length = n → NumText.AllDigits cs → NumText.digitsVal cs < 10 ^ n
  | 0 => fun cs hl h => by rw [List.eq_nil_of_length_eq_zero hl]; decide
  | n + 1 => fun cs hl h => by
    have hne : cs ≠ [] := by intro e; rw [e] at hl; simp at hl
    have e := List.dropLast_concat_getLast hne
    generalize cs.dropLast = ini at e
    generalize cs.getLast hne = c at e
    subst e
    have hc : 48 ≤ c ∧ c ≤ 57 := h c (List.mem_append_right _ (List.mem_singleton.mpr rfl))
    have ih := dv_lt n ini (by rw [List.length_append, List.length_singleton] at hl; lia) fun d hd => h d (List.mem_append_left _ hd)
    rw [NumText.digitsVal_snoc, Nat.pow_succ]; lia
noncomputable def Sml (i : Int) : Prop := i.natAbs < 10 ^ 60
theorem body_len (w : Str) : (bodyS w).cps.toList.length ≤ w.length := by
  unfold bodyS
  rw [Xy]
  split
  · show (w.cps.toList.drop 1).length ≤ _
    rw [List.length_drop]; simp
  · exact Nat.le_refl _
theorem J4 {w : Str} (h : dig w = true) (hl : w.length ≤ 60) : Sml (val w) := by
  have h1 := dv_lt _ _ rfl (dig_spec h).1
  have h2 := body_len w
  have h3 : NumText.digitsVal (bodyS w).cps.toList < 10 ^ 60 := Nat.lt_of_lt_of_le h1 (Nat.pow_le_pow_right (by decide) (by lia))
  unfold Sml val
  split
  · rw [Int.natAbs_neg, Int.natAbs_natCast]; exact h3
  · rw [Int.natAbs_natCast]; exact h3
theorem Sml.log {i : Int} (h : Sml i) : i.natAbs.log2 < 1920 := by
  by_cases q : i.natAbs = 0
  · rw [q]; decide
  · exact Nat.lt_trans ((Nat.log2_lt q).mpr (Nat.lt_trans h (show 10 ^ 60 < 2 ^ 200 by decide +kernel))) (by decide)
theorem Sml.of {i : Int} (h0 : -1000000000 ≤ i) (h1 : i ≤ 1000000000) : Sml i := by
  have h : i.natAbs ≤ 1000000000 := by lia
  exact Nat.lt_of_le_of_lt h (by decide)
theorem Ao {m : Nat} (h : m < 10 ^ 60) : (num (m : Int)).length ≤ 60 := by
  rw [Xy, W.KIN.signs_num, List.length_map]
  exact (Nat.length_toDigits_le_iff (by decide) (by decide)).mpr h
theorem Sml.len {i : Int} (h : Sml i) : (num i).length ≤ 61 := by
  by_cases q : 0 ≤ i
  · obtain ⟨m, rfl⟩ := Int.eq_ofNat_of_zero_le q
    exact Nat.le_succ_of_le (Ao h)
  · have hn := Vu (i := i) (by lia)
    obtain ⟨m, hm⟩ := Int.eq_ofNat_of_zero_le (show 0 ≤ -i by lia)
    have : m < 10 ^ 60 := by
      have : i.natAbs = m := by lia
      rw [← this]; exact h
    have h2 := Ao this
    rw [Xy] at h2 ⊢
    rw [hn, List.length_cons, hm]
    exact Nat.succ_le_succ (by assumption)
theorem num_sg {i : Int} {c : Nat} (hc : c ∈ (num i).cps.toList) : c = 45 ∨ (48 ≤ c ∧ c ≤ 57) := by
  by_cases h : 0 ≤ i
  · exact .inr (Vv h c hc)
  · rw [Vu (by lia)] at hc
    rcases List.mem_cons.mp hc with rfl | hc
    · exact .inl rfl
    · exact .inr (Vv (by lia) c hc)
end Mine
end
section
namespace Mine
open PySem
noncomputable def Okk (k : Int) : Ent → Prop
  | .undo j => 1 ≤ j ∧ j < k
  | .clear nm lo hi => NmOk nm ∧ 0 ≤ lo ∧ lo ≤ hi ∧ hi ≤ 1000000
  | .like nm lo hi nm' => NmOk nm ∧ NmOk nm' ∧ 0 ≤ lo ∧ lo ≤ hi ∧ hi ≤ 1000000
  | .tell nm lo hi v => NmOk nm ∧ 0 ≤ lo ∧ lo ≤ hi ∧ hi ≤ 1000000 ∧ -1000000000 ≤ v ∧ v ≤ 1000000000
noncomputable def Wd (x : Str) : Prop := ∀ c ∈ x.cps.toList, c = 45 ∨ (48 ≤ c ∧ c ≤ 57) ∨ (97 ≤ c ∧ c ≤ 122)
theorem K6 (i : Int) : Wd (num i) := fun c hc => (num_sg hc).imp id .inl
theorem Uy {x : Str} (h : Low x) : Wd x := fun c hc => .inr (.inr (h c hc))
theorem low_S : Low (S "undo") ∧ Low (S "clear") ∧ Low (S "like") ∧ Low (S "tell") := by unfold Low; decide +kernel
theorem Okk.wd {k : Int} {e : Ent} (h : Okk k e) : ∀ x ∈ e.words, Wd x := by
  cases e with
  | undo j => simp only [Ent.words, Ent.parts, List.map, strOf, List.forall_mem_cons]; exact ⟨Uy low_S.1, K6 _, by simp⟩
  | clear nm lo hi => simp only [Ent.words, Ent.parts, List.map, strOf, List.forall_mem_cons]; exact ⟨Uy low_S.2.1, Uy h.1.2.2, K6 _, K6 _, by simp⟩
  | like nm lo hi nm' => simp only [Ent.words, Ent.parts, List.map, strOf, List.forall_mem_cons]; exact ⟨Uy low_S.2.2.1, Uy h.1.2.2, K6 _, K6 _, Uy h.2.1.2.2, by simp⟩
  | tell nm lo hi v => simp only [Ent.words, Ent.parts, List.map, strOf, List.forall_mem_cons]; exact ⟨Uy low_S.2.2.2, Uy h.1.2.2, K6 _, K6 _, K6 _, by simp⟩
theorem Wd.free {x : Str} (h : Wd x) {c : Nat} (hc : c ≤ 44 ∨ c = 58) : c ∉ x.cps.toList := fun m => by have := h c m; lia
theorem Nv {k : Int} {e : Ent} (h : Okk k e) : Txt.split (rowS k e) (S " ") = (num k ++ S ":") :: e.words := by
  rw [Vr, Dw]
  refine Bp (by simp) fun p hp => ?_
  rcases List.mem_cons.mp hp with rfl | hp
  · rw [Y7]
    intro q
    rcases List.mem_append.mp q with q | q
    · exact (K6 k).free (.inl (by decide)) q
    · rw [S_co] at q; simp at q
  · exact (h.wd p hp).free (.inl (by decide))
theorem split_eq {x : Str} {l : List Str} (h : Txt.split x (S " ") = l) : x = Txt.join (S " ") l := by
  rw [← h, Z0, StrLaws.join_split]
theorem row_iff {k : Int} {e : Ent} {x : Str} (h : Okk k e) : Txt.split x (S " ") = (num k ++ S ":") :: e.words ↔ x = rowS k e := by
  constructor
  · intro q; rw [split_eq q, Vr, Dw]
  · rintro rfl; exact Nv h
theorem row_sg2 {k : Int} {e : Ent} (h : Okk k e) {c : Nat} (hc : c ∈ (rowS k e).cps.toList) : 32 ≤ c ∧ c ≤ 122 := by
  rw [Vr, Z0, PyProof.Rows.mem_join] at hc
  rcases hc with ⟨x, hx, hc⟩ | ⟨_, hc⟩
  · rcases List.mem_cons.mp hx with rfl | hx
    · rw [Y7, S_co] at hc
      rcases List.mem_append.mp hc with hc | hc
      · have := K6 k c hc; lia
      · simp at hc; simp [*]
    · have := h.wd x hx c hc; lia
  · simp at hc; simp [*]
noncomputable def lastS (w : Str) : Str := ⟨(pick w.cps.toList (some (-1)) none none).toArray⟩
noncomputable def initS (w : Str) : Str := ⟨(pick w.cps.toList none (some (-1)) none).toArray⟩
theorem Pz {α : Type} (l : List α) (x : α) : pick (l ++ [x]) (some (-1)) none none = [x] := by
  rw [Yh]
  show List.take ((l ++ [x]).length - clipAt (l ++ [x]).length (-((1 : Nat) : Int))) (List.drop (clipAt (l ++ [x]).length (-((1 : Nat) : Int))) (l ++ [x])) = [x]
  rw [clipAt_neg _ 1 (Nat.le_refl 1), List.length_append, List.length_singleton, Nat.add_sub_cancel, List.drop_left, Nat.add_sub_cancel_left]; rfl
theorem Vs {α : Type} (l : List α) (x : α) : pick (l ++ [x]) none (some (-1)) none = l := by
  rw [Yh]
  show List.take (clipAt (l ++ [x]).length (-((1 : Nat) : Int)) - 0) (List.drop 0 (l ++ [x])) = l
  rw [clipAt_neg _ 1 (Nat.le_refl 1), List.length_append, List.length_singleton, Nat.add_sub_cancel, Nat.sub_zero, List.drop_zero, List.take_left]
theorem Bx {α : Type} (a b : Option Int) : pick ([] : List α) a b none = [] := by rw [Yh, List.drop_nil, List.take_nil]
theorem Ci (k : Int) : (num k ++ S ":").cps.toList = (num k).cps.toList ++ [58] := by rw [Y7, S_co]
theorem last_kc (k : Int) : lastS (num k ++ S ":") = S ":" := by unfold lastS; rw [Ci, Pz, S_co]
theorem Bg (k : Int) : initS (num k ++ S ":") = num k := Vo (by unfold initS; rw [Ci, Vs])
theorem last_co {w : Str} (h : lastS w = S ":") : w = initS w ++ S ":" := by
  have h := congrArg (fun s : Str => s.cps.toList) h
  rw [S_co] at h
  unfold lastS at h
  apply Vo
  rw [Y7, S_co]
  unfold initS
  rcases List.eq_nil_or_concat w.cps.toList with q | ⟨l, x, q⟩
  · rw [q, Bx] at h; cases h
  · rw [List.concat_eq_append] at q
    rw [q, Pz] at h
    rw [q, Vs]
    simp at h
    rw [h]
theorem init_len (w : Str) : (initS w).length ≤ w.length := by
  rw [Xy, Xy]
  unfold initS
  rcases List.eq_nil_or_concat w.cps.toList with q | ⟨l, x, q⟩
  · rw [q, Bx]; exact Nat.le_refl 0
  · rw [List.concat_eq_append] at q
    rw [q, Vs]; simp
theorem init_sub {w : Str} {c : Nat} (h : c ∈ (initS w).cps.toList) : c ∈ w.cps.toList := by
  unfold initS at h
  rcases List.eq_nil_or_concat w.cps.toList with q | ⟨l, x, q⟩
  · rw [q, Bx] at h; cases h
  · rw [List.concat_eq_append] at q
    rw [q, Vs] at h
    rw [q]; exact List.mem_append_left _ h
theorem last_sub {w : Str} {c : Nat} (h : c ∈ (lastS w).cps.toList) : c ∈ w.cps.toList := by
  unfold lastS at h
  rcases List.eq_nil_or_concat w.cps.toList with q | ⟨l, x, q⟩
  · rw [q, Bx] at h; cases h
  · rw [List.concat_eq_append] at q
    rw [q, Pz] at h
    rw [q]; exact List.mem_append_right _ h
noncomputable def rent : List Str → Option Ent
  | [k, a] => if k == S "undo" && dig a then some (.undo (val a)) else none
  | [k, a, b, c] => if k == S "clear" && (dig b && dig c) then some (.clear a (val b) (val c)) else none
  | [k, a, b, c, d] => if k == S "like" && (dig b && dig c) then some (.like a (val b) (val c) d) else if k == S "tell" && (dig b && (dig c && dig d)) then some (.tell a (val b) (val c) (val d)) else none
  | _ => none
section
variable {a b c e s : Str} {l : List Str}
theorem C5 : S "like" ≠ S "tell" := by decide +kernel
theorem bf {a b : Str} (h : a ≠ b) : (a == b) = false := beq_eq_false_iff_ne.mpr h
theorem rent_u : rent [S "undo", a] = if dig a then some (.undo (val a)) else none := by
  show (if (S "undo" == S "undo" && dig a) = true then some (Ent.undo (val a)) else none) = _
  rw [beq_self_eq_true, Bool.true_and]
theorem rent_c : rent [S "clear", a, b, c] = if dig b && dig c then some (.clear a (val b) (val c)) else none := by
  show (if (S "clear" == S "clear" && (dig b && dig c)) = true then some (Ent.clear a (val b) (val c)) else none) = _
  rw [beq_self_eq_true, Bool.true_and]
theorem rent_5 : rent [s, a, b, c, e] = if s == S "like" && (dig b && dig c) then some (.like a (val b) (val c) e) else if s == S "tell" && (dig b && (dig c && dig e)) then some (.tell a (val b) (val c) (val e)) else none := rfl
theorem rent_l : rent [S "like", a, b, c, e] = if dig b && dig c then some (.like a (val b) (val c) e) else none := by
  rw [rent_5, beq_self_eq_true, Bool.true_and, bf C5]
  cases dig b && dig c <;> rfl
theorem rent_t : rent [S "tell", a, b, c, e] = if dig b && (dig c && dig e) then some (.tell a (val b) (val c) (val e)) else none := by
  rw [rent_5, beq_self_eq_true, Bool.true_and, bf C5.symm]
  rfl
end
theorem rent_words (e : Ent) : rent e.words = some e := by
  cases e with
  | undo j => exact (rent_u (a := num j)).trans (by rw [Ja, Yx]; rfl)
  | clear nm lo hi => exact (rent_c (a := nm) (b := num lo) (c := num hi)).trans (by rw [Ja, Ja, Yx, Yx]; rfl)
  | like nm lo hi nm' => exact (rent_l (a := nm) (b := num lo) (c := num hi) (e := nm')).trans (by rw [Ja, Ja, Yx, Yx]; rfl)
  | tell nm lo hi v => exact (rent_t (a := nm) (b := num lo) (c := num hi) (e := num v)).trans (by rw [Ja, Ja, Ja, Yx, Yx, Yx]; rfl)
noncomputable def lineR (x : Str) : Option (Int × Ent) := match Txt.split x (S " ") with
  | w :: r => if lastS w == S ":" && dig (initS w) then (rent r).map fun e => (val (initS w), e) else none
  | [] => none
theorem A2 {k : Int} {e : Ent} (h : Okk k e) : lineR (rowS k e) = some (k, e) := by
  unfold lineR
  rw [Nv h]
  show (if lastS (num k ++ S ":") == S ":" && dig (initS (num k ++ S ":")) then (rent e.words).map fun e => (val (initS (num k ++ S ":")), e) else none) = _
  rw [last_kc, Bg, Ja, rent_words, Yx, beq_self_eq_true]; rfl
noncomputable def putB (B : Book) (k : Int) (e : Ent) : Book := if B.any (fun p => p.1 = k) then B.map (fun p => if p.1 = k then (p.1, e) else p) else B ++ [(k, e)]
theorem putB_mv (B : Book) (k : Int) (e : Ent) : putI (Book.mv B) k e.mv = Book.mv (putB B k e) := by
  unfold putI putB Book.mv
  rw [List.any_map]
  show (if B.any (fun p => p.1 = k) = true then _ else _) = _
  cases B.any (fun p => p.1 = k) with
  | true =>
    rw [if_pos rfl, if_pos rfl, List.map_map, List.map_map]
    exact List.map_congr_left fun p _ => by show (if p.1 = k then (p.1, e.mv) else (p.1, p.2.mv)) = (if p.1 = k then (p.1, e) else p).map id Ent.mv; split <;> rfl
  | false => simp
theorem putB_new {B : Book} {k : Int} {e : Ent} (h : ∀ p ∈ B, p.1 ≠ k) : putB B k e = B ++ [(k, e)] := by
  unfold putB
  rw [if_neg]
  intro q
  obtain ⟨p, hp, e⟩ := List.any_eq_true.mp q
  exact h p hp (of_decide_eq_true e)
theorem Bu {B : Book} {k : Int} {e : Ent} (h : B.keys.Nodup) : (putB B k e).keys.Nodup := by
  unfold putB Book.keys at *
  split
  · rw [List.map_map]
    have : B.map ((fun p => p.1) ∘ fun p => if p.1 = k then (p.1, e) else p) = B.map (·.1) := List.map_congr_left fun p _ => by show (if p.1 = k then (p.1, e) else p).1 = p.1; split <;> rfl
    rw [this]; exact h
  · rename_i q
    rw [List.map_append, List.nodup_append]
    refine ⟨h, by simp, fun a ha b hb => ?_⟩
    simp at hb
    obtain ⟨p, hp, rfl⟩ := List.mem_map.mp ha
    exact fun e' => q (List.any_eq_true.mpr ⟨p, hp, decide_eq_true (e'.trans hb)⟩)
theorem Bv {B : Book} {k : Int} {e : Ent} {p : Int × Ent} (h : p ∈ putB B k e) : p ∈ B ∨ p = (k, e) := by
  unfold putB at h
  split at h
  · obtain ⟨q, hq, rfl⟩ := List.mem_map.mp h
    split
    · rename_i e'; exact .inr (by rw [e'])
    · exact .inl hq
  · rcases List.mem_append.mp h with h | h
    · exact .inl h
    · exact .inr (by simpa using h)
theorem putB_len (B : Book) (k : Int) (e : Ent) : (putB B k e).length ≤ B.length + 1 := by
  unfold putB
  split
  · rw [List.length_map]; solve_by_elim (maxDepth := 3) only [*, Int.le_trans, Int.lt_of_lt_of_le, Int.lt_of_le_of_lt, Int.le_of_lt]
  · rw [List.length_append, List.length_singleton]; exact Nat.le_refl _
noncomputable def readL (B : Book) : List Str → Option Book
  | [] => some B
  | x :: r => match lineR x with
    | some p => readL (putB B p.1 p.2) r
    | none => none
noncomputable def Cont : Book → Int → List Str → Prop
  | [], _, [] => True
  | p :: B, last, x :: xs => x = rowS p.1 p.2 ∧ last < p.1 ∧ Okk p.1 p.2 ∧ Cont B p.1 xs
  | _, _, _ => False
theorem Cont.all : ∀ {B : Book} {last : Int} {xs : List Str}, Cont B last xs → ∀ p ∈ B, last < p.1 ∧ Okk p.1 p.2
  | [], _, _ => fun _ _ hp => nomatch hp
  | p :: B, last, [] => fun h _ _ => h.elim
  | p :: B, last, x :: xs => fun h q hq => by
    rcases List.mem_cons.mp hq with rfl | hq
    · exact ⟨h.2.1, h.2.2.1⟩
    · have := h.2.2.2.all q hq
      exact ⟨Int.lt_trans h.2.1 this.1, this.2⟩
theorem Cont.asc : ∀ {B : Book} {last : Int} {xs : List Str}, Cont B last xs → B.keys.Pairwise (· < ·)
  | [], _, _ => fun _ => .nil
  | p :: B, last, [] => fun h => h.elim
  | p :: B, last, x :: xs => fun h => by
    refine List.pairwise_cons.mpr ⟨fun k hk => ?_, h.2.2.2.asc⟩
    obtain ⟨q, hq, rfl⟩ := List.mem_map.mp hk
    exact (h.2.2.2.all q hq).1
theorem Cont.rows : ∀ {B : Book} {last : Int} {xs : List Str}, Cont B last xs → xs = B.map fun p => rowS p.1 p.2
  | [], _, [] => fun _ => rfl
  | [], _, _ :: _ => fun h => h.elim
  | p :: B, last, [] => fun h => h.elim
  | p :: B, last, x :: xs => fun h => by rw [List.map_cons, ← h.2.2.2.rows, h.1]
theorem Cont.read : ∀ {B : Book} {last : Int} {xs : List Str} {done : Book}, Cont B last xs → (∀ p ∈ done, p.1 ≤ last) → readL done xs = some (done ++ B)
  | [], _, [], done => fun _ _ => by rw [List.append_nil]; rfl
  | [], _, _ :: _, _ => fun h _ => h.elim
  | p :: B, last, [], _ => fun h _ => h.elim
  | p :: B, last, x :: xs, done => fun h hd => by
    unfold readL
    rw [h.1, A2 h.2.2.1]
    show readL (putB done p.1 p.2) xs = _
    have hl := h.2.1
    rw [putB_new fun q hq e => by have := hd q hq; lia, h.2.2.2.read (done := done ++ [(p.1, p.2)]) fun q hq => ?_, List.append_assoc]
    · rfl
    rcases List.mem_append.mp hq with hq | hq
    · have := hd q hq; lia
    · simp at hq; rw [hq]; exact Int.le_refl _
theorem V5 : ∀ {xs : List Str} {done F : Book}, readL done xs = some F → done.keys.Nodup → F.keys.Nodup
  | [], done, F => fun h hn => by cases h; exact hn
  | x :: xs, done, F => fun h hn => by
    unfold readL at h
    split at h
    · exact V5 h (Bu hn)
    · cases h
structure Good (B : Book) : Prop where
  len : B.length ≤ 30
  ok : ∀ p ∈ B, 1 ≤ p.1 ∧ Okk p.1 p.2
noncomputable def IsT (t : Str) (B : Book) : Prop := (t = S "" ∧ B = []) ∨ (t ≠ S "" ∧ Cont B 0 (Txt.split t (S "\n")) ∧ B.length ≤ 30)
theorem Cont.good {B : Book} {xs : List Str} (h : Cont B 0 xs) (hl : B.length ≤ 30) : Good B := ⟨hl, fun p hp => (h.all p hp).imp (fun q => by assumption) id⟩
theorem Gv {l : List Int} (h : l.Pairwise (· < ·)) : l.Nodup := h.imp fun q e => by lia
theorem asc_sort {l : List Int} (h : l.Pairwise (· < ·)) : sortI l = l := sortI_uniq (sortI_le l) (h.imp fun q => Int.le_of_lt q) (Nu l)
theorem atD_mem {B : Book} (hn : B.keys.Nodup) {p : Int × Ent} (hp : p ∈ B) : atD B p.1 = p.2 := by unfold atD; rw [Book.at_mem hn hp]; rfl
theorem rows_asc {B : Book} (h : B.keys.Pairwise (· < ·)) : rowsOf B = B.map fun p => rowS p.1 p.2 := by
  unfold rowsOf
  rw [asc_sort h]
  unfold Book.keys
  rw [List.map_map]
  exact List.map_congr_left fun p hp => by show rowS p.1 (atD B p.1) = _; rw [atD_mem (Gv h) hp]
theorem Cont.text {B : Book} {t : Str} (h : Cont B 0 (Txt.split t (S "\n"))) : textOf B = t := by
  unfold textOf
  rw [rows_asc h.asc, ← h.rows, Z0, StrLaws.join_split]
theorem R2 {F : Book} (hg : ∀ p ∈ F, 1 ≤ p.1 ∧ Okk p.1 p.2) {k : Int} (hk : k ∈ F.keys) : 1 ≤ k ∧ Okk k (atD F k) := hg _ (Book.at_some (Du hk))
theorem cont_map {F : Book} (hg : ∀ p ∈ F, 1 ≤ p.1 ∧ Okk p.1 p.2) : ∀ (ks : List Int) (last : Int), ks.Pairwise (· < ·) → (∀ k ∈ ks, k ∈ F.keys ∧ last < k) → Cont (ks.map fun k => (k, atD F k)) last (ks.map fun k => rowS k (atD F k))
  | [] => fun _ _ _ => trivial
  | k :: ks => fun last hp hk => by
    obtain ⟨h1, h2⟩ := List.pairwise_cons.mp hp
    have h3 := hk k (.head _)
    exact ⟨rfl, h3.2, (R2 hg h3.1).2, cont_map hg ks k h2 fun k' hk' => ⟨(hk k' (.tail _ hk')).1, h1 k' hk'⟩⟩
theorem rows_nl {F : Book} (hg : ∀ p ∈ F, 1 ≤ p.1 ∧ Okk p.1 p.2) : ∀ p ∈ rowsOf F, 10 ∉ p.cps.toList := fun p hp q => by
  obtain ⟨k, hk, rfl⟩ := List.mem_map.mp hp
  have := row_sg2 (R2 hg (Jb.mp hk)).2 q
  lia
theorem text_split {F : Book} (hg : ∀ p ∈ F, 1 ≤ p.1 ∧ Okk p.1 p.2) (hne : F ≠ []) : Txt.split (textOf F) (S "\n") = rowsOf F := by
  unfold textOf
  rw [Dx]
  refine Bp (fun q => hne ?_) (rows_nl hg)
  have := Oj F; rw [q] at this; exact List.eq_nil_of_length_eq_zero this.symm
theorem isT_of {F : Book} {t : Str} (ht : t ≠ S "") (hr : readL [] (Txt.split t (S "\n")) = some F) (hg : Good F) (he : textOf F = t) : IsT t F := by
  have hn := V5 hr .nil
  have hne : F ≠ [] := fun q => ht (by rw [← he, q]; decide +kernel)
  have hs := text_split hg.ok hne
  rw [he] at hs
  have hc : Cont (srt F) 0 (Txt.split t (S "\n")) := by
    rw [hs]
    exact cont_map hg.ok _ _ (sortI_lt hn) fun k hk => by
      have := Jb.mp hk
      exact ⟨this, by have := (R2 hg.ok this).1; assumption⟩
  have h2 := hc.read (done := []) fun p hp => nomatch hp
  rw [hr] at h2
  have e : F = srt F := Option.some.inj h2
  exact .inr ⟨ht, by rw [← e] at hc; exact hc, hg.len⟩
theorem IsT.read {t : Str} {B : Book} (ht : t ≠ S "") (h : IsT t B) : readL [] (Txt.split t (S "\n")) = some B ∧ Good B ∧ textOf B = t := by
  rcases h with ⟨q, _⟩ | ⟨_, hc, hl⟩
  · exact absurd q ht
  · exact ⟨hc.read (done := []) fun p hp => (nomatch hp), hc.good hl, hc.text⟩
theorem IsT.uniq {t : Str} {B B' : Book} (h : IsT t B) (h' : IsT t B') : B = B' := by
  by_cases ht : t = S ""
  · rcases h with ⟨_, rfl⟩ | ⟨q, _⟩
    · rcases h' with ⟨_, rfl⟩ | ⟨q, _⟩
      · rfl
      · exact absurd ht q
    · exact absurd ht q
  · have h1 := (h.read ht).1
    rw [(h'.read ht).1] at h1
    exact (Option.some.inj h1).symm
end Mine
end
section
namespace Mine
open PySem
noncomputable def RunLe (n : Nat) (l : List Nat) : Prop := ∀ a b c, l = a ++ b ++ c → 32 ∉ b → 10 ∉ b → b.length ≤ n
theorem RunLe.mono {n m : Nat} {l : List Nat} (h : RunLe n l) (hm : n ≤ m) : RunLe m l := fun a b c e h1 h2 => Nat.le_trans (h a b c e h1 h2) hm
theorem RunLe.len {n : Nat} {l : List Nat} (h : l.length ≤ n) : RunLe n l := fun a b c e _ _ => by
  rw [e, List.length_append, List.length_append] at h; lia
theorem RunLe.sub {n : Nat} {l m a c : List Nat} (h : RunLe n l) (e : l = a ++ m ++ c) : RunLe n m := fun a' b c' e' h1 h2 =>
  h (a ++ a') b (c' ++ c) (by rw [e, e']; simp only [List.append_assoc]) h1 h2
theorem cut2 {x y a b c : List Nat} (e : x ++ y = a ++ b ++ c) : (∃ z, x = a ++ b ++ z) ∨ (∃ z, y = z ++ b ++ c) ∨ ∃ p q, b = p ++ q ∧ x = a ++ p ∧ y = q ++ c := by
  rcases List.append_eq_append_iff.mp e with ⟨z, e1, e2⟩ | ⟨z, e1, e2⟩
  · rcases List.append_eq_append_iff.mp e1 with ⟨w, e3, e4⟩ | ⟨w, e3, e4⟩
    · exact .inr (.inr ⟨w, z, e4, e3, e2⟩)
    · exact .inr (.inl ⟨w, by rw [e2, e4]⟩)
  · exact .inl ⟨z, e1⟩
theorem RunLe.app {n m : Nat} {x y : List Nat} (hx : RunLe n x) (hy : RunLe m y) : RunLe (n + m) (x ++ y) := fun a b c e h1 h2 => by
  rcases cut2 e with ⟨z, q⟩ | ⟨z, q⟩ | ⟨p, q, rfl, e1, e2⟩
  · exact Nat.le_trans (hx a b z q h1 h2) (Nat.le_add_right _ _)
  · exact Nat.le_trans (hy z b c q h1 h2) (Nat.le_add_left _ _)
  · have a1 := hx a p [] (by rw [List.append_nil]; exact e1) (fun q => h1 (List.mem_append_left _ q)) fun q => h2 (List.mem_append_left _ q)
    have a2 := hy [] q c e2 (fun q => h1 (List.mem_append_right _ q)) fun q => h2 (List.mem_append_right _ q)
    rw [List.length_append]; lia
theorem RunLe.sep {n s : Nat} {x y : List Nat} (hx : RunLe n x) (hy : RunLe n y) (hs : s = 32 ∨ s = 10) : RunLe n (x ++ s :: y) := fun a b c e h1 h2 => by
  have hb : s ∉ b := by rcases hs with rfl | rfl <;> assumption
  rcases cut2 e with ⟨z, q⟩ | ⟨z, q⟩ | ⟨p, q, rfl, e1, e2⟩
  · exact hx a b z q h1 h2
  · cases z with
    | nil =>
      cases b with
      | nil => exact Nat.zero_le _
      | cons d b => cases q; exact absurd (.head _) hb
    | cons d z => cases q; exact hy z b c rfl h1 h2
  · cases q with
    | nil =>
      rw [List.append_nil] at h1 h2 ⊢
      exact hx a p [] (by rw [List.append_nil]; exact e1) h1 h2
    | cons d q => cases e2; exact absurd (List.mem_append_right _ (.head _)) hb
noncomputable def Asc (x : Str) : Prop := ∀ c ∈ x.cps.toList, c ≤ 127
theorem Asc.app {x y : Str} (hx : Asc x) (hy : Asc y) : Asc (x ++ y) := fun c hc => by
  rw [Y7] at hc
  rcases List.mem_append.mp hc with h | h
  · exact hx c h
  · exact hy c h
theorem Asc.ok {x : Str} (h : Asc x) : PyData.strOk x = true := V7 h
structure Pie (n : Nat) (x : Str) : Prop where
  asc : Asc x
  run : RunLe n x.cps.toList
theorem Pie.mono {n m : Nat} {x : Str} (h : Pie n x) (hm : n ≤ m) : Pie m x := ⟨h.asc, h.run.mono hm⟩
theorem Pie.app {n m : Nat} {x y : Str} (hx : Pie n x) (hy : Pie m y) : Pie (n + m) (x ++ y) := ⟨hx.asc.app hy.asc, by rw [Y7]; exact hx.run.app hy.run⟩
noncomputable def wid (l : List Str) : Nat := (l.map fun p => p.length + 1).sum
theorem Bb (a b : List Str) : wid (a ++ b) = wid a + wid b := by unfold wid; rw [List.map_append, List.sum_append]
theorem wid_take (l : List Str) (k : Nat) : wid (l.take k) ≤ wid l := by
  have := Bb (l.take k) (l.drop k)
  rw [List.take_append_drop] at this; simp [*]
theorem wid_drop (l : List Str) (k : Nat) : wid (l.drop k) ≤ wid l := by
  have := Bb (l.take k) (l.drop k)
  rw [List.take_append_drop] at this; simp [*]
theorem Gy (l : List Str) : l.length ≤ wid l := by
  induction l with
  | nil => exact Nat.zero_le _
  | cons x l ih =>
    have : wid (x :: l) = x.length + 1 + wid l := by unfold wid; rw [List.map_cons, List.sum_cons]
    rw [this, List.length_cons]; lia
theorem Gx (l : List Str) : (l.map (·.length)).sum + l.length = wid l := by
  induction l with
  | nil => rfl
  | cons x l ih =>
    have : wid (x :: l) = x.length + 1 + wid l := by unfold wid; rw [List.map_cons, List.sum_cons]
    rw [this, List.map_cons, List.sum_cons, List.length_cons]; lia
structure Pcs (n N : Nat) (l : List Str) : Prop where
  pie : ∀ p ∈ l, Pie n p
  wid : wid l ≤ N
theorem Pcs.mono {n m N M : Nat} {l : List Str} (h : Pcs n N l) (hm : n ≤ m) (hN : N ≤ M) : Pcs m M l := ⟨fun p hp => (h.pie p hp).mono hm, Nat.le_trans h.wid hN⟩
theorem Pcs.app {n N M : Nat} {a b : List Str} (ha : Pcs n N a) (hb : Pcs n M b) : Pcs n (N + M) (a ++ b) := ⟨fun p hp => (List.mem_append.mp hp).elim (ha.pie p) (hb.pie p), by
  have := ha.wid; have := hb.wid; rw [Bb]; lia⟩
theorem Pcs.one {n : Nat} {p : Str} (h : Pie n p) : Pcs n (p.length + 1) [p] := ⟨fun q hq => by rw [List.mem_singleton.mp hq]; exact h, Nat.le_refl _⟩
theorem Pcs.take {n N : Nat} {l : List Str} (h : Pcs n N l) (k : Nat) : Pcs n N (l.take k) := ⟨fun p hp => h.pie p (List.mem_of_mem_take hp), Nat.le_trans (wid_take l k) h.wid⟩
theorem Pcs.drop {n N : Nat} {l : List Str} (h : Pcs n N l) (k : Nat) : Pcs n N (l.drop k) := ⟨fun p hp => h.pie p (List.mem_of_mem_drop hp), Nat.le_trans (wid_drop l k) h.wid⟩
theorem Cj {c : Nat} : ∀ {l : List Str}, l ≠ [] → (Str.join ⟨#[c]⟩ l).cps.toList.length + 1 = wid l
  | [] => fun h => absurd rfl h
  | [x] => fun _ => by rw [Jt, List.length_append, ← Xy]; rfl
  | x :: y :: l => fun _ => by
    rw [Jt, List.length_append, ← Xy]
    have := Cj (c := c) (l := y :: l) (by simp)
    show x.length + (c :: (Str.join ⟨#[c]⟩ (y :: l)).cps.toList).length + 1 = (x.length + 1) + wid (y :: l)
    rw [List.length_cons, this]; lia
theorem join_run {c n : Nat} (hc : c = 32 ∨ c = 10) : ∀ {l : List Str}, (∀ p ∈ l, RunLe n p.cps.toList) → RunLe n (Str.join ⟨#[c]⟩ l).cps.toList
  | [] => fun _ => .len (by show (S "").cps.toList.length ≤ n; rw [S_em]; exact Nat.zero_le _)
  | [x] => fun h => by rw [Jt]; show RunLe n (_ ++ []); rw [List.append_nil]; exact h x (.head _)
  | x :: y :: l => fun h => by
    rw [Jt]
    exact (h x (.head _)).sep (join_run hc fun p hp => h p (.tail _ hp)) hc
structure Tx (n N : Nat) (t : Str) : Prop where
  pie : Pie n t
  len : t.length ≤ N
theorem Ho (c : Nat) : (Str.join ⟨#[c]⟩ []).cps.toList.length = 0 := by show (S "").cps.toList.length = 0; rw [S_em]; rfl
theorem Pcs.join {n N c : Nat} {l : List Str} (h : Pcs n N l) (hc : c = 32 ∨ c = 10) : Tx n N (Txt.join ⟨#[c]⟩ l) := by
  rw [Z0]
  refine ⟨⟨fun d hd => ?_, join_run hc fun p hp => (h.pie p hp).run⟩, ?_⟩
  · rw [PyProof.Rows.mem_join] at hd
    rcases hd with ⟨x, hx, hd⟩ | ⟨_, hd⟩
    · exact (h.pie x hx).asc d hd
    · simp at hd; lia
  · rw [Xy]
    by_cases q : l = []
    · rw [q, Ho]; exact Nat.zero_le _
    · have := Cj (c := c) q
      have := h.wid; lia
theorem join_inf {c : Nat} : ∀ {l : List Str} {p : Str}, p ∈ l → ∃ a b, (Str.join ⟨#[c]⟩ l).cps.toList = a ++ p.cps.toList ++ b
  | [], _ => fun h => nomatch h
  | [x], p => fun h => by
    rw [Jt, List.mem_singleton.mp h]
    exact ⟨[], [], rfl⟩
  | x :: y :: l, p => fun h => by
    rw [Jt]
    rcases List.mem_cons.mp h with rfl | h
    · exact ⟨[], _, rfl⟩
    · obtain ⟨a, b, e⟩ := join_inf (c := c) h
      refine ⟨x.cps.toList ++ c :: a, b, ?_⟩
      show x.cps.toList ++ c :: (Str.join ⟨#[c]⟩ (y :: l)).cps.toList = _
      rw [e]; simp
theorem Px {c : Nat} {t p : Str} (h : p ∈ Txt.split t ⟨#[c]⟩) : ∃ a b, t.cps.toList = a ++ p.cps.toList ++ b := by
  have := join_inf (c := c) h
  rwa [StrLaws.join_split] at this
theorem Pie.split {n c : Nat} {t p : Str} (ht : Pie n t) (h : p ∈ Txt.split t ⟨#[c]⟩) : Pie n p := by
  obtain ⟨a, b, e⟩ := Px h
  exact ⟨fun d hd => ht.asc d (by rw [e]; exact List.mem_append_left _ (List.mem_append_right _ hd)), ht.run.sub e⟩
theorem Pw (c : Nat) (t : Str) : wid (Txt.split t ⟨#[c]⟩) = t.length + 1 := by
  have := Cj (c := c) (V3 t ⟨#[c]⟩)
  rw [StrLaws.join_split, ← Xy] at this
  exact this.symm
theorem Tx.split {n N c : Nat} {t : Str} (h : Tx n N t) : Pcs n (N + 1) (Txt.split t ⟨#[c]⟩) := ⟨fun p hp => h.pie.split hp, by
  have := h.len; rw [Pw]; exact Nat.succ_le_succ (by assumption)⟩
theorem Tx.word {n N : Nat} {t x w : Str} (h : Tx n N t) (hx : x ∈ Txt.split t (S "\n")) (hw : w ∈ Txt.split x (S " ")) : w.length ≤ n ∧ Asc w := by
  rw [Dx] at hx; rw [Dw] at hw
  have h1 := (h.pie.split hx).split hw
  refine ⟨?_, h1.asc⟩
  have h10 : 10 ∉ w.cps.toList := fun q => by
    obtain ⟨a, b, e⟩ := Px hw
    exact StrLaws.split_free t 10 x hx (by rw [e]; exact List.mem_append_left _ (List.mem_append_right _ q))
  rw [Xy]
  exact h1.run [] _ [] (by simp) (StrLaws.split_free x 32 w hw) h10
theorem Tx.line {n N : Nat} {t x : Str} (h : Tx n N t) (hx : x ∈ Txt.split t (S "\n")) : Tx n N x := by
  rw [Dx] at hx
  refine ⟨h.pie.split hx, ?_⟩
  obtain ⟨a, b, e⟩ := Px hx
  have := h.len
  rw [Xy] at this ⊢
  rw [e, List.length_append, List.length_append] at this; lia
theorem Tx.take {n N : Nat} {t : Str} (h : Tx n N t) (k : Nat) : Tx n N ⟨(t.cps.toList.take k).toArray⟩ := by
  have e : t.cps.toList = [] ++ t.cps.toList.take k ++ t.cps.toList.drop k := by simp
  refine ⟨⟨fun c hc => h.pie.asc c ?_, h.pie.run.sub e⟩, ?_⟩
  · rw [e]; exact List.mem_append_left _ (List.mem_append_right _ hc)
  · have := h.len
    rw [Xy] at this ⊢
    show (t.cps.toList.take k).length ≤ N
    rw [List.length_take]; lia
theorem Tx.drop {n N : Nat} {t : Str} (h : Tx n N t) (k : Nat) : Tx n N ⟨(t.cps.toList.drop k).toArray⟩ := by
  have e : t.cps.toList = t.cps.toList.take k ++ t.cps.toList.drop k ++ [] := by simp
  refine ⟨⟨fun c hc => h.pie.asc c ?_, h.pie.run.sub e⟩, ?_⟩
  · rw [e]; exact List.mem_append_left _ (List.mem_append_right _ hc)
  · have := h.len
    rw [Xy] at this ⊢
    show (t.cps.toList.drop k).length ≤ N
    rw [List.length_drop]; lia
theorem Tx.cut {n N i j : Nat} {t s : Str} (h : Tx n N t) (hs : Asc s) (hl : s.length ≤ 1) (hij : i ≤ j) : Tx (n + 1 + n) (N + 1) (⟨(t.cps.toList.take i).toArray⟩ ++ s ++ ⟨(t.cps.toList.drop j).toArray⟩) := by
  have h1 := h.take i
  have h2 := h.drop j
  refine ⟨(h1.pie.app ⟨hs, .len (by rw [← Xy]; exact hl)⟩).app h2.pie, ?_⟩
  have := h.len
  rw [Xx, Xx]
  rw [Xy] at this
  rw [Xy ⟨(t.cps.toList.take i).toArray⟩, Xy ⟨(t.cps.toList.drop j).toArray⟩]
  show (t.cps.toList.take i).length + s.length + (t.cps.toList.drop j).length ≤ _
  rw [List.length_take, List.length_drop]; omega
end Mine
end
section
namespace Mine
open PySem
variable {G : String → Option MV} {Γ : String → Option MFun}
theorem Yr {A B : Prop} (h : B) : if false = true then A else B := h
theorem Yj {A B : Prop} (h : A) : if true = true then A else B := h
theorem lb {a b : Nat} (h : Nat.ble a b = true) : a ≤ b := Nat.le_of_ble_eq_true h
section
variable {Φ : CallSpec} {X : MX} {fz : List Addr} {vars : MVars} {Q : MQ} {μ : MH} {R : MFlow → MVars → MH → Prop}
theorem Ye {f : BI} {e : ME} (h : ev G Φ X e fz vars (fun v μ' => biM fz f [v] Q μ') μ) : ev G Φ X (.bi f [e]) fz vars Q μ := h
theorem Kz {f : String} {e : ME} (h : ev G Φ X e fz vars (fun v μ' => Φ f [v] fz Q X μ') μ) : ev G Φ X (.call f [e]) fz vars Q μ := h
theorem Xn {op : BOp} {a b : ME} (h : ev G Φ X a fz vars (fun x μ' => ev G Φ X b fz vars (fun y μ'' => binM fz op x y Q μ'') μ') μ) : ev G Φ X (.bin op a b) fz vars Q μ := h
theorem Yi {i : Nat} {k : Int} {x v : MV} (hv : vars i = some x) (hx : idxM μ x (.int k) = some v) (h : Q v μ) : ev G Φ X (.idx (.var i) (.cint k)) fz vars Q μ := ⟨x, hv, v, hx, h⟩
theorem Bj {t : MT} {k : SK} {it : ME} {body : List MS} (h : ev G Φ X it fz vars (fun v μ' => ∃ src all, mkSrc k [v] = some src ∧ src.items μ' = some all ∧ fits all.length ∧ loopM t (fun vs F μ => exs G Φ X body (src.held ++ fz) vs F μ) R all vars μ') μ) : ex G Φ X (.for t k [it] body) fz vars R μ := h
theorem Yz {i : Nat} {e : ME} (h : ev G Φ X e fz vars (fun v μ' => R .next (setv vars i v) μ') μ) : ex G Φ X (.assign i e) fz vars R μ := h
theorem Yl {e : ME} (h : ev G Φ X e fz vars (fun v μ' => R (.ret v) vars μ') μ) : ex G Φ X (.ret e) fz vars R μ := h
end
theorem tst {A B : Prop} {t : Bool} (h1 : t = true → A) (h2 : t = false → B) : if t = true then A else B := by
  cases t with
  | true => exact h1 rfl
  | false => exact h2 rfl
noncomputable def EB : Ent → Prop
  | .undo j => Sml j
  | .clear nm lo hi => (nm.length ≤ 60 ∧ Asc nm) ∧ Sml lo ∧ Sml hi
  | .like nm lo hi nm' => (nm.length ≤ 60 ∧ Asc nm) ∧ Sml lo ∧ Sml hi ∧ nm'.length ≤ 60 ∧ Asc nm'
  | .tell nm lo hi v => (nm.length ≤ 60 ∧ Asc nm) ∧ Sml lo ∧ Sml hi ∧ Sml v
noncomputable def nameP : MV → Bool
  | .str s => decide (1 ≤ s.length) && decide (s.length ≤ 8) && s.cps.toList.all fun c => (S "abcdefghijklmnopqrstuvwxyz").cps.toList.contains c
  | _ => false
noncomputable def wholeP : MV → Int → Int → Bool
  | .int i, lo, hi => decide (lo ≤ i) && decide (i ≤ hi)
  | _, _, _ => false
structure Ks (G : String → Option MV) (Γ : String → Option MFun) : Prop where
  gm : G "MOST" = some (.int 30)
  gs : G "MOST_SIGNS" = some (.int 8)
  gd : G "MOST_DAY" = some (.int 1000000)
  gw : G "MOST_WORTH" = some (.int 1000000000)
  gl : G "LETTERS" = some (.str (S "abcdefghijklmnopqrstuvwxyz"))
  whole : Γ "is_whole" = some D6
  name : Γ "is_name" = some Gg
  day : Γ "is_day" = some f_is_day
  worth : Γ "is_worth" = some D5
  entry : Γ "is_entry" = some Df
  gf : G "FIGURES" = some (.str (S "0123456789"))
  need : Γ "need_book" = some Ax
  shown : Γ "shown" = some f_shown
  written : Γ "written" = some Ge
  number : Γ "number_in" = some Aw
  ein : Γ "entry_in" = some Dk
  read : Γ "read" = some f_read
  of : Γ "_law_of" = some Kw
  names : Γ "_law_names" = some K1
  lentry : Γ "_law_entry" = some Jd
  base : Γ "_law_base" = some Jw
  book : Γ "_law_book" = some Od
  text : Γ "_law_text" = some Cz
  bent : Γ "_law_bent" = some D4
  lnumber : Γ "_law_number" = some P9
  lname : Γ "_law_name" = some D3
  within : Γ "_law_within" = some P8
  lein : Γ "_law_entry_in" = some Vf
  due : Γ "_law_due" = some Gf
  ref : Γ "_law_refused" = some Ng
  law : Γ "law" = some f_law
section
variable {d : Nat} {fz : List Addr} {Q : MQ} {μ : MH}
theorem J6 (K : Ks G Γ) {i : Int} (hd : 1 ≤ d) (h : Q (.bool true) μ) : calls G Γ d "is_whole" [.int i] fz Q X0 μ :=
  Y3 K.whole rfl hd (seq ⟨_, rfl, true, rfl, true, rfl, Yj ⟨_, rfl, false, rfl, false, rfl, h⟩⟩)
theorem Dq {Φ : CallSpec} {vars : MVars} {es : ME} {lo hi i : Int} {k : Nat} (hv : vars k = some (.int i)) (he : ∀ Q : MQ, Q (.int hi) μ → ev G Φ X0 es fz vars Q μ) (h : Q (.bool (wholeP (.int i) lo hi)) μ) : evCmp G Φ X0 [.var k, es] [.le, .le] (.int lo) fz vars Q μ := by
  rw [Q0]
  refine ⟨_, hv, decide (lo ≤ i), rfl, ?_⟩
  change Q (.bool (decide (lo ≤ i) && decide (i ≤ hi))) μ at h
  by_cases q : lo ≤ i
  · rw [if_pos (decide_eq_true q), Q3]
    rw [decide_eq_true q, Bool.true_and] at h
    exact he _ ⟨_, rfl, h⟩
  · rw [if_neg (by rw [decide_eq_false q]; exact Bool.false_ne_true)]
    rw [decide_eq_false q, Bool.false_and] at h
    exact h
theorem Aq (K : Ks G Γ) {i : Int} (hd : 2 ≤ d) (h : Q (.bool (wholeP (.int i) 0 1000000)) μ) : calls G Γ d "is_day" [.int i] fz Q X0 μ :=
  Y3 K.day rfl (by first|exact dn hd rfl|exact dl hd rfl|omega) (seq ⟨_, rfl, J6 K (by first|exact dn hd rfl|exact dl hd rfl|omega) ⟨_, rfl, Yj (Dq rfl (fun Q hq => ⟨_, K.gd, hq⟩) h)⟩⟩)
theorem F7 (K : Ks G Γ) {i : Int} (hd : 2 ≤ d) (h : Q (.bool (wholeP (.int i) (-1000000000) 1000000000)) μ) : calls G Γ d "is_worth" [.int i] fz Q X0 μ :=
  Y3 K.worth rfl (by first|exact dn hd rfl|exact dl hd rfl|omega) (seq ⟨_, rfl, J6 K (by first|exact dn hd rfl|exact dl hd rfl|omega) ⟨_, rfl, Yj ⟨_, K.gw, Dq rfl (fun Q hq => ⟨_, K.gw, hq⟩) h⟩⟩⟩)
theorem chars_len {x : Str} (h : x.length ≤ 100) : fits (chars x).length := by
  unfold chars
  rw [List.length_map, ← Xy]; exact fit (by first|exact dn hd rfl|exact dl hd rfl|exact Nat.le_trans (by assumption) (by decide))
theorem H3 {c : Nat} {y : Str} : strIn (.str ⟨#[c]⟩) y = some (y.cps.toList.contains c) := by
  show (if (⟨#[c]⟩ : Str).length = 1 then some (y.cps.toList.contains c) else none) = _
  exact if_pos rfl
theorem G1 {Φ : CallSpec} {R : MFlow → MVars → MH → Prop} {y : Str} (hg : G "LETTERS" = some (.str y)) : ∀ (cs : List Nat) (V : MVars), (cs.all (fun c => y.cps.toList.contains c) = true → ∀ V', R .next V' μ) → (cs.all (fun c => y.cps.toList.contains c) = false → ∀ V', R (.ret (.bool false)) V' μ) →
    loopM (.one 1) (fun vs F μ => exs G Φ X0 [Nq] fz vs F μ) R (cs.map fun c => .str ⟨#[c]⟩) V μ
  | [] => fun V h1 _ => h1 rfl V
  | c :: cs => fun V h1 h2 => by
    rw [List.map_cons, Zn]
    have q' : cmpM .notin μ (.str ⟨#[c]⟩) (.str y) = some (!y.cps.toList.contains c) := by
      show (strIn (.str ⟨#[c]⟩) y).map (!·) = _
      rw [H3]; rfl
    refine ⟨_, rfl, seq (Y6 (Xi ⟨_, X8, _, hg, _, q', ?_⟩))⟩
    rw [List.all_cons] at h1 h2
    cases q : y.cps.toList.contains c with
    | true =>
      rw [q, Bool.true_and] at h1 h2
      exact Yr (G1 hg cs _ h1 h2)
    | false =>
      rw [q, Bool.false_and] at h2
      exact Yj (seq (Yl (h2 rfl _)))
theorem P1 (K : Ks G Γ) {s : Str} (hd : 1 ≤ d) (hl : s.length ≤ 60) (h : Q (.bool (nameP (.str s))) μ) : calls G Γ d "is_name" [.str s] fz Q X0 μ := by
  refine Y3 K.name rfl hd (seq (Y6 (Yp (Yn (U0 (Ql rfl ⟨true, rfl, Yr (Ze (Yn (evB_cmp2 (Ye (Ql rfl ⟨fit (by first|exact dn hd rfl|exact dl hd rfl|exact Nat.le_trans (by assumption) (by decide)), decide ((1 : Int) ≤ s.length), rfl, tst (fun q1 => ?_) fun q1 => ?_⟩)))))⟩))))))
  all_goals change Q (.bool (decide (1 ≤ s.length) && decide (s.length ≤ 8) && s.cps.toList.all fun c => (S "abcdefghijklmnopqrstuvwxyz").cps.toList.contains c)) μ at h
  · have q1 := of_decide_eq_true q1
    rw [decide_eq_true (show 1 ≤ s.length by exact Int.ofNat_le.mp (by assumption)), Bool.true_and] at h
    refine ⟨_, K.gs, decide ((s.length : Int) ≤ 8), rfl, ?_⟩
    by_cases q2 : s.length ≤ 8
    · rw [decide_eq_true (show (s.length : Int) ≤ 8 by exact Int.ofNat_le.mpr (by assumption))]
      rw [decide_eq_true q2, Bool.true_and] at h
      refine Yr (Yw (seq (Bj (Ql rfl ⟨.val (.str s), chars s, rfl, rfl, chars_len (by first|exact dn hd rfl|exact dl hd rfl|exact Nat.le_trans (by assumption) (by decide)), ?_⟩))))
      refine G1 K.gl s.cps.toList _ (fun q V' => ?_) fun q V' => ?_
      · rw [q] at h; exact seq h
      · rw [q] at h; exact h
    · rw [decide_eq_false (show ¬ (s.length : Int) ≤ 8 by lia)]
      rw [decide_eq_false q2, Bool.false_and] at h
      exact Yj (seq (Yl h))
  · have q1 := of_decide_eq_false q1
    rw [decide_eq_false (show ¬ 1 ≤ s.length by lia), Bool.false_and, Bool.false_and] at h
    exact Yj (seq (Yl h))
end
theorem ixn {μ : MH} {l : List MV} {k : Nat} {v : MV} (hl : l.length ≤ 100) (h : l[k]? = some v) : idxM μ (.tup l) (.int (k : Int)) = some v := by
  rw [i_tup (by first|exact dn hd rfl|exact dl hd rfl|exact Nat.le_trans (by assumption) (by decide))]
  unfold atI
  rw [if_pos (Int.natCast_nonneg k)]; exact h
theorem in_kinds {μ : MH} {s : Str} (h : s = S "tell" ∨ s = S "clear" ∨ s = S "like") : cmpM .notin μ (.str s) (.tup [.str (S "tell"), .str (S "clear"), .str (S "like")]) = some false := by
  have ht : deep μ 9 (.tup [.str (S "tell"), .str (S "clear"), .str (S "like")]) = some (.tuple [.str (S "tell"), .str (S "clear"), .str (S "like")]) := by simp [deep, List.mapM_cons, List.mapM_nil, J5, Z2, Jk]
  have hs : deep μ 9 (.str s) = some (.str s) := by rcases h with rfl | rfl | rfl <;> simp [deep, J5, Z2, Jk]
  show (anyT (deep μ 9 (.tup [.str (S "tell"), .str (S "clear"), .str (S "like")])) (deep μ 9 (.str s))).map (!·) = some false
  rw [ht, hs]
  rcases h with rfl | rfl | rfl <;> decide +kernel
noncomputable def midK (nm : Str) (lo hi : Int) : Bool := nameP (.str nm) && (wholeP (.int lo) 0 1000000 && (wholeP (.int hi) 0 1000000 && decide (lo ≤ hi)))
noncomputable def okE : Ent → Bool
  | .undo j => decide (j ≥ 1)
  | .clear nm lo hi => midK nm lo hi
  | .like nm lo hi nm' => midK nm lo hi && nameP (.str nm')
  | .tell nm lo hi v => midK nm lo hi && wholeP (.int v) (-1000000000) 1000000000
section
variable {Φ : CallSpec} {d : Nat} {fz : List Addr} {V : MVars} {R : MFlow → MVars → MH → Prop} {μ : MH} {r : List MS}
theorem Bi {s : Str} {l : List MV} (v0 : V 0 = some (.tup (.str s :: l))) (h1 : 1 ≤ l.length) (h2 : l.length ≤ 10) (h : exs G Φ X0 r fz V R μ) : exs G Φ X0 (Uk :: r) fz V R μ :=
  seq (Y6 (Yp (Yn (U0 (Ql v0 ⟨true, rfl, Yr (Yp (Xi ⟨_, v0, fit (by rw [List.length_cons]; exact Nat.lt_of_le_of_lt (by assumption) (by decide)), _, Xm, by
    rw [decide_eq_false (show ¬ (((MV.str s :: l).length : Nat) : Int) < 2 by rw [List.length_cons]; lia)]
    exact Yr (Ze (Yn (U0 ⟨_, v0, _, ixn (k := 0) (by rw [List.length_cons]; exact Nat.lt_of_le_of_lt (by assumption) (by decide)) rfl, true, rfl, Yr (Yw h)⟩)))⟩))⟩)))))
theorem It {s nm : Str} {lo hi : Int} {l : List MV} (v0 : V 0 = some (.tup (.str s :: .str nm :: .int lo :: .int hi :: l))) (h2 : l.length ≤ 7) (hs : cmpM .eq μ (.str s) (.str (S "undo")) = some false) (hk : s = S "tell" ∨ s = S "clear" ∨ s = S "like") (h : exs G Φ X0 r fz V R μ) : exs G Φ X0 (Uj :: Ui :: r) fz V R μ := by
  have hl : (MV.str s :: .str nm :: .int lo :: .int hi :: l).length ≤ 100 := by simp only [List.length_cons]; lia
  refine seq (Y6 (Xi ⟨_, v0, _, ixn (k := 0) hl rfl, false, hs, Yr (Yw (seq (Y6 (Yp (Xi ⟨_, v0, _, ixn (k := 0) hl rfl, fit (lb rfl), false, in_kinds hk, Yr (Ze (Xi ⟨_, v0, fit (by first|exact dn hd rfl|exact dl hd rfl|exact Nat.lt_of_lt_of_le (by assumption) (by decide)), _, Xm, ?_⟩))⟩)))))⟩))
  rw [decide_eq_false (show ¬ (((MV.str s :: .str nm :: .int lo :: .int hi :: l).length : Nat) : Int) < 4 by simp only [List.length_cons]; lia)]
  exact Yr (Yw h)
theorem Ir (K : Ks G Γ) {s nm : Str} {lo hi : Int} {l : List MV} (v0 : V 0 = some (.tup (.str s :: .str nm :: .int lo :: .int hi :: l))) (h2 : l.length ≤ 7) (hd : 2 ≤ d) (hn : nm.length ≤ 60) (h1 : midK nm lo hi = true → exs G (calls G Γ d) X0 r fz V R μ) (h0 : midK nm lo hi = false → R (.ret (.bool false)) V μ) : exs G (calls G Γ d) X0 (Uh :: r) fz V R μ := by
  have hl : (MV.str s :: .str nm :: .int lo :: .int hi :: l).length ≤ 100 := by simp only [List.length_cons]; lia
  unfold midK at h1 h0
  refine seq (Y6 (Yp (Yn (Zr ⟨_, v0, _, ixn (k := 1) hl rfl, P1 K (by first|exact dn hd rfl|exact dl hd rfl|omega) hn ⟨_, rfl, ?_⟩⟩))))
  cases q1 : nameP (.str nm) with
  | false => rw [q1] at h0; exact Yj (Yj (seq (Yl (h0 rfl))))
  | true =>
  rw [q1, Bool.true_and] at h0 h1
  refine Yr (Yp (Yn (Zr ⟨_, v0, _, ixn (k := 2) hl rfl, Aq K (by first|exact dn hd rfl|exact dl hd rfl|omega) ⟨_, rfl, ?_⟩⟩)))
  cases q2 : wholeP (.int lo) 0 1000000 with
  | false => rw [q2] at h0; exact Yj (Yj (seq (Yl (h0 rfl))))
  | true =>
  rw [q2, Bool.true_and] at h0 h1
  refine Yr (Yp (Yn (Zr ⟨_, v0, _, ixn (k := 3) hl rfl, Aq K (by first|exact dn hd rfl|exact dl hd rfl|omega) ⟨_, rfl, ?_⟩⟩)))
  cases q3 : wholeP (.int hi) 0 1000000 with
  | false => rw [q3] at h0; exact Yj (Yj (seq (Yl (h0 rfl))))
  | true =>
  rw [q3, Bool.true_and] at h0 h1
  refine Yr (Ze (Xi ⟨_, v0, _, ixn (k := 2) hl rfl, _, v0, _, ixn (k := 3) hl rfl, _, Xr, ?_⟩))
  by_cases q4 : lo ≤ hi
  · rw [decide_eq_false (show ¬ lo > hi by simp [*])]
    exact Yr (Yw (h1 (decide_eq_true q4)))
  · rw [decide_eq_true (show lo > hi by lia)]
    exact Yj (seq (Yl (h0 (decide_eq_false q4))))
end
theorem F8 {d : Nat} {fz : List Addr} {Q : MQ} {μ : MH} (K : Ks G Γ) {e : Ent} (hd : 3 ≤ d) (he : EB e) (h : Q (.bool (okE e)) μ) : calls G Γ d "is_entry" [e.mv] fz Q X0 μ := by
  refine Y3 K.entry rfl (by first|exact dn hd rfl|exact dl hd rfl|omega) ?_
  show exs G (calls G Γ (d - 1)) X0 [Uk, Uj, Ui, Uh, Po, Pn, Pm, Pl] _ _ _ _
  cases e with
  | undo j =>
    refine Bi rfl (lb rfl) (lb rfl) (seq (Y6 (Xi ⟨_, rfl, _, ix2_0, true, Ov, Yj (seq ?_)⟩)))
    exact ⟨_, rfl, fit (lb rfl), true, rfl, true, rfl, Yj ⟨_, rfl, _, ix2_1, J6 K (by first|exact dn hd rfl|exact dl hd rfl|omega) ⟨true, rfl, Yj ⟨_, rfl, _, ix2_1, _, rfl, h⟩⟩⟩⟩
  | clear nm lo hi =>
    refine Bi rfl (lb rfl) (lb rfl) (It rfl (lb rfl) Na (.inr (.inl rfl)) (Ir K rfl (lb rfl) (by first|exact dn hd rfl|exact dl hd rfl|omega) he.1.1 (fun q => ?_) fun q => ?_))
    · have h : Q (.bool (midK nm lo hi)) μ := h
      rw [q] at h
      exact seq (Y6 (Xi ⟨_, rfl, _, ix4_0, true, Cg, Yj (seq ⟨_, rfl, fit (lb rfl), true, rfl, h⟩)⟩))
    · have h : Q (.bool (midK nm lo hi)) μ := h
      rw [q] at h; exact h
  | like nm lo hi nm' =>
    refine Bi rfl (lb rfl) (lb rfl) (It rfl (lb rfl) Oy (.inr (.inr rfl)) (Ir K rfl (lb rfl) (by first|exact dn hd rfl|exact dl hd rfl|omega) he.1.1 (fun q => ?_) fun q => ?_))
    · have h : Q (.bool (midK nm lo hi && nameP (.str nm'))) μ := h
      rw [q] at h
      refine seq (Y6 (Xi ⟨_, rfl, _, G6, false, F5, Yr (Yw (seq (Y6 (Xi ⟨_, rfl, fit (lb rfl), false, rfl, Yr (Yw (seq ?_))⟩))))⟩))
      exact Y6 (Xi ⟨_, rfl, _, G6, false, Oz, Yr (Yw (seq ⟨_, rfl, _, ix5_4, P1 K (by first|exact dn hd rfl|exact dl hd rfl|omega) he.2.2.2.1 h⟩))⟩)
    · have h : Q (.bool (midK nm lo hi && nameP (.str nm'))) μ := h
      rw [q] at h; exact h
  | tell nm lo hi v =>
    refine Bi rfl (lb rfl) (lb rfl) (It rfl (lb rfl) Ow (.inl rfl) (Ir K rfl (lb rfl) (by first|exact dn hd rfl|exact dl hd rfl|omega) he.1.1 (fun q => ?_) fun q => ?_))
    · have h : Q (.bool (midK nm lo hi && wholeP (.int v) (-1000000000) 1000000000)) μ := h
      rw [q] at h
      refine seq (Y6 (Xi ⟨_, rfl, _, G6, false, F4, Yr (Yw (seq (Y6 (Xi ⟨_, rfl, fit (lb rfl), false, rfl, Yr (Yw (seq ?_))⟩))))⟩))
      exact Y6 (Xi ⟨_, rfl, _, G6, true, Ox, Yj (seq ⟨_, rfl, _, ix5_4, F7 K (by first|exact dn hd rfl|exact dl hd rfl|omega) h⟩)⟩)
    · have h : Q (.bool (midK nm lo hi && wholeP (.int v) (-1000000000) 1000000000)) μ := h
      rw [q] at h; exact h
end Mine
end
section
namespace Mine
open PySem
section
variable {μ : MH} {a b : Int} {x y : Str}
theorem s_eq (h : PyData.strOk x = true) : cmpM .eq μ (.str x) (.str x) = some true := by rw [Zb h h, beq_self_eq_true]
theorem c_nes (hx : PyData.strOk x = true) (hy : PyData.strOk y = true) : cmpM .ne μ (.str x) (.str y) = some (!(x == y)) := by
  have q : eqM μ (.str x) (.str y) = some (x == y) := Zb hx hy
  simp only [cmpM, q]; rfl
end
section
variable {G : String → Option MV} {Φ : CallSpec} {X : MX} {fz : List Addr} {vars : MVars} {Q : MQ} {μ : MH} {R : MFlow → MVars → MH → Prop}
theorem Yo {m : MM} {o e : ME} (h : ev G Φ X o fz vars (fun x μ' => mmKind m μ' x = true ∧ ev G Φ X e fz vars (fun v μ'' => methM fz m x [v] Q μ'') μ') μ) : ev G Φ X (.meth m o [e]) fz vars Q μ := h
theorem Xz {s : String} (h : Q (.str (S s)) μ) : ev G Φ X (.cstr s) fz vars Q μ := h
theorem Pp {i j : Nat} {x y v : MV} (hv : vars i = some x) (hj : vars j = some y) (hx : idxM μ x y = some v) (h : Q v μ) : ev G Φ X (.idx (.var i) (.var j)) fz vars Q μ := ⟨x, hv, y, hj, v, hx, h⟩
theorem ev_to {a : ME} {n : Int} (h : ev G Φ X a fz vars (fun x μ' => sliceM fz x .none (.int n) .none Q μ') μ) : ev G Φ X (.slice a .cnone (.cint n) .cnone) fz vars Q μ := h
theorem ev_fr {a : ME} {n : Int} (h : ev G Φ X a fz vars (fun x μ' => sliceM fz x (.int n) .none .none Q μ') μ) : ev G Φ X (.slice a (.cint n) .cnone .cnone) fz vars Q μ := h
theorem ev_nfr {a : ME} {n : Int} (h : ev G Φ X a fz vars (fun x μ' => ∃ i, MV.int n = .int i ∧ sliceM fz x (.int (-i)) .none .none Q μ') μ) : ev G Φ X (.slice a (.neg (.cint n)) .cnone .cnone) fz vars Q μ := h
theorem ev_nto {a : ME} {n : Int} (h : ev G Φ X a fz vars (fun x μ' => ∃ i, MV.int n = .int i ∧ sliceM fz x .none (.int (-i)) .none Q μ') μ) : ev G Φ X (.slice a .cnone (.neg (.cint n)) .cnone) fz vars Q μ := h
theorem x_ex {e : ME} (h : ev G Φ X e fz vars (fun _ μ' => R .next vars μ') μ) : ex G Φ X (.expr e) fz vars R μ := h
theorem x_si {o i e : ME} (h : ev G Φ X e fz vars (fun v μ₁ => ev G Φ X o fz vars (fun x μ₂ => ev G Φ X i fz vars (fun y μ₃ => setM fz x y v (fun μ₄ => R .next vars μ₄) μ₃) μ₂) μ₁) μ) : ex G Φ X (.setidx o i e) fz vars R μ := h
theorem st0 : (none : Option Int) ≠ some 0 := nofun
theorem ev_last {i : Nat} {p : Addr} {w : Str} {l : List MV} (hv : vars i = some (.ref p)) (hp : μ p = some (.list (.str w :: l))) (hl : l.length ≤ 90000) (hw : w.length ≤ 1000) (h : Q (.str (lastS w)) μ) : ev G Φ X (.slice (.idx (.var i) (.cint 0)) (.neg (.cint 1)) .cnone .cnone) fz vars Q μ :=
  ev_nfr (Yi hv (by rw [Zx hp (by rw [List.length_cons]; exact Nat.lt_of_le_of_lt (by assumption) (by decide))]; rfl) ⟨1, rfl, Je rfl rfl rfl st0 (fit (by first|exact dn hd rfl|exact dl hd rfl|exact Nat.le_trans (by assumption) (by decide))) h⟩)
theorem ev_init {i : Nat} {p : Addr} {w : Str} {l : List MV} (hv : vars i = some (.ref p)) (hp : μ p = some (.list (.str w :: l))) (hl : l.length ≤ 90000) (hw : w.length ≤ 1000) (h : Q (.str (initS w)) μ) : ev G Φ X (.slice (.idx (.var i) (.cint 0)) .cnone (.neg (.cint 1)) .cnone) fz vars Q μ :=
  ev_nto (Yi hv (by rw [Zx hp (by rw [List.length_cons]; exact Nat.lt_of_le_of_lt (by assumption) (by decide))]; rfl) ⟨1, rfl, Je rfl rfl rfl st0 (fit (by first|exact dn hd rfl|exact dl hd rfl|exact Nat.le_trans (by assumption) (by decide))) h⟩)
end
theorem iln {μ : MH} {l : List MV} {k : Nat} {p : Addr} {v : MV} (hp : μ p = some (.list l)) (hl : l.length ≤ 100000) (h : l[k]? = some v) : idxM μ (.ref p) (.int (k : Int)) = some v := by
  rw [Zx hp (by first|exact dn hd rfl|exact dl hd rfl|exact Nat.le_trans (by assumption) (by decide))]
  unfold atI
  rw [if_pos (Int.natCast_nonneg k)]; exact h
theorem Bw (l : List Nat) : pick l none (some 1) none = l.take 1 := by
  rw [Yh]
  show List.take (clipAt _ ((1 : Nat) : Int) - 0) (List.drop 0 _) = _
  rw [clipAt_nat, Nat.sub_zero, List.drop_zero, ← List.take_eq_take_min]
theorem Fv (l : List Nat) : pick l (some 1) none none = l.drop 1 := by
  cases l with
  | nil => rw [Bx]; rfl
  | cons c l => rw [Jl _ (by decide) (by rw [List.length_cons]; lia)]; rfl
theorem asc_take {w : Str} (h : Asc w) (n : Nat) : Asc ⟨(w.cps.toList.take n).toArray⟩ := fun c hc => h c (List.mem_of_mem_take hc)
theorem asc_body {w : Str} (h : Asc w) : Asc (bodyS w) := by
  unfold bodyS
  split
  · exact fun c hc => h c (List.mem_of_mem_drop hc)
  · exact h
theorem blen {w : Str} : (bodyS w).length ≤ w.length := by rw [Xy]; exact body_len w
theorem ok_em : PyData.strOk (S "") = true := by decide +kernel
theorem ok_mi : PyData.strOk (S "-") = true := by decide +kernel
theorem ok_col : PyData.strOk (S ":") = true := by decide +kernel
theorem clen {x : Str} (h : x.length ≤ 90000) : fits (chars x).length := by
  unfold chars
  rw [List.length_map, ← Xy]; exact fit (by first|exact dn hd rfl|exact dl hd rfl|exact Nat.le_trans (by assumption) (by decide))
section
variable {prog : Program} {w : World} {G : String → Option MV} {Γ : String → Option MFun} {h₀ : Heap} {mg mb : Str → Option Value} {C : Addr} {d : Nat} {fz : List Addr} {vars : MVars} {Q : MQ} {X : Value → MH → Prop} {μ : MH} {R : MFlow → MVars → MH → Prop}
theorem Oq (pg : PG prog w G Γ h₀ mg mb) {f : String} {fd : MFun} {vs : List MV} (hΓ : Γ f = some fd) (hn : vs.length = fd.n) (hd : 1 ≤ d) (h : MXS prog w h₀ C (d - 1) fd.body fz (args0 vs) (kz Q) X μ) : MXC prog w h₀ C d f vs fz Q X μ := by
  cases d with
  | zero => exact absurd hd (by decide)
  | succ d => exact mc_body pg hΓ hn h
theorem Jz (pg : PG prog w G Γ h₀ mg mb) {c : ME} {a b : List MS} (h : evB G (calls G Γ d) c fz vars (fun t μ' => if t then MXS prog w h₀ C d a fz vars R X μ' else MXS prog w h₀ C d b fz vars R X μ') μ) : MXT prog w h₀ C d (.ite c a b) fz vars R X μ := mt_ite pg h
theorem MXE.mono {e : ME} {Q' : MQ} (h : MXE prog w h₀ C d e fz vars Q X μ) (hq : ∀ v μ', Q v μ' → Q' v μ') : MXE prog w h₀ C d e fz vars Q' X μ := fun S x env outer s A E hx hA C i hE =>
  wpAny_mono (h S x env outer s A E hx hA C i hE) (fun v s₁ h₁ => by
    obtain ⟨mv, μ₁, hq₁, rv, r₁, g₁⟩ := h₁
    exact ⟨mv, μ₁, hq _ _ hq₁, rv, r₁, g₁⟩) fun _ _ e => e
theorem Z4 {f : String} {e : ME} (h : MXE prog w h₀ C d e fz vars (fun v μ' => MXC prog w h₀ C d f [v] fz Q X μ') X μ) : MXE prog w h₀ C d (.call f [e]) fz vars Q X μ :=
  Hi (Ym (h.mono fun v μ' q => Hh q))
theorem Hg {e : ME} {P : List MV → MH → Prop} (h : MXE prog w h₀ C d e fz vars (fun v μ' => P [v] μ') X μ) : MXL prog w h₀ C d [e] fz vars P X μ := Ym (h.mono fun v μ' q => Hh q)
theorem fig_loop {bk : String} {others : List String} {D : Addr} (pg : PG prog w G Γ h₀ mg mb) (Xc : Xcs h₀ mg mb bk "BadText" others C D) {y : Str} (hg : G "FIGURES" = some (.str y)) : ∀ (cs : List Nat) (V : MVars), (cs.all (fun c => y.cps.toList.contains c) = true → ∀ V', (∀ j, j ≠ 2 → V' j = V j) → R .next V' μ) → (cs.all (fun c => y.cps.toList.contains c) = false → X .none μ) →
    loopM (.one 2) (fun vs F μ => MXS prog w h₀ C d [Uo] fz vs F X μ) R (cs.map fun c => .str ⟨#[c]⟩) V μ
  | [] => fun V h1 _ => h1 rfl V fun _ _ => rfl
  | c :: cs => fun V h1 h2 => by
    rw [List.map_cons, Zn]
    have q' : cmpM .notin μ (.str ⟨#[c]⟩) (.str y) = some (!y.cps.toList.contains c) := by
      show (strIn (.str ⟨#[c]⟩) y).map (!·) = _
      rw [H3]; rfl
    refine ⟨_, rfl, Xk (Jz pg (Xi ⟨_, X8, _, hg, _, q', ?_⟩))⟩
    rw [List.all_cons] at h1 h2
    cases q : y.cps.toList.contains c with
    | true =>
      rw [q, Bool.true_and] at h1 h2
      exact Yr (Z7 (Z7 (fig_loop pg Xc hg cs _ (fun q V' hV => h1 q V' fun j hj => (hV j hj).trans (Qk hj)) h2)))
    | false =>
      rw [q, Bool.false_and] at h2
      exact Yj (Xk (Z9 pg Xc (h2 rfl)))
theorem Fw {bk : String} {others : List String} {D : Addr} (pg : PG prog w G Γ h₀ mg mb) (Xc : Xcs h₀ mg mb bk "BadText" others C D) (K : Ks G Γ) {x : Str} (hd : 1 ≤ d) (ha : Asc x) (hl : x.length ≤ 60) (hq : dig x = true → Q (.int (val x)) μ) (hx : dig x = false → X .none μ) : MXC prog w h₀ C d "number_in" [.str x] fz Q X μ := by
  refine Oq pg K.number rfl hd (Xk (On pg (Yz (Ql rfl (Xk (On pg (Y6 (Xi (ev_to (Ql rfl (Je rfl rfl rfl st0 (fit (by first|exact dn hd rfl|exact dl hd rfl|exact Nat.le_trans (by assumption) (by decide))) ⟨minus x, ?_, ?_⟩)))))))))))
  · rw [Bw]; exact Zb (asc_take ha 1).ok ok_mi
  have main : ∀ V : MVars, V 0 = some (.str x) → V 1 = some (.str (bodyS x)) → MXS prog w h₀ C (d - 1) [Nf, Nc, Nb] fz V (kz Q) X μ := fun V v0 v1 => by
    refine Xk (Jz pg (Xi (Ql v1 (Xz ⟨_, Zb (asc_body ha).ok ok_em, tst (fun q => ?_) fun q => ?_⟩))))
    · exact Xk (Z9 pg Xc (hx (by unfold dig; rw [q]; rfl)))
    refine Z7 (Xk (mt_for pg (N2 (Ql v1 ⟨.val (.str (bodyS x)), chars (bodyS x), rfl, rfl, clen (by have := blen (w := x); lia), ?_⟩))))
    have hd : dig x = figs (bodyS x) := by unfold dig; rw [q]; rfl
    rw [hd] at hq hx
    refine fig_loop pg Xc K.gf (bodyS x).cps.toList V (fun q' V' hV => ?_) hx
    refine Xk (On pg (Yl (Ye (Ql ((hV 0 (by decide)).trans v0) ⟨val x, val_int (hd.trans q') (by first|exact dn hd rfl|exact dl hd rfl|exact Nat.le_trans (by assumption) (by decide)), by exact Nat.le_trans (by assumption) (by decide), hq q'⟩))))
  refine tst (fun q => ?_) fun q => ?_
  · refine seq (Yz (ev_fr (Ql rfl (Je rfl rfl rfl st0 (fit (by first|exact dn hd rfl|exact dl hd rfl|exact Nat.le_trans (by assumption) (by decide))) ?_))))
    rw [Fv]
    (try dsimp only [kr0])
    refine Yw (main _ rfl ?_)
    unfold bodyS; rw [q]; rfl
  · (try dsimp only [kr0])
    refine Yw (main _ rfl ?_)
    unfold bodyS; rw [q]; rfl
end
end Mine
end
section
namespace Mine
open PySem
section
variable {a b c e s : Str} {l : List Str}
noncomputable def isK (w : String) (n : Nat) (s : Str) (l : List Str) : Bool := s == S w && decide (l.length + 1 = n)
theorem isK_f {w : String} {n : Nat} (h : isK w n s l = false) (hl : l.length + 1 = n) : (s == S w) = false := by
  unfold isK at h
  rw [decide_eq_true hl, Bool.and_true] at h; exact h
theorem rent_n (h1 : isK "undo" 2 s l = false) (h2 : isK "clear" 4 s l = false) (h3 : isK "like" 5 s l = false) (h4 : isK "tell" 5 s l = false) : rent (s :: l) = none := by
  match l with
  | [] => rfl
  | [a] =>
    show (if (s == S "undo" && dig a) = true then some (Ent.undo (val a)) else none) = _
    rw [isK_f h1 rfl]; rfl
  | [a, b] => rfl
  | [a, b, c] =>
    show (if (s == S "clear" && (dig b && dig c)) = true then some (Ent.clear a (val b) (val c)) else none) = _
    rw [isK_f h2 rfl]; rfl
  | [a, b, c, e] =>
    rw [rent_5, isK_f h3 rfl, isK_f h4 rfl]; rfl
  | _ :: _ :: _ :: _ :: _ :: _ => rfl
end
section
variable {G : String → Option MV} {Φ : CallSpec} {fz : List Addr} {V : MVars} {F : Bool → MH → Prop} {μ : MH}
theorem Iu {c : Addr} {s : Str} {w : String} {l : List Str} {n : Nat} (v0 : V 0 = some (.ref c)) (hc : μ c = some (.list ((s :: l).map .str))) (hl : l.length ≤ 90000) (hs : PyData.strOk s = true) (hw : PyData.strOk (S w) = true) (h : F (isK w n s l) μ) : evB G Φ (.and [(.cmp (.idx (.var 0) (.cint 0)) [.eq] [(.cstr w)]), (.cmp (.bi .len [(.var 0)]) [.eq] [(.cint (n : Int))])]) fz V F μ := by
  have hl' : ((s :: l).map MV.str).length ≤ 100000 := by rw [List.length_map, List.length_cons]; exact Nat.lt_of_le_of_lt (by assumption) (by decide)
  unfold isK at h
  refine evB_and (Xi (Yi v0 (iln (k := 0) hc hl' rfl) (Xz ⟨_, Zb hs hw, tst (fun q => ?_) fun q => ?_⟩)))
  · rw [q, Bool.true_and] at h
    refine evB_and1 (Xi (Ye (Ql v0 (Yg hc (fit hl') ⟨_, Y1, ?_⟩))))
    have e : ((((s :: l).map MV.str).length : Nat) : Int) == (n : Int) ↔ l.length + 1 = n := by rw [beq_iff_eq, List.length_map, List.length_cons]; lia
    rw [show (((((s :: l).map MV.str).length : Nat) : Int) == (n : Int)) = decide (l.length + 1 = n) from Bool.eq_iff_iff.mpr (by rw [decide_eq_true_iff]; exact e)]
    exact h
  · rw [q, Bool.false_and] at h
    exact h
end
theorem isK_t {w : String} {n : Nat} {s : Str} {l : List Str} (h : isK w n s l = true) : s = S w ∧ l.length + 1 = n := by
  unfold isK at h
  rw [Bool.and_eq_true, beq_iff_eq, decide_eq_true_iff] at h; exact h
theorem len1 {α : Type} {l : List α} (h : l.length + 1 = 2) : ∃ a, l = [a] := List.length_eq_one_iff.mp (by first|exact dn hd rfl|exact dl hd rfl|lia)
theorem len3 {α : Type} {l : List α} (h : l.length + 1 = 4) : ∃ a b c, l = [a, b, c] := by
  match l, h with
  | [a, b, c], _ => exact ⟨a, b, c, rfl⟩
theorem len4 {α : Type} {l : List α} (h : l.length + 1 = 5) : ∃ a b c d, l = [a, b, c, d] := by
  match l, h with
  | [a, b, c, d], _ => exact ⟨a, b, c, d, rfl⟩
section
variable {prog : Program} {w : World} {G : String → Option MV} {Γ : String → Option MFun} {h₀ : Heap} {mg mb : Str → Option Value} {C : Addr} {d : Nat} {fz : List Addr} {vars : MVars} {Q : MQ} {X : Value → MH → Prop} {μ : MH} {R : MFlow → MVars → MH → Prop}
theorem entry_in_mx {bk : String} {others : List String} {D : Addr} (pg : PG prog w G Γ h₀ mg mb) (Xc : Xcs h₀ mg mb bk "BadText" others C D) (K : Ks G Γ) {ws : List Str} {p : Addr} (hd : 2 ≤ d) (hc : μ p = some (.list (ws.map .str))) (hne : ws ≠ []) (hl : ws.length ≤ 90000) (hw : ∀ x ∈ ws, x.length ≤ 60 ∧ Asc x) (hq : ∀ e, rent ws = some e → Q e.mv μ) (hx : rent ws = none → X .none μ) : MXC prog w h₀ C d "entry_in" [.ref p] fz Q X μ := by
  cases ws with
  | nil => exact absurd rfl hne
  | cons s l =>
  rw [List.length_cons] at hl
  have hs := (hw s (.head _)).2.ok
  have num : ∀ {x : Str} {Q : MQ}, x ∈ s :: l → (dig x = true → Q (.int (val x)) μ) → (dig x = false → X .none μ) → MXC prog w h₀ C (d - 1) "number_in" [.str x] fz Q X μ := fun {x Q} hm h1 h2 => Fw pg Xc K (by first|exact dn hd rfl|exact dl hd rfl|omega) (hw x hm).2 (hw x hm).1 h1 h2
  refine Oq pg K.ein rfl (by first|exact dn hd rfl|exact dl hd rfl|omega) (Xk (Jz pg (Iu (n := 2) rfl hc (by first|exact dn hd rfl|exact dl hd rfl|exact Nat.le_of_lt (by assumption)) hs U4 (tst (fun q1 => ?_) fun q1 => ?_))))
  · obtain ⟨rfl, hk⟩ := isK_t q1
    obtain ⟨a, rfl⟩ := len1 hk
    rw [rent_u] at hq hx
    refine Xk (He (Op (Ym (Z5 pg (Xz (Hg (Z4 (Z5 pg (Yi rfl (iln (k := 1) hc (lb rfl) rfl) (num (by simp) (fun q => ⟨fit (lb rfl), hq (.undo (val a)) ?_⟩) fun q => hx ?_))))))))))
    · rw [q]; rfl
    · rw [q]; rfl
  refine Z7 (Xk (Jz pg (Iu (n := 4) rfl hc (by first|exact dn hd rfl|exact dl hd rfl|exact Nat.le_of_lt (by assumption)) hs Z2 (tst (fun q2 => ?_) fun q2 => ?_))))
  · obtain ⟨rfl, hk⟩ := isK_t q2
    obtain ⟨a, b, c, rfl⟩ := len3 hk
    rw [rent_c] at hq hx
    refine Xk (He (Op (Ym (Z5 pg (Xz (Ym (Z5 pg (Yi rfl (iln (k := 1) hc (lb rfl) rfl) (Ym (Z4 (Z5 pg (Yi rfl (iln (k := 2) hc (lb rfl) rfl) (num (by simp) (fun q => ?_) fun q => hx ?_)))))))))))))
    · refine Hg (Z4 (Z5 pg (Yi rfl (iln (k := 3) hc (lb rfl) rfl) (num (by simp) (fun q' => ⟨fit (lb rfl), hq (.clear a (val b) (val c)) ?_⟩) fun q' => hx ?_))))
      · rw [q, q']; rfl
      · rw [q, q']; rfl
    · rw [q]; rfl
  refine Z7 (Xk (Jz pg (Iu (n := 5) rfl hc (by first|exact dn hd rfl|exact dl hd rfl|exact Nat.le_of_lt (by assumption)) hs Jk (tst (fun q3 => ?_) fun q3 => ?_))))
  · obtain ⟨rfl, hk⟩ := isK_t q3
    obtain ⟨a, b, c, e, rfl⟩ := len4 hk
    rw [rent_l] at hq hx
    refine Xk (He (Op (Ym (Z5 pg (Xz (Ym (Z5 pg (Yi rfl (iln (k := 1) hc (lb rfl) rfl) (Ym (Z4 (Z5 pg (Yi rfl (iln (k := 2) hc (lb rfl) rfl) (num (by simp) (fun q => ?_) fun q => hx ?_)))))))))))))
    · refine Ym (Z4 (Z5 pg (Yi rfl (iln (k := 3) hc (lb rfl) rfl) (num (by simp) (fun q' => Hg (Z5 pg (Yi rfl (iln (k := 4) hc (lb rfl) rfl) ⟨fit (lb rfl), hq (.like a (val b) (val c) e) ?_⟩))) fun q' => hx ?_))))
      · rw [q, q']; rfl
      · rw [q, q']; rfl
    · rw [q]; rfl
  refine Z7 (Xk (Jz pg (Iu (n := 5) rfl hc (by first|exact dn hd rfl|exact dl hd rfl|exact Nat.le_of_lt (by assumption)) hs J5 (tst (fun q4 => ?_) fun q4 => ?_))))
  · obtain ⟨rfl, hk⟩ := isK_t q4
    obtain ⟨a, b, c, e, rfl⟩ := len4 hk
    rw [rent_t] at hq hx
    refine Xk (He (Op (Ym (Z5 pg (Xz (Ym (Z5 pg (Yi rfl (iln (k := 1) hc (lb rfl) rfl) (Ym (Z4 (Z5 pg (Yi rfl (iln (k := 2) hc (lb rfl) rfl) (num (by simp) (fun q => ?_) fun q => hx ?_)))))))))))))
    · refine Ym (Z4 (Z5 pg (Yi rfl (iln (k := 3) hc (lb rfl) rfl) (num (by simp) (fun q' => Hg (Z4 (Z5 pg (Yi rfl (iln (k := 4) hc (lb rfl) rfl) (num (by simp) (fun q'' => ⟨fit (lb rfl), hq (.tell a (val b) (val c) (val e)) ?_⟩) fun q'' => hx ?_))))) fun q' => hx ?_))))
      · rw [q, q', q'']; rfl
      · rw [q, q', q'']; rfl
      · rw [q, q']; rfl
    · rw [q]; rfl
  exact Z7 (Xk (Z9 pg Xc (hx (rent_n q1 q2 q3 q4))))
end
end Mine
end
section
namespace Mine
open PySem
variable {G : String → Option MV} {Γ : String → Option MFun}
noncomputable def Bdd (B : Book) : Prop := ∀ p ∈ B, Sml p.1 ∧ EB p.2
noncomputable def VP (v : MV) : Prop := (∃ i, v = .int i ∧ Sml i) ∨ ∃ s, v = .str s ∧ s.length ≤ 60 ∧ Asc s
theorem VP.i {i : Int} (h : Sml i) : VP (.int i) := .inl ⟨i, rfl, h⟩
theorem VP.s {s : Str} (h : s.length ≤ 60 ∧ Asc s) : VP (.str s) := .inr ⟨s, rfl, h⟩
theorem vp_undo : VP (.str (S "undo")) := .s ⟨by decide +kernel, by unfold Asc; decide +kernel⟩
theorem vp_clear : VP (.str (S "clear")) := .s ⟨by decide +kernel, by unfold Asc; decide +kernel⟩
theorem vp_like : VP (.str (S "like")) := .s ⟨by decide +kernel, by unfold Asc; decide +kernel⟩
theorem vp_tell : VP (.str (S "tell")) := .s ⟨by decide +kernel, by unfold Asc; decide +kernel⟩
theorem EB.parts {e : Ent} (h : EB e) : ∀ v ∈ e.parts, VP v := by
  cases e with
  | undo j => simp only [Ent.parts, List.forall_mem_cons]; exact ⟨vp_undo, .i h, by simp⟩
  | clear nm lo hi => simp only [Ent.parts, List.forall_mem_cons]; exact ⟨vp_clear, .s h.1, .i h.2.1, .i h.2.2, by simp⟩
  | like nm lo hi nm' => simp only [Ent.parts, List.forall_mem_cons]; exact ⟨vp_like, .s h.1, .i h.2.1, .i h.2.2.1, .s h.2.2.2, by simp⟩
  | tell nm lo hi v => simp only [Ent.parts, List.forall_mem_cons]; exact ⟨vp_tell, .s h.1, .i h.2.1, .i h.2.2.1, .i h.2.2.2, by simp⟩
noncomputable def undoB (k : Int) : Ent → Bool
  | .undo j => decide (j < k)
  | _ => true
noncomputable def goodB (k : Int) (e : Ent) : Bool := decide (1 ≤ k) && (okE e && undoB k e)
theorem Jm {s : Str} : nameP (.str s) = true ↔ NmOk s := by
  show (decide (1 ≤ s.length) && decide (s.length ≤ 8) && s.cps.toList.all fun c => (S "abcdefghijklmnopqrstuvwxyz").cps.toList.contains c) = true ↔ _
  rw [Bool.and_eq_true, Bool.and_eq_true, decide_eq_true_iff, decide_eq_true_iff, List.all_eq_true]
  unfold NmOk Low
  constructor
  · exact fun h => ⟨h.1.1, h.1.2, fun c hc => abc_iff.mp (h.2 c hc)⟩
  · exact fun h => ⟨⟨h.1, h.2.1⟩, fun c hc => abc_iff.mpr (h.2.2 c hc)⟩
theorem Yq {i lo hi : Int} : wholeP (.int i) lo hi = true ↔ lo ≤ i ∧ i ≤ hi := by
  show (decide (lo ≤ i) && decide (i ≤ hi)) = true ↔ _
  rw [Bool.and_eq_true, decide_eq_true_iff, decide_eq_true_iff]
theorem ne_cu : S "clear" ≠ S "undo" := by decide +kernel
theorem ne_lu : S "like" ≠ S "undo" := by decide +kernel
theorem ne_tu : S "tell" ≠ S "undo" := by decide +kernel
theorem ne_lc : S "like" ≠ S "clear" := by decide +kernel
theorem ne_tc : S "tell" ≠ S "clear" := by decide +kernel
theorem Ku {nm : Str} {lo hi : Int} : midK nm lo hi = true ↔ NmOk nm ∧ 0 ≤ lo ∧ lo ≤ hi ∧ hi ≤ 1000000 := by
  unfold midK
  rw [Bool.and_eq_true, Bool.and_eq_true, Bool.and_eq_true, Jm, Yq, Yq, decide_eq_true_iff]
  constructor
  · rintro ⟨a, b, c, d⟩; exact ⟨a, b.1, d, c.2⟩
  · rintro ⟨a, b, c, d⟩; exact ⟨a, ⟨b, by lia⟩, ⟨by lia, d⟩, c⟩
theorem good_iff {k : Int} {e : Ent} : goodB k e = true ↔ 1 ≤ k ∧ Okk k e := by
  unfold goodB
  rw [Bool.and_eq_true, Bool.and_eq_true, decide_eq_true_iff]
  refine and_congr_right fun _ => ?_
  cases e with
  | undo j => exact and_congr decide_eq_true_iff decide_eq_true_iff
  | clear nm lo hi => exact ⟨fun h => Ku.mp h.1, fun h => ⟨Ku.mpr h, rfl⟩⟩
  | like nm lo hi nm' =>
    refine ⟨fun h => ?_, fun h => ⟨Bool.and_eq_true_iff.mpr ⟨Ku.mpr ⟨h.1, h.2.2⟩, Jm.mpr h.2.1⟩, rfl⟩⟩
    have h := Bool.and_eq_true_iff.mp h.1
    have h1 := Ku.mp h.1
    exact ⟨h1.1, Jm.mp h.2, h1.2⟩
  | tell nm lo hi v =>
    refine ⟨fun h => ?_, fun h => ⟨Bool.and_eq_true_iff.mpr ⟨Ku.mpr ⟨h.1, h.2.1, h.2.2.1, h.2.2.2.1⟩, Yq.mpr h.2.2.2.2⟩, rfl⟩⟩
    have h := Bool.and_eq_true_iff.mp h.1
    have h1 := Ku.mp h.1
    exact ⟨h1.1, h1.2.1, h1.2.2.1, h1.2.2.2, Yq.mp h.2⟩
noncomputable def nb2 : ME := .or [(.not (.call "is_whole" [(.var 1)])), (.cmp (.var 1) [.lt] [(.cint 1)]), (.not (.call "is_entry" [(.idx (.var 0) (.var 1))]))]
noncomputable def nb3 : ME := .and [(.cmp (.idx (.idx (.var 0) (.var 1)) (.cint 0)) [.eq] [(.cstr "undo")]), (.cmp (.idx (.idx (.var 0) (.var 1)) (.cint 1)) [.ge] [(.var 1)])]
section
variable {d : Nat} {fz : List Addr} {μ : MH} {V : MVars} {F : Bool → MH → Prop} {b : Addr} {k : Int} {e : Ent}
theorem nb2_ev (K : Ks G Γ) (hd : 3 ≤ d) (v0 : V 0 = some (.ref b)) (v1 : V 1 = some (.int k)) (hx : idxM μ (.ref b) (.int k) = some e.mv) (he : EB e) (h : F (!(decide (1 ≤ k) && okE e)) μ) : evB G (calls G Γ d) nb2 fz V F μ := by
  refine Yp (Yn (Zr (Ql v1 (J6 K (by first|exact dn hd rfl|exact dl hd rfl|omega) ⟨true, rfl, Yr (Yp (Xi ⟨_, v1, _, Xm, ?_⟩))⟩))))
  by_cases q : 1 ≤ k
  · rw [decide_eq_true q, Bool.true_and] at h
    rw [decide_eq_false (show ¬ k < 1 by simp [*])]
    exact Yr (Ze (Yn (Zr ⟨_, v0, _, v1, _, hx, F8 K hd he ⟨_, rfl, h⟩⟩)))
  · rw [decide_eq_false q, Bool.false_and] at h
    rw [decide_eq_true (show k < 1 by lia)]
    exact Yj h
theorem nb3_ev {Φ : CallSpec} (v0 : V 0 = some (.ref b)) (v1 : V 1 = some (.int k)) (hx : idxM μ (.ref b) (.int k) = some e.mv) (h : F (!undoB k e) μ) : evB G Φ nb3 fz V F μ := by
  refine evB_and (Xi ⟨_, v0, _, v1, _, hx, ?_⟩)
  cases e with
  | undo j =>
    refine ⟨_, ix2_0, true, Ov, Yj (evB_and1 (Xi ⟨_, v0, _, v1, _, hx, _, ix2_1, _, v1, _, Xu, ?_⟩))⟩
    have e' : decide (j ≥ k) = !decide (j < k) := by
      by_cases q : j < k
      · rw [decide_eq_true q, decide_eq_false (by first|exact dn hd rfl|exact dl hd rfl|simp [*])]; rfl
      · rw [decide_eq_false q, decide_eq_true (by first|exact dn hd rfl|exact dl hd rfl|lia)]; rfl
    rw [e']; exact h
  | clear nm lo hi => exact ⟨_, ix4_0, false, Na, Yr h⟩
  | like nm lo hi nm' => exact ⟨_, G6, false, Oy, Yr h⟩
  | tell nm lo hi v => exact ⟨_, G6, false, Ow, Yr h⟩
end
theorem Dt {fz : List Addr} {Q : MQ} {μ : MH} {p : Addr} {l : List (Int × MV)} (h : μ p = some (.idict l)) (hf : l.length ≤ 100000) (hq : Q (.int l.length) μ) : biM fz .len [.ref p] Q μ := by
  show lenO (μ p) fun n => Q (.int n) μ
  rw [h]; exact ⟨fit hf, hq⟩
theorem ty_dict {μ : MH} {p : Addr} {l : List (Int × MV)} (h : μ p = some (.idict l)) : isTy μ .dict (.ref p) = some true := by
  show isTyO .dict (μ p) = _
  rw [h]; rfl
theorem look_p {B : Book} (hn : B.keys.Nodup) {p : Int × Ent} (hp : p ∈ B) : lookI (Book.mv B) p.1 = some p.2.mv := by rw [Book.look, Book.at_mem hn hp]; rfl
theorem Hn (B : Book) : (Book.mv B).map (fun kv => MV.int kv.1) = B.map fun p => .int p.1 := by unfold Book.mv; rw [List.map_map]; rfl
section
variable {prog : Program} {w : World} {h₀ : Heap} {mg mb : Str → Option Value} {C : Addr} {d : Nat} {fz : List Addr} {vars : MVars} {Q : MQ} {X : Value → MH → Prop} {μ : MH} {R : MFlow → MVars → MH → Prop}
theorem G0 {bk : String} {others : List String} {D b : Addr} {B : Book} (pg : PG prog w G Γ h₀ mg mb) (Xc : Xcs h₀ mg mb bk "BadBook" others C D) (K : Ks G Γ) (hd : 3 ≤ d) (hb : μ b = some (.idict (Book.mv B))) (hn : B.keys.Nodup) (hB : Bdd B) : ∀ (l : Book) (V : MVars), (∀ p ∈ l, p ∈ B) → V 0 = some (.ref b) → (l.all (fun p => goodB p.1 p.2) = true → ∀ V', V' 0 = some (.ref b) → R .next V' μ) → (l.all (fun p => goodB p.1 p.2) = false → X .none μ) →
    loopM (.one 1) (fun vs F μ => MXS prog w h₀ C d [Uq, Up] fz vs F X μ) R (l.map fun p => .int p.1) V μ
  | [] => fun V _ v0 h1 _ => h1 rfl V v0
  | p :: l => fun V hm v0 h1 h2 => by
    rw [List.map_cons, Zn]
    have hp := hm p (.head _)
    obtain ⟨hk, he⟩ := hB p hp
    have hx : idxM μ (.ref b) (.int p.1) = some p.2.mv := by rw [i_dict hb]; exact look_p hn hp
    replace v0 : setv V 1 (.int p.1) 0 = some (.ref b) := (Qk (by decide)).trans v0
    have v1 : setv V 1 (.int p.1) 1 = some (.int p.1) := X8
    refine ⟨_, rfl, ?_⟩
    generalize setv V 1 (.int p.1) = V at v0 v1 ⊢
    rw [List.all_cons] at h1 h2
    refine Xk (Jz pg (nb2_ev K hd v0 v1 hx he (tst (fun q => ?_) fun q => ?_)))
    · refine Xk (Z9 pg Xc (h2 ?_))
      have : goodB p.1 p.2 = false := by
        rw [Bool.not_eq_true'] at q
        unfold goodB; rw [← Bool.and_assoc, q]; rfl
      rw [this]; rfl
    rw [Bool.not_eq_false', Bool.and_eq_true] at q
    refine Z7 (Xk (Jz pg (nb3_ev v0 v1 hx (tst (fun q' => ?_) fun q' => ?_))))
    · refine Xk (Z9 pg Xc (h2 ?_))
      have : goodB p.1 p.2 = false := by
        rw [Bool.not_eq_true'] at q'
        unfold goodB; rw [q', Bool.and_false, Bool.and_false]
      rw [this]; rfl
    · have : goodB p.1 p.2 = true := by
        rw [Bool.not_eq_false'] at q'
        unfold goodB; rw [q.1, q.2, q']; rfl
      rw [this, Bool.true_and] at h1 h2
      exact Z7 (Z7 (G0 pg Xc K hd hb hn hB l V (fun p hp => hm p (.tail _ hp)) v0 h1 h2))
theorem need_mx {bk : String} {others : List String} {D b : Addr} {B : Book} (pg : PG prog w G Γ h₀ mg mb) (Xc : Xcs h₀ mg mb bk "BadBook" others C D) (K : Ks G Γ) (hd : 4 ≤ d) (hb : μ b = some (.idict (Book.mv B))) (hn : B.keys.Nodup) (hl : B.length ≤ 90000) (hB : Bdd B) (hq : Good B → ∀ v μ', Ext μ μ' → Q v μ') (hx : ¬ Good B → X .none μ) : MXC prog w h₀ C d "need_book" [.ref b] fz Q X μ := by
  have hl' : (Book.mv B).length ≤ 100000 := by rw [Book.mv_len]; exact Nat.le_trans (by assumption) (by decide)
  refine Oq pg K.need rfl (by first|exact dn hd rfl|exact dl hd rfl|omega) (Xk (Jz pg (Yp (Yn (U0 (Ql rfl ⟨true, ty_dict hb, Yr (Ze (Xi (Ye (Ql rfl (Dt hb hl' ⟨_, K.gm, _, Xr, tst (fun q => ?_) fun q => ?_⟩)))))⟩))))))
  · refine Xk (Z9 pg Xc (hx fun g => ?_))
    have := g.len
    have q := of_decide_eq_true q
    rw [Book.mv_len] at q; lia
  have q := of_decide_eq_false q
  rw [Book.mv_len] at q
  refine Z7 (Xk (mt_for pg (N2 (Ql rfl ⟨.val (.ref b), B.map fun p => .int p.1, rfl, by simp only [Src.items, items, itemsO, hb, Hn], fit (by rw [List.length_map]; exact Nat.le_trans (by assumption) (by decide)), ?_⟩))))
  have hgi : B.all (fun p => goodB p.1 p.2) = true ↔ ∀ p ∈ B, 1 ≤ p.1 ∧ Okk p.1 p.2 := by
    rw [List.all_eq_true]
    exact ⟨fun h p hp => good_iff.mp (h p hp), fun h p hp => good_iff.mpr (h p hp)⟩
  refine G0 pg Xc K (by first|exact dn hd rfl|exact dl hd rfl|omega) hb hn hB B _ (fun p hp => hp) rfl (fun g V' v0 => ?_) fun g => hx fun g' => ?_
  · exact Xk (On pg (Yl (Ye (Ql v0 (bi_dict_d hb ⟨fit hl', fun c hc _ => hq ⟨by lia, hgi.mp g⟩ _ _ (Ext.upd hc)⟩)))))
  · rw [hgi.mpr g'.ok] at g; cases g
end
theorem str_part {fz : List Addr} {Q : MQ} {μ : MH} {v : MV} (hv : VP v) (h : Q (.str (strOf v)) μ) : biM fz .str [v] Q μ := by
  rcases hv with ⟨i, rfl, h0⟩ | ⟨s, rfl, _⟩
  · exact ⟨h0.log, h⟩
  · exact h
theorem VP.len {v : MV} (h : VP v) : (strOf v).length ≤ 61 := by
  rcases h with ⟨i, rfl, h0⟩ | ⟨s, rfl, h1, _⟩
  · exact h0.len
  · exact Nat.le_succ_of_le h1
theorem EB.sum {e : Ent} (h : EB e) : (e.words.map (·.length)).sum ≤ 305 := by
  have h1 := Pu (l := e.words) (n := 61) fun x hx => by
    obtain ⟨v, hv, rfl⟩ := List.mem_map.mp hx
    exact (h.parts v hv).len
  have h2 := (Zh e).2
  lia
theorem EB.len {e : Ent} (h : EB e) : e.shown.length ≤ 310 := by
  unfold Ent.shown
  rw [Z0]
  have h1 := StrLaws.join_length_le (S " ") e.words
  have h2 := h.sum
  have h3 := (Zh e).2
  rw [Nt] at h1; lia
theorem shown_ev {Φ : CallSpec} {fz : List Addr} {V : MVars} {Q : MQ} {μ : MH} {e : Ent} {it : ME} {n : Nat} (he : EB e) (hi : ∀ Q : MQ, Q e.mv μ → ev G Φ X0 it fz V Q μ) (h : ∀ μ', Ext μ μ' → Q (.str e.shown) μ') : ev G Φ X0 (.meth .join (.cstr " ") [(.comp (.bi .str [(.var n)]) (.one n) .plain [it] [])]) fz V Q μ := by
  have hl := e.parts_len.2
  refine Yo (Xz ⟨rfl, Pq (hi _ ⟨.val e.mv, e.parts, by rw [e.mv_parts]; rfl, by rw [e.mv_parts]; rfl, fit (by first|exact dn hd rfl|exact dl hd rfl|exact Nat.le_trans (by assumption) (by decide)), ?_⟩)⟩)
  rw [show e.parts = e.parts.map id from (List.map_id _).symm]
  refine Iw id (fun _ => true) (fun v => .str (strOf v)) (fun v hv => ⟨_, rfl, fun F hF => hF, fun F hF => Ye (Ql X8 (str_part (he.parts v hv) hF))⟩) fun c hc _ => ?_
  refine ⟨_, e.words, Zw Qz, ?_, by rw [Nt]; decide, ?_, h _ (Ext.upd hc)⟩
  · rw [List.nil_append, List.filter_eq_self.mpr fun _ _ => rfl]
    have := Zt e.words
    unfold Ent.words at this
    rwa [List.map_map] at this
  · have := he.sum
    have := (Zh e).2
    lia
theorem shown_spec {d : Nat} {fz : List Addr} {Q : MQ} {μ : MH} {e : Ent} (K : Ks G Γ) (hd : 1 ≤ d) (he : EB e) (h : ∀ μ', Ext μ μ' → Q (.str e.shown) μ') : calls G Γ d "shown" [e.mv] fz Q X0 μ :=
  Y3 K.shown rfl hd (seq (Yl (shown_ev he (fun Q hq => Ql rfl hq) h)))
theorem Gn {Z : Type} {fz : List Addr} {t : MT} {vars : MVars} {T : MVars → (Bool → MH → Prop) → MH → Prop} {Bd : MVars → MQ → MH → Prop} {Q : MQ} {μ₁ : MH} (enc g : Z → MV) {zs : List Z} : ∀ {acc : List MV} {μ : MH}, Ext μ₁ μ →
    (∀ z ∈ zs, ∃ vars', bindT t (enc z) vars = some vars' ∧ ∀ μ, Ext μ₁ μ → (∀ F : Bool → MH → Prop, F true μ → T vars' F μ) ∧ ∀ F : MQ, (∀ μ', Ext μ μ' → F (g z) μ') → Bd vars' F μ) →
    (∀ c μ', Ext μ₁ μ' → μ' c = none → c ∉ fz → Q (.ref c) (upd μ' c (.list (acc ++ zs.map g)))) → compM fz t vars T Bd Q (zs.map enc) acc μ := by
  induction zs with
  | nil =>
    intro acc μ x _ h c hc hcz
    have := h c μ x hc hcz
    rw [List.map_nil, List.append_nil] at this
    exact this
  | cons z zs ih =>
    intro acc μ x hv h
    obtain ⟨vars', hb, hv'⟩ := hv z (.head _)
    refine ⟨vars', hb, (hv' μ x).1 _ ?_⟩
    rw [if_pos rfl]
    refine (hv' μ x).2 _ fun μ' x' => ih (x.trans x') (fun u hu => hv u (.tail _ hu)) fun c μ'' x'' hc hcz => ?_
    rw [List.append_assoc]
    exact h c μ'' x'' hc hcz
theorem row_ev {Φ : CallSpec} {fz : List Addr} {V : MVars} {Q : MQ} {μ : MH} {e : Ent} {k : Int} {n : Nat} {sh : ME} (hv : V n = some (.int k)) (hk : Sml k) (he : EB e) (hi : ∀ Q : MQ, (∀ μ', Ext μ μ' → Q (.str e.shown) μ') → ev G Φ X0 sh fz V Q μ) (h : ∀ μ', Ext μ μ' → Q (.str (rowS k e)) μ') : ev G Φ X0 (.bin .add (.bin .add (.bi .str [(.var n)]) (.cstr ": ")) sh) fz V Q μ := by
  have h1 : (Str.ofString (toString k)).length ≤ 61 := hk.len
  have h2 := he.len
  refine Xn (Xn (Ye (Ql hv ⟨hk.log, Xz ⟨fit (by rw [Iv]; lia), hi _ fun μ' x => ⟨fit (by rw [Xx, Iv]; lia), h μ' x⟩⟩⟩)))
theorem row_len2 {k : Int} {e : Ent} (hk : Sml k) (he : EB e) : (rowS k e).length ≤ 400 := by
  have := hk.len
  have := he.len
  unfold rowS
  rw [Xx, Xx, Iv]; lia
theorem atD_b {B : Book} (hB : Bdd B) {k : Int} (hk : k ∈ B.keys) : Sml k ∧ EB (atD B k) := hB _ (Book.at_some (Du hk))
theorem rows_sum {B : Book} (hB : Bdd B) (hl : B.length ≤ 40) : ((rowsOf B).map (·.length)).sum + (rowsOf B).length ≤ 2 ^ 20 := by
  have h1 := Pu (l := rowsOf B) (n := 400) fun x hx => by
    obtain ⟨k, hk, rfl⟩ := List.mem_map.mp hx
    have := atD_b hB (Jb.mp hk)
    exact row_len2 this.1 this.2
  rw [Oj] at h1 ⊢; lia
theorem keysI (B : Book) : (B.map fun p => MV.int p.1) = B.keys.map .int := by unfold Book.keys; rw [List.map_map]; rfl
theorem i_at {μ : MH} {b : Addr} {B : Book} {k : Int} (hb : μ b = some (.idict (Book.mv B))) (hk : k ∈ B.keys) : idxM μ (.ref b) (.int k) = some (atD B k).mv := by rw [i_dict hb, Book.look, Du hk]; rfl
theorem Gw {d : Nat} {fz : List Addr} {Q : MQ} {μ : MH} {b : Addr} {B : Book} (K : Ks G Γ) (hd : 2 ≤ d) (hB : Bdd B) (hl : B.length ≤ 30) (hb : μ b = some (.idict (Book.mv B))) (h : ∀ μ', Ext μ μ' → Q (.str (textOf B)) μ') : calls G Γ d "written" [.ref b] fz Q X0 μ := by
  have hkl := Ch B
  refine Y3 K.written rfl (by first|exact dn hd rfl|exact dl hd rfl|omega) (seq ⟨rfl, N2 (Pq (N2 ⟨_, rfl, mk_idict hb, mk_idict hb, ?_⟩))⟩)
  refine Gs (B.keys.map .int) B.keys rfl (by simp only [items, keysO, hb, Hn, keysI]) (Cr _) (by rw [List.length_map]; lia) fun s hs _ => ?_
  refine ⟨.val (.ref s), (sortI B.keys).map .int, rfl, by simp only [Src.items, items, itemsO, Qz], fit (by rw [List.length_map, Vp]; lia), ?_⟩
  refine Gn MV.int (fun k => .str (rowS k (atD B k))) Ext.refl (fun k hk => ⟨_, rfl, fun μ₁ x₁ => ⟨fun F hF => hF, fun F hF => ?_⟩⟩) fun c μ₁ x₁ hc _ => ?_
  · have hk := Jb.mp hk
    obtain ⟨b1, b2⟩ := atD_b hB hk
    exact row_ev X8 b1 b2 (fun Q hQ => Kz (Pp rfl X8 (i_at (x₁ _ _ (Ext.upd hs _ _ hb)) hk) (shown_spec K (by first|exact dn hd rfl|exact dl hd rfl|omega) b2 hQ))) hF
  · refine ⟨_, rowsOf B, Zw Qz, ?_, by rw [C4]; decide, rows_sum hB (by first|exact dn hd rfl|exact dl hd rfl|exact Nat.le_trans (by assumption) (by decide)), h _ (((Ext.upd hs).trans x₁).trans (Ext.upd hc))⟩
    rw [List.nil_append]
    have := Zt (rowsOf B)
    unfold rowsOf at this
    rwa [List.map_map] at this
end Mine
end
section
namespace Mine
open PySem
variable {G : String → Option MV} {Γ : String → Option MFun}
theorem ifS {α : Type} {b : Bool} {x y : α} (h : (if b then some x else none) = some y) : b = true ∧ x = y := by
  cases b with
  | false => cases h
  | true => exact ⟨rfl, Option.some.inj h⟩
theorem rent_eb {ws : List Str} {e : Ent} (h : rent ws = some e) (hw : ∀ x ∈ ws, x.length ≤ 60 ∧ Asc x) : EB e := by
  match ws, h with
  | [k, a], h =>
    obtain ⟨q, rfl⟩ := ifS h
    rw [Bool.and_eq_true] at q
    exact J4 q.2 (hw a (by simp)).1
  | [k, a, b, c], h =>
    obtain ⟨q, rfl⟩ := ifS h
    simp only [Bool.and_eq_true] at q
    exact ⟨hw a (by simp), J4 q.2.1 (hw b (by simp)).1, J4 q.2.2 (hw c (by simp)).1⟩
  | [k, a, b, c, d], h =>
    change (if k == S "like" && (dig b && dig c) then some (Ent.like a (val b) (val c) d) else if k == S "tell" && (dig b && (dig c && dig d)) then some (Ent.tell a (val b) (val c) (val d)) else none) = some e at h
    cases q : k == S "like" && (dig b && dig c) with
    | true =>
      rw [q] at h
      have h := Option.some.inj h
      subst h
      simp only [Bool.and_eq_true] at q
      exact ⟨hw a (by simp), J4 q.2.1 (hw b (by simp)).1, J4 q.2.2 (hw c (by simp)).1, hw d (by simp)⟩
    | false =>
      rw [q] at h
      obtain ⟨q, rfl⟩ := ifS (show (if k == S "tell" && (dig b && (dig c && dig d)) then some (Ent.tell a (val b) (val c) (val d)) else none) = some e from h)
      simp only [Bool.and_eq_true] at q
      exact ⟨hw a (by simp), J4 q.2.1 (hw b (by simp)).1, J4 q.2.2.1 (hw c (by simp)).1, J4 q.2.2.2 (hw d (by simp)).1⟩
theorem lineR_eq {x w0 : Str} {r : List Str} (h : Txt.split x (S " ") = w0 :: r) : lineR x = if lastS w0 == S ":" && dig (initS w0) then (rent r).map fun e => (val (initS w0), e) else none := by unfold lineR; rw [h]
theorem asc_last {x : Str} (h : Asc x) : Asc (lastS x) := fun c hc => h c (last_sub hc)
theorem asc_init {x : Str} (h : Asc x) : Asc (initS x) := fun c hc => h c (init_sub hc)
theorem putB_bdd {B : Book} {k : Int} {e : Ent} (h : Bdd B) (hk : Sml k) (he : EB e) : Bdd (putB B k e) := fun p hp => by
  rcases Bv hp with hp | rfl
  · exact h p hp
  · exact ⟨hk, he⟩
structure Ln (x : Str) : Prop where
  len : x.length ≤ 50000
  wd : ∀ w ∈ Txt.split x (S " "), w.length ≤ 60 ∧ Asc w
theorem Ln.cut {x : Str} (h : Ln x) : ∃ w0 r, Txt.split x (S " ") = w0 :: r ∧ (w0.length ≤ 60 ∧ Asc w0) ∧ (∀ w ∈ r, w.length ≤ 60 ∧ Asc w) ∧ r.length ≤ 60000 := by
  have h1 := h.wd
  have h2 := V3 x (S " ")
  have h3 := Gy (Txt.split x (S " "))
  rw [Dw, Pw, ← Dw] at h3
  have h4 := h.len
  cases q : Txt.split x (S " ") with
  | nil => exact absurd q h2
  | cons w0 r =>
    rw [q] at h1 h3
    rw [List.length_cons] at h3
    exact ⟨w0, r, rfl, h1 w0 (.head _), fun w hw => h1 w (.tail _ hw), by lia⟩
section
variable {prog : Program} {w : World} {h₀ : Heap} {mg mb : Str → Option Value} {C : Addr} {d : Nat} {fz : List Addr} {vars : MVars} {Q : MQ} {X : Value → MH → Prop} {μ : MH} {R : MFlow → MVars → MH → Prop}
theorem Fu {bk : String} {others : List String} {D c : Addr} {t : Str} {μ₁ : MH} (pg : PG prog w G Γ h₀ mg mb) (Xc : Xcs h₀ mg mb bk "BadText" others C D) (K : Ks G Γ) (hd : 3 ≤ d) (hc : μ₁ c = none) (hcz : c ∉ fz) : ∀ (xs : List Str) (done : Book) (V : MVars) (μ : MH), (∀ x ∈ xs, Ln x) → Bdd done → done.length + xs.length ≤ 90000 → V 0 = some (.str t) → V 1 = some (.ref c) → Ext μ₁ μ → μ c = some (.idict (Book.mv done)) →
    (∀ F V' μ', readL done xs = some F → Bdd F → F.length ≤ 90000 → V' 0 = some (.str t) → V' 1 = some (.ref c) → Ext μ₁ μ' → μ' c = some (.idict (Book.mv F)) → R .next V' μ') → (readL done xs = none → ∀ μ', X .none μ') →
    loopM (.one 2) (fun vs F μ => MXS prog w h₀ C d [Cx, O5, O4] fz vs F X μ) R (xs.map .str) V μ
  | [] => fun done V μ _ hB hl v0 v1 x₁ hm h1 _ => h1 done V μ rfl hB (by simpa using hl) v0 v1 x₁ hm
  | x :: xs => fun done V μ hx hB hl v0 v1 x₁ hm h1 h2 => by
    rw [List.map_cons, Zn]
    refine ⟨_, rfl, ?_⟩
    replace v0 : setv V 2 (.str x) 0 = some (.str t) := (Qk (by decide)).trans v0
    replace v1 : setv V 2 (.str x) 1 = some (.ref c) := (Qk (by decide)).trans v1
    have v2 : setv V 2 (.str x) 2 = some (.str x) := X8
    generalize setv V 2 (.str x) = V at v0 v1 v2 ⊢
    obtain ⟨w0, r, hs, hw0, hr, hrl⟩ := (hx x (.head _)).cut
    have hxl := (hx x (.head _)).len
    rw [List.length_cons] at hl
    have hline := lineR_eq hs
    have hrd : readL done (x :: xs) = match lineR x with | some p => readL (putB done p.1 p.2) xs | none => none := rfl
    have bad : lineR x = none → ∀ μ', X .none μ' := fun q => h2 (by rw [hrd, q])
    refine Xk (On pg (Yz (Yo (Ql v2 ⟨rfl, Xz ⟨Nt, fit (by first|exact dn hd rfl|exact dl hd rfl|lia), fun p hp _ => ?_⟩⟩))))
    rw [hs]
    have hpl : upd μ p (.list ((w0 :: r).map .str)) p = some (.list (.str w0 :: r.map .str)) := Qz
    have x₂ := x₁.trans (Ext.upd (o := .list ((w0 :: r).map .str)) hp)
    have hm₂ := Ext.upd (o := .list ((w0 :: r).map .str)) hp _ _ hm
    clear x₁ hm hp
    replace v0 : setv V 3 (.ref p) 0 = some (.str t) := (Qk (by decide)).trans v0
    replace v1 : setv V 3 (.ref p) 1 = some (.ref c) := (Qk (by decide)).trans v1
    have v3 : setv V 3 (.ref p) 3 = some (.ref p) := X8
    show MXS prog w h₀ C d [O5, O4] fz (setv V 3 (.ref p)) _ X (upd μ p (.list ((w0 :: r).map .str)))
    generalize setv V 3 (.ref p) = V at v0 v1 v3 ⊢
    generalize upd μ p (.list ((w0 :: r).map .str)) = μ₂ at hpl x₂ hm₂ ⊢
    have hll : (MV.str w0 :: r.map .str).length ≤ 100000 := by rw [List.length_cons, List.length_map]; exact Nat.lt_of_le_of_lt (by assumption) (by decide)
    refine Xk (Jz pg (Yp (Xi (Ye (Ql v3 (Yg hpl (fit hll) ⟨_, Xm, tst (fun q => ?_) fun q => ?_⟩))))))
    · have q := of_decide_eq_true q
      rw [List.length_cons, List.length_map] at q
      have : r = [] := List.eq_nil_of_length_eq_zero (by first|exact dn hd rfl|exact dl hd rfl|lia)
      refine Yj (Xk (Z9 pg Xc (bad ?_ _)))
      rw [hline, this]; split <;> rfl
    refine Ze (Xi (ev_last v3 hpl (by rw [List.length_map]; exact Nat.le_trans (by assumption) (by decide)) (by first|exact dn hd rfl|exact dl hd rfl|lia) (Xz ⟨_, c_nes (asc_last hw0.2).ok ok_col, tst (fun q' => ?_) fun q' => ?_⟩)))
    · refine Xk (Z9 pg Xc (bad ?_ _))
      rw [Bool.not_eq_true'] at q'
      rw [hline, q']; rfl
    rw [Bool.not_eq_false'] at q'
    rw [q', Bool.true_and] at hline
    have hr0 : r ≠ [] := fun e => by
      have q := of_decide_eq_false q
      rw [e] at q; exact q (show ((1 : Nat) : Int) < 2 by decide)
    refine Z7 (Xk (mt_setidx (Z4 (Z5 pg (ev_fr (Ql v3 (Vq rfl rfl rfl st0 hpl (fit hll) fun s hs' _ => ?_)))))))
    have hdr : pick (MV.str w0 :: r.map .str) (some 1) none none = r.map .str := by
      rw [Jl _ (by decide) (by rw [List.length_cons]; lia)]; rfl
    rw [hdr]
    have hsl : upd μ₂ s (.list (r.map .str)) s = some (.list (r.map .str)) := Qz
    have x₃ := x₂.trans (Ext.upd (o := .list (r.map .str)) hs')
    have hm₃ := Ext.upd (o := .list (r.map .str)) hs' _ _ hm₂
    have hp₃ := Ext.upd (o := .list (r.map .str)) hs' _ _ hpl
    generalize upd μ₂ s (.list (r.map .str)) = μ₃ at hsl x₃ hm₃ hp₃ ⊢
    refine entry_in_mx pg Xc K (by first|exact dn hd rfl|exact dl hd rfl|omega) hsl hr0 (by first|exact dn hd rfl|exact dl hd rfl|exact Nat.le_trans (by assumption) (by decide)) hr (fun e he => ?_) fun he => bad (by rw [hline, he]; split <;> rfl) _
    rw [he] at hline
    have hin := init_len w0
    refine Z5 pg (Ql v1 (Z4 (Z5 pg (ev_init v3 hp₃ (by rw [List.length_map]; exact Nat.le_trans (by assumption) (by decide)) (by first|exact dn hd rfl|exact dl hd rfl|lia) (Fw pg Xc K (by first|exact dn hd rfl|exact dl hd rfl|omega) (asc_init hw0.2) (by first|exact dn hd rfl|exact dl hd rfl|lia) (fun qd => ?_) fun qd => bad (by rw [hline, qd]; rfl) _)))))
    rw [qd] at hline
    replace hline : lineR x = some (val (initS w0), e) := hline
    rw [hline] at hrd
    replace hrd : readL done (x :: xs) = readL (putB done (val (initS w0)) e) xs := hrd
    rw [hrd] at h1 h2
    refine Bq hm₃ hcz (fit (by rw [Book.mv_len]; lia)) ?_
    rw [putB_mv]
    have hpn := putB_len done (val (initS w0)) e
    refine Z7 ?_
    exact Fu pg Xc K hd hc hcz xs _ V _ (fun y hy => hx y (.tail _ hy)) (putB_bdd hB (J4 qd (by first|exact dn hd rfl|exact dl hd rfl|lia)) (rent_eb he hr)) (by first|exact dn hd rfl|exact dl hd rfl|lia) v0 v1 (fun a o q => by rw [Y8 (Y2 q hc)]; exact x₃ a o q) Qz h1 h2
theorem Tx.ln {t : Str} (h : Tx 60 50000 t) : ∀ x ∈ Txt.split t (S "\n"), Ln x := fun x hx => ⟨(h.line hx).len, fun w hw => h.word hx hw⟩
theorem Tx.count {t : Str} (h : Tx 60 50000 t) : (Txt.split t (S "\n")).length ≤ 60000 := by
  have h3 := Gy (Txt.split t (S "\n"))
  rw [Dx, Pw, ← Dx] at h3
  have := h.len; lia
theorem Nx {μ μ₁ : MH} {c : Addr} (x : Ext μ μ₁) (h : μ₁ c = none) : μ c = none := by
  cases q : μ c with
  | none => rfl
  | some o => rw [x _ _ q] at h; cases h
theorem text_ok {B : Book} (h : Good B) : PyData.strOk (textOf B) = true := V7 fun c hc => by
  unfold textOf at hc
  rw [Z0, PyProof.Rows.mem_join] at hc
  rcases hc with ⟨x, hx, hc⟩ | ⟨_, hc⟩
  · obtain ⟨k, hk, rfl⟩ := List.mem_map.mp hx
    have := row_sg2 (R2 h.ok (Jb.mp hk)).2 hc
    lia
  · rw [Dx] at hc; simp at hc; simp [*]
theorem read_mx {bk : String} {others oth2 : List String} {D C2 : Addr} (pg : PG prog w G Γ h₀ mg mb) (Xc : Xcs h₀ mg mb bk "BadText" others C D) (Xb : Xcs h₀ mg mb bk "BadBook" oth2 C2 D) (K : Ks G Γ) (hd : 5 ≤ d) {t : Str} (ht : Tx 60 50000 t)
    (hq : ∀ F c μ', IsT t F → Bdd F → Ext μ μ' → μ c = none → c ∉ fz → μ' c = some (.idict (Book.mv F)) → Q (.ref c) μ') (hx : (∀ F, ¬ IsT t F) → ∀ c μ', X c μ') : MXC prog w h₀ C d "read" [.str t] fz Q X μ := by
  refine Oq pg K.read rfl (by first|exact dn hd rfl|exact dl hd rfl|omega) (Xk (Jz pg (Yn (U0 (Ql rfl ⟨true, rfl, Yr (Z7 (Xk (On pg (Yz ?_))))⟩)))))
  intro c hc hcz
  show MXS prog w h₀ C (d - 1) [f_read_3, f_read_4, f_read_5, f_read_6, f_read_7] fz (setv (args0 [.str t]) 1 (.ref c)) (kz Q) X (upd μ c (.idict []))
  have v0 : setv (args0 [.str t]) 1 (.ref c) 0 = some (.str t) := rfl
  have v1 : setv (args0 [.str t]) 1 (.ref c) 1 = some (.ref c) := rfl
  generalize setv (args0 [.str t]) 1 (.ref c) = V at v0 v1 ⊢
  refine Xk (Jz pg (Xi (Ql v0 (Xz ⟨_, Zb ht.pie.asc.ok ok_em, tst (fun q => ?_) fun q => ?_⟩))))
  · exact Xk (On pg (Yl (Ql v1 (hq [] c _ (.inl ⟨eq_of_beq q, rfl⟩) (fun p hp => nomatch hp) (Ext.upd hc) hc hcz Qz))))
  have hne : t ≠ S "" := fun e => by rw [e, beq_self_eq_true] at q; cases q
  have htl := ht.len
  have hct := ht.count
  refine Z7 (Xk (mt_for pg (N2 (Yo (Ql v0 ⟨rfl, Xz ⟨C4, fit (by first|exact dn hd rfl|exact dl hd rfl|lia), fun p hp hpz => ?_⟩⟩)))))
  have hcp : c ≠ p := Y2 (o := .idict []) Qz hp
  have hp0 : μ p = none := Nx (Ext.upd hc) hp
  refine ⟨.val (.ref p), (Txt.split t (S "\n")).map .str, rfl, by simp only [Src.items, items, itemsO, Qz], fit (by rw [List.length_map]; exact Nat.le_trans (by assumption) (by decide)), ?_⟩
  refine Fu (μ₁ := upd μ p (.list ((Txt.split t (S "\n")).map .str))) (t := t) pg Xc K (by first|exact dn hd rfl|exact dl hd rfl|omega) (by rw [Y8 hcp]; exact hc) (by simp [Src.held, hcp, hcz]) _ [] V _ ht.ln (fun p hp => nomatch hp) (by simp; exact Nat.le_trans (by assumption) (by decide)) v0 v1 ?_ ?_ (fun F V' μ₁ hr hB hl v0 v1 x₁ hm => ?_) fun hr μ' => hx (fun F hF => by rw [(hF.read hne).1] at hr; cases hr) _ _
  · intro a o e
    by_cases q : a = p
    · subst q; rw [Qz] at e ⊢; exact e
    · rw [Y8 q] at e ⊢; exact Ext.upd hc _ _ e
  · rw [Y8 hcp, Qz]; rfl
  replace x₁ : Ext μ μ₁ := (Ext.upd hp0).trans x₁
  have no : (Good F → textOf F ≠ t) → ∀ c μ', X c μ' := fun h => hx fun F' hF' => by
    obtain ⟨a1, a2, a3⟩ := hF'.read hne
    rw [hr] at a1
    cases a1
    exact h a2 a3
  have hn := V5 hr .nil
  refine Xk (mt_try pg Xc Xb.gC Xb.cC (pg.fnAt K.need) v1 (need_mx pg Xb K (by first|exact dn hd rfl|exact dl hd rfl|omega) hm hn hl hB (fun g _ μ₂ x₂ => ?_) fun g => ⟨rfl, fun c' => no (fun g' => absurd g' g) _ _⟩))
  refine Xk (Jz pg (Xi (Kz (Ql v1 (Gw K (by first|exact dn hd rfl|exact dl hd rfl|omega) hB g.len (x₂ _ _ hm) fun μ₃ x₃ => Ql v0 ⟨_, c_nes (text_ok g) ht.pie.asc.ok, tst (fun q' => ?_) fun q' => ?_⟩)))))
  · refine Xk (Z9 pg Xc (no (fun _ e => ?_) _ _))
    rw [e, beq_self_eq_true] at q'; cases q'
  · rw [Bool.not_eq_false'] at q'
    refine Z7 (Xk (On pg (Yl (Ql v1 ?_))))
    exact hq F c μ₃ (isT_of hne hr g (eq_of_beq q')) hB ((x₁.trans x₂).trans x₃) hc hcz (x₃ _ _ (x₂ _ _ hm))
theorem read_other {bk : String} {others : List String} {D : Addr} (pg : PG prog w G Γ h₀ mg mb) (Xc : Xcs h₀ mg mb bk "BadText" others C D) (K : Ks G Γ) (hd : 1 ≤ d) {v : MV} (hv : isTy μ .str v = some false) (hx : X .none μ) : MXC prog w h₀ C d "read" [v] fz Q X μ :=
  Oq pg K.read rfl hd (Xk (Jz pg (Yn (U0 (Ql rfl ⟨false, hv, Yj (Xk (Z9 pg Xc hx))⟩)))))
end
end Mine
end
section
namespace Mine
open PySem
variable {G : String → Option MV} {Γ : String → Option MFun}
section
variable {Φ : CallSpec} {X : MX} {fz : List Addr} {vars : MVars} {Q : MQ} {μ : MH} {R : MFlow → MVars → MH → Prop}
theorem Pr {a b : ME} {op : COp} (h : ev G Φ X a fz vars (fun x μ₁ => ev G Φ X b fz vars (fun y μ₂ => ∃ t, cmpM op μ₂ x y = some t ∧ Q (.bool t) μ₂) μ₁) μ) : ev G Φ X (.cmp a [op] [b]) fz vars Q μ := h
theorem ev_sl1 {a lo : ME} (h : ev G Φ X a fz vars (fun x μ' => ev G Φ X lo fz vars (fun l μ₁ => sliceM fz x l .none .none Q μ₁) μ') μ) : ev G Φ X (.slice a lo .cnone .cnone) fz vars Q μ := h
theorem evs_two {f : String} {a b : ME} (h : ev G Φ X a fz vars (fun x μ₁ => ev G Φ X b fz vars (fun y μ₂ => Φ f [x, y] fz Q X μ₂) μ₁) μ) : ev G Φ X (.call f [a, b]) fz vars Q μ := h
theorem ev_ite {c a b : ME} (h : evB G Φ c fz vars (fun t μ' => if t then ev G Φ X0 a fz vars Q μ' else ev G Φ X0 b fz vars Q μ') μ) : ev G Φ X0 (.ite c a b) fz vars Q μ := h
theorem bi_intb {b : Bool} (h : Q (.int (if b then 1 else 0)) μ) : biM fz .int [.bool b] Q μ := h
theorem ev_nil (h : ∀ c, μ c = none → c ∉ fz → Q (.ref c) (upd μ c (.list []))) : ev G Φ X (.list []) fz vars Q μ := ⟨fit (Nat.zero_le _), h⟩
end
theorem nil_cmp {μ : MH} {p q : Addr} {ss : List Str} (hp : μ p = some (.list (ss.map .str))) (hq : μ q = some (.list [])) (ho : ∀ s ∈ ss, PyData.strOk s = true) : cmpM .eq μ (.ref p) (.ref q) = some ss.isEmpty ∧ cmpM .ne μ (.ref p) (.ref q) = some (!ss.isEmpty) := by
  have h1 : deep μ 9 (.ref p) = some (.list (ss.map PyData.str)) := by simp only [deep, Zw hp, Aj ho]; rfl
  have h2 : deep μ 9 (.ref q) = some (.list []) := by simp [deep, Zw hq]
  have h3 : eqM μ (.ref p) (.ref q) = some ss.isEmpty := by
    simp only [eqM, hp, hq, eqD, h1, h2]
    cases ss <;> simp [PyData.eqv, PyData.eqvAll]
  exact ⟨h3, by simp only [cmpM, h3]; rfl⟩
theorem sgn_ok {c : Nat} (h : c ≤ 127) : PyData.strOk ⟨#[c]⟩ = true := V7 fun d hd => by simp at hd; simp [*]
theorem odd_ev {Φ : CallSpec} {fz : List Addr} {V : MVars} {Q : MQ} {μ : MH} {x : Str} {y : String} {n m : Nat} (hv : V m = some (.str x)) (hl : x.length ≤ 90000) (h : ∀ c, μ c = none → c ∉ fz → Q (.ref c) (upd μ c (.list (((x.cps.toList.filter fun c => !(S y).cps.toList.contains c).map fun c => (⟨#[c]⟩ : Str)).map .str)))) :
    ev G Φ X0 (.comp (.var n) (.one n) .plain [(.var m)] [(.cmp (.var n) [.notin] [(.cstr y)])]) fz V Q μ := by
  refine Pq (Ql hv ⟨.val (.str x), chars x, rfl, rfl, clen hl, ?_⟩)
  refine Iw (fun c : Nat => .str ⟨#[c]⟩) (fun c => !(S y).cps.toList.contains c) (fun c => .str ⟨#[c]⟩) (fun c hc => ⟨_, rfl, fun F hF => ⟨_, X8, _, ?_, _, rfl, hF⟩, fun F hF => Ql X8 hF⟩) fun c hc hcz => ?_
  · show (strIn (.str ⟨#[c]⟩) (S y)).map (!·) = _
    rw [H3]; rfl
  · rw [List.nil_append]
    have := h c hc hcz
    rw [List.map_map] at this
    exact this
theorem odd_all {x y : Str} : ((x.cps.toList.filter fun c => !y.cps.toList.contains c).map fun c => (⟨#[c]⟩ : Str)).isEmpty = x.cps.toList.all fun c => y.cps.toList.contains c := by
  rw [List.isEmpty_map]
  induction x.cps.toList with
  | nil => rfl
  | cons c cs ih =>
    rw [List.filter_cons, List.all_cons]
    cases y.cps.toList.contains c with
    | true => exact ih
    | false => rfl
theorem odd_ok {x y : Str} (h : Asc x) : ∀ s ∈ ((x.cps.toList.filter fun c => !y.cps.toList.contains c).map fun c => (⟨#[c]⟩ : Str)), PyData.strOk s = true := fun s hs => by
  obtain ⟨c, hc, rfl⟩ := List.mem_map.mp hs
  exact sgn_ok (h c (List.mem_filter.mp hc).1)
noncomputable def numV (x : Str) : MV := if isNum x then .int (val x) else .none
theorem Z3 (i : Int) : numV (num i) = .int i := by unfold numV; rw [G9.mpr ⟨i, rfl⟩, Yx]; rfl
theorem Hd (x : Str) : numV x = .none ∨ ∃ i, numV x = .int i ∧ x = num i := by
  unfold numV
  cases q : isNum x with
  | false => exact .inl rfl
  | true =>
    obtain ⟨i, rfl⟩ := G9.mp q
    exact .inr ⟨i, by rw [Yx]; rfl, rfl⟩
theorem Um {d : Nat} {fz : List Addr} {Q : MQ} {μ : MH} (K : Ks G Γ) {x : Str} (hd : 1 ≤ d) (ha : Asc x) (hl : x.length ≤ 60) (h : ∀ μ', Ext μ μ' → Q (numV x) μ') : calls G Γ d "_law_number" [.str x] fz Q X0 μ := by
  have hb := asc_body ha
  have hbl := blen (w := x)
  refine Y3 K.lnumber rfl hd (seq (Yz (ev_sl1 (Ql rfl (Ye (Pr (ev_to (Ql rfl (Je rfl rfl rfl st0 (fit (by first|exact dn hd rfl|exact dl hd rfl|exact Nat.le_trans (by assumption) (by decide))) (Xz ⟨minus x, ?_, bi_intb (Je (x := x) (a := some (if minus x then 1 else 0)) rfl rfl rfl st0 (fit (by first|exact dn hd rfl|exact dl hd rfl|exact Nat.le_trans (by assumption) (by decide))) ?_)⟩))))))))))
  · rw [Bw]; exact Zb (asc_take ha 1).ok ok_mi
  have hbody : (⟨(pick x.cps.toList (some (if minus x then 1 else 0)) none none).toArray⟩ : Str) = bodyS x := by
    unfold bodyS
    cases minus x with
    | true => simp only [if_true]; rw [Fv]
    | false =>
      simp only [Bool.false_eq_true, if_false]
      rw [Jl _ (by decide) (Int.natCast_nonneg _)]; rfl
  rw [hbody]
  show exs G (calls G Γ (d - 1)) X0 [Vd, Vc, Vb] fz (setv (args0 [.str x]) 1 (.str (bodyS x))) (kz Q) μ
  have v0 : setv (args0 [.str x]) 1 (.str (bodyS x)) 0 = some (.str x) := rfl
  have v1 : setv (args0 [.str x]) 1 (.str (bodyS x)) 1 = some (.str (bodyS x)) := rfl
  generalize setv (args0 [.str x]) 1 (.str (bodyS x)) = V at v0 v1 ⊢
  have no : isNum x = false → ∀ μ', Ext μ μ' → Q .none μ' := fun q μ' x' => by
    have := h μ' x'
    unfold numV at this; rw [q] at this; exact this
  refine seq (Y6 (Yp (Xi (Ql v1 (Xz ⟨_, Zb hb.ok ok_em, tst (fun q => ?_) fun q => ?_⟩)))))
  · refine Yj (seq (Yl (no ?_ _ Ext.refl)))
    unfold isNum dig; rw [q]; rfl
  refine Ze (Xi (odd_ev v1 (by first|exact dn hd rfl|exact dl hd rfl|lia) fun c hc _ => ev_nil fun e he _ => ⟨_, (nil_cmp (Ext.upd he _ _ Qz) Qz (odd_ok hb)).2, ?_⟩))
  rw [odd_all]
  have x₂ := (Ext.upd (o := .list (((bodyS x).cps.toList.filter fun c => !(S "0123456789").cps.toList.contains c).map (fun c => (⟨#[c]⟩ : Str)) |>.map .str)) hc).trans (Ext.upd (o := .list []) he)
  generalize upd (upd μ c _) e _ = μ₂ at x₂ ⊢
  refine tst (fun q' => ?_) fun q' => ?_
  · refine seq (Yl (no ?_ _ x₂))
    rw [Bool.not_eq_true'] at q'
    unfold isNum dig figs; rw [q', Bool.and_false]; rfl
  rw [Bool.not_eq_false'] at q'
  have hdg : dig x = true := by unfold dig figs; rw [q, q']; rfl
  have hval := val_int hdg (by first|exact dn hd rfl|exact dl hd rfl|exact Nat.le_trans (by assumption) (by decide))
  have hsml := J4 hdg (by first|exact dn hd rfl|exact dl hd rfl|assumption)
  (try dsimp only [kr0])
  refine Yw (seq (Y6 (Xi (Ye (Ye (Ql v0 ⟨val x, hval, by exact Nat.le_trans (by assumption) (by decide), hsml.log, Ql v0 ⟨_, c_nes (V7 fun c hc => by have := num_sg hc; lia) ha.ok, tst (fun q2 => ?_) fun q2 => ?_⟩⟩))))))
  · refine seq (Yl (no ?_ _ x₂))
    rw [Bool.not_eq_true'] at q2
    unfold isNum; rw [q2, Bool.and_false]
  · rw [Bool.not_eq_false'] at q2
    (try dsimp only [kr0])
    refine Yw (seq (Yl (Ye (Ql v0 ⟨val x, hval, by exact Nat.le_trans (by assumption) (by decide), ?_⟩))))
    have := h _ x₂
    unfold numV isNum at this; rw [hdg, q2] at this; exact this
theorem N9 {d : Nat} {fz : List Addr} {Q : MQ} {μ : MH} (K : Ks G Γ) {x : Str} (hd : 1 ≤ d) (ha : Asc x) (hl : x.length ≤ 60) (h : ∀ μ', Ext μ μ' → Q (.bool (nameP (.str x))) μ') : calls G Γ d "_law_name" [.str x] fz Q X0 μ := by
  change ∀ μ', Ext μ μ' → Q (.bool (decide (1 ≤ x.length) && decide (x.length ≤ 8) && x.cps.toList.all fun c => (S "abcdefghijklmnopqrstuvwxyz").cps.toList.contains c)) μ' at h
  refine Y3 K.lname rfl hd (seq (Yl ?_))
  refine ⟨_, rfl, fit (by first|exact dn hd rfl|exact dl hd rfl|exact Nat.le_trans (by assumption) (by decide)), decide ((1 : Int) ≤ x.length), rfl, tst (fun q1 => ?_) fun q1 => ?_⟩
  · have q1 := of_decide_eq_true q1
    rw [decide_eq_true (show 1 ≤ x.length by exact Int.ofNat_le.mp (by assumption)), Bool.true_and] at h
    refine ⟨decide ((x.length : Int) ≤ 8), rfl, _, rfl, tst (fun q2 => ?_) fun q2 => ?_⟩
    · have q2 := of_decide_eq_true q2
      rw [decide_eq_true (show x.length ≤ 8 by exact Int.ofNat_le.mp (by assumption)), Bool.true_and] at h
      refine Pr (odd_ev rfl (by first|exact dn hd rfl|exact dl hd rfl|exact Nat.le_trans (by assumption) (by decide)) fun c hc _ => ev_nil fun e he _ => ⟨_, (nil_cmp (Ext.upd he _ _ Qz) Qz (odd_ok ha)).1, ?_⟩)
      rw [odd_all]
      exact h _ ((Ext.upd hc).trans (Ext.upd he))
    · have q2' := of_decide_eq_false q2
      rw [decide_eq_false (show ¬ x.length ≤ 8 by lia), Bool.false_and] at h
      rw [q2]
      exact h _ Ext.refl
  · have q1 := of_decide_eq_false q1
    rw [decide_eq_false (show ¬ 1 ≤ x.length by lia), Bool.false_and, Bool.false_and] at h
    exact ⟨false, rfl, h _ Ext.refl⟩
theorem Jx {d : Nat} {fz : List Addr} {Q : MQ} {μ : MH} (K : Ks G Γ) {v : MV} {lo hi : Int} (hd : 1 ≤ d) (hv : v = .none ∨ ∃ i, v = .int i) (h : Q (.bool (wholeP v lo hi)) μ) : calls G Γ d "_law_within" [v, .int lo, .int hi] fz Q X0 μ := by
  refine Y3 K.within rfl hd (seq (Yl ?_))
  rcases hv with rfl | ⟨i, rfl⟩
  · exact ⟨_, rfl, false, rfl, false, rfl, Yr h⟩
  · exact ⟨_, rfl, true, rfl, true, rfl, Yj ⟨_, rfl, Dq rfl (fun Q hq => ⟨_, rfl, hq⟩) h⟩⟩
end Mine
end
section
namespace Mine
open PySem
variable {G : String → Option MV} {Γ : String → Option MFun}
noncomputable def numI : MV → Int
  | .int i => i
  | _ => 0
noncomputable def midB (a b c : Str) : Bool := nameP (.str a) && (wholeP (numV b) 0 1000000 && wholeP (numV c) (numI (numV b)) 1000000)
noncomputable def lent5 (k a b c e : Str) : MV := if k == S "tell" then (if midB a b c && wholeP (numV e) (-1000000000) 1000000000 then .tup [.str k, .str a, numV b, numV c, numV e] else .none)
    else if k == S "like" && (midB a b c && nameP (.str e)) then .tup [.str k, .str a, numV b, numV c, .str e] else .none
noncomputable def lentV : List Str → Int → MV
  | [k, a], own => if k == S "undo" && wholeP (numV a) 1 (own - 1) then .tup [.str k, numV a] else .none
  | [k, a, b, c], _ => if k == S "clear" && midB a b c then .tup [.str k, .str a, numV b, numV c] else .none
  | [k, a, b, c, e], _ => lent5 k a b c e
  | _, _ => .none
section
variable {own : Int} {s a b c e : Str} {l : List Str}
theorem lent_u : lentV [S "undo", a] own = if wholeP (numV a) 1 (own - 1) then .tup [.str (S "undo"), numV a] else .none := by
  show (if S "undo" == S "undo" && wholeP (numV a) 1 (own - 1) then _ else _) = _
  rw [beq_self_eq_true, Bool.true_and]
theorem lent_c : lentV [S "clear", a, b, c] own = if midB a b c then .tup [.str (S "clear"), .str a, numV b, numV c] else .none := by
  show (if S "clear" == S "clear" && midB a b c then _ else _) = _
  rw [beq_self_eq_true, Bool.true_and]
theorem Hk : lentV [S "tell", a, b, c, e] own = if midB a b c && wholeP (numV e) (-1000000000) 1000000000 then .tup [.str (S "tell"), .str a, numV b, numV c, numV e] else .none := by
  show lent5 _ a b c e = _
  unfold lent5
  rw [beq_self_eq_true, if_pos rfl]
theorem Hl : lentV [S "like", a, b, c, e] own = if midB a b c && nameP (.str e) then .tup [.str (S "like"), .str a, numV b, numV c, .str e] else .none := by
  show lent5 _ a b c e = _
  unfold lent5
  rw [bf C5, beq_self_eq_true, Bool.true_and, if_neg Bool.false_ne_true]
theorem Vx (h1 : s = S "undo" → l.length ≠ 1) (h2 : s = S "clear" → l.length ≠ 3) (h3 : s = S "tell" → l.length ≠ 4) (h4 : s = S "like" → l.length ≠ 4) : lentV (s :: l) own = .none := by
  match l with
  | [] => rfl
  | [a] =>
    show (if s == S "undo" && wholeP (numV a) 1 (own - 1) then _ else _) = _
    rw [bf fun q => h1 q rfl]; rfl
  | [a, b] => rfl
  | [a, b, c] =>
    show (if s == S "clear" && midB a b c then _ else _) = _
    rw [bf fun q => h2 q rfl]; rfl
  | [a, b, c, e] =>
    show lent5 _ a b c e = _
    unfold lent5
    rw [bf fun q => h3 q rfl, bf fun q => h4 q rfl]; rfl
  | _ :: _ :: _ :: _ :: _ :: _ => rfl
end
theorem Oo {a : Str} {lo hi : Int} : midB a (num lo) (num hi) = true ↔ NmOk a ∧ 0 ≤ lo ∧ lo ≤ hi ∧ hi ≤ 1000000 := by
  unfold midB
  rw [Z3, Z3, Bool.and_eq_true, Bool.and_eq_true, Jm, Yq]
  show _ ∧ _ ∧ wholeP (.int hi) lo 1000000 = true ↔ _
  rw [Yq]
  constructor
  · rintro ⟨a, b, c⟩; exact ⟨a, b.1, c.1, c.2⟩
  · rintro ⟨a, b, c, d⟩; exact ⟨a, ⟨b, by lia⟩, c, d⟩
theorem Ce {own : Int} {e : Ent} (h : Okk own e) : lentV e.words own = e.mv := by
  cases e with
  | undo j =>
    show lentV [S "undo", num j] own = _
    rw [lent_u, Z3, Yq.mpr ⟨h.1, by have := h.2; lia⟩]; rfl
  | clear nm lo hi =>
    show lentV [S "clear", nm, num lo, num hi] own = _
    rw [lent_c, Oo.mpr h, Z3, Z3]; rfl
  | like nm lo hi nm' =>
    show lentV [S "like", nm, num lo, num hi, nm'] own = _
    rw [Hl, Oo.mpr ⟨h.1, h.2.2⟩, Jm.mpr h.2.1, Z3, Z3]; rfl
  | tell nm lo hi v =>
    show lentV [S "tell", nm, num lo, num hi, num v] own = _
    rw [Hk, Oo.mpr ⟨h.1, h.2.1, h.2.2.1, h.2.2.2.1⟩, Z3, Z3, Z3, Yq.mpr h.2.2.2.2]; rfl
theorem Vn {x : Str} {lo hi : Int} (h : wholeP (numV x) lo hi = true) : ∃ i, x = num i ∧ lo ≤ i ∧ i ≤ hi := by
  rcases Hd x with q | ⟨i, q, e⟩ <;> rw [q] at h
  · cases h
  · exact ⟨i, e, Yq.mp h⟩
theorem C9 {a b c : Str} (h : midB a b c = true) : ∃ lo hi, b = num lo ∧ c = num hi ∧ NmOk a ∧ 0 ≤ lo ∧ lo ≤ hi ∧ hi ≤ 1000000 := by
  have h' := h
  unfold midB at h'
  rw [Bool.and_eq_true, Bool.and_eq_true] at h'
  obtain ⟨lo, rfl, _⟩ := Vn h'.2.1
  obtain ⟨hi, rfl, _⟩ := Vn h'.2.2
  exact ⟨lo, hi, rfl, rfl, Oo.mp h⟩
theorem lent_some {ws : List Str} {own : Int} (h : lentV ws own ≠ .none) : ∃ e : Ent, ws = e.words ∧ Okk own e := by
  match ws, h with
  | [k, a], h =>
    by_cases q : k == S "undo" && wholeP (numV a) 1 (own - 1)
    · rw [Bool.and_eq_true, beq_iff_eq] at q
      obtain ⟨rfl, q⟩ := q
      obtain ⟨j, rfl, h1, h2⟩ := Vn q
      exact ⟨.undo j, rfl, h1, by omega⟩
    · exact absurd (if_neg q) h
  | [k, a, b, c], h =>
    by_cases q : k == S "clear" && midB a b c
    · rw [Bool.and_eq_true, beq_iff_eq] at q
      obtain ⟨rfl, q⟩ := q
      obtain ⟨lo, hi, rfl, rfl, r⟩ := C9 q
      exact ⟨.clear a lo hi, rfl, r⟩
    · exact absurd (if_neg q) h
  | [k, a, b, c, e], h =>
    by_cases q : k = S "tell"
    · subst q
      rw [Hk] at h
      by_cases q : midB a b c && wholeP (numV e) (-1000000000) 1000000000
      · rw [Bool.and_eq_true] at q
        obtain ⟨lo, hi, rfl, rfl, r1, r2, r3, r4⟩ := C9 q.1
        obtain ⟨v, rfl, r5, r6⟩ := Vn q.2
        exact ⟨.tell a lo hi v, rfl, r1, r2, r3, r4, r5, r6⟩
      · exact absurd (if_neg q) h
    · by_cases q' : k = S "like"
      · subst q'
        rw [Hl] at h
        by_cases q : midB a b c && nameP (.str e)
        · rw [Bool.and_eq_true] at q
          obtain ⟨lo, hi, rfl, rfl, r1, r2⟩ := C9 q.1
          exact ⟨.like a lo hi e, rfl, r1, Jm.mp q.2, r2⟩
        · exact absurd (if_neg q) h
      · exact absurd (Vx (s := k) (l := [a, b, c, e]) (fun _ => by simp) (fun _ => by simp) (fun e => absurd e q) fun e => absurd e q') h
theorem ev_tupc {Φ : CallSpec} {fz : List Addr} {V : MVars} {Q : MQ} {μ : MH} {s : String} {r : List ME} (h : evs G Φ X0 r fz V (fun vs μ' => fits (vs.length + 1) ∧ Q (.tup (.str (S s) :: vs)) μ') μ) : ev G Φ X0 (.tuple (.cstr s :: r)) fz V Q μ := h
theorem Gh {Φ : CallSpec} {fz : List Addr} {V : MVars} {Q : MQ} {μ : MH} {f : String} {args : List ME} {a b : ME} (h : evs G Φ X0 args fz V (fun vs μ' => Φ f vs fz (fun x μ' => ∃ t, truthy μ' x = some t ∧ if t then ev G Φ X0 a fz V Q μ' else ev G Φ X0 b fz V Q μ') X0 μ') μ) : ev G Φ X0 (.ite (.call f args) a b) fz V Q μ := h
noncomputable def kinds : List (Str × MV) := [(S "tell", .int 5), (S "clear", .int 4), (S "like", .int 5)]
theorem kind_t : lookI kinds (S "tell") = some (.int 5) := by simp [lookI, kinds]
theorem kind_c : lookI kinds (S "clear") = some (.int 4) := by simp [lookI, kinds, ne_tc]
theorem kind_l : lookI kinds (S "like") = some (.int 5) := by simp [lookI, kinds, C5.symm, ne_lc.symm]
theorem kind_n {s : Str} (h1 : s ≠ S "tell") (h2 : s ≠ S "clear") (h3 : s ≠ S "like") : lookI kinds s = none := by simp [lookI, kinds, h1.symm, h2.symm, h3.symm]
theorem ev_kinds {Φ : CallSpec} {fz : List Addr} {V : MVars} {Q : MQ} {μ : MH} (h : ∀ c, μ c = none → c ∉ fz → Q (.ref c) (upd μ c (.sdict kinds))) : ev G Φ X0 (.dict3 "tell" "clear" "like" 5 4 5) fz V Q μ := ⟨⟨ne_tc, C5.symm, ne_lc.symm⟩, h⟩
theorem in_kindsN {μ : MH} {u : Addr} {s : Str} (h : μ u = some (.sdict kinds)) : cmpM .notin μ (.str s) (.ref u) = some (!(lookI kinds s).isSome) := by
  show (inO μ u (.str s) (μ u)).map (!·) = _
  rw [h]; rfl
theorem ix_kinds {μ : MH} {u : Addr} {s : Str} (h : μ u = some (.sdict kinds)) : idxM μ (.ref u) (.str s) = lookI kinds s := by
  show idxO (μ u) (.str s) = _
  rw [h]; rfl
theorem Om (x : Str) : numV x = .none ∨ ∃ i, numV x = .int i := (Hd x).imp id fun ⟨i, h, _⟩ => ⟨i, h⟩
theorem ieq {n m : Nat} : ((n : Int) == (m : Int)) = decide (n = m) := Bool.eq_iff_iff.mpr (by rw [beq_iff_eq, decide_eq_true_iff]; lia)
section
variable {d : Nat} {fz : List Addr} {V : MVars} {R : MFlow → MVars → MH → Prop} {μ : MH} {own : Int} {p nn : Addr} {s a b c : Str} {l r : List Str}
theorem lein_u (K : Ks G Γ) (hd : 1 ≤ d) (v0 : V 0 = some (.ref p)) (v1 : V 1 = some (.int own)) (v2 : V 2 = some (.ref nn)) (hp : μ p = some (.list ((S "undo" :: l).map .str))) (hN : μ nn = some (.list ((S "undo" :: l).map numV))) (hl : l.length ≤ 90000) (h : R (.ret (lentV (S "undo" :: l) own)) V μ) : exs G (calls G Γ d) X0 [Jv, Ju] fz V R μ := by
  have hlen' : ((S "undo" :: l).map MV.str).length = l.length + 1 := by rw [List.length_map, List.length_cons]
  refine seq (Y6 (Yp (Xi (Ye (Ql v0 (Yg hp (fit (by first|exact dn hd rfl|exact dl hd rfl|lia)) ⟨_, Y4, ?_⟩))))))
  rw [hlen', show (((l.length + 1 : Nat) : Int) == 2) = decide (l.length + 1 = 2) from ieq]
  refine tst (fun q => Yj (seq (Yl ?_))) fun q => ?_
  · have q : ¬ l.length + 1 = 2 := of_decide_eq_false (by rw [Bool.not_eq_true'] at q; exact q)
    rw [Vx (fun _ e => q (by first|exact dn hd rfl|exact dl hd rfl|simp [*])) (fun e => absurd e.symm ne_cu) (fun e => absurd e.symm ne_tu) (fun e => absurd e.symm ne_lu)] at h
    exact h
  have q : l.length + 1 = 2 := of_decide_eq_true (by rw [Bool.not_eq_false'] at q; exact q)
  obtain ⟨a, rfl⟩ := len1 q
  rw [lent_u] at h
  refine Ze (Yn (Zr (Yi v2 (iln (k := 1) hN (lb rfl) rfl) ⟨_, v1, Jx K hd (Om a) ⟨_, rfl, ?_⟩⟩)))
  cases qw : wholeP (numV a) 1 (own - 1) with
  | false => rw [qw] at h; exact Yj (seq (Yl h))
  | true => rw [qw] at h; exact Yr (Yw (seq (Yl (ev_tupc (N2 (Yi v2 (iln (k := 1) hN (lb rfl) rfl) ⟨fit (lb rfl), h⟩))))))
noncomputable def KindOk (s : Str) (l : List Str) : Prop := (s = S "clear" ∧ ∃ a b c, l = [a, b, c]) ∨ ((s = S "tell" ∨ s = S "like") ∧ ∃ a b c e, l = [a, b, c, e])
theorem kinds_or (nu : s ≠ S "undo") (l : List Str) : (lookI kinds s = none ∧ lentV (s :: l) own = .none) ∨ ∃ n : Nat, lookI kinds s = some (.int (n : Int)) ∧ (l.length + 1 ≠ n → lentV (s :: l) own = .none) ∧ (l.length + 1 = n → KindOk s l) := by
  by_cases n1 : s = S "tell"
  · subst n1
    exact .inr ⟨5, kind_t, fun q => Vx (fun e => absurd e ne_tu) (fun e => absurd e ne_tc) (fun _ e => q (by first|exact dn hd rfl|exact dl hd rfl|simp [*])) (fun e => absurd e.symm C5), fun q => .inr ⟨.inl rfl, len4 q⟩⟩
  by_cases n2 : s = S "clear"
  · subst n2
    exact .inr ⟨4, kind_c, fun q => Vx (fun e => absurd e ne_cu) (fun _ e => q (by first|exact dn hd rfl|exact dl hd rfl|simp [*])) (fun e => absurd e.symm ne_tc) (fun e => absurd e.symm ne_lc), fun q => .inl ⟨rfl, len3 q⟩⟩
  by_cases n3 : s = S "like"
  · subst n3
    exact .inr ⟨5, kind_l, fun q => Vx (fun e => absurd e ne_lu) (fun e => absurd e ne_lc) (fun e => absurd e C5) (fun _ e => q (by first|exact dn hd rfl|exact dl hd rfl|simp [*])), fun q => .inr ⟨.inr rfl, len4 q⟩⟩
  exact .inl ⟨kind_n n1 n2 n3, Vx (fun e => absurd e nu) (fun e => absurd e n2) (fun e => absurd e n1) (fun e => absurd e n3)⟩
theorem KindOk.none (h : KindOk s l) : ∃ a b c r, l = a :: b :: c :: r ∧ (midB a b c = false → lentV (s :: l) own = .none) := by
  rcases h with ⟨rfl, a, b, c, rfl⟩ | ⟨rfl | rfl, a, b, c, e, rfl⟩
  · exact ⟨a, b, c, [], rfl, fun q => by rw [lent_c, q]; rfl⟩
  · exact ⟨a, b, c, [e], rfl, fun q => by rw [Hk, q]; rfl⟩
  · exact ⟨a, b, c, [e], rfl, fun q => by rw [Hl, q]; rfl⟩
theorem lein_t {u : Addr} {st : List MS} (K : Ks G Γ) (hd : 1 ≤ d) (nu : s ≠ S "undo") (v0 : V 0 = some (.ref p)) (v3 : V 3 = some (.ref u)) (hp : μ p = some (.list ((s :: l).map .str))) (hu : μ u = some (.sdict kinds)) (hl : l.length ≤ 90000) (hw : ∀ x ∈ s :: l, x.length ≤ 60 ∧ Asc x)
    (hno : lentV (s :: l) own = .none → ∀ μ', Ext μ μ' → R (.ret .none) V μ') (h : ∀ a b c r, l = a :: b :: c :: r → KindOk s l → nameP (.str a) = true → ∀ μ', Ext μ μ' → exs G (calls G Γ d) X0 st fz V R μ') : exs G (calls G Γ d) X0 (J3 :: st) fz V R μ := by
  have hlen : ((s :: l).map MV.str).length ≤ 100000 := by rw [List.length_map, List.length_cons]; exact Nat.lt_of_le_of_lt (by assumption) (by decide)
  have hlen' : ((s :: l).map MV.str).length = l.length + 1 := by rw [List.length_map, List.length_cons]
  refine seq (Y6 (Yp (Xi (Yi v0 (iln (k := 0) hp hlen rfl) (Ql v3 ⟨_, in_kindsN hu, ?_⟩)))))
  rcases kinds_or (own := own) nu l with ⟨q, hn⟩ | ⟨n, hn, hn0, hn1⟩
  · rw [q]; exact Yj (Yj (seq (Yl (hno hn _ Ext.refl))))
  rw [hn]
  refine Yr (Yp (Xi (Ye (Ql v0 (Yg hp (fit hlen) ⟨_, v3, _, v0, _, iln (k := 0) hp hlen rfl, _, (ix_kinds hu).trans hn, _, Y4, ?_⟩)))))
  rw [hlen', ieq]
  refine tst (fun q => Yj (seq (Yl (hno (hn0 (of_decide_eq_false (by rw [Bool.not_eq_true'] at q; exact q))) _ Ext.refl)))) fun q => ?_
  have hk := hn1 (of_decide_eq_true (by rw [Bool.not_eq_false'] at q; exact q))
  obtain ⟨a, b, c, r, rfl, hm⟩ := hk.none (own := own)
  have ha := hw a (by simp)
  refine Ze (Yn (Zr (Yi v0 (iln (k := 1) hp hlen rfl) (N9 K hd ha.2 ha.1 fun μ' x' => ⟨_, rfl, ?_⟩))))
  cases q1 : nameP (.str a) with
  | false => exact Yj (seq (Yl (hno (hm (by unfold midB; rw [q1]; rfl)) _ x')))
  | true => exact Yr (Yw (h a b c r rfl hk q1 μ' x'))
theorem lein_m {st : List MS} (K : Ks G Γ) (hd : 1 ≤ d) (v0 : V 0 = some (.ref p)) (v2 : V 2 = some (.ref nn)) (hp : μ p = some (.list ((s :: a :: b :: c :: r).map .str))) (hN : μ nn = some (.list ((s :: a :: b :: c :: r).map numV))) (hl : r.length ≤ 80000) (q1 : nameP (.str a) = true)
    (hno : midB a b c = false → R (.ret .none) V μ) (h : midB a b c = true → exs G (calls G Γ d) X0 st fz (setv V 4 (.tup [.str s, .str a, numV b, numV c])) R μ) : exs G (calls G Γ d) X0 (J2 :: J1 :: st) fz V R μ := by
  have hlen : ((s :: a :: b :: c :: r).map MV.str).length ≤ 100000 := by simp only [List.length_map, List.length_cons]; lia
  have hlN : ((s :: a :: b :: c :: r).map numV).length ≤ 100000 := by simp only [List.length_map, List.length_cons]; lia
  unfold midB at hno h
  rw [q1, Bool.true_and] at hno h
  refine seq (Y6 (Yp (Yn (Zr (Yi v2 (iln (k := 2) hN hlN rfl) (Jx K hd (Om b) ⟨_, rfl, ?_⟩))))))
  cases q2 : wholeP (numV b) 0 1000000 with
  | false => rw [q2] at hno; exact Yj (Yj (seq (Yl (hno rfl))))
  | true =>
  rw [q2, Bool.true_and] at hno h
  obtain ⟨lo, hb⟩ : ∃ lo, numV b = .int lo := by
    rcases Om b with e | e
    · rw [e] at q2; cases q2
    · exact e
  have hi : numI (numV b) = lo := by rw [hb]; rfl
  rw [hi] at hno h
  have hbx : ((s :: a :: b :: c :: r).map numV)[2]? = some (.int lo) := by rw [← hb]; rfl
  refine Yr (Ze (Yn (Zr (Yi v2 (iln (k := 3) hN hlN rfl) (Yi v2 (iln (k := 2) hN hlN hbx) (Jx K hd (Om c) ⟨_, rfl, ?_⟩))))))
  cases q3 : wholeP (numV c) lo 1000000 with
  | false => exact Yj (seq (Yl (hno q3)))
  | true => exact Yr (Yw (seq (Yz ⟨_, v0, _, iln (k := 0) hp hlen rfl, _, v0, _, iln (k := 1) hp hlen rfl, _, v2, _, iln (k := 2) hN hlN rfl, _, v2, _, iln (k := 3) hN hlN rfl, fit (lb rfl), h q3⟩)))
theorem lein_e (K : Ks G Γ) (hd : 1 ≤ d) (hk : KindOk s (a :: b :: c :: r)) (v0 : V 0 = some (.ref p)) (v2 : V 2 = some (.ref nn)) (v4 : V 4 = some (.tup [.str s, .str a, numV b, numV c])) (hp : μ p = some (.list ((s :: a :: b :: c :: r).map .str))) (hN : μ nn = some (.list ((s :: a :: b :: c :: r).map numV))) (hw : ∀ x ∈ s :: a :: b :: c :: r, x.length ≤ 60 ∧ Asc x) (hmid : midB a b c = true)
    (h : ∀ μ', Ext μ μ' → R (.ret (lentV (s :: a :: b :: c :: r) own)) V μ') : exs G (calls G Γ d) X0 [J0, Zz, Zy] fz V R μ := by
  rcases hk with ⟨rfl, a', b', c', e⟩ | ⟨hk, a', b', c', f, e⟩ <;> cases e
  · rw [lent_c, hmid] at h
    refine seq (Y6 (Xi (Yi v0 (iln (k := 0) hp (lb rfl) rfl) (Xz ⟨false, F6, Yr (Yw (seq ?_))⟩))))
    exact Y6 (Xi (Yi v0 (iln (k := 0) hp (lb rfl) rfl) (Xz ⟨false, (Zb Z2 Jk).trans (congrArg some (bf ne_lc.symm)), Yr (Yw (seq (Yl (Ql v4 (h _ Ext.refl)))))⟩)))
  rcases hk with rfl | rfl
  · rw [Hk, hmid, Bool.true_and] at h
    refine seq (Y6 (Xi (Yi v0 (iln (k := 0) hp (lb rfl) rfl) (Xz ⟨true, Ox, Yj (seq (Yl ?_))⟩))))
    refine (Gh (Yi v2 (iln (k := 4) hN (lb rfl) rfl) ⟨_, rfl, Jx K hd (Om f) ⟨_, rfl, tst (fun q => ?_) fun q => ?_⟩⟩))
    · rw [q] at h
      exact Xn (Ql v4 ⟨_, v2, _, iln (k := 4) hN (lb rfl) rfl, fit (lb rfl), fit (lb rfl), h _ Ext.refl⟩)
    · rw [q] at h
      exact h _ Ext.refl
  · have he := hw f (by simp)
    rw [Hl, hmid, Bool.true_and] at h
    refine seq (Y6 (Xi (Yi v0 (iln (k := 0) hp (lb rfl) rfl) (Xz ⟨false, Oz, Yr (Yw (seq ?_))⟩))))
    refine Y6 (Xi (Yi v0 (iln (k := 0) hp (lb rfl) rfl) (Xz ⟨true, s_eq Jk, Yj (seq (Yl ?_))⟩)))
    refine (Gh (Yi v0 (iln (k := 4) hp (lb rfl) rfl) (N9 K hd he.2 he.1 fun μ₅ x₅ => ⟨_, rfl, tst (fun q => ?_) fun q => ?_⟩)))
    · rw [q] at h
      exact Xn (Ql v4 ⟨_, v0, _, iln (k := 4) (x₅ _ _ hp) (lb rfl) rfl, fit (lb rfl), fit (lb rfl), h _ x₅⟩)
    · rw [q] at h
      exact h _ x₅
end
section
variable {d : Nat} {fz : List Addr} {Q : MQ} {μ : MH}
theorem lein_spec (K : Ks G Γ) {ws : List Str} {own : Int} {p : Addr} (hd : 2 ≤ d) (hp : μ p = some (.list (ws.map .str))) (hne : ws ≠ []) (hl : ws.length ≤ 80000) (hw : ∀ x ∈ ws, x.length ≤ 60 ∧ Asc x) (h : ∀ μ', Ext μ μ' → Q (lentV ws own) μ') : calls G Γ d "_law_entry_in" [.ref p, .int own] fz Q X0 μ := by
  refine Y3 K.lein rfl (by first|exact dn hd rfl|exact dl hd rfl|omega) (seq (Yz (Pq (Ql rfl ⟨.val (.ref p), ws.map .str, rfl, by simp only [Src.items, items, itemsO, hp], fit (by rw [List.length_map]; exact Nat.le_trans (by assumption) (by decide)), Gn MV.str numV Ext.refl (fun x hx => ⟨_, rfl, fun μ₁ x₁ => ⟨fun F hF => hF, fun F hF => Kz (Ql X8 (Um K (by first|exact dn hd rfl|exact dl hd rfl|omega) (hw x hx).2 (hw x hx).1 hF))⟩⟩) fun nn μ₁ x₁ hnn _ => ?_⟩))))
  rw [List.nil_append]
  have hN : upd μ₁ nn (.list (ws.map numV)) nn = some (.list (ws.map numV)) := Qz
  have x₂ := x₁.trans (Ext.upd (o := .list (ws.map numV)) hnn)
  show exs G (calls G Γ (d - 1)) X0 [Ky, Kx, J3, J2, J1, J0, Zz, Zy] fz (setv (args0 [.ref p, .int own]) 2 (.ref nn)) (kz Q) (upd μ₁ nn (.list (ws.map numV)))
  have v0 : setv (args0 [.ref p, .int own]) 2 (.ref nn) 0 = some (.ref p) := rfl
  have v1 : setv (args0 [.ref p, .int own]) 2 (.ref nn) 1 = some (.int own) := rfl
  have v2 : setv (args0 [.ref p, .int own]) 2 (.ref nn) 2 = some (.ref nn) := rfl
  generalize setv (args0 [.ref p, .int own]) 2 (.ref nn) = V at v0 v1 v2 ⊢
  replace hp := x₂ _ _ hp
  generalize upd μ₁ nn (.list (ws.map numV)) = μ₂ at hN x₂ hp ⊢
  clear hnn x₁
  replace h : ∀ (V' : MVars) μ', Ext μ μ' → kz Q (.ret (lentV ws own)) V' μ' := fun _ => h
  generalize kz Q = R at h ⊢
  cases ws with
  | nil => exact absurd rfl hne
  | cons s l =>
  rw [List.length_cons] at hl
  have hs := hw s (.head _)
  refine seq (Y6 (Xi (Yi v0 (iln (k := 0) hp (by rw [List.length_map, List.length_cons]; exact Nat.lt_of_lt_of_le (by assumption) (by decide)) rfl) (Xz ⟨_, Zb hs.2.ok U4, tst (fun q => ?_) fun q => ?_⟩))))
  · obtain rfl := eq_of_beq q
    exact lein_u K (by first|exact dn hd rfl|exact dl hd rfl|omega) v0 v1 v2 hp hN (by first|exact dn hd rfl|exact dl hd rfl|lia) (h _ _ x₂)
  have nu : s ≠ S "undo" := fun e => by rw [e, beq_self_eq_true] at q; cases q
  (try dsimp only [kr0])
  refine Yw (seq (Yz (ev_kinds fun u hu _ => ?_)))
  have x₃ := Ext.upd (o := .sdict kinds) hu
  refine lein_t (own := own) K (by first|exact dn hd rfl|exact dl hd rfl|omega) nu ((Qk (by decide)).trans v0) X8 (x₃ _ _ hp) Qz (by first|exact dn hd rfl|exact dl hd rfl|lia) hw (fun e μ' x' => ?_) fun a b c r e hk q1 μ' x' => ?_
  · have := h (setv V 3 (.ref u)) μ' ((x₂.trans x₃).trans x')
    rw [e] at this; exact this
  subst e
  have hp' := x' _ _ (x₃ _ _ hp)
  have hN' := x' _ _ (x₃ _ _ hN)
  refine lein_m K (by first|exact dn hd rfl|exact dl hd rfl|omega) ((Qk (by decide)).trans v0) ((Qk (by decide)).trans v2) hp' hN' (by simp only [List.length_cons] at hl; lia) q1 (fun e => ?_) fun e => ?_
  · obtain ⟨a', b', c', r', e', hm⟩ := hk.none (own := own)
    cases e'
    have := h (setv V 3 (.ref u)) μ' ((x₂.trans x₃).trans x')
    rw [hm e] at this; exact this
  · exact lein_e (own := own) K (by first|exact dn hd rfl|exact dl hd rfl|omega) hk ((Qk (by decide)).trans ((Qk (by decide)).trans v0)) ((Qk (by decide)).trans ((Qk (by decide)).trans v2)) X8 hp' hN' hw e fun μ₅ x₅ => h _ _ (((x₂.trans x₃).trans x').trans x₅)
end
end Mine
end
section
namespace Mine
open PySem
variable {G : String → Option MV} {Γ : String → Option MFun}
theorem lent_or (ws : List Str) (own : Int) : (lentV ws own = .none ∧ ∀ e : Ent, ws = e.words → ¬ Okk own e) ∨ ∃ e : Ent, lentV ws own = e.mv ∧ ws = e.words ∧ Okk own e := by
  by_cases q : lentV ws own = .none
  · refine .inl ⟨q, fun e he ho => ?_⟩
    rw [he, Ce ho, e.mv_parts] at q; cases q
  · obtain ⟨e, rfl, ho⟩ := lent_some q
    exact .inr ⟨e, Ce ho, rfl, ho⟩
theorem no_cont {x w0 : Str} {r xs : List Str} {last : Int} (hs : Txt.split x (S " ") = w0 :: r) (h : ∀ k e, w0 = num k ++ S ":" → r = Ent.words e → last < k → ¬ Okk k e) : ∀ B, ¬ Cont B last (x :: xs)
  | [] => fun hc => hc
  | p :: B => fun hc => by
    have := Nv hc.2.2.1
    rw [← hc.1, hs] at this
    injection this with e1 e2
    exact h p.1 p.2 e1 e2 hc.2.1 hc.2.2.1
section
variable {d : Nat} {fz : List Addr} {Q : MQ} {μ : MH}
theorem due_loop {c : Addr} {μ₁ : MH} {R : MFlow → MVars → MH → Prop} (K : Ks G Γ) (hd : 3 ≤ d) (hc : μ₁ c = none) (hcz : c ∉ fz) : ∀ (xs : List Str) (done : Book) (last : Int) (V : MVars) (μ : MH), (∀ x ∈ xs, Ln x) → (∀ p ∈ done, p.1 ≤ last) → done.length + xs.length ≤ 90000 → V 1 = some (.ref c) → V 2 = some (.int last) → Ext μ₁ μ → μ c = some (.idict (Book.mv done)) →
    (∀ B V' μ', Cont B last xs → V' 1 = some (.ref c) → Ext μ₁ μ' → μ' c = some (.idict (Book.mv (done ++ B))) → (done ++ B).length ≤ 90000 → R .next V' μ') → ((∀ B, ¬ Cont B last xs) → ∀ V' μ', Ext μ₁ μ' → R (.ret .none) V' μ') →
    loopM (.one 3) (fun vs F μ => exs G (calls G Γ d) X0 [Nn, Nm, Nl, Nk, Nj, Ni, Nh] fz vs F μ) R (xs.map .str) V μ
  | [] => fun done last V μ _ _ hl v1 v2 x₁ hm h1 _ => h1 [] V μ trivial v1 x₁ (by rw [List.append_nil]; exact hm) (by rw [List.append_nil]; simpa using hl)
  | x :: xs => fun done last V μ hx hdn hl v1 v2 x₁ hm h1 h2 => by
    rw [List.map_cons, Zn]
    refine ⟨_, rfl, ?_⟩
    replace v1 : setv V 3 (.str x) 1 = some (.ref c) := (Qk (by decide)).trans v1
    replace v2 : setv V 3 (.str x) 2 = some (.int last) := (Qk (by decide)).trans v2
    have v3 : setv V 3 (.str x) 3 = some (.str x) := X8
    generalize setv V 3 (.str x) = V at v1 v2 v3 ⊢
    obtain ⟨w0, r, hs, hw0, hr, hrl⟩ := (hx x (.head _)).cut
    have hxl := (hx x (.head _)).len
    rw [List.length_cons] at hl
    have bad := fun h => h2 (no_cont (xs := xs) hs h)
    refine seq (Yz (Yo (Ql v3 ⟨rfl, Xz ⟨Nt, fit (by first|exact dn hd rfl|exact dl hd rfl|lia), fun p hp _ => ?_⟩⟩)))
    rw [hs]
    have hpl : upd μ p (.list ((w0 :: r).map .str)) p = some (.list (.str w0 :: r.map .str)) := Qz
    have x₂ := x₁.trans (Ext.upd (o := .list ((w0 :: r).map .str)) hp)
    have hm₂ := Ext.upd (o := .list ((w0 :: r).map .str)) hp _ _ hm
    clear x₁ hm hp v3
    dsimp only [kr0]
    replace v1 : setv V 4 (.ref p) 1 = some (.ref c) := (Qk (by decide)).trans v1
    replace v2 : setv V 4 (.ref p) 2 = some (.int last) := (Qk (by decide)).trans v2
    have v4 : setv V 4 (.ref p) 4 = some (.ref p) := X8
    generalize setv V 4 (.ref p) = V at v1 v2 v4 ⊢
    generalize upd μ p (.list ((w0 :: r).map .str)) = μ₂ at hpl x₂ hm₂ ⊢
    have hll : (MV.str w0 :: r.map .str).length ≤ 100000 := by rw [List.length_cons, List.length_map]; exact Nat.lt_of_le_of_lt (by assumption) (by decide)
    have hin := init_len w0
    refine seq (Yz (Kz (ev_init v4 hpl (by rw [List.length_map]; exact Nat.le_trans (by assumption) (by decide)) (by first|exact dn hd rfl|exact dl hd rfl|lia) (Um K (by first|exact dn hd rfl|exact dl hd rfl|omega) (asc_init hw0.2) (by first|exact dn hd rfl|exact dl hd rfl|lia) fun μ₃ x₃ => ?_))))
    replace hpl := x₃ _ _ hpl
    replace hm₂ := x₃ _ _ hm₂
    replace x₂ := x₂.trans x₃
    clear x₃
    dsimp only [kr0]
    replace v1 : setv V 5 (numV (initS w0)) 1 = some (.ref c) := (Qk (by decide)).trans v1
    replace v2 : setv V 5 (numV (initS w0)) 2 = some (.int last) := (Qk (by decide)).trans v2
    replace v4 : setv V 5 (numV (initS w0)) 4 = some (.ref p) := (Qk (by decide)).trans v4
    have v5 : setv V 5 (numV (initS w0)) 5 = some (numV (initS w0)) := X8
    generalize setv V 5 (numV (initS w0)) = V at v1 v2 v4 v5 ⊢
    refine seq (Y6 (Yp (Xi (ev_last v4 hpl (by rw [List.length_map]; exact Nat.le_trans (by assumption) (by decide)) (by first|exact dn hd rfl|exact dl hd rfl|lia) (Xz ⟨_, c_nes (asc_last hw0.2).ok ok_col, tst (fun q => Yj (seq (Yl (bad (fun k e e1 _ _ => ?_) _ _ x₂)))) fun q => ?_⟩)))))
    · rw [e1, last_kc, beq_self_eq_true] at q; cases q
    rw [Bool.not_eq_false'] at q
    have hw := last_co (eq_of_beq q)
    rcases Hd (initS w0) with qn | ⟨k, qn, hk⟩
    · rw [qn] at v5
      refine Yp (Xi (Ql v5 ⟨true, rfl, Yj (Yj (seq (Yl (bad (fun k e e1 _ _ => ?_) _ _ x₂))))⟩))
      rw [e1, Bg, Z3] at qn; cases qn
    rw [qn] at v5
    rw [hk] at hw
    refine Yp (Xi (Ql v5 ⟨false, rfl, Yr (Yp (Xi (Ql v5 (Ql v2 ⟨_, Xq, tst (fun q => Yj (seq (Yl (bad (fun k' e e1 _ hlt => ?_) _ _ x₂)))) fun q => ?_⟩))))⟩))
    · rw [e1, Bg] at hk
      have := num_inj hk
      have q := of_decide_eq_true q
      lia
    have hlast := of_decide_eq_false q
    clear q
    refine Ze (Xi (Ye (Ql v4 (Yg hpl (fit hll) ⟨_, Xm, tst (fun q => seq (Yl (bad (fun k' e e1 e2 _ => ?_) _ _ x₂))) fun q => ?_⟩))))
    · have q := of_decide_eq_true q
      rw [List.length_cons, List.length_map] at q
      have := (Zh e).1
      rw [← e2] at this; lia
    have hr0 : r ≠ [] := fun e => by
      have q := of_decide_eq_false q
      rw [e] at q; exact q (show ((1 : Nat) : Int) < 2 by decide)
    (try dsimp only [kr0])
    refine Yw (seq (Yz ?_))
    refine (evs_two (ev_fr (Ql v4 (Vq rfl rfl rfl st0 hpl (fit hll) fun s hs' _ => Ql v5 ?_))))
    have hdr : pick (MV.str w0 :: r.map .str) (some 1) none none = r.map .str := by
      rw [Jl _ (by decide) (by rw [List.length_cons]; lia)]; rfl
    rw [hdr]
    have hsl : upd μ₃ s (.list (r.map .str)) s = some (.list (r.map .str)) := Qz
    replace x₂ := x₂.trans (Ext.upd (o := .list (r.map .str)) hs')
    replace hm₂ := Ext.upd (o := .list (r.map .str)) hs' _ _ hm₂
    generalize upd μ₃ s (.list (r.map .str)) = μ₄ at hsl x₂ hm₂ ⊢
    refine lein_spec K (by first|exact dn hd rfl|exact dl hd rfl|omega) hsl hr0 (by first|exact dn hd rfl|exact dl hd rfl|exact Nat.le_trans (by assumption) (by decide)) hr fun μ₅ x₅ => ?_
    replace hm₂ := x₅ _ _ hm₂
    replace x₂ := x₂.trans x₅
    dsimp only [kr0]
    clear x₅ hsl
    replace v1 : setv V 6 (lentV r k) 1 = some (.ref c) := (Qk (by decide)).trans v1
    replace v5 : setv V 6 (lentV r k) 5 = some (.int k) := (Qk (by decide)).trans v5
    have v6 : setv V 6 (lentV r k) 6 = some (lentV r k) := X8
    generalize setv V 6 (lentV r k) = V at v1 v5 v6 ⊢
    rcases lent_or r k with ⟨qe, hno⟩ | ⟨e, qe, he, ho⟩
    · rw [qe] at v6
      refine seq (Y6 (Xi (Ql v6 ⟨true, rfl, Yj (seq (Yl (bad (fun k' e e1 e2 _ => ?_) _ _ x₂)))⟩)))
      rw [e1, Bg] at hk
      rw [num_inj hk]
      exact hno e e2
    rw [qe, e.mv_parts] at v6
    refine seq (Y6 (Xi (Ql v6 ⟨false, rfl, Yr (Yw (seq ?_))⟩)))
    refine x_si (Ql v6 (Ql v1 (Ql v5 (Bq hm₂ hcz (fit (by rw [Book.mv_len]; lia)) (seq (Yz (Ql v5 ?_)))))))
    have hrow : x = rowS k e := (row_iff ho).mp (by rw [hs, hw, he])
    have hkn : k ∉ (Book.mv done).map (·.1) := by
      rw [Book.mv_keys]
      intro q
      obtain ⟨p', hp', e'⟩ := List.mem_map.mp q
      have := hdn p' hp'; lia
    rw [← e.mv_parts, put_new hkn, show Book.mv done ++ [(k, e.mv)] = Book.mv (done ++ [(k, e)]) by unfold Book.mv; rw [List.map_append]; rfl]
    refine due_loop K hd hc hcz xs (done ++ [(k, e)]) k _ _ (fun y hy => hx y (.tail _ hy)) (fun p' hp' => ?_) (by rw [List.length_append, List.length_singleton]; lia) ((Qk (by decide)).trans v1) X8 (fun a o q => by rw [Y8 (Y2 q hc)]; exact x₂ a o q) Qz (fun B V' μ' hB v1' x' hm' hl' => ?_) fun hno V' μ' x' => h2 (fun B hB => ?_) V' μ' x'
    · rcases List.mem_append.mp hp' with hp' | hp'
      · have := hdn p' hp'; lia
      · simp at hp'; rw [hp']; exact Int.le_refl _
    · rw [List.append_assoc] at hm' hl'
      exact h1 ((k, e) :: B) V' μ' ⟨hrow, by lia, ho, hB⟩ v1' x' hm' hl'
    · cases B with
      | nil => exact hB
      | cons p' B =>
        have e1 := A2 hB.2.2.1
        rw [← hB.1, hrow, A2 ho] at e1
        have e1 := Option.some.inj e1
        have hB4 := hB.2.2.2
        rw [← (congrArg Prod.fst e1 : k = p'.1)] at hB4
        exact hno B hB4
theorem due_spec (K : Ks G Γ) (hd : 4 ≤ d) {t : Str} (ht : Tx 60 50000 t) (h1 : ∀ B c μ', IsT t B → Ext μ μ' → μ c = none → c ∉ fz → μ' c = some (.idict (Book.mv B)) → Q (.ref c) μ') (h2 : (∀ B, ¬ IsT t B) → ∀ μ', Ext μ μ' → Q .none μ') : calls G Γ d "_law_due" [.str t] fz Q X0 μ := by
  refine Y3 K.due rfl (by first|exact dn hd rfl|exact dl hd rfl|omega) (seq (Yz ?_))
  intro c hc hcz
  show exs G (calls G Γ (d - 1)) X0 [Az, Ay, Vh, Vg] fz (setv (args0 [.str t]) 1 (.ref c)) (kz Q) (upd μ c (.idict []))
  have v0 : setv (args0 [.str t]) 1 (.ref c) 0 = some (.str t) := rfl
  have v1 : setv (args0 [.str t]) 1 (.ref c) 1 = some (.ref c) := rfl
  generalize setv (args0 [.str t]) 1 (.ref c) = V at v0 v1 ⊢
  refine seq (Y6 (Xi (Ql v0 (Xz ⟨_, Zb ht.pie.asc.ok ok_em, tst (fun q => ?_) fun q => ?_⟩))))
  · exact seq (Yl (Ql v1 (h1 [] c _ (.inl ⟨eq_of_beq q, rfl⟩) (Ext.upd hc) hc hcz Qz)))
  have hne : t ≠ S "" := fun e => by rw [e, beq_self_eq_true] at q; cases q
  have htl := ht.len
  have hct := ht.count
  (try dsimp only [kr0])
  refine Yw (seq (Yz ?_))
  show exs G (calls G Γ (d - 1)) X0 [Vh, Vg] fz (setv V 2 (.int 0)) (kz Q) (upd μ c (.idict []))
  replace v0 : setv V 2 (.int 0) 0 = some (.str t) := (Qk (by decide)).trans v0
  replace v1 : setv V 2 (.int 0) 1 = some (.ref c) := (Qk (by decide)).trans v1
  have v2 : setv V 2 (.int 0) 2 = some (.int 0) := X8
  generalize setv V 2 (.int 0) = V at v0 v1 v2 ⊢
  refine seq (Bj (Yo (Ql v0 ⟨rfl, Xz ⟨C4, fit (by first|exact dn hd rfl|exact dl hd rfl|lia), fun p hp hpz => ?_⟩⟩)))
  have hcp : c ≠ p := Y2 (o := .idict []) Qz hp
  have hp0 : μ p = none := Nx (Ext.upd hc) hp
  refine ⟨.val (.ref p), (Txt.split t (S "\n")).map .str, rfl, by simp only [Src.items, items, itemsO, Qz], fit (by rw [List.length_map]; exact Nat.le_trans (by assumption) (by decide)), ?_⟩
  refine due_loop (μ₁ := upd μ p (.list ((Txt.split t (S "\n")).map .str))) K (by first|exact dn hd rfl|exact dl hd rfl|omega) (by rw [Y8 hcp]; exact hc) (by simp [Src.held, hcp, hcz]) _ [] 0 V _ ht.ln (fun p hp => nomatch hp) (by simp; exact Nat.le_trans (by assumption) (by decide)) v1 v2 ?_ ?_ (fun B V' μ₁ hB v1 x₁ hm hl => ?_) fun hno V' μ' x' => h2 (fun B hB => ?_) _ ((Ext.upd hp0).trans x')
  · intro a o e
    by_cases q : a = p
    · subst q; rw [Qz] at e ⊢; exact e
    · rw [Y8 q] at e ⊢; exact Ext.upd hc _ _ e
  · rw [Y8 hcp, Qz]; rfl
  · rw [List.nil_append] at hm hl
    refine seq (Yl (ev_ite (Xi (Ye (Ql v1 (Dt hm (by rw [Book.mv_len]; exact Nat.le_trans (by assumption) (by decide)) ⟨_, Xq, tst (fun q => Ql v1 (h1 B c μ₁ (.inr ⟨hne, hB, ?_⟩) ((Ext.upd hp0).trans x₁) hc hcz hm)) fun q => h2 (fun B' hB' => ?_) _ ((Ext.upd hp0).trans x₁)⟩))))))
    · have := of_decide_eq_true q
      rw [Book.mv_len] at this; exact Int.ofNat_le.mp (by assumption)
    · have q := of_decide_eq_false q
      rw [Book.mv_len] at q
      have e1 := (hB'.read hne).1
      rw [hB.read (done := []) fun p hp => (nomatch hp)] at e1
      have e1 := Option.some.inj e1
      rw [List.nil_append] at e1
      have := (hB'.read hne).2.1.len
      rw [← e1] at this; lia
  · rcases hB with ⟨q, _⟩ | ⟨_, hB, _⟩
    · exact hne q
    · exact hno B hB
end
end Mine
end
section
namespace Mine
open PySem
variable {G : String → Option MV} {Γ : String → Option MFun}
structure LB (B : Book) : Prop where
  key : ∀ p ∈ B, 1 ≤ p.1 ∧ p.1 ≤ 1000
  part : ∀ p ∈ B, ∀ v ∈ p.2.parts, Part v
  nodup : B.keys.Nodup
theorem Part.vp {v : MV} (h : Part v) : VP v := by
  rcases h with ⟨i, rfl, h0, h1⟩ | ⟨s, rfl, h0, h1⟩
  · exact .i (.of h0 h1)
  · exact .s ⟨by exact Nat.le_trans (by assumption) (by decide), fun c hc => by have := h1 c hc; lia⟩
theorem Uz {i : Int} (h : VP (.int i)) : Sml i := by
  rcases h with ⟨j, e, h⟩ | ⟨s, e, _⟩
  · cases e; exact h
  · cases e
theorem Gz {s : Str} (h : VP (.str s)) : s.length ≤ 60 ∧ Asc s := by
  rcases h with ⟨j, e, h⟩ | ⟨s', e, h⟩
  · cases e
  · cases e; exact h
theorem eb_of {e : Ent} (h : ∀ v ∈ e.parts, VP v) : EB e := by
  cases e with
  | undo j => exact Uz (h (.int j) (by simp [Ent.parts]))
  | clear nm lo hi => exact ⟨Gz (h (.str nm) (by simp [Ent.parts])), Uz (h (.int lo) (by simp [Ent.parts])), Uz (h (.int hi) (by simp [Ent.parts]))⟩
  | like nm lo hi nm' => exact ⟨Gz (h (.str nm) (by simp [Ent.parts])), Uz (h (.int lo) (by simp [Ent.parts])), Uz (h (.int hi) (by simp [Ent.parts])), Gz (h (.str nm') (by simp [Ent.parts]))⟩
  | tell nm lo hi v => exact ⟨Gz (h (.str nm) (by simp [Ent.parts])), Uz (h (.int lo) (by simp [Ent.parts])), Uz (h (.int hi) (by simp [Ent.parts])), Uz (h (.int v) (by simp [Ent.parts]))⟩
theorem LB.bdd {B : Book} (h : LB B) : Bdd B := fun p hp => ⟨.of (by have := h.key p hp; lia) (by have := h.key p hp; exact Int.le_trans (And.right (by assumption)) (by decide)), eb_of fun v hv => (h.part p hp v hv).vp⟩
theorem wrd_pie {x : Str} (h : Wrd x) : Pie 12 x := ⟨fun c hc => by have := h.sg c hc; lia, .len (by rw [← Xy]; have := h.len; exact Nat.le_succ_of_le (by assumption))⟩
theorem row_tx {k : Int} {e : Ent} (h0 : 1 ≤ k) (h1 : k ≤ 1000) (hp : ∀ v ∈ e.parts, Part v) : Tx 12 78 (rowS k e) := by
  rw [Vr]
  have hk := Hb (i := k) (by first|exact dn hd rfl|exact dl hd rfl|lia) (by first|exact dn hd rfl|exact dl hd rfl|exact Int.le_trans (by assumption) (by decide))
  have hkl := Hc (i := k) (by first|exact dn hd rfl|exact dl hd rfl|exact Int.le_of_lt (by assumption)) (by first|exact dn hd rfl|exact dl hd rfl|exact Int.le_trans (by assumption) (by decide))
  have hw : ∀ x ∈ e.words, Wrd x := fun x hx => by
    obtain ⟨v, hv, rfl⟩ := List.mem_map.mp hx
    exact (hp v hv).wrd
  have hc : Pcs 12 78 ((num k ++ S ":") :: e.words) := by
    refine ⟨fun x hx => ?_, ?_⟩
    · rcases List.mem_cons.mp hx with rfl | hx
      · refine ⟨fun c hc => ?_, .len ?_⟩
        · rw [Ci] at hc
          rcases List.mem_append.mp hc with hc | hc
          · have := hk.sg c hc; lia
          · simp at hc; simp [*]
        · rw [Ci, List.length_append, ← Xy, List.length_singleton]; exact Nat.lt_of_le_of_lt (by assumption) (by decide)
      · exact wrd_pie (hw x hx)
    · have h2 := Pu (l := e.words) (n := 11) fun x hx => (hw x hx).len
      have h3 := Gx e.words
      have h4 := (Zh e).2
      have h5 : wid ((num k ++ S ":") :: e.words) = (num k ++ S ":").length + 1 + wid e.words := by unfold wid; rw [List.map_cons, List.sum_cons]
      have h6 : (num k ++ S ":").length = (num k).length + 1 := by rw [Xy, Ci, List.length_append, ← Xy, List.length_singleton]
      rw [h5, h6]
      lia
  exact hc.join (.inl rfl)
theorem LB.tx {B : Book} (h : LB B) (hl : B.length ≤ 31) : Tx 12 3000 (textOf B) := by
  have hr : ∀ x ∈ rowsOf B, Tx 12 78 x := fun x hx => by
    obtain ⟨k, hk, rfl⟩ := List.mem_map.mp hx
    have hm := Book.at_some (Du (Jb.mp hk))
    exact row_tx (h.key _ hm).1 (h.key _ hm).2 (h.part _ hm)
  have hc : Pcs 12 3000 (rowsOf B) := by
    refine ⟨fun x hx => (hr x hx).pie, ?_⟩
    have h2 := Pu (l := rowsOf B) (n := 78) fun x hx => (hr x hx).len
    have h3 := Gx (rowsOf B)
    have h4 := Oj B
    lia
  unfold textOf
  rw [Dx]
  exact hc.join (.inr rfl)
theorem Fk {Φ : CallSpec} {fz : List Addr} {μ₁ : MH} {R : MFlow → MVars → MH → Prop} {b li : Addr} {B : Book} (hB : Bdd B) (hb : μ₁ b = some (.idict (Book.mv B))) (hli : μ₁ li = none) (hlz : li ∉ fz) : ∀ (ks : List Int) (V : MVars) (μ : MH) (acc : List Str), (∀ k ∈ ks, k ∈ B.keys) → V 0 = some (.ref b) → V 1 = some (.ref li) → Ext μ₁ μ → μ li = some (.list (acc.map .str)) → acc.length + ks.length ≤ 100 →
    (∀ V' μ', V' 1 = some (.ref li) → Ext μ₁ μ' → μ' li = some (.list ((acc ++ ks.map fun k => rowS k (atD B k)).map .str)) → R .next V' μ') →
    loopM (.one 2) (fun vs F μ => exs G Φ X0 [Va] fz vs F μ) R (ks.map .int) V μ
  | [] => fun V μ acc _ v0 v1 x₁ hm _ h => h V μ v1 x₁ (by rw [List.map_nil, List.append_nil]; exact hm)
  | k :: ks => fun V μ acc hk v0 v1 x₁ hm hl h => by
    rw [List.map_cons, Zn]
    have hk0 := hk k (.head _)
    obtain ⟨b1, b2⟩ := atD_b hB hk0
    rw [List.length_cons] at hl
    refine ⟨_, rfl, ?_⟩
    replace v0 : setv V 2 (.int k) 0 = some (.ref b) := (Qk (by decide)).trans v0
    replace v1 : setv V 2 (.int k) 1 = some (.ref li) := (Qk (by decide)).trans v1
    have v2 : setv V 2 (.int k) 2 = some (.int k) := X8
    generalize setv V 2 (.int k) = V at v0 v1 v2 ⊢
    refine seq (x_ex (Yo (Ql v1 ⟨Be hm, row_ev v2 b1 b2 (fun Q hQ => shown_ev b2 (fun Q hq => Pp v0 v2 (i_at (x₁ _ _ hb) hk0) hq) hQ) fun μ₂ x₂ => ⟨_, x₂ _ _ hm, hlz, fit (by rw [List.length_map]; lia), ?_⟩⟩)))
    refine Fk hB hb hli hlz ks V _ (acc ++ [rowS k (atD B k)]) (fun k hk' => hk k (.tail _ hk')) v0 v1 (fun a o q => by rw [Y8 (Y2 q hli)]; exact x₂ _ _ (x₁ a o q)) ?_ (by rw [List.length_append, List.length_singleton]; lia) fun V' μ' v' x' h' => h V' μ' v' x' ?_
    · rw [Qz, List.map_append]; rfl
    · rw [h', List.append_assoc]; rfl
theorem text_spec {d : Nat} {fz : List Addr} {Q : MQ} {μ : MH} {b : Addr} {B : Book} (K : Ks G Γ) (hd : 1 ≤ d) (hB : Bdd B) (hl : B.length ≤ 40) (hb : μ b = some (.idict (Book.mv B))) (h : ∀ μ', Ext μ μ' → Q (.str (textOf B)) μ') : calls G Γ d "_law_text" [.ref b] fz Q X0 μ := by
  have hkl := Ch B
  refine Y3 K.text rfl hd (seq (Yz (ev_nil fun li hli hlz => seq (Bj (Ye (Ql rfl (Gs (B.keys.map .int) B.keys rfl (by simp only [items, itemsO, Ext.upd hli _ _ hb, Hn, keysI]) (Cr _) (by rw [List.length_map]; lia) fun s hs hsz => ?_)))))))
  have hls : li ≠ s := Y2 (o := .list []) Qz hs
  have hs0 : μ s = none := Nx (Ext.upd hli) hs
  refine ⟨.val (.ref s), (sortI B.keys).map .int, rfl, by simp only [Src.items, items, itemsO, Qz], fit (by rw [List.length_map, Vp]; lia), ?_⟩
  refine Fk (μ₁ := upd μ s (.list ((sortI B.keys).map .int))) hB (Ext.upd hs0 _ _ hb) (by rw [Y8 hls]; exact hli) (by simp [Src.held, hls, hlz]) _ _ _ [] (fun k hk => Jb.mp hk) rfl rfl ?_ ?_ (by rw [Vp]; simp; lia) fun V' μ' v1 x' hm => ?_
  · intro a o e
    by_cases q : a = s
    · subst q; rw [Qz] at e ⊢; exact e
    · rw [Y8 q] at e ⊢; exact Ext.upd hli _ _ e
  · rw [Y8 hls, Qz]; rfl
  · rw [List.nil_append] at hm
    exact seq (Yl (Yo (Xz ⟨rfl, Ql v1 ⟨_, rowsOf B, Zw hm, Zt _, by rw [C4]; decide, rows_sum hB hl, h _ ((Ext.upd hs0).trans x')⟩⟩)))
end Mine
end
section
namespace Mine
open PySem
variable {G : String → Option MV} {Γ : String → Option MFun}
theorem pick_map {α β : Type} (f : α → β) (l : List α) (a b : Option Int) : pick (l.map f) a b none = (pick l a b none).map f := by
  rw [Yh, Yh, List.map_take, List.map_drop, List.length_map]
theorem Pcs.pick {n N : Nat} {l : List Str} (h : Pcs n N l) (a b : Option Int) : Pcs n N (pick l a b none) := by
  rw [Yh]; exact (h.drop _).take _
theorem pick_dropc {α : Type} (l : List α) {b : Int} (hb : 0 ≤ b) : pick l (some b) none none = l.drop b.toNat := by
  obtain ⟨n, rfl⟩ := Int.eq_ofNat_of_zero_le hb
  rw [Yh]
  show List.take (l.length - clipAt l.length (n : Int)) (List.drop (clipAt l.length (n : Int)) l) = List.drop n l
  rw [clipAt_nat]
  by_cases h : n ≤ l.length
  · rw [Nat.min_eq_left h]
    exact List.take_of_length_le (by rw [List.length_drop]; exact Nat.le_refl _)
  · rw [Nat.min_eq_right (by first|exact dn hd rfl|exact dl hd rfl|lia), List.drop_eq_nil_of_le (Nat.le_refl _), List.drop_eq_nil_of_le (by first|exact dn hd rfl|exact dl hd rfl|lia), List.take_nil]
theorem Pcs.len {n N : Nat} {l : List Str} (h : Pcs n N l) : l.length ≤ N := Nat.le_trans (Gy l) h.wid
theorem Pcs.mem {n N : Nat} {l : List Str} (h : Pcs n N l) {s : Str} (hs : s ∈ l) : s.length + 1 ≤ N := by
  have h1 := h.wid
  obtain ⟨a, b, rfl⟩ := List.append_of_mem hs
  have h2 : Mine.wid (s :: b) = s.length + 1 + Mine.wid b := by unfold Mine.wid; rw [List.map_cons, List.sum_cons]
  rw [Bb, h2] at h1; lia
theorem Vy {μ : MH} {p : Addr} {ss : List Str} {k : Int} (hp : μ p = some (.list (ss.map .str))) (hl : ss.length ≤ 100000) (h0 : 0 ≤ k) (h1 : k < ss.length) : ∃ s ∈ ss, idxM μ (.ref p) (.int k) = some (.str s) := by
  have h2 : k.toNat < ss.length := by simp [*]
  refine ⟨ss[k.toNat], List.getElem_mem h2, ?_⟩
  rw [Zx hp (by rw [List.length_map]; exact Nat.le_trans (by assumption) (by decide)), K5 h0, List.getElem?_map, List.getElem?_eq_getElem h2]; rfl
section
variable {Φ : CallSpec} {fz : List Addr} {V : MVars} {μ₀ μ : MH} {Q : MQ} {n N M : Nat}
theorem ev_dm {i : Nat} {x c m : Int} (hv : V i = some (.int x)) (hc : 0 < c ∧ c ≤ 1000000) (hm : 0 < m) (h : ∀ k, 0 ≤ k → k < m → Q (.int k) μ) : ev G Φ X0 (.bin .mod (.bin .fdiv (.var i) (.cint c)) (.cint m)) fz V Q μ :=
  Xn (Xn ⟨_, hv, ⟨by lia, sm (by first|exact dn hd rfl|exact dl hd rfl|lia) (by first|exact dn hd rfl|exact dl hd rfl|exact Int.le_trans (And.right (by assumption)) (by decide))⟩, by lia, h _ (fm hm).1 (fm hm).2⟩)
theorem Iq {ss : List Str} {l : List ME} {ix : ME} (he : ∀ P : List MV → MH → Prop, P (ss.map .str) μ → evs G Φ X0 l fz V P μ) (hl : ss.length ≤ 100) (hi : ∀ (Q : MQ) (μ : MH), (∀ k, 0 ≤ k → k < (ss.length : Int) → Q (.int k) μ) → ev G Φ X0 ix fz V Q μ) (h : ∀ s ∈ ss, ∀ μ', Ext μ μ' → Q (.str s) μ') : ev G Φ X0 (.idx (.list l) ix) fz V Q μ :=
  he _ ⟨fit (by rw [List.length_map]; exact Nat.le_trans (by assumption) (by decide)), fun c hc hcz => hi _ _ fun k h0 h1 => by
    obtain ⟨s, hs, e⟩ := Vy (μ := upd μ c (.list (ss.map .str))) Qz (by first|exact dn hd rfl|exact dl hd rfl|exact Nat.le_trans (by assumption) (by decide)) h0 h1
    exact ⟨_, e, h s hs _ (Ext.upd hc)⟩⟩
noncomputable def PE (G : String → Option MV) (Φ : CallSpec) (fz : List Addr) (V : MVars) (μ₀ : MH) (e : ME) (n N : Nat) : Prop := ∀ (μ : MH) (Q : MQ), Ext μ₀ μ → (∀ p ss μ', Ext μ μ' → μ p = none → p ∉ fz → μ' p = some (.list (ss.map .str)) → Pcs n N ss → Q (.ref p) μ') → ev G Φ X0 e fz V Q μ
theorem PE.mono {e : ME} {m : Nat} (h : PE G Φ fz V μ₀ e n N) (hm : n ≤ m) (hM : N ≤ M) : PE G Φ fz V μ₀ e m M := fun μ Q x hq => h μ Q x fun p ss μ' a b c d f => hq p ss μ' a b c d (f.mono hm hM)
theorem pe_sl {i : Nat} {L : Addr} {ls : List Str} {a b : ME} {lo hi : MV} {y z : Option Int} (hv : V i = some (.ref L)) (hL : μ₀ L = some (.list (ls.map .str))) (hp : Pcs n N ls) (hN : N ≤ 90000) (ha : ∀ (Q : MQ) (μ : MH), Q lo μ → ev G Φ X0 a fz V Q μ) (hb : ∀ (Q : MQ) (μ : MH), Q hi μ → ev G Φ X0 b fz V Q μ) (h1 : partI lo = some y) (h2 : partI hi = some z) : PE G Φ fz V μ₀ (.slice (.var i) a b .cnone) n N := fun μ Q x h =>
  ⟨_, hv, ha _ _ (hb _ _ (Vq h1 h2 rfl st0 (x _ _ hL) (fit (by have := hp.len; rw [List.length_map]; lia)) fun c hc hcz => h c (pick ls y z none) _ (Ext.upd hc) hc hcz (by rw [Qz, pick_map]) (hp.pick _ _)))⟩
theorem Z6 {a b : ME} (ha : PE G Φ fz V μ₀ a n N) (hb : PE G Φ fz V μ₀ b n M) (hNM : N + M ≤ 90000) : PE G Φ fz V μ₀ (.bin .add a b) n (N + M) := fun μ Q x h =>
  Xn (ha μ _ x fun p ss μ₁ x₁ hp0 hpz hp hP => hb μ₁ _ (x.trans x₁) fun q tt μ₂ x₂ hq0 hqz hq hQ => R0 (x₂ _ _ hp) hq (fit (by have := hP.len; have := hQ.len; rw [List.length_map, List.length_map]; lia)) fun c hc hcz => h c (ss ++ tt) _ ((x₁.trans x₂).trans (Ext.upd hc)) (Nx (x₁.trans x₂) hc) hcz (by rw [Qz, List.map_append]) (hP.app hQ))
theorem By {e : ME} {s : Str} (he : ∀ (Q : MQ) (μ : MH), Ext μ₀ μ → Q (.str s) μ → ev G Φ X0 e fz V Q μ) (hs : Pie n s) (hl : s.length + 1 ≤ M) : PE G Φ fz V μ₀ (.list [e]) n M := fun μ Q x h =>
  he _ _ x ⟨fit (lb rfl), fun c hc hcz => h c [s] _ (Ext.upd hc) hc hcz Qz ((Pcs.one hs).mono (Nat.le_refl _) hl)⟩
noncomputable def RowOk (rw : Addr) (n N : Nat) (μ : MH) (l : List MV) : Prop := ∀ v ∈ l, ∃ q ss, v = .ref q ∧ q ≠ rw ∧ μ q = some (.list (ss.map .str)) ∧ Pcs n N ss
theorem row2 {e1 e2 : ME} (h1 : PE G Φ fz V μ₀ e1 n N) (h2 : PE G Φ fz V μ₀ e2 n N) (x : Ext μ₀ μ) (h : ∀ rw l μ', Ext μ μ' → μ rw = none → rw ∉ fz → μ' rw = some (.list l) → l.length = 2 → RowOk rw n N μ' l → Q (.ref rw) μ') : ev G Φ X0 (.list [e1, e2]) fz V Q μ :=
  h1 μ _ x fun p ss μ₁ x₁ hp0 hpz hp hP => h2 μ₁ _ (x.trans x₁) fun q tt μ₂ x₂ hq0 hqz hq hQ => ⟨fit (lb rfl), fun c hc hcz => by
    refine h c [.ref p, .ref q] _ ((x₁.trans x₂).trans (Ext.upd hc)) (Nx (x₁.trans x₂) hc) hcz Qz rfl ?_
    have hp2 := x₂ _ _ hp
    intro v hv
    rcases List.mem_cons.mp hv with rfl | hv
    · exact ⟨p, ss, rfl, Y2 hp2 hc, Ext.upd hc _ _ hp2, hP⟩
    · obtain rfl := List.mem_singleton.mp hv
      exact ⟨q, tt, rfl, Y2 hq hc, Ext.upd hc _ _ hq, hQ⟩⟩
theorem RowOk.ext {rw : Addr} {l : List MV} {μ' : MH} (h : RowOk rw n N μ l) (x : Ext μ μ') : RowOk rw n N μ' l := fun v hv => by
  obtain ⟨q, ss, a, b, c, d⟩ := h v hv
  exact ⟨q, ss, a, b, x _ _ c, d⟩
theorem RowOk.upd {rw : Addr} {l : List MV} {o : MO} (h : RowOk rw n N μ l) : RowOk rw n N (upd μ rw o) l := fun v hv => by
  obtain ⟨q, ss, a, b, c, d⟩ := h v hv
  exact ⟨q, ss, a, b, by rw [Y8 b]; exact c, d⟩
theorem row_app {i : Nat} {rw : Addr} {l : List MV} {e : ME} (hv : V i = some (.ref rw)) (hm : μ rw = some (.list l)) (hz : rw ∉ fz) (h0 : μ₀ rw = none) (x : Ext μ₀ μ) (hr : RowOk rw n N μ l) (hl : l.length ≤ 100) (he : PE G Φ fz V μ₀ e n N) (h : ∀ v μ', Ext μ₀ μ' → μ' rw = some (.list (l ++ [v])) → RowOk rw n N μ' (l ++ [v]) → Q .none μ') : ev G Φ X0 (.meth .append (.var i) [e]) fz V Q μ :=
  Yo (Ql hv ⟨Be hm, he μ _ x fun p ss μ₁ x₁ hp0 hpz hp hP => ⟨l, x₁ _ _ hm, hz, fit (by first|exact dn hd rfl|exact dl hd rfl|exact Nat.le_trans (by assumption) (by decide)), by
    have hpr : p ≠ rw := fun q => by rw [q, hm] at hp0; cases hp0
    refine h (.ref p) _ (fun a o q => by rw [Y8 (Y2 q h0)]; exact x₁ _ _ (x a o q)) Qz fun v hv => ?_
    rcases List.mem_append.mp hv with hv | hv
    · exact (hr.ext x₁).upd v hv
    · obtain rfl := List.mem_singleton.mp hv
      exact ⟨p, ss, rfl, hpr, by rw [Y8 hpr]; exact hp, hP⟩⟩⟩)
theorem row_ix {rw : Addr} {l : List MV} {k : Int} (hm : μ rw = some (.list l)) (hl : l.length ≤ 100) (h0 : 0 ≤ k) (h1 : k < l.length) : ∃ v ∈ l, idxM μ (.ref rw) (.int k) = some v := by
  have h2 : k.toNat < l.length := by simp [*]
  refine ⟨l[k.toNat], List.getElem_mem h2, ?_⟩
  rw [Zx hm (by first|exact dn hd rfl|exact dl hd rfl|exact Nat.le_trans (by assumption) (by decide)), K5 h0, List.getElem?_eq_getElem h2]
theorem Ck {c : Nat} {s : String} {p : Addr} {ss : List Str} (hs : S s = ⟨#[c]⟩) (hc : c = 32 ∨ c = 10) (hp : μ p = some (.list (ss.map .str))) (hP : Pcs n N ss) (hN : N ≤ 100000) (h : ∀ t, Tx n N t → Q (.str t) μ) : methM fz .join (.str (S s)) [.ref p] Q μ := by
  have h1 := hP.wid
  have h2 := Gx ss
  refine ⟨_, ss, Zw hp, Zt _, by rw [hs]; exact lb rfl, by lia, h _ ?_⟩
  rw [hs]; exact hP.join hc
end
end Mine
end
section
namespace Mine
open PySem
variable {G : String → Option MV} {Γ : String → Option MFun}
structure BQ (t A : Str) (cell pos pl sp kd : Int) (L W : Addr) (V : MVars) : Prop where
  v0 : V 0 = some (.str t)
  v1 : V 1 = some (.int cell)
  v3 : V 3 = some (.str A)
  v4 : V 4 = some (.int pos)
  v5 : V 5 = some (.ref L)
  v6 : V 6 = some (.int pl)
  v7 : V 7 = some (.ref W)
  v8 : V 8 = some (.int sp)
  v9 : V 9 = some (.int kd)
theorem BQ.set {t A : Str} {cell pos pl sp kd : Int} {L W : Addr} {V : MVars} (y : BQ t A cell pos pl sp kd L W V) {i : Nat} (h : 10 ≤ i) (v : MV) : BQ t A cell pos pl sp kd L W (setv V i v) :=
  ⟨(Qk (by first | exact nei h rfl | decide)).trans y.v0, (Qk (by first | exact nei h rfl | decide)).trans y.v1, (Qk (by first | exact nei h rfl | decide)).trans y.v3, (Qk (by first | exact nei h rfl | decide)).trans y.v4, (Qk (by first | exact nei h rfl | decide)).trans y.v5, (Qk (by first | exact nei h rfl | decide)).trans y.v6, (Qk (by first | exact nei h rfl | decide)).trans y.v7, (Qk (by first | exact nei h rfl | decide)).trans y.v8, (Qk (by first | exact nei h rfl | decide)).trans y.v9⟩
structure BS (n N : Nat) (t A : Str) (pos pl sp kd : Int) (L W : Addr) (μ : MH) : Prop where
  tx : Tx n N t
  hn : 12 ≤ n
  hN : N ≤ 10000
  asc : Asc A
  len : 1 ≤ A.length ∧ A.length ≤ 200
  pos : 0 ≤ pos ∧ pos ≤ t.length
  pl : 0 ≤ pl ∧ pl < (Txt.split t (S "\n")).length
  sp : 0 ≤ sp ∧ sp < (Txt.split t (S " ")).length
  kd : 0 ≤ kd ∧ kd < 12
  hL : μ L = some (.list ((Txt.split t (S "\n")).map .str))
  hW : μ W = some (.list ((Txt.split t (S " ")).map .str))
section
variable {Φ : CallSpec} {fz : List Addr} {V : MVars} {μ : MH} {R : MFlow → MVars → MH → Prop} {n N : Nat} {t A : Str} {cell pos pl sp kd : Int} {L W : Addr}
theorem BS.lines (b : BS n N t A pos pl sp kd L W μ) : Pcs n (N + 1) (Txt.split t (S "\n")) := by rw [Dx]; exact b.tx.split
theorem BS.words (b : BS n N t A pos pl sp kd L W μ) : Pcs n (N + 1) (Txt.split t (S " ")) := by rw [Dw]; exact b.tx.split
theorem pie_lit {n : Nat} {s : Str} (h : s.length ≤ 7) (ha : Asc s) (hn : 7 ≤ n) : Pie n s := ⟨ha, .len (by rw [← Xy]; lia)⟩
theorem R1 {Q : MQ} {x y : Int} (h : Q (.int (x + y)) μ) : binM fz .add (.int x) (.int y) Q μ := h
theorem ev_slv {Q : MQ} {i j : Nat} {x : MV} {k : Int} (hi : V i = some x) (hj : V j = some (.int k)) (h : sliceM fz x .none (.int k) .none Q μ) : ev G Φ X0 (.slice (.var i) .cnone (.var j) .cnone) fz V Q μ := ⟨x, hi, _, hj, h⟩
theorem bent_9 (y : BQ t A cell pos pl sp kd L W V) (b : BS n N t A pos pl sp kd L W μ) (h : ∀ t' V' μ', Tx (n + 1 + n) (3 * N + 40) t' → Ext μ μ' → R (.ret (.str t')) V' μ') : exs G Φ X0 [Vl, Vk] fz V R μ := by
  have hp := b.pos
  have hk := b.kd
  have hN := b.hN
  have hl := b.tx.len
  have hA := b.len
  have hj := fm (a := cell.fdiv 50) (b := (A.length : Int)) (by first|exact dn hd rfl|exact dl hd rfl|lia)
  refine seq (Yz ⟨_, y.v3, Xn (Xn ⟨_, y.v1, ⟨by decide, sm (by decide) (by decide)⟩, Ye (Ql y.v3 ⟨fit (by first|exact dn hd rfl|exact dl hd rfl|lia), by lia, ?_⟩)⟩)⟩)
  generalize (cell.fdiv 50).fmod (A.length : Int) = j at hj ⊢
  have hjl : j.toNat < A.cps.toList.length := by rw [← Xy]; simp [*]
  refine ⟨.str ⟨#[A.cps.toList[j.toNat]]⟩, ?_, ?_⟩
  · rw [i_str (by first|exact dn hd rfl|exact dl hd rfl|lia), K5 hj.1, List.getElem?_eq_getElem hjl]; rfl
  have hsg : Asc ⟨#[A.cps.toList[j.toNat]]⟩ := fun c hc => b.asc c (by simp at hc; rw [hc]; exact List.getElem_mem hjl)
  have hsl : (⟨#[A.cps.toList[j.toNat]]⟩ : Str).length = 1 := rfl
  generalize (⟨#[A.cps.toList[j.toNat]]⟩ : Str) = sg at hsg hsl ⊢
  replace y := y.set (i := 10) (by decide) (.str sg)
  have v10 : setv V 10 (.str sg) 10 = some (.str sg) := X8
  dsimp only [kr0]
  generalize setv V 10 (.str sg) = V at y v10 ⊢
  have hpt : pick t.cps.toList none (some pos) none = t.cps.toList.take pos.toNat := Py _ hp.1 (by rw [← Xy]; exact hp.2)
  have h0 : 0 ≤ kd.fdiv 2 := by rw [Int.fdiv_eq_ediv_of_nonneg _ (by decide)]; lia
  have hpd : pick t.cps.toList (some (pos + kd.fdiv 2)) none none = t.cps.toList.drop (pos + kd.fdiv 2).toNat := pick_dropc _ (by first|exact dn hd rfl|exact dl hd rfl|lia)
  refine seq (Yl (Xn (Xn (ev_slv y.v0 y.v4 (Je rfl rfl rfl st0 (fit (by first|exact dn hd rfl|exact dl hd rfl|lia)) ?_)))))
  refine Iq (ss := [sg, sg, S "0", S "-", S ""]) (fun P hP => ⟨_, v10, _, v10, hP⟩) (lb rfl) (fun Q μ hQ => ev_dm (c := 10) (m := 5) y.v1 (by decide) (by decide) hQ) fun s hs μ' x' => ?_
  have hs2 : Asc s ∧ s.length ≤ 1 := by
    simp only [List.mem_cons, List.not_mem_nil, or_false] at hs
    rcases hs with rfl | rfl | rfl | rfl | rfl
    · exact ⟨hsg, by simp [*]⟩
    · exact ⟨hsg, by simp [*]⟩
    · exact ⟨by unfold Asc; decide +kernel, by decide +kernel⟩
    · exact ⟨by unfold Asc; decide +kernel, by decide +kernel⟩
    · exact ⟨by unfold Asc; decide +kernel, by decide +kernel⟩
  rw [hpt]
  have hcut := b.tx.cut (i := pos.toNat) (j := (pos + kd.fdiv 2).toNat) hs2.1 hs2.2 (by first|exact dn hd rfl|exact dl hd rfl|lia)
  have l1 := (b.tx.take pos.toNat).len
  have l2 := (b.tx.drop (pos + kd.fdiv 2).toNat).len
  refine ⟨fit (by first|exact dn hd rfl|exact dl hd rfl|lia), ev_sl1 (Ql y.v0 (Xn (Ql y.v4 (Xn (Ql y.v9 ⟨⟨by decide, sm (by decide) (by decide)⟩, ?_⟩)))))⟩
  refine R1 (Je rfl rfl rfl st0 (fit (by first|exact dn hd rfl|exact dl hd rfl|lia)) ?_)
  rw [hpd]
  refine ⟨fit (by rw [Xx]; lia), h _ _ _ ⟨hcut.pie, Nat.le_trans hcut.len (by first|exact dn hd rfl|exact dl hd rfl|lia)⟩ x'⟩
theorem Ol {i j : Nat} {l : Addr} {ls : List Str} {k : Int} {M : Nat} (hv : V i = some (.ref l)) (hl : μ l = some (.list (ls.map .str))) (hp : Pcs n M ls) (hM : M ≤ 90000) (hj : V j = some (.int k)) : PE G Φ fz V μ (.slice (.var i) .cnone (.var j) .cnone) n M :=
  pe_sl (lo := .none) (hi := .int k) hv hl hp hM (fun Q μ q => q) (fun Q μ q => ⟨_, hj, q⟩) rfl rfl
theorem pe_fr {i j : Nat} {l : Addr} {ls : List Str} {k : Int} {M : Nat} (hv : V i = some (.ref l)) (hl : μ l = some (.list (ls.map .str))) (hp : Pcs n M ls) (hM : M ≤ 90000) (hj : V j = some (.int k)) : PE G Φ fz V μ (.slice (.var i) (.var j) .cnone .cnone) n M :=
  pe_sl (lo := .int k) (hi := .none) hv hl hp hM (fun Q μ q => ⟨_, hj, q⟩) (fun Q μ q => q) rfl rfl
theorem Bz {i j : Nat} {l : Addr} {ls : List Str} {k : Int} {M : Nat} (hv : V i = some (.ref l)) (hl : μ l = some (.list (ls.map .str))) (hp : Pcs n M ls) (hM : M ≤ 90000) (hj : V j = some (.int k)) : PE G Φ fz V μ (.slice (.var i) (.bin .add (.var j) (.cint 1)) .cnone .cnone) n M :=
  pe_sl (lo := .int (k + 1)) (hi := .none) hv hl hp hM (fun Q μ q => Xn ⟨_, hj, q⟩) (fun Q μ q => q) rfl rfl
theorem pe_at {i j : Nat} {l : Addr} {ls : List Str} {k : Int} {M : Nat} (hv : V i = some (.ref l)) (hl : μ l = some (.list (ls.map .str))) (hp : Pcs n M ls) (hM : M ≤ 90000) (hj : V j = some (.int k)) : PE G Φ fz V μ (.slice (.var i) (.var j) (.bin .add (.var j) (.cint 1)) .cnone) n M :=
  pe_sl (lo := .int k) (hi := .int (k + 1)) hv hl hp hM (fun Q μ q => ⟨_, hj, q⟩) (fun Q μ q => Xn ⟨_, hj, q⟩) rfl rfl
theorem wid_set (l : List Str) (i : Nat) (x : Str) : wid (l.set i x) ≤ wid l + (x.length + 1) := by
  induction l generalizing i with
  | nil => exact Nat.zero_le _
  | cons y l ih =>
    have hc : ∀ (z : Str) (m : List Str), wid (z :: m) = z.length + 1 + wid m := fun z m => by unfold wid; rw [List.map_cons, List.sum_cons]
    cases i with
    | zero => rw [List.set_cons_zero, hc, hc]; lia
    | succ i => rw [List.set_cons_succ, hc, hc]; have := ih i; lia
theorem Pcs.set {n N M : Nat} {l : List Str} {i : Nat} {x : Str} (h : Pcs n N l) (hx : Pie n x) (hl : x.length + 1 ≤ M) : Pcs n (N + M) (l.set i x) := ⟨fun p hp => (List.mem_or_eq_of_mem_set hp).elim (h.pie p) fun e => e ▸ hx, by
  have := wid_set l i x
  have := h.wid; lia⟩
theorem bent_11 (y : BQ t A cell pos pl sp kd L W V) (b : BS n N t A pos pl sp kd L W μ) (h : ∀ t' V' μ', Tx (n + 1 + n) (3 * N + 40) t' → Ext μ μ' → R (.ret (.str t')) V' μ') : exs G Φ X0 [Us, Ur] fz V R μ := by
  have hN := b.hN
  have hn := b.hn
  have hls := b.lines
  have hll := hls.len
  obtain ⟨x, hx, hix⟩ := Vy b.hL (by first|exact dn hd rfl|exact dl hd rfl|lia) b.pl.1 b.pl.2
  have hxl := hls.mem hx
  have hxp := hls.pie x hx
  have l1 : (S " ").length = 1 := Nt
  have l2 : (S "\t").length = 1 := by decide +kernel
  have l3 : (S " 1").length = 2 := by decide +kernel
  have m1 : (Str.ofString " ").length = 1 := l1
  have m2 : (Str.ofString "\t").length = 1 := l2
  have m3 : (Str.ofString " 1").length = 2 := l3
  have p1 : Pie 1 (S " ") := ⟨by unfold Asc; decide +kernel, .len (by rw [← Xy]; exact Nat.le_refl _)⟩
  have p2 : Pie 1 (S "\t") := ⟨by unfold Asc; decide +kernel, .len (by rw [← Xy]; exact Nat.le_refl _)⟩
  have p3 : Pie 2 (S " 1") := ⟨by unfold Asc; decide +kernel, .len (by rw [← Xy]; exact Nat.le_refl _)⟩
  refine seq (Yz ?_)
  refine (Iq (ss := [x ++ S " ", S " " ++ x, x ++ S "\t", x ++ S " 1"]) (fun P hP => Xn (Pp y.v5 y.v6 hix ⟨fit (by first|exact dn hd rfl|exact dl hd rfl|lia), Xn (Xz (Pp y.v5 y.v6 hix ⟨fit (by first|exact dn hd rfl|exact dl hd rfl|lia), Xn (Pp y.v5 y.v6 hix ⟨fit (by first|exact dn hd rfl|exact dl hd rfl|lia), Xn (Pp y.v5 y.v6 hix ⟨fit (by first|exact dn hd rfl|exact dl hd rfl|lia), hP⟩)⟩)⟩))⟩)) (lb rfl) (fun Q μ hQ => ev_dm (c := 12) (m := 4) y.v1 (by decide) (by decide) hQ) fun s hs μ' x' => ?_)
  have hs2 : Pie (n + 2) s ∧ s.length + 1 ≤ N + 5 := by
    simp only [List.mem_cons, List.not_mem_nil, or_false] at hs
    rcases hs with rfl | rfl | rfl | rfl
    · exact ⟨(hxp.app p1).mono (by first|exact dn hd rfl|exact dl hd rfl|solve_by_elim (maxDepth := 3) only [*, Int.le_trans, Int.lt_of_lt_of_le, Int.lt_of_le_of_lt, Int.le_of_lt]), by rw [Xx]; lia⟩
    · exact ⟨(p1.app hxp).mono (by first|exact dn hd rfl|exact dl hd rfl|lia), by rw [Xx]; lia⟩
    · exact ⟨(hxp.app p2).mono (by first|exact dn hd rfl|exact dl hd rfl|solve_by_elim (maxDepth := 3) only [*, Int.le_trans, Int.lt_of_lt_of_le, Int.lt_of_le_of_lt, Int.le_of_lt]), by rw [Xx]; lia⟩
    · exact ⟨hxp.app p3, by rw [Xx]; lia⟩
  replace y := y.set (i := 13) (by decide) (.str s)
  have v13 : setv V 13 (.str s) 13 = some (.str s) := X8
  dsimp only [kr0]
  generalize setv V 13 (.str s) = V at y v13 ⊢
  have hls' := hls.mono (m := n + 2) (by first|exact dn hd rfl|exact dl hd rfl|simp) (Nat.le_refl _)
  have pe := Z6 (G := G) (Φ := Φ) (fz := fz) (Z6 (Ol y.v5 b.hL hls' (by first|exact dn hd rfl|exact dl hd rfl|exact Nat.lt_of_le_of_lt (by assumption) (by decide)) y.v6) (By (M := N + 5) (fun Q μ _ q => Ql v13 q) hs2.1 hs2.2) (by first|exact dn hd rfl|exact dl hd rfl|lia)) (Bz y.v5 b.hL hls' (by first|exact dn hd rfl|exact dl hd rfl|exact Nat.lt_of_le_of_lt (by assumption) (by decide)) y.v6) (by first|exact dn hd rfl|exact dl hd rfl|lia)
  refine seq (Yl (Yo (Xz ⟨rfl, pe _ _ x' fun p ss μ₂ x₂ _ _ hp hP => Ck Dx (.inr rfl) hp (hP.mono (m := n + 1 + n) (M := 3 * N + 40) (by first|exact dn hd rfl|exact dl hd rfl|lia) (by first|exact dn hd rfl|exact dl hd rfl|lia)) (by first|exact dn hd rfl|exact dl hd rfl|lia) fun t' ht' => h t' _ _ ht' (x'.trans x₂)⟩)))
theorem bent_12 (y : BQ t A cell pos pl sp kd L W V) (b : BS n N t A pos pl sp kd L W μ) (hk : 6 ≤ kd ∧ kd ≤ 10) (h : ∀ t' V' μ', Tx (n + 1 + n) (3 * N + 40) t' → Ext μ μ' → R (.ret (.str t')) V' μ') : exs G Φ X0 [Km, Kl, Kk, Kj, Ki, Kh] fz V R μ := by
  have hN := b.hN
  have hn := b.hn
  have hws := b.words
  have hwl := hws.len
  obtain ⟨x, hx, hix⟩ := Vy b.hW (by first|exact dn hd rfl|exact dl hd rfl|lia) b.sp.1 b.sp.2
  have hxl := hws.mem hx
  have hxp := hws.pie x hx
  refine seq (Yz ?_)
  refine Iq (ss := [S "tell", S "undo", S "like", S "clear", S "7", S "-1", S "1000001", S "x", S "0"]) (fun P hP => hP) (lb rfl) (fun Q μ hQ => ev_dm (c := 10) (m := 9) y.v1 (by decide) (by decide) hQ) fun wd hs μ₁ x₁ => ?_
  have hwd : Asc wd ∧ wd.length ≤ 7 := by
    have : ∀ s ∈ [S "tell", S "undo", S "like", S "clear", S "7", S "-1", S "1000001", S "x", S "0"], (∀ c ∈ s.cps.toList, c ≤ 127) ∧ s.length ≤ 7 := by decide +kernel
    exact this wd hs
  clear hs
  replace y := y.set (i := 14) (by decide) (.str wd)
  have v14 : setv V 14 (.str wd) 14 = some (.str wd) := X8
  dsimp only [kr0]
  generalize setv V 14 (.str wd) = V at y v14 ⊢
  have hW₁ := x₁ _ _ b.hW
  refine seq (Yz (Xn ?_))
  refine Iq (ss := [S "0", S "-", S "+", S "x"]) (fun P hP => hP) (lb rfl) (fun Q μ hQ => ev_dm (c := 10) (m := 4) y.v1 (by decide) (by decide) hQ) fun s hs μ₂ x₂ => ?_
  have hs1 : Asc s ∧ s.length = 1 := by
    have : ∀ s ∈ [S "0", S "-", S "+", S "x"], (∀ c ∈ s.cps.toList, c ≤ 127) ∧ s.length = 1 := by decide +kernel
    exact this s hs
  clear hs
  replace x₁ := x₁.trans x₂
  obtain ⟨x', hx', hix'⟩ := Vy (x₂ _ _ hW₁) (by first|exact dn hd rfl|exact dl hd rfl|lia) b.sp.1 b.sp.2
  have hxl' := hws.mem hx'
  refine Pp y.v7 y.v8 hix' ⟨fit (by first|exact dn hd rfl|exact dl hd rfl|lia), ?_⟩
  have hlp : Pie (n + 2) (s ++ x') := ((⟨hs1.1, .len (by rw [← Xy]; simp [*])⟩ : Pie 1 s).app (hws.pie x' hx')).mono (by first|exact dn hd rfl|exact dl hd rfl|lia)
  have hll : (s ++ x').length + 1 ≤ N + 5 := by rw [Xx]; lia
  generalize s ++ x' = lg at hlp hll ⊢
  replace y := y.set (i := 15) (by decide) (.str lg)
  replace v14 : setv V 15 (.str lg) 14 = some (.str wd) := (Qk (by decide)).trans v14
  have v15 : setv V 15 (.str lg) 15 = some (.str lg) := X8
  dsimp only [kr0]
  generalize setv V 15 (.str lg) = V at y v14 v15 ⊢
  replace hW₁ := x₁ _ _ b.hW
  clear x₂ hix hix' hx hx'
  have hw2 := hws.mono (m := n + 2) (by first|exact dn hd rfl|exact dl hd rfl|simp) (Nat.le_refl _)
  have wdp : Pie (n + 2) wd := pie_lit hwd.2 hwd.1 (by first|exact dn hd rfl|exact dl hd rfl|lia)
  have wl : wd.length + 1 ≤ N + 8 := by lia
  refine seq (Yz (row2 (μ₀ := μ₂) (n := n + 2) (N := 3 * N + 20) ((Z6 (Ol y.v7 hW₁ hw2 (by first|exact dn hd rfl|exact dl hd rfl|exact Nat.lt_of_le_of_lt (by assumption) (by decide)) y.v8) (Bz y.v7 hW₁ hw2 (by first|exact dn hd rfl|exact dl hd rfl|exact Nat.lt_of_le_of_lt (by assumption) (by decide)) y.v8) (by first|exact dn hd rfl|exact dl hd rfl|lia)).mono (Nat.le_refl _) (by first|exact dn hd rfl|exact dl hd rfl|lia)) ((Z6 (Z6 (Ol y.v7 hW₁ hw2 (by first|exact dn hd rfl|exact dl hd rfl|exact Nat.lt_of_le_of_lt (by assumption) (by decide)) y.v8) (pe_at y.v7 hW₁ hw2 (by first|exact dn hd rfl|exact dl hd rfl|exact Nat.lt_of_le_of_lt (by assumption) (by decide)) y.v8) (by first|exact dn hd rfl|exact dl hd rfl|lia)) (pe_fr y.v7 hW₁ hw2 (by first|exact dn hd rfl|exact dl hd rfl|exact Nat.lt_of_le_of_lt (by assumption) (by decide)) y.v8) (by first|exact dn hd rfl|exact dl hd rfl|lia)).mono (Nat.le_refl _) (by first|exact dn hd rfl|exact dl hd rfl|lia)) Ext.refl fun rw l μ₃ x₃ hrw hrz hm hl2 hr => ?_))
  replace y := y.set (i := 12) (by decide) (.ref rw)
  replace v14 : setv V 12 (.ref rw) 14 = some (.str wd) := (Qk (by decide)).trans v14
  replace v15 : setv V 12 (.ref rw) 15 = some (.str lg) := (Qk (by decide)).trans v15
  have v12 : setv V 12 (.ref rw) 12 = some (.ref rw) := X8
  dsimp only [kr0]
  generalize setv V 12 (.ref rw) = V at y v12 v14 v15 ⊢
  replace x₁ := x₁.trans x₃
  replace hW₁ := x₁ _ _ b.hW
  refine seq (Yz (Xn ⟨_, v12, row2 (μ₀ := μ₃) (n := n + 2) (N := 3 * N + 20) ((Z6 (Z6 (Ol y.v7 hW₁ hw2 (by first|exact dn hd rfl|exact dl hd rfl|exact Nat.lt_of_le_of_lt (by assumption) (by decide)) y.v8) (By (M := N + 8) (fun Q μ _ q => Ql v14 q) wdp wl) (by first|exact dn hd rfl|exact dl hd rfl|lia)) (Bz y.v7 hW₁ hw2 (by first|exact dn hd rfl|exact dl hd rfl|exact Nat.lt_of_le_of_lt (by assumption) (by decide)) y.v8) (by first|exact dn hd rfl|exact dl hd rfl|lia)).mono (Nat.le_refl _) (by first|exact dn hd rfl|exact dl hd rfl|lia)) ((Z6 (Z6 (Ol y.v7 hW₁ hw2 (by first|exact dn hd rfl|exact dl hd rfl|exact Nat.lt_of_le_of_lt (by assumption) (by decide)) y.v8) (By (M := N + 8) (fun Q μ _ q => Ql v14 q) wdp wl) (by first|exact dn hd rfl|exact dl hd rfl|lia)) (pe_fr y.v7 hW₁ hw2 (by first|exact dn hd rfl|exact dl hd rfl|exact Nat.lt_of_le_of_lt (by assumption) (by decide)) y.v8) (by first|exact dn hd rfl|exact dl hd rfl|lia)).mono (Nat.le_refl _) (by first|exact dn hd rfl|exact dl hd rfl|lia)) Ext.refl fun rw2 l2 μ₄ x₄ hrw2 hrz2 hm2 hl22 hr2 => ?_⟩))
  refine R0 (x₄ _ _ hm) hm2 (fit (by first|exact dn hd rfl|exact dl hd rfl|simp [*])) fun nr hnr hnz => ?_
  have hm5 : upd μ₄ nr (.list (l ++ l2)) nr = some (.list (l ++ l2)) := Qz
  have hr5 : RowOk nr (n + 2) (3 * N + 20) (upd μ₄ nr (.list (l ++ l2))) (l ++ l2) := by
    intro v hv
    obtain ⟨q, ss, e1, e2⟩ : ∃ q ss, v = .ref q ∧ μ₄ q = some (.list (ss.map .str)) ∧ Pcs (n + 2) (3 * N + 20) ss := by
      rcases List.mem_append.mp hv with hv | hv
      · obtain ⟨q, ss, a, _, c, d⟩ := hr v hv; exact ⟨q, ss, a, x₄ _ _ c, d⟩
      · obtain ⟨q, ss, a, _, c, d⟩ := hr2 v hv; exact ⟨q, ss, a, c, d⟩
    exact ⟨q, ss, e1, Y2 e2.1 hnr, Ext.upd hnr _ _ e2.1, e2.2⟩
  have x₅ : Ext μ (upd μ₄ nr (.list (l ++ l2))) := (x₁.trans x₄).trans (Ext.upd hnr)
  have hnr0 : μ nr = none := Nx (x₁.trans x₄) hnr
  have hl5 : (l ++ l2).length = 4 := by rw [List.length_append]; simp [*]
  generalize l ++ l2 = l5 at hm5 hr5 hl5 x₅ ⊢
  replace y := y.set (i := 12) (by decide) (.ref nr)
  replace v15 : setv V 12 (.ref nr) 15 = some (.str lg) := (Qk (by decide)).trans v15
  replace v12 : setv V 12 (.ref nr) 12 = some (.ref nr) := X8
  dsimp only [kr0]
  generalize setv V 12 (.ref nr) = V at y v12 v15 ⊢
  generalize upd μ₄ nr (.list l5) = μ₅ at hm5 hr5 x₅ ⊢
  refine seq (x_ex (row_app (μ₀ := μ) (n := n + 2) (N := 3 * N + 20) v12 hm5 hnz hnr0 x₅ hr5 (by first|exact dn hd rfl|exact dl hd rfl|simp [*]) ((Z6 (Z6 (Ol y.v7 b.hW hw2 (by first|exact dn hd rfl|exact dl hd rfl|exact Nat.lt_of_le_of_lt (by assumption) (by decide)) y.v8) (By (M := N + 5) (fun Q μ _ q => Ql v15 q) hlp hll) (by first|exact dn hd rfl|exact dl hd rfl|lia)) (Bz y.v7 b.hW hw2 (by first|exact dn hd rfl|exact dl hd rfl|exact Nat.lt_of_le_of_lt (by assumption) (by decide)) y.v8) (by first|exact dn hd rfl|exact dl hd rfl|lia)).mono (Nat.le_refl _) (by first|exact dn hd rfl|exact dl hd rfl|lia)) fun v μ₆ x₆ hm6 hr6 => ?_))
  obtain ⟨v', hv', hix⟩ := row_ix (k := kd - 6) hm6 (by rw [List.length_append, List.length_singleton]; simp [*]) (by first|exact dn hd rfl|exact dl hd rfl|simp [*]) (by rw [List.length_append, List.length_singleton]; lia)
  obtain ⟨q, ss, rfl, _, hq, hP⟩ := hr6 v' hv'
  exact seq (Yl (Yo (Xz ⟨rfl, ⟨_, v12, Xn ⟨_, y.v9, _, hix, Ck Dw (.inl rfl) hq (hP.mono (m := n + 1 + n) (M := 3 * N + 40) (by first|exact dn hd rfl|exact dl hd rfl|lia) (by first|exact dn hd rfl|exact dl hd rfl|simp)) (by first|exact dn hd rfl|exact dl hd rfl|omega) fun t' ht' => h t' _ _ ht' x₆⟩⟩⟩)))
end
end Mine
end
section
namespace Mine
open PySem
variable {G : String → Option MV} {Γ : String → Option MFun}
section
variable {Φ : CallSpec} {fz : List Addr} {V : MVars} {μ : MH} {R : MFlow → MVars → MH → Prop} {n N : Nat} {t A : Str} {cell pos pl sp kd : Int} {L W : Addr}
theorem N3 {Q : MQ} {i : Int} (h : Q (.int i) μ) : ev G Φ X0 (.cint i) fz V Q μ := h
theorem Iz {Q : MQ} {x y : Int} (h : Q (.int (x - y)) μ) : binM fz .sub (.int x) (.int y) Q μ := h
theorem B3 {rw q : Addr} {ss : List Str} {μ' : MH} (hN : N ≤ 10000) (hn : 12 ≤ n) (v12 : V 12 = some (.ref rw)) (v9 : V 9 = some (.int kd)) (hi : idxM μ' (.ref rw) (.int (kd - 3)) = some (.ref q)) (hq : μ' q = some (.list (ss.map .str))) (hP : Pcs n (3 * N + 20) ss) (h : ∀ t', Tx (n + 1 + n) (3 * N + 40) t' → R (.ret (.str t')) V μ') : exs G Φ X0 [Jj] fz V R μ' :=
  seq (Yl (Yo (Xz ⟨rfl, ⟨_, v12, Xn ⟨_, v9, _, hi, Ck Dx (.inr rfl) hq (hP.mono (m := n + 1 + n) (M := 3 * N + 40) (by first|exact dn hd rfl|exact dl hd rfl|simp) (by first|exact dn hd rfl|exact dl hd rfl|simp)) (by first|exact dn hd rfl|exact dl hd rfl|lia) fun t' ht' => h t' ht'⟩⟩⟩)))
theorem bent_10 (y : BQ t A cell pos pl sp kd L W V) (b : BS n N t A pos pl sp kd L W μ) (hk : 3 ≤ kd ∧ kd < 6) (h : ∀ t' V' μ', Tx (n + 1 + n) (3 * N + 40) t' → Ext μ μ' → R (.ret (.str t')) V' μ') : exs G Φ X0 [Uw, Uv, Uu, Ut, Jj] fz V R μ := by
  have hN := b.hN
  have hn := b.hn
  have hls := b.lines
  have hll := hls.len
  have hpl := b.pl
  have hmp : ((Txt.split t (S "\n")).map MV.str).length = (Txt.split t (S "\n")).length := List.length_map _
  have hot := fm (a := pl + 1) (b := ((((Txt.split t (S "\n")).map MV.str).length : Nat) : Int)) (by rw [hmp]; lia)
  refine seq (Yz (Xn (Xn (Ql y.v6 (N3 (R1 (Ye (Ql y.v5 (Yg b.hL (fit (by rw [hmp]; lia)) ⟨by rw [hmp]; lia, ?_⟩)))))))))
  generalize (pl + 1).fmod ((((Txt.split t (S "\n")).map MV.str).length : Nat) : Int) = ot at hot ⊢
  rw [hmp] at hot
  replace y := y.set (i := 11) (by decide) (.int ot)
  have v11 : setv V 11 (.int ot) 11 = some (.int ot) := X8
  dsimp only [kr0]
  generalize setv V 11 (.int ot) = V at y v11 ⊢
  refine seq (Yz (row2 (μ₀ := μ) (n := n) (N := 3 * N + 20) ((Z6 (Z6 (Ol y.v5 b.hL hls (by first|exact dn hd rfl|exact dl hd rfl|exact Nat.lt_of_le_of_lt (by assumption) (by decide)) y.v6) (pe_at y.v5 b.hL hls (by first|exact dn hd rfl|exact dl hd rfl|exact Nat.lt_of_le_of_lt (by assumption) (by decide)) y.v6) (by first|exact dn hd rfl|exact dl hd rfl|lia)) (pe_fr y.v5 b.hL hls (by first|exact dn hd rfl|exact dl hd rfl|exact Nat.lt_of_le_of_lt (by assumption) (by decide)) y.v6) (by first|exact dn hd rfl|exact dl hd rfl|lia)).mono (Nat.le_refl _) (by first|exact dn hd rfl|exact dl hd rfl|lia)) ((Z6 (Ol y.v5 b.hL hls (by first|exact dn hd rfl|exact dl hd rfl|exact Nat.lt_of_le_of_lt (by assumption) (by decide)) y.v6) (Bz y.v5 b.hL hls (by first|exact dn hd rfl|exact dl hd rfl|exact Nat.lt_of_le_of_lt (by assumption) (by decide)) y.v6) (by first|exact dn hd rfl|exact dl hd rfl|lia)).mono (Nat.le_refl _) (by first|exact dn hd rfl|exact dl hd rfl|lia)) Ext.refl fun rw l μ₁ x₁ hrw hrz hm hl2 hr => ?_))
  replace y := y.set (i := 12) (by decide) (.ref rw)
  replace v11 : setv V 12 (.ref rw) 11 = some (.int ot) := (Qk (by decide)).trans v11
  have v12 : setv V 12 (.ref rw) 12 = some (.ref rw) := X8
  dsimp only [kr0]
  generalize setv V 12 (.ref rw) = V at y v11 v12 ⊢
  have em : Pie n (S "") := ⟨by unfold Asc; decide +kernel, .len (by rw [S_em]; exact Nat.zero_le _)⟩
  have el : (S "").length = 0 := by decide +kernel
  refine seq (x_ex (row_app (μ₀ := μ) (n := n) (N := 3 * N + 20) v12 hm hrz hrw x₁ hr (by first|exact dn hd rfl|exact dl hd rfl|simp [*]) ((Z6 (Z6 (Ol y.v5 b.hL hls (by first|exact dn hd rfl|exact dl hd rfl|exact Nat.lt_of_le_of_lt (by assumption) (by decide)) y.v6) (By (s := S "") (M := 5) (fun Q μ _ q => Xz q) em (by first|exact dn hd rfl|exact dl hd rfl|decide)) (by first|exact dn hd rfl|exact dl hd rfl|lia)) (pe_fr y.v5 b.hL hls (by first|exact dn hd rfl|exact dl hd rfl|exact Nat.lt_of_le_of_lt (by assumption) (by decide)) y.v6) (by first|exact dn hd rfl|exact dl hd rfl|lia)).mono (Nat.le_refl _) (by first|exact dn hd rfl|exact dl hd rfl|lia)) fun v μ₂ x₂ hm2 hr2 => ?_))
  have hl3 : (l ++ [v]).length = 3 := by rw [List.length_append, List.length_singleton]; simp [*]
  dsimp only [kr0]
  generalize l ++ [v] = l3 at hm2 hr2 hl3 ⊢
  clear hm hr hl2
  refine seq (Y6 (Xi (ev_dm (c := 10) (m := 4) y.v1 (by decide) (by decide) fun k _ _ => ⟨_, Y1, tst (fun q => ?_) fun q => ?_⟩)))
  case refine_2 =>
    obtain ⟨v', hv', hix⟩ := row_ix (k := kd - 3) hm2 (by first|exact dn hd rfl|exact dl hd rfl|simp [*]) (by first|exact dn hd rfl|exact dl hd rfl|simp [*]) (by first|exact dn hd rfl|exact dl hd rfl|lia)
    obtain ⟨q, ss, rfl, _, hq, hP⟩ := hr2 v' hv'
    exact Yw (B3 hN hn v12 y.v9 hix hq hP fun t' ht' => h t' _ _ ht' x₂)
  refine seq (x_si (Ye (Ql y.v5 ⟨(Txt.split t (S "\n")).map .str, rfl, by simp only [items, itemsO, x₂ _ _ b.hL], fit (by rw [hmp]; lia), fun dd hdd hdz => ?_⟩)))
  have hdr : dd ≠ rw := fun e => by rw [e, hm2] at hdd; cases hdd
  have hd0 : μ dd = none := Nx x₂ hdd
  refine Ql v12 (Xn (Ql y.v9 (N3 (Iz (Oi (Ext.upd hdd _ _ hm2) hrz (fit (by first|exact dn hd rfl|exact dl hd rfl|simp [*])) (by first|exact dn hd rfl|exact dl hd rfl|simp [*]) (by first|exact dn hd rfl|exact dl hd rfl|lia) ?_)))))
  have hr4 : upd (upd μ₂ dd (.list ((Txt.split t (S "\n")).map .str))) rw (.list (l3.set (kd - 3).toNat (.ref dd))) rw = some (.list (l3.set (kd - 3).toNat (.ref dd))) := Qz
  have hd4 : upd (upd μ₂ dd (.list ((Txt.split t (S "\n")).map .str))) rw (.list (l3.set (kd - 3).toNat (.ref dd))) dd = some (.list ((Txt.split t (S "\n")).map .str)) := by rw [Y8 hdr, Qz]
  have x₄ : Ext μ (upd (upd μ₂ dd (.list ((Txt.split t (S "\n")).map .str))) rw (.list (l3.set (kd - 3).toNat (.ref dd)))) := fun a o q => by rw [Y8 (Y2 q hrw)]; exact Ext.upd hdd _ _ (x₂ a o q)
  dsimp only [kr0]
  generalize upd (upd μ₂ dd (.list ((Txt.split t (S "\n")).map .str))) rw (.list (l3.set (kd - 3).toNat (.ref dd))) = μ₄ at hr4 hd4 x₄ ⊢
  have ixd : ∀ μ', μ' rw = some (.list (l3.set (kd - 3).toNat (.ref dd))) → idxM μ' (.ref rw) (.int (kd - 3)) = some (.ref dd) := fun μ' e => by
    rw [Zx e (by rw [List.length_set]; simp [*]), K5 (by first|exact dn hd rfl|exact dl hd rfl|simp [*]), List.getElem?_set_self (by first|exact dn hd rfl|exact dl hd rfl|omega)]
  have hix4 := ixd _ hr4
  obtain ⟨s1, hs1, e1⟩ := Vy (x₄ _ _ b.hL) (by first|exact dn hd rfl|exact dl hd rfl|lia) hot.1 hot.2
  refine seq (x_si (Pp y.v5 v11 e1 ⟨_, v12, Xn (Ql y.v9 (N3 (Iz ⟨_, hix4, Ql y.v6 (Oi hd4 hdz (fit (by rw [hmp]; lia)) hpl.1 (by rw [hmp]; exact hpl.2) ?_)⟩)))⟩))
  have hrd : rw ≠ dd := fun e => hdr e.symm
  rw [show ((Txt.split t (S "\n")).map MV.str).set pl.toNat (.str s1) = ((Txt.split t (S "\n")).set pl.toNat s1).map .str from (List.map_set ..).symm]
  have hd5 : upd μ₄ dd (.list (((Txt.split t (S "\n")).set pl.toNat s1).map .str)) dd = some (.list (((Txt.split t (S "\n")).set pl.toNat s1).map .str)) := Qz
  have hr5 : upd μ₄ dd (.list (((Txt.split t (S "\n")).set pl.toNat s1).map .str)) rw = some (.list (l3.set (kd - 3).toNat (.ref dd))) := by rw [Y8 hrd]; exact hr4
  have x₅ : Ext μ (upd μ₄ dd (.list (((Txt.split t (S "\n")).set pl.toNat s1).map .str))) := fun a o q => by rw [Y8 (Y2 q hd0)]; exact x₄ a o q
  dsimp only [kr0]
  generalize upd μ₄ dd (.list (((Txt.split t (S "\n")).set pl.toNat s1).map .str)) = μ₅ at hd5 hr5 x₅ ⊢
  obtain ⟨s2, hs2, e2⟩ := Vy (x₅ _ _ b.hL) (by first|exact dn hd rfl|exact dl hd rfl|lia) hpl.1 hpl.2
  have hix5 := ixd _ hr5
  have hsl : (((Txt.split t (S "\n")).set pl.toNat s1).map MV.str).length = (Txt.split t (S "\n")).length := by rw [List.length_map, List.length_set]
  refine seq (x_si (Pp y.v5 y.v6 e2 ⟨_, v12, Xn (Ql y.v9 (N3 (Iz ⟨_, hix5, Ql v11 (Oi hd5 hdz (fit (by rw [hsl]; lia)) hot.1 (by rw [hsl]; exact hot.2) ?_)⟩)))⟩))
  rw [show (((Txt.split t (S "\n")).set pl.toNat s1).map MV.str).set ot.toNat (.str s2) = (((Txt.split t (S "\n")).set pl.toNat s1).set ot.toNat s2).map .str from (List.map_set ..).symm]
  have hP := ((hls.set (i := pl.toNat) (hls.pie s1 hs1) (hls.mem hs1)).set (i := ot.toNat) (hls.pie s2 hs2) (hls.mem hs2)).mono (m := n) (M := 3 * N + 20) (Nat.le_refl _) (by first|exact dn hd rfl|exact dl hd rfl|lia)
  refine B3 hN hn v12 y.v9 (ixd _ ?_) Qz hP fun t' ht' => h t' _ _ ht' fun a o q => ?_
  · rw [Y8 hrd]; exact hr5
  · rw [Y8 (Y2 q hd0)]; exact x₅ a o q
end
noncomputable def signs : Str := S " !\"#$&'()*+,-./" ++ S "0123456789" ++ S ":;<=>?@ABCDEFGHIJKLMNOPQRSTUVWXYZ[\\]^_`" ++ S "abcdefghijklmnopqrstuvwxyz{|}~\n\t"
theorem signs_ok : (∀ c ∈ signs.cps.toList, c ≤ 127) ∧ 1 ≤ signs.length ∧ signs.length ≤ 200 := by decide +kernel
theorem bent_spec {d : Nat} {fz : List Addr} {Q : MQ} {μ : MH} {n N : Nat} {t : Str} {cell more : Int} (K : Ks G Γ) (hd : 1 ≤ d) (ht : Tx n N t) (hn : 12 ≤ n) (hN : N ≤ 10000) (h : ∀ t' μ', Tx (n + 1 + n) (3 * N + 40) t' → Ext μ μ' → Q (.str t') μ') : calls G Γ d "_law_bent" [.str t, .int cell, .int more] fz Q X0 μ := by
  have htl := ht.len
  have l1 : (S " !\"#$&'()*+,-./").length ≤ 50 := by decide +kernel
  have l2 : (S "0123456789").length ≤ 50 := by decide +kernel
  have l3 : (S ":;<=>?@ABCDEFGHIJKLMNOPQRSTUVWXYZ[\\]^_`").length ≤ 50 := by decide +kernel
  have l4 : (S "abcdefghijklmnopqrstuvwxyz{|}~\n\t").length ≤ 50 := by decide +kernel
  refine Y3 K.bent rfl hd (seq (Yz (Xn (Xn (Xz (Xz ⟨fit (by first|exact dn hd rfl|exact dl hd rfl|decide), Xz ⟨fit (by rw [Xx]; decide), seq (Yz (Xn (Ql rfl (Xz ⟨fit (by rw [Xx, Xx]; decide), ?_⟩))))⟩⟩))))))
  show exs G (calls G Γ (d - 1)) X0 [Pg, Pf, Pe, Pd, Pc, Pb, Pa, Np, No, Km, Kl, Kk, Kj, Ki, Kh] fz (setv (setv (args0 [.str t, .int cell, .int more]) 3 (.str (S " !\"#$&'()*+,-./" ++ S "0123456789" ++ S ":;<=>?@ABCDEFGHIJKLMNOPQRSTUVWXYZ[\\]^_`"))) 3 (.str signs)) (kz Q) μ
  generalize hV : setv (setv (args0 [.str t, .int cell, .int more]) 3 (.str (S " !\"#$&'()*+,-./" ++ S "0123456789" ++ S ":;<=>?@ABCDEFGHIJKLMNOPQRSTUVWXYZ[\\]^_`"))) 3 (.str signs) = V
  have v0 : V 0 = some (.str t) := by rw [← hV]; rfl
  have v1 : V 1 = some (.int cell) := by rw [← hV]; rfl
  have v2 : V 2 = some (.int more) := by rw [← hV]; rfl
  have v3 : V 3 = some (.str signs) := by rw [← hV]; rfl
  clear hV
  have hpos := fm (a := more) (b := (t.length : Int) + 1) (by first|exact dn hd rfl|exact dl hd rfl|simp)
  refine seq (Yz (Xn (Ql v2 (Xn (Ye (Ql v0 ⟨fit (by first|exact dn hd rfl|exact dl hd rfl|lia), N3 (R1 ⟨by lia, ?_⟩)⟩))))))
  generalize more.fmod ((t.length : Int) + 1) = pos at hpos ⊢
  replace v0 : setv V 4 (.int pos) 0 = some (.str t) := (Qk (by decide)).trans v0
  replace v1 : setv V 4 (.int pos) 1 = some (.int cell) := (Qk (by decide)).trans v1
  replace v2 : setv V 4 (.int pos) 2 = some (.int more) := (Qk (by decide)).trans v2
  replace v3 : setv V 4 (.int pos) 3 = some (.str signs) := (Qk (by decide)).trans v3
  have v4 : setv V 4 (.int pos) 4 = some (.int pos) := X8
  dsimp only [kr0]
  generalize setv V 4 (.int pos) = V at v0 v1 v2 v3 v4 ⊢
  refine seq (Yz (Yo (Ql v0 ⟨rfl, Xz ⟨C4, fit (by first|exact dn hd rfl|exact dl hd rfl|lia), fun L hL hLz => ?_⟩⟩)))
  have mL : upd μ L (.list ((Txt.split t (S "\n")).map .str)) L = some (.list ((Txt.split t (S "\n")).map .str)) := Qz
  have x₁ := Ext.upd (o := .list ((Txt.split t (S "\n")).map .str)) hL
  replace v0 : setv V 5 (.ref L) 0 = some (.str t) := (Qk (by decide)).trans v0
  replace v1 : setv V 5 (.ref L) 1 = some (.int cell) := (Qk (by decide)).trans v1
  replace v2 : setv V 5 (.ref L) 2 = some (.int more) := (Qk (by decide)).trans v2
  replace v3 : setv V 5 (.ref L) 3 = some (.str signs) := (Qk (by decide)).trans v3
  replace v4 : setv V 5 (.ref L) 4 = some (.int pos) := (Qk (by decide)).trans v4
  have v5 : setv V 5 (.ref L) 5 = some (.ref L) := X8
  dsimp only [kr0]
  generalize setv V 5 (.ref L) = V at v0 v1 v2 v3 v4 v5 ⊢
  generalize upd μ L (.list ((Txt.split t (S "\n")).map .str)) = μ₁ at mL x₁ ⊢
  have hls : Pcs n (N + 1) (Txt.split t (S "\n")) := by rw [Dx]; exact ht.split
  have hws : Pcs n (N + 1) (Txt.split t (S " ")) := by rw [Dw]; exact ht.split
  have hll := hls.len
  have hwl := hws.len
  have lm : ((Txt.split t (S "\n")).map MV.str).length = (Txt.split t (S "\n")).length := List.length_map _
  have wm : ((Txt.split t (S " ")).map MV.str).length = (Txt.split t (S " ")).length := List.length_map _
  have l0 : 0 < (Txt.split t (S "\n")).length := List.length_pos_iff.mpr (V3 _ _)
  have w0 : 0 < (Txt.split t (S " ")).length := List.length_pos_iff.mpr (V3 _ _)
  have hpl := fm (a := more) (b := ((((Txt.split t (S "\n")).map MV.str).length : Nat) : Int)) (by rw [lm]; exact Int.ofNat_lt.mpr (by assumption))
  have hsp := fm (a := more) (b := ((((Txt.split t (S " ")).map MV.str).length : Nat) : Int)) (by rw [wm]; exact Int.ofNat_lt.mpr (by assumption))
  refine seq (Yz (Xn (Ql v2 (Ye (Ql v5 (Yg mL (fit (by rw [lm]; lia)) ⟨by rw [lm]; lia, ?_⟩))))))
  generalize more.fmod ((((Txt.split t (S "\n")).map MV.str).length : Nat) : Int) = pl at hpl ⊢
  rw [lm] at hpl
  replace v0 : setv V 6 (.int pl) 0 = some (.str t) := (Qk (by decide)).trans v0
  replace v1 : setv V 6 (.int pl) 1 = some (.int cell) := (Qk (by decide)).trans v1
  replace v2 : setv V 6 (.int pl) 2 = some (.int more) := (Qk (by decide)).trans v2
  replace v3 : setv V 6 (.int pl) 3 = some (.str signs) := (Qk (by decide)).trans v3
  replace v4 : setv V 6 (.int pl) 4 = some (.int pos) := (Qk (by decide)).trans v4
  replace v5 : setv V 6 (.int pl) 5 = some (.ref L) := (Qk (by decide)).trans v5
  have v6 : setv V 6 (.int pl) 6 = some (.int pl) := X8
  dsimp only [kr0]
  generalize setv V 6 (.int pl) = V at v0 v1 v2 v3 v4 v5 v6 ⊢
  refine seq (Yz (Yo (Ql v0 ⟨rfl, Xz ⟨Nt, fit (by first|exact dn hd rfl|exact dl hd rfl|lia), fun W hW hWz => ?_⟩⟩)))
  have mW : upd μ₁ W (.list ((Txt.split t (S " ")).map .str)) W = some (.list ((Txt.split t (S " ")).map .str)) := Qz
  have x₂ := Ext.upd (o := .list ((Txt.split t (S " ")).map .str)) hW
  replace mL := x₂ _ _ mL
  replace x₁ := x₁.trans x₂
  clear x₂
  replace v0 : setv V 7 (.ref W) 0 = some (.str t) := (Qk (by decide)).trans v0
  replace v1 : setv V 7 (.ref W) 1 = some (.int cell) := (Qk (by decide)).trans v1
  replace v2 : setv V 7 (.ref W) 2 = some (.int more) := (Qk (by decide)).trans v2
  replace v3 : setv V 7 (.ref W) 3 = some (.str signs) := (Qk (by decide)).trans v3
  replace v4 : setv V 7 (.ref W) 4 = some (.int pos) := (Qk (by decide)).trans v4
  replace v5 : setv V 7 (.ref W) 5 = some (.ref L) := (Qk (by decide)).trans v5
  replace v6 : setv V 7 (.ref W) 6 = some (.int pl) := (Qk (by decide)).trans v6
  have v7 : setv V 7 (.ref W) 7 = some (.ref W) := X8
  dsimp only [kr0]
  generalize setv V 7 (.ref W) = V at v0 v1 v2 v3 v4 v5 v6 v7 ⊢
  generalize upd μ₁ W (.list ((Txt.split t (S " ")).map .str)) = μ₂ at mL mW x₁ ⊢
  refine seq (Yz (Xn (Ql v2 (Ye (Ql v7 (Yg mW (fit (by rw [wm]; lia)) ⟨by rw [wm]; lia, ?_⟩))))))
  generalize more.fmod ((((Txt.split t (S " ")).map MV.str).length : Nat) : Int) = sp at hsp ⊢
  rw [wm] at hsp
  have hkd := fm (a := cell) (b := 12) (by decide)
  refine seq (Yz (Xn (Ql ((Qk (by decide)).trans v1) ⟨by decide, ?_⟩)))
  generalize cell.fmod 12 = kd at hkd ⊢
  have y : BQ t signs cell pos pl sp kd L W (setv (setv V 8 (.int sp)) 9 (.int kd)) := ⟨((Qk (by decide)).trans (Qk (by decide))).trans v0, ((Qk (by decide)).trans (Qk (by decide))).trans v1, ((Qk (by decide)).trans (Qk (by decide))).trans v3, ((Qk (by decide)).trans (Qk (by decide))).trans v4, ((Qk (by decide)).trans (Qk (by decide))).trans v5, ((Qk (by decide)).trans (Qk (by decide))).trans v6, ((Qk (by decide)).trans (Qk (by decide))).trans v7, (Qk (by decide)).trans X8, X8⟩
  dsimp only [kr0]
  generalize setv (setv V 8 (.int sp)) 9 (.int kd) = V at y ⊢
  have b : BS n N t signs pos pl sp kd L W μ₂ := ⟨ht, hn, hN, signs_ok.1, signs_ok.2, ⟨hpos.1, by lia⟩, hpl, hsp, hkd, mL, mW⟩
  have fin : ∀ t' (V' : MVars) μ', Tx (n + 1 + n) (3 * N + 40) t' → Ext μ₂ μ' → Q (.str t') μ' := fun t' V' μ' a x => h t' μ' a (x₁.trans x)
  refine seq (Y6 (Xi (Ql y.v9 ⟨_, Xm, tst (fun q => bent_9 y b fin) fun q => ?_⟩)))
  have q1 := of_decide_eq_false q
  (try dsimp only [kr0])
  refine Yw (seq (Y6 (Xi (Ql y.v9 ⟨_, Xm, tst (fun q => bent_10 y b ⟨by lia, of_decide_eq_true q⟩ fin) fun q => ?_⟩))))
  have q2 := of_decide_eq_false q
  (try dsimp only [kr0])
  refine Yw (seq (Y6 (Xi (Ql y.v9 ⟨_, Y1, tst (fun q => bent_11 y b fin) fun q => ?_⟩))))
  have q3 : kd ≠ 11 := fun e => by rw [e] at q; exact absurd q (by decide)
  exact Yw (bent_12 y b ⟨by lia, by lia⟩ fin)
end Mine
end
section
namespace Mine
open PySem PySem.Calls PyProof.Rows PySem.W
variable {G : String → Option MV} {Γ : String → Option MFun}
section
variable {prog : Program} {w : World} {h₀ : Heap} {mg mb : Str → Option Value} {C : Addr} {d : Nat} {fz : List Addr} {vars : MVars} {Q : MQ} {X : Value → MH → Prop} {μ : MH} {R : MFlow → MVars → MH → Prop}
theorem mt_assign {i : Nat} {e : ME} (ht : e.tag ≠ .lc) (h : MXE prog w h₀ C d e fz vars (fun v μ' => R .next (setv vars i v) μ') X μ) : MXT prog w h₀ C d (.assign i e) fz vars R X μ := fun S x env outer s A E hx hA C ii hE => by
  replace hx := Av hx; obtain ⟨x, px, v, p, rfl, h1, h2⟩ := hx
  refine wpAny_Assign_Name (wpAny_mono (h S _ env outer s A E h2 hA C ii fun v s' h => hE v s' h.toZ) (fun u s₁ h₁ => ?_) fun _ _ e => e) (Bk (P2 h2 ▸ ht) (by rw [P2 h2]; exact Fm h2) _ _ _)
  obtain ⟨mv, μ₁, hq₁, rv, r₁, g₁⟩ := h₁
  exact Zu (C.grow g₁ r₁) h1 rv fun s₂ C₂ g₂ k₂ l₂ => ⟨.next, _, μ₁, hq₁, rfl, C₂, g₁.toS.trans g₂⟩
end
theorem part_a : Part (.str (S "a")) := .inr ⟨_, rfl, by decide +kernel, by unfold Low; decide +kernel⟩
theorem LB.clr {B : Book} {i : Nat} (h : LB B) (hi : i ≤ 100) : LB (putB B (100 + 2 * (i : Int)) (.clear (S "a") i (3 * (i : Int)))) := by
  refine ⟨fun p hp => ?_, fun p hp => ?_, Bu h.nodup⟩
  · rcases Bv hp with hp | rfl
    · exact h.key p hp
    · show 1 ≤ 100 + 2 * (i : Int) ∧ 100 + 2 * (i : Int) ≤ 1000; lia
  · rcases Bv hp with hp | rfl
    · exact h.part p hp
    · simp only [Ent.parts, List.forall_mem_cons]
      exact ⟨G3, part_a, V6 (by first|exact dn hd rfl|exact dl hd rfl|solve_by_elim (maxDepth := 3) only [*, Nat.le_trans, Nat.lt_of_lt_of_le, Nat.lt_of_le_of_lt, Nat.le_of_lt]) (by first|exact dn hd rfl|exact dl hd rfl|lia), V6 (by first|exact dn hd rfl|exact dl hd rfl|solve_by_elim (maxDepth := 3) only [*, Nat.le_trans, Nat.lt_of_lt_of_le, Nat.lt_of_le_of_lt, Nat.le_of_lt]) (by first|exact dn hd rfl|exact dl hd rfl|lia), by simp⟩
theorem Gd {Φ : CallSpec} {a b : Addr} {fz : List Addr} {R : MFlow → MVars → MH → Prop} {sc : MO} (hab : a ≠ b) (hbf : b ∉ fz) : ∀ (j i : Nat) (V : MVars) (μ : MH) (B : Book), i + j ≤ 100 → LB B → B.length + j ≤ 31 → V 0 = some (.ref a) → V 1 = some (.ref b) → μ a = some sc → μ b = some (.idict (Book.mv B)) →
    (∀ V' μ' B', LB B' → B'.length ≤ 31 → V' 0 = some (.ref a) → V' 1 = some (.ref b) → μ' a = some sc → μ' b = some (.idict (Book.mv B')) → R .next V' μ') →
    loopM (.one 2) (fun vs F μ => exs G Φ X0 [B0] fz vs F μ) R ((List.range' i j).map fun (k : Nat) => MV.int k) V μ
  | 0 => fun i V μ B _ hB hn v0 v1 ha hb h => h V μ B hB (by first|exact dn hd rfl|exact dl hd rfl|assumption) v0 v1 ha hb
  | j + 1 => fun i V μ B hi hB hn v0 v1 ha hb h => by
    rw [List.range'_succ, List.map_cons, Zn]
    refine ⟨_, rfl, ?_⟩
    replace v0 : setv V 2 (.int i) 0 = some (.ref a) := (Qk (by decide)).trans v0
    replace v1 : setv V 2 (.int i) 1 = some (.ref b) := (Qk (by decide)).trans v1
    have v2 : setv V 2 (.int i) 2 = some (.int i) := X8
    generalize setv V 2 (.int i) = V at v0 v1 v2 ⊢
    refine seq ⟨_, v2, _, v2, .inl (sm (by decide) (by decide)), fit (lb rfl), _, v1, _, v2, .inl (sm (by decide) (by decide)), Bq hb hbf (fit (by rw [Book.mv_len]; lia)) ?_⟩
    have e := putB_mv B (100 + 2 * (i : Int)) (.clear (S "a") i (3 * (i : Int)))
    have hl := putB_len B (100 + 2 * (i : Int)) (.clear (S "a") i (3 * (i : Int)))
    refine Gd hab hbf j (i + 1) V _ (putB B (100 + 2 * (i : Int)) (.clear (S "a") i (3 * (i : Int)))) (by first|exact dn hd rfl|exact dl hd rfl|lia) (hB.clr (by first|exact dn hd rfl|exact dl hd rfl|lia)) (by first|exact dn hd rfl|exact dl hd rfl|lia) v0 v1 ((Y8 hab).trans ha) ?_ h
    rw [← e]; exact Qz
noncomputable def Okb : Nat → Nat → Nat → Prop
  | 0, n, N => n ≤ 60 ∧ N ≤ 50000
  | j + 1, n, N => 12 ≤ n ∧ N ≤ 10000 ∧ Okb j (n + 1 + n) (3 * N + 40)
theorem Tx.mono {n m N M : Nat} {t : Str} (h : Tx n N t) (hm : n ≤ m) (hM : N ≤ M) : Tx m M t := ⟨h.pie.mono hm, Nat.le_trans h.len hM⟩
theorem Gu {d : Nat} {a : Addr} {fz : List Addr} {R : MFlow → MVars → MH → Prop} {ns : List Int} (K : Ks G Γ) (hd : 1 ≤ d) (hn : ns.length ≤ 63) : ∀ (j i : Nat) (V : MVars) (μ : MH) (n N : Nat) (t : Str), Okb j n N → Tx n N t → V 0 = some (.ref a) → V 3 = some (.str t) → μ a = some (.list (ns.map .int)) →
    (∀ V' μ' t', Tx 60 50000 t' → V' 0 = some (.ref a) → V' 3 = some (.str t') → μ' a = some (.list (ns.map .int)) → R .next V' μ') →
    loopM (.one 2) (fun vs F μ => exs G (calls G Γ d) X0 [N1, N0] fz vs F μ) R ((List.range' i j).map fun (k : Nat) => MV.int k) V μ
  | 0 => fun i V μ n N t ho ht v0 v3 ha h => h V μ t (ht.mono ho.1 ho.2) v0 v3 ha
  | j + 1 => fun i V μ n N t ho ht v0 v3 ha h => by
    rw [List.range'_succ, List.map_cons, Zn]
    refine ⟨_, rfl, ?_⟩
    replace v0 : setv V 2 (.int i) 0 = some (.ref a) := (Qk (by decide)).trans v0
    replace v3 : setv V 2 (.int i) 3 = some (.str t) := (Qk (by decide)).trans v3
    have v2 : setv V 2 (.int i) 2 = some (.int i) := X8
    generalize setv V 2 (.int i) = V at v0 v2 v3 ⊢
    have s1 : small 7919 := sm (by decide) (by decide)
    have s2 : small 13 := sm (by decide) (by decide)
    have s3 : small 48271 := sm (by decide) (by decide)
    refine seq (Yz (Xn (Xn (Xn (Xn ⟨_, v0, Yf K.of hd ha hn (by decide) fun μ₁ x₁ => Xn ⟨_, v2, .inl s1, Xn ⟨_, v0, Yf K.of hd (x₁ _ _ ha) hn (by decide) fun μ₂ x₂ => ⟨.inl s2, .inr s3, by decide, ?_⟩⟩⟩⟩)))))
    generalize ((at0 ns 3 + 7919 * (i : Int) + 13 * at0 ns 4) * 48271).fmod 2147483647 = mixed
    replace v0 : setv V 4 (.int mixed) 0 = some (.ref a) := (Qk (by decide)).trans v0
    replace v3 : setv V 4 (.int mixed) 3 = some (.str t) := (Qk (by decide)).trans v3
    have v4 : setv V 4 (.int mixed) 4 = some (.int mixed) := X8
    dsimp only [kr0]
    generalize setv V 4 (.int mixed) = V at v0 v3 v4 ⊢
    replace ha := x₂ _ _ (x₁ _ _ ha)
    refine seq (Yz ⟨_, v3, Xn ⟨_, v4, ⟨by decide, sm (by decide) (by decide)⟩, Xn ⟨_, v4, ⟨by decide, sm (by decide) (by decide)⟩, bent_spec K hd ht ho.1 ho.2.1 fun t' μ₃ ht' x₃ => ?_⟩⟩⟩)
    exact Gu K hd hn j (i + 1) _ μ₃ _ _ t' ho.2.2 ht' ((Qk (by decide)).trans v0) X8 (x₃ _ _ ha) h
theorem IsT.nodup {t : Str} {B : Book} (h : IsT t B) : B.keys.Nodup := by
  rcases h with ⟨_, rfl⟩ | ⟨_, hc, _⟩
  · exact .nil
  · exact Gv hc.asc
theorem EB.ok {e : Ent} (h : EB e) : e.ok := by
  cases e with
  | undo j => trivial
  | clear nm lo hi => exact h.1.2.ok
  | like nm lo hi nm' => exact ⟨h.1.2.ok, h.2.2.2.2.ok⟩
  | tell nm lo hi v => exact h.1.2.ok
noncomputable def e2x : ME := .idx (.list [.cnone, (.cint 5), (.list [(.var 3)]), (.tuple [(.cstr "1: undo 1")])]) (.bin .mod (.bin .fdiv (.call "_law_of" [(.var 0), (.cint 3)]) (.cint 4)) (.cint 4))
noncomputable def Fin14 (prog : Program) (w : World) (G : String → Option MV) (Γ : String → Option MFun) (h₀ : Heap) (C a : Addr) (d : Nat) (ns : List Int) (vars : MVars) (μ : MH) : Prop := ev G (calls G Γ (d + 1)) X0 (.cmp (.var 5) [.is] [.cnone]) [a] vars (fun v μ' => ∃ b, truthy μ' v = some b ∧ if b then (∃ tx, vars 3 = some (.str tx) ∧ vars 0 = some (.ref a) ∧ MXC prog w h₀ C d "read" [.str tx] [a] (fun _ _ => False) (fun _ _ => True) μ' ∧
      ev G (calls G Γ (d + 1)) X0 e2x [a] (setv (setv (fun _ => none) 0 (.ref a)) 3 (.str tx)) (fun v μ' => MXC prog w h₀ C d "read" [v] [a] (fun _ _ => False) (fun _ _ => True) μ') (upd (fun _ => none) a (.list (ns.map .int)))) else MXS prog w h₀ C (d + 1) [I8, I7] [a] vars (fun fl _ _ => fl = .ret (.bool true)) (fun _ _ => False) μ') μ
section
variable {prog : Program} {w : World} {h₀ : Heap} {mg mb : Str → Option Value} {C C2 D a : Addr} {d : Nat} {ns : List Int} {bk : String} {others oth2 : List String}
theorem fin14 (pg : PG prog w G Γ h₀ mg mb) (Xc : Xcs h₀ mg mb bk "BadText" others C D) (Xb : Xcs h₀ mg mb bk "BadBook" oth2 C2 D) (K : Ks G Γ) (hd : 5 ≤ d) (hn : ns.length ≤ 63) {V : MVars} {μ : MH} {t : Str} {v : MV} (ht : Tx 60 50000 t) (v0 : V 0 = some (.ref a)) (v3 : V 3 = some (.str t)) (v5 : V 5 = some v)
    (hv : (v = .none ∧ ∀ B, ¬ IsT t B) ∨ ∃ c B, v = .ref c ∧ μ c = some (.idict (Book.mv B)) ∧ IsT t B) : Fin14 prog w G Γ h₀ C a d ns V μ := by
  rcases hv with ⟨rfl, hno⟩ | ⟨c, B, rfl, hc, hB⟩
  · refine Pr (Ql v5 ⟨true, rfl, true, rfl, Yj ⟨t, v3, v0, read_mx pg Xc Xb K hd ht (fun F _ _ hF _ _ _ _ _ => hno F hF) (fun _ _ _ => trivial), ?_⟩⟩)
    generalize hW : setv (setv (fun _ => none) 0 (MV.ref a)) 3 (.str t) = W
    have w0 : W 0 = some (.ref a) := by rw [← hW]; rfl
    have w3 : W 3 = some (.str t) := by rw [← hW]; rfl
    clear hW
    have ha : upd (fun _ => none) a (.list (ns.map .int)) a = some (.list (ns.map .int)) := Qz
    generalize upd (fun _ => none) a (.list (ns.map .int)) = μ at ha ⊢
    have go : ev G (calls G Γ (d + 1)) X0 (.list [.cnone, (.cint 5), (.list [(.var 3)]), (.tuple [(.cstr "1: undo 1")])]) [a] W (fun x μ' => ev G (calls G Γ (d + 1)) X0 (.bin .mod (.bin .fdiv (.call "_law_of" [(.var 0), (.cint 3)]) (.cint 4)) (.cint 4)) [a] W (fun y μ'' => ∃ v, idxM μ'' x y = some v ∧ MXC prog w h₀ C d "read" [v] [a] (fun _ _ => False) (fun _ _ => True) μ'') μ') μ := by
      refine ⟨_, w3, fit (lb rfl), fun c1 h1 _ => ⟨fit (lb rfl), fit (lb rfl), fun c2 h2 _ => Xn (Xn ⟨_, w0, Yf K.of (by first|exact dn hd rfl|exact dl hd rfl|simp) (Ext.upd h2 _ _ (Ext.upd h1 _ _ ha)) hn (by decide) fun μ' x' => ⟨⟨by decide, sm (by decide) (by decide)⟩, by decide, ?_⟩⟩)⟩⟩
      have hk := fm (a := (at0 ns 3).fdiv 4) (b := 4) (by decide)
      generalize ((at0 ns 3).fdiv 4).fmod 4 = k at hk ⊢
      have hl1 := x' _ _ (Ext.upd h2 _ _ (Qz (μ := μ) (a := c1) (o := .list [.str t])))
      have hl2 := x' _ _ (Qz (μ := upd μ c1 (.list [.str t])) (a := c2) (o := .list [.none, .int 5, .ref c1, .tup [.str (S "1: undo 1")]]))
      obtain ⟨v, hv, e⟩ := row_ix (k := k) hl2 (lb rfl) hk.1 hk.2
      refine ⟨v, e, read_other pg Xc K (by first|exact dn hd rfl|exact dl hd rfl|omega) ?_ trivial⟩
      simp only [List.mem_cons, List.not_mem_nil, or_false] at hv
      rcases hv with rfl | rfl | rfl | rfl
      · rfl
      · rfl
      · show isTyO .str (μ' c1) = _
        rw [hl1]; rfl
      · rfl
    exact go
  · refine Pr (Ql v5 ⟨false, rfl, false, rfl, Yr ?_⟩)
    refine Xk (mt_assign (by decide) (Z4 (Z5 pg (Ql v3 (read_mx pg Xc Xb K (by first|exact dn hd rfl|exact dl hd rfl|exact Nat.le_succ_of_le (by assumption)) ht (fun F c' μ' hF hBd x' _ _ hc' => ?_) fun hno => absurd hB (hno B))))))
    obtain rfl := hF.uniq hB
    replace hc := x' _ _ hc
    have w5 : setv V 6 (.ref c') 5 = some (.ref c) := (Qk (by decide)).trans v5
    have w6 : setv V 6 (.ref c') 6 = some (.ref c') := X8
    refine Xk (On pg (Yl ⟨_, w6, true, ty_dict hc', true, rfl, Yj (Pr (Ql w6 (Ql w5 ⟨true, ?_, rfl⟩)))⟩))
    refine eq_dict hc' hc (by rw [Book.mv_keys]; exact hF.nodup) fun p hp => ?_
    obtain ⟨q, hq, rfl⟩ := List.mem_map.mp hp
    exact (hBd q hq).2.ok.ent.deep
theorem law14_run (pg : PG prog w G Γ h₀ mg mb) (Xc : Xcs h₀ mg mb bk "BadText" others C D) (Xb : Xcs h₀ mg mb bk "BadBook" oth2 C2 D) (K : Ks G Γ) (hd : 5 ≤ d) (hn : ns.length ≤ 63) {μ : MH} (ha : μ a = some (.list (ns.map .int))) : runT G (calls G Γ (d + 1)) [a] (Fin14 prog w G Γ h₀ C a d ns) [Ib, I9, Bh, Pk, K3] (args0 [.ref a]) μ := by
  refine Yz ⟨_, rfl, F2 K.of K.base K.lentry K.names K.book (by first|exact dn hd rfl|exact dl hd rfl|lia) ha hn (by decide) fun b μ₁ kvs x₁ hb0 hba hb hB => ⟨rfl, ?_⟩⟩
  have hab : a ≠ b := fun q => by rw [← q, ha] at hb0; cases hb0
  replace ha := x₁ _ _ ha
  clear x₁ hb0
  obtain ⟨names, B, h3, hg, rfl, hok, hlen, hgood, hkey⟩ := book_of hB (by decide)
  have hLB : LB B := ⟨fun p hp => by
    have := hkey p.1 (List.mem_map_of_mem hp); lia, fun p hp => ((hgood p hp).fine hg).part (hkey p.1 (List.mem_map_of_mem hp)).2, hok.nodup⟩
  clear hB hgood hok hkey hg h3
  have go5 : ∀ (V : MVars) (μ : MH) (t : Str), Tx 60 50000 t → V 0 = some (.ref a) → V 3 = some (.str t) → runT G (calls G Γ (d + 1)) [a] (Fin14 prog w G Γ h₀ C a d ns) [K3] V μ := by
    intro V μ t ht v0 v3
    refine Yz (Kz (Ql v3 (due_spec K (by first|exact dn hd rfl|exact dl hd rfl|lia) ht (fun B c μ' hB _ _ _ hc => ⟨rfl, ?_⟩) fun hno μ' _ => ⟨rfl, ?_⟩)))
    · exact fin14 pg Xc Xb K hd hn ht ((Qk (by decide)).trans v0) ((Qk (by decide)).trans v3) X8 (.inr ⟨c, B, rfl, hc, hB⟩)
    · exact fin14 pg Xc Xb K hd hn ht ((Qk (by decide)).trans v0) ((Qk (by decide)).trans v3) X8 (.inl ⟨rfl, hno⟩)
  have go3 : ∀ (V : MVars) (μ : MH) (B : Book), LB B → B.length ≤ 31 → V 0 = some (.ref a) → V 1 = some (.ref b) → μ a = some (.list (ns.map .int)) → μ b = some (.idict (Book.mv B)) → runT G (calls G Γ (d + 1)) [a] (Fin14 prog w G Γ h₀ C a d ns) [Bh, Pk, K3] V μ := by
    intro V μ B hB hl v0 v1 ha hb
    refine Yz (Kz (Ql v1 (text_spec K (by first|exact dn hd rfl|exact dl hd rfl|simp) hB.bdd (by first|exact dn hd rfl|exact dl hd rfl|exact Nat.le_trans (by assumption) (by decide)) hb fun μ₂ x₂ => ⟨rfl, ?_⟩)))
    have ht := hB.tx hl
    replace ha := x₂ _ _ ha
    generalize textOf B = t at ht ⊢
    replace v0 : setv V 3 (.str t) 0 = some (.ref a) := (Qk (by decide)).trans v0
    have v3 : setv V 3 (.str t) 3 = some (.str t) := X8
    show runT G (calls G Γ (d + 1)) [a] (Fin14 prog w G Γ h₀ C a d ns) [Pk, K3] (setv V 3 (.str t)) μ₂
    generalize setv V 3 (.str t) = V at v0 v3 ⊢
    have fin : ∀ j : Nat, j ≤ 2 → ∀ μ, μ a = some (.list (ns.map .int)) → loopM (.one 2) (fun vs F μ => exs G (calls G Γ (d + 1)) X0 [N1, N0] [a] vs F μ) (fun fl vars' μ' => fl = .next ∧ runT G (calls G Γ (d + 1)) [a] (Fin14 prog w G Γ h₀ C a d ns) [K3] vars' μ') ((List.range' 0 j).map fun (k : Nat) => MV.int k) V μ := fun j hj μ ha => by
      refine Gu K (by first|exact dn hd rfl|exact dl hd rfl|simp) hn j 0 V μ 12 3000 t ?_ ht v0 v3 ha fun V' μ' t' ht' v0' v3' _ => ⟨rfl, go5 V' μ' t' ht' v0' v3'⟩
      match j, hj with
      | 0, _ => exact ⟨by decide, by decide⟩
      | 1, _ => exact ⟨by decide, by decide, by decide, by decide⟩
      | 2, _ => exact ⟨by decide, by decide, by decide, by decide, by decide, by decide⟩
    refine Bj ?_
    have go : ev G (calls G Γ (d + 1)) X0 (.list [(.cint 1), (.cint 1), (.cint 2), (.cint 0)]) [a] V (fun x μ' => ev G (calls G Γ (d + 1)) X0 (.bin .mod (.call "_law_of" [(.var 0), (.cint 3)]) (.cint 4)) [a] V (fun y μ'' => ∃ v, idxM μ'' x y = some v ∧ ∃ src all, mkSrc .range [v] = some src ∧ src.items μ'' = some all ∧ fits all.length ∧ loopM (.one 2) (fun vs F μ => exs G (calls G Γ (d + 1)) X0 [N1, N0] (src.held ++ [a]) vs F μ) (fun fl vars' μ' => fl = .next ∧ runT G (calls G Γ (d + 1)) [a] (Fin14 prog w G Γ h₀ C a d ns) [K3] vars' μ') all V μ'') μ') μ₂ := by
      refine ⟨fit (lb rfl), fun c hc _ => Xn ⟨_, v0, Yf K.of (by first|exact dn hd rfl|exact dl hd rfl|simp) (Ext.upd hc _ _ ha) hn (by decide) fun μ' x' => ⟨by decide, ?_⟩⟩⟩
      have hk := fm (a := at0 ns 3) (b := 4) (by decide)
      generalize (at0 ns 3).fmod 4 = k at hk ⊢
      have hl2 := x' _ _ (Qz (μ := μ₂) (a := c) (o := .list ([1, 1, 2, 0].map .int)))
      have hm := Bc (l := [1, 1, 2, 0]) hk.1 hk.2
      refine ⟨_, (Zx hl2 (by simp)).trans (H4 (l := [1, 1, 2, 0]) hk.1 hk.2), ?_⟩
      have hr : 0 ≤ sel [1, 1, 2, 0] k ∧ sel [1, 1, 2, 0] k ≤ 2 := by
        simp only [List.mem_cons, List.not_mem_nil, or_false] at hm
        lia
      generalize sel [1, 1, 2, 0] k = r at hr ⊢
      refine ⟨.ints (rangeL 0 r 1), _, ?_, rfl, ?_, ?_⟩
      · simp only [mkSrc, rangeM]
        rw [if_pos (by simp only [in62, Bool.and_eq_true, decide_eq_true_eq]; lia)]; rfl
      · rw [List.length_map, Yu]; exact fit (by first|exact dn hd rfl|exact dl hd rfl|lia)
      simp only [Src.held, List.nil_append]
      rw [Nw]
      exact fin r.toNat (by first|exact dn hd rfl|exact dl hd rfl|simp [*]) μ' (x' _ _ (Ext.upd hc _ _ ha))
    exact go
  refine Y6 (Xi (Xn ⟨_, rfl, Yf K.of (by first|exact dn hd rfl|exact dl hd rfl|simp) ha hn (by decide) fun μ₂ x₂ => ⟨by decide, _, Y1, tst (fun q => ?_) fun q => ⟨rfl, go3 _ _ B hLB (by first|exact dn hd rfl|exact dl hd rfl|exact Nat.le_trans (by assumption) (by decide)) rfl rfl (x₂ _ _ ha) (x₂ _ _ hb)⟩⟩⟩))
  replace ha := x₂ _ _ ha
  replace hb := x₂ _ _ hb
  refine seq (Bj (Xn (Xn (N3 (Xn (Xn ⟨_, rfl, Yf K.of (by first|exact dn hd rfl|exact dl hd rfl|simp) ha hn (by decide) fun μ₃ x₃ => ⟨⟨by decide, sm (by decide) (by decide)⟩, by decide, R1 (Ye (Ql rfl (Dt (x₃ _ _ hb) (by rw [Book.mv_len]; exact Nat.le_trans (by assumption) (by decide)) (Iz ?_))))⟩⟩))))))
  rw [Book.mv_len]
  have f4 := fm (a := (at0 ns 2).fdiv 9) (b := 4) (by decide)
  generalize ((at0 ns 2).fdiv 9).fmod 4 = m at f4 ⊢
  refine ⟨.ints (rangeL 0 (28 + m - B.length) 1), _, ?_, rfl, ?_, ?_⟩
  · simp only [mkSrc, rangeM]
    rw [if_pos (by simp only [in62, Bool.and_eq_true, decide_eq_true_eq]; lia)]; rfl
  · rw [List.length_map, Yu]; exact fit (by first|exact dn hd rfl|exact dl hd rfl|lia)
  simp only [Src.held, List.nil_append]
  rw [Nw]
  exact Gd hab hba _ 0 _ _ B (by first|exact dn hd rfl|exact dl hd rfl|lia) hLB (by first|exact dn hd rfl|exact dl hd rfl|lia) rfl rfl (x₃ _ _ ha) (x₃ _ _ hb) fun V' μ' B' hB' hl' v0 v1 ha' hb' => ⟨rfl, go3 V' μ' B' hB' hl' v0 v1 ha' hb'⟩
end
end Mine
end
section
namespace Mine
open PySem PySem.Calls PyProof.Rows PySem.W
noncomputable def consts14 : Consts := [("MOST", .int 30), ("MOST_SIGNS", .int 8), ("MOST_DAY", .int 1000000), ("MOST_WORTH", .int 1000000000), ("LETTERS", .str (S "abcdefghijklmnopqrstuvwxyz")), ("FIGURES", .str (S "0123456789"))]
theorem law14 {prog : Program} {w : World} {h₀ : Heap} {mg mb : Str → Option Value} {K D a fa : Addr} {s : Shared} {vs : List Value} {ns : List Int} {E : Value → Shared → Prop} (pg : PG prog w consts14.env defs14.env h₀ mg mb) (X : Xcs h₀ mg mb "BookError" "BadText" ["BadEntry", "BadBook", "NoEntry", "Closed", "TooMany", "Gone"] K D) (hs : s.heap = h₀) (hfa : mg (Str.ofString "law") = some (.ref fa)) (hp : s.heap.PlainList a vs.toArray) (hi : IntsAre vs ns) (hA : OkA 60 callerA) (hn : ns.length ≤ 63) :
    wpAny (model prog w) callerA (call (.ref fa) [.ref a]) (fun v s' => v = .bool true ∧ (∀ b o, s.heap.get? b = some o → s'.heap.get? b = some o) ∧ s'.os = s.os ∧ s'.gens = s.gens) E s := by
  obtain ⟨C2, g2, c2, _, _⟩ := X.oth "BadBook" (by decide)
  have Xb : Xcs h₀ mg mb "BookError" "BadBook" [] C2 D := ⟨X.gD, g2, X.cD, c2, (fun n hn => nomatch hn), X.ve⟩
  exact law3_native (d := 58) (pre := [Ib, I9, Bh, Pk, K3]) (post := [I8, I7]) (c := .cmp (.var 5) [.is] [.cnone]) (e2 := e2x) (rf := "_law_refused") (need := "read") (f := "law") (ei := 1) (ki := 2) (ti := 3) (si := 0) (o1 := ["BadEntry", "NoEntry", "Closed", "TooMany"]) (o2 := ["Gone", "BadBook"])
    pg X hs hfa rfl rfl (pg.fnAt (f := "read") rfl) (by decide) (by decide) (by decide) (by decide) (by decide) (by decide) hA hp hi
    (law14_run pg X Xb ⟨rfl, rfl, rfl, rfl, rfl, rfl, rfl, rfl, rfl, rfl, rfl, rfl, rfl, rfl, rfl, rfl, rfl, rfl, rfl, rfl, rfl, rfl, rfl, rfl, rfl, rfl, rfl, rfl, rfl, rfl, rfl⟩ (by decide) hn Qz)
end Mine
end
section
namespace Mine
open PySem PySem.Calls PyProof.Rows PySem.W
noncomputable def clsOk1 (h : Heap) (x : Str) (chain : List Str) : Bool := h.ownExcOk x chain bmV "ValueError.__new__" && (match h.clsAt mainGlobals x with
  | some (_, _, cd) => qn.all fun n => (h.nsMap cd.ns n).isNone
  | none => false)
inductive ClsRaw (h : Heap) (C : Addr) (vs : List Value) : Prop
  | mk (N : _) (nm : _) (q : _) (bs : _) (hdct : _) (sn : _) (sub : _) (ab : _) (col : _) (dd : _) (k0 : _) (k1 : _) (k2 : _) (k3 : _) (k5 : _) (mN : _) (h1 : h.get? C = some (excClassObj nm q C N bs (vs ++ bmV) hdct sn sub ab col dd k0 k1 k2 k3 k5 "ValueError.__new__")) (h2 : h.Ns N mN) (h3 : ∀ n ∈ qn, mN n = none)
theorem ClsRaw.at {h : Heap} {C : Addr} {vs : List Value} {own : List Addr} (x : ClsRaw h C vs) (e : vs = own.map .ref) : ClsAt h C own := by
  subst e
  obtain ⟨N, nm, q, bs, hdct, sn, sub, ab, col, dd, k0, k1, k2, k3, k5, mN, h1, h2, h3⟩ := x
  exact ⟨N, nm, q, bs, hdct, sn, sub, ab, col, dd, k0, k1, k2, k3, k5, mN, h1, h2, h3⟩
theorem Og {h : Heap} {x : Str} {chain : List Str} (e : clsOk1 h x chain = true) : ∃ C, h.nsMap mainGlobals x = some (.ref C) ∧ ClsRaw h C (chain.map fun n => (h.nsMap mainGlobals n).getD .none) := by
  obtain ⟨e, y⟩ := and2 e
  obtain ⟨C, N, nm, q, bs, hdct, sn, sub, ab, col, dd, k0, k1, k2, k3, k5, hb, hC, hN, _⟩ := Heap.ownExc_of_ok e
  refine ⟨C, hb, N, nm, q, bs, hdct, sn, sub, ab, col, dd, k0, k1, k2, k3, k5, _, hC, hN, fun n hn => ?_⟩
  cases hf : h.clsAt mainGlobals x with
  | none => rw [hf] at y; cases y
  | some z =>
    obtain ⟨C', o', cd'⟩ := z
    rw [hf] at y
    obtain ⟨hn', ho', hd'⟩ := Heap.clsAt_spec hf
    rw [hb] at hn'
    obtain rfl : C = C' := by injection hn' with q1; injection q1
    rw [hC] at ho'
    cases ho'
    cases hd'
    have := List.all_eq_true.mp y n hn
    simpa using this
noncomputable def clssOk (bk bad : String) (others : List String) (h : Heap) : Bool := clsOk1 h (Str.ofString bk) [] && (clsOk1 h (Str.ofString bad) [Str.ofString bk] && others.all fun n => clsOk1 h (Str.ofString n) [Str.ofString bk] && (!decide (h.nsMap mainGlobals (Str.ofString n) = h.nsMap mainGlobals (Str.ofString bad)) && !decide (h.nsMap mainGlobals (Str.ofString n) = h.nsMap mainGlobals (Str.ofString bk))))
noncomputable def Clss (bk bad : String) (others : List String) (mg : Str → Option Value) (h : Heap) : Prop := ∃ K D, mg (Str.ofString bk) = some (.ref D) ∧ mg (Str.ofString bad) = some (.ref K) ∧ ClsAt h D [] ∧ ClsAt h K [D] ∧ ∀ n ∈ others, ∃ X, mg (Str.ofString n) = some (.ref X) ∧ ClsAt h X [D] ∧ X ≠ K ∧ X ≠ D
theorem Clss.keeps {bk bad : String} {others : List String} {mg : Str → Option Value} {h h' : Heap} (x : Clss bk bad others mg h) (k : ∀ b o, h.get? b = some o → h'.get? b = some o) : Clss bk bad others mg h' := by
  obtain ⟨K, D, h1, h2, h3, h4, h5⟩ := x
  refine ⟨K, D, h1, h2, h3.keeps k, h4.keeps k, fun n hn => ?_⟩
  obtain ⟨X, a, b, c⟩ := h5 n hn
  exact ⟨X, a, b.keeps k, c⟩
theorem Clss.of {bk bad : String} {others : List String} {h : Heap} (e : clssOk bk bad others h = true) : Clss bk bad others (h.nsMap mainGlobals) h := by
  obtain ⟨e1, e2⟩ := and2 e
  obtain ⟨e2, e3⟩ := and2 e2
  obtain ⟨D, hD, o1⟩ := Og e1
  obtain ⟨K, hK, o2⟩ := Og e2
  have f : ([Str.ofString bk].map fun n => (h.nsMap mainGlobals n).getD .none) = [D].map Value.ref := by
    simp only [List.map_cons, List.map_nil, hD, Option.getD_some]
  refine ⟨K, D, hD, hK, o1.at rfl, o2.at f, fun n hn => ?_⟩
  have := List.all_eq_true.mp e3 n hn
  obtain ⟨a1, a2⟩ := and2 this
  obtain ⟨a2, a3⟩ := and2 a2
  obtain ⟨X, hX, o3⟩ := Og a1
  rw [Bool.not_eq_true', decide_eq_false_iff_not] at a2 a3
  exact ⟨X, hX, o3.at f, fun q => a2 (by rw [hX, hK, q]), fun q => a3 (by rw [hX, hD, q])⟩
end Mine
end
section
set_option Elab.async false
set_option maxRecDepth 100000
set_option maxHeartbeats 8000000
open PySem PySem.W PyProof.Rows
namespace Mine
noncomputable def lz : List Str := [("BookError" : Str), ("BadText" : Str), ("BadEntry" : Str), ("BadBook" : Str), ("NoEntry" : Str), ("Closed" : Str), ("TooMany" : Str), ("Gone" : Str)]
noncomputable def qOf : Program := view Challenge.pw_uf030030_14 [10, 11, 12, 13, 14, 15, 16, 17, 18, 19, 20, 22, 23, 24, 25, 26, 27, 29, 30, 31, 32, 33, 34, 35, 36, 37, 38, 39, 40, 41, 42]
theorem topOf (w : World) (os : OsState) : (topFrom treeTable Challenge.pw_uf030030_14 w 5000 ⟨boot_heap w.params, Array.mk [], boot_drawn, boot_toks, os⟩).map (fun s => (openSeen qOf lz (importedModules Challenge.pw_uf030030_14.main.body) (fun s => xlAt qOf [] s && clssOk "BookError" "BadText" ["BadEntry", "BadBook", "NoEntry", "Closed", "TooMany", "Gone"] s.heap) true s, ())) = some (openGood qOf lz, ()) := by
  kernel_rfl
theorem leftOf : LeftO Challenge.pw_uf030030_14 qOf lz (fun s => xlAt qOf [] s && clssOk "BookError" "BadText" ["BadEntry", "BadBook", "NoEntry", "Closed", "TooMany", "Gone"] s.heap) (fun _ => ()) (fun _ => ()) 5000 := fun w => by
  obtain ⟨⟨h, g, dr, t, os⟩, hs, e⟩ := Option.map_eq_some_iff.mp (boot_open (p := Challenge.pw_uf030030_14) (N := 5000) (by rfl) (by decide +kernel) (fun s => by rfl) w)
  obtain ⟨e1, e⟩ := Prod.mk.inj e
  obtain ⟨e2, e⟩ := Prod.mk.inj e
  obtain ⟨e3, e4⟩ := Prod.mk.inj e
  dsimp only at e1 e2 e3 e4
  subst e1 e2 e3 e4
  unfold openEnds
  rw [hs]
  exact topOf w os
theorem defIs : (defOf qOf Challenge.rw_uf030030_14.name).isSome = true := by decide +kernel
end Mine
theorem PySem.Challenge.cw_uf030030_14_holds : PySem.Challenge.rw_uf030030_14.Holds := by
  refine holds_law (by decide +kernel) fun said => ?_
  refine holds_open (r := Challenge.rw_uf030030_14.row) (q := Mine.qOf) (loose := Mine.lz) (d := ((defOf Mine.qOf Challenge.rw_uf030030_14.name).get Mine.defIs).1) (kwd := ((defOf Mine.qOf Challenge.rw_uf030030_14.name).get Mine.defIs).2) (Xt := fun s => xlAt Mine.qOf [] s && Mine.clssOk "BookError" "BadText" ["BadEntry", "BadBook", "NoEntry", "Closed", "TooMany", "Gone"] s.heap) (XP := fun mg h => XL Mine.qOf [] mg h ∧ Mine.Clss "BookError" "BadText" ["BadEntry", "BadBook", "NoEntry", "Closed", "TooMany", "Gone"] mg h) (YP := fun _ _ => True) Mine.leftOf (fun _ _ _ => trivial) (fun _ _ _ _ _ => trivial) (fun s e => ⟨xl_of s (Mine.and2 e).1, Mine.Clss.of (Mine.and2 e).2⟩) (fun mg h h' x k => ⟨XL.keeps mg h h' x.1 k, x.2.keeps k⟩)
    (by kernel_rfl) (by kernel_rfl) (by kernel_rfl) (fun s e => recFacts_nil rfl) rfl said (by decide +kernel) ⟨rfl, rfl, rfl, rfl, rfl, by decide +kernel⟩ ⟨[.list []], by decide +kernel, by decide +kernel⟩ ?_
  intro w s₀ s₁ mg mb G Y fa o pm cd doc dV kV ho hd hcd hD hmg hg args vals as hpre hlay hrd hwl hlo
  have hX := G.X.2
  refine Ground.open G ?_
  intro T B D TE TW
  clear hd hcd hD
  wrow_args hpre hlay hrd hwl hlo
  rename_i ns _ _ _ _ _ _ _ a vs _ hL _ hW _ hI _ hlen _
  have pg := Mine.pg_of (prog := Challenge.rw_uf030030_14.row.prog) (w := w) T Mine.defs14 Mine.consts14 (by decide +kernel) rfl (by decide +kernel) (by decide +kernel)
  have hp : s₁.heap.PlainList a vs.toArray := Mine.plain_of hW hL
  obtain ⟨Kc, Dc, x1, x2, x3, x4, x5⟩ := hX
  have hve : mg (Str.ofString "ValueError") = none ∧ mb (Str.ofString "ValueError") = some (.type "ValueError") := ⟨T.free _ (by decide +kernel) (by decide +kernel) (by decide +kernel) (by decide +kernel) (by decide +kernel), (T.builtins _ (by decide +kernel)).trans PyProof.Rows.Boot.«ValueError»⟩
  refine wpAny_mono (Mine.law14 pg ⟨x1, x2, x3, x4, x5, hve⟩ rfl hmg hp hI (show Mine.OkA 60 callerA from ⟨rfl, by decide, by decide⟩) (by omega)) (fun v s' h => GoodW.toG ?_) fun _ _ e => e
  obtain ⟨rfl, hk, hos, hgs⟩ := h
  refine ⟨.inl ⟨.bool true, .bool true, [], rfl, ?_, ?_, ?_, ?_⟩, hk, hos, hgs.trans hg⟩
  · intro cls; rfl
  · constructor
  · refine postW_of (X := true) (by decide +kernel) ?_ rfl
    first
      | (with_unfolding_all rfl)
      | (simp [OpenLaw.row, WTm.value]; done)
  · intro _; exact ⟨List.nodup_nil, fun _ h => by cases h⟩
end
