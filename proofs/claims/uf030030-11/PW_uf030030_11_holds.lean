import PyProof.Rows.All
import PyProof.AssignAttr
import PyProof.SliceList
import PyProof.EqLayable
import PyProof.ExcQuiet
import PyProof.ExcBaseAll.ValueError
import PyProof.ExcAttrAll.ValueError
import PyProof.ExcClass3
import PyProof.StationsW
import PyProof.SliceStr
import PyProof.StrBlockL
import PyProof.InstLoad
import PyProof.InstStoreFacts
import PyProof.IsiH_tuple
import PyProof.ObjNew
import PyProof.Rows.Catch
import PyProof.Rows.CatchOwn
import PyProof.Rows.AttrNodeAny
import Wide.Ends
import Wide.Tac
import Wide.BridgeG
import OpenK.KGet
import Open.Line
import Open.Boot
import KE.KDictList
import KE.KDictSum
import KE.KDictOf
import KE.KEqDict
import KE.KIsAll
import KE.KRevIter
import KE.KRevSl
import Wide.FinOn
import PySem.Challenge.RW_uf030030_11
set_option Elab.async false
set_option genSizeOf false
set_option autoImplicit false
set_option linter.all false
set_option genInjectivity false
set_option genCtorIdx false
set_option bootstrap.genMatcherCode false
section
set_option Elab.async false
set_option maxRecDepth 100000
set_option maxHeartbeats 8000000
open PySem PySem.W PyProof.Rows
namespace Mine

theorem zoi {α:Type}{a b:α}:(some a=some b)=(a=b):=Option.some.injEq a b
theorem zgz {α:Type}{a:α}{l:List α}:(a::l)[0]?=some a:=rfl
theorem zgs {α:Type}{a:α}{l:List α}{i:Nat}:(a::l)[i+1]?=l[i]?:=rfl
theorem zlc {α:Type}{a:α}{l:List α}:(a::l).length=l.length+1:=rfl
theorem zln {α:Type}:([]:List α).length=0:=rfl
theorem zcn {α:Type}{a:α}{l:List α}:((a::l)=[])=False:=eq_false (List.cons_ne_nil a l)
theorem znt {b:Bool}:(¬b=true)=(b=false):=by simp
theorem zza {n:Nat}:0+n=n:=Nat.zero_add n
theorem zta {p:Prop}:(True∧p)=p:=true_and p
theorem zat {p:Prop}:(p∧True)=p:=and_true p
theorem zel {α:Type}{p:α->Prop}{a:α}:(∃ x,a=x∧p x)=p a:=by simp

noncomputable def lz:List Str:=[("BookError":Str),("BadEntry":Str),("BadBook":Str),("NoEntry":Str),("Closed":Str),("TooMany":Str),("Gone":Str),("BadText":Str),("Keeper":Str)]
noncomputable def qOf:Program:=view Challenge.pw_uf030030_11 [1,3,4,5,6,7,8,19,20,21,22,23,24,25,26,27,28,29,31,32,34,35,39,40,41,42,43,44,45,46,47,48,49,50]
noncomputable def R0 (w:World) (os:OsState):Option Shared:=topFrom treeTable Challenge.pw_uf030030_11 w 20000 ⟨boot_heap w.params,Array.mk [],boot_drawn,boot_toks,os⟩
theorem topD (w:World) (os:OsState):(R0 w os).map (fun s=>(tabsOk qOf s,pinSeenD qOf (drecsOf qOf) s,plainSeenE qOf (looseW qOf lz) s,plainSeenD qOf lz s,wideSeen qOf s,clsSeenW qOf lz s))=some (true,pinGoodD (drecsOf qOf),plainGoodE qOf (looseW qOf lz),plainGoodD qOf lz,wideGood qOf,clsGoodW qOf lz):=by
 kernel_rfl
theorem topA (w:World) (os:OsState):(R0 w os).map (fun s=>(seen ((recsOf qOf).map (·.name)) (ownsOf qOf) [] { s with gens:=#[] },s.heap.bltView))=some (expectedOf qOf,bltViewBooted):=by
 kernel_rfl
theorem topB (w:World) (os:OsState):(R0 w os).map (fun s=>s.heap.keysOk (looseW qOf lz) ((recsOf qOf).map (·.name)) ((litsOf qOf).map (·.1)) ((clssOf qOf (looseW qOf lz)).map (·.name)) && s.heap.accountedOkI (importedModules Challenge.pw_uf030030_11.main.body) && s.heap.isNs mainGlobals && s.heap.isNs builtinsNs && tablesOk qOf s.heap && xlAt qOf [] s && s.gens.size == 0)=some true:=by
 kernel_rfl
end Mine
end
section
set_option genSizeOfSpec false
namespace Mine
open PySem
set_option genCtorIdx true in
set_option genInjectivity true in
inductive MV where
 | none|bool (b:Bool)|int (i:Int)|str (s:Str)|tup (l:List MV)|ref (a:Addr)|keys (d:Addr)
set_option genCtorIdx true in
inductive MO where
 | list (l:List MV)|idict (l:List (Int×MV))|inst (C d:Addr)|attrs (l:List (Str×MV))|exn (C:Addr)
abbrev MH:=Addr->Option MO
noncomputable def upd (μ:MH) (a:Addr) (o:MO):MH:=fun b=>if b=a then some o else μ b
noncomputable def lstO (o:Option MO):Option (List MV):=match o with
 | some (.list l)=>some l
 | _=>none
noncomputable def lst (μ:MH) (a:Addr):Option (List MV):=lstO (μ a)
noncomputable def deep (μ:MH):Nat->MV->Option PyData
 | _,.none=>some .none
 | _,.bool b=>some (.bool b)
 | _,.int i=>some (.int i)
 | _,.str s=>if PyData.strOk s then some (.str s) else none
 | n+1,.tup l=>(l.mapM (deep μ n)).map PyData.tuple
 | n+1,.ref a=>(lst μ a).bind fun l=>(l.mapM (deep μ n)).map PyData.list
 | _,_=>none
noncomputable def keysOf {K:Type}(l:List (K×MV)):List K:=l.map (·.1)
noncomputable def lookI {K:Type} [DecidableEq K] (l:List (K×MV)) (k:K):Option MV:=(l.find? fun kv=>kv.1=k).map (·.2)
noncomputable def putI {K:Type} [DecidableEq K] (l:List (K×MV)) (k:K) (v:MV):List (K×MV):=
 if l.any (fun kv=>kv.1=k) then l.map (fun kv=>if kv.1=k then (kv.1,v) else kv) else l++[(k,v)]
noncomputable def delI {K:Type} [DecidableEq K] (l:List (K×MV)) (k:K):List (K×MV):=l.filter fun kv=>!decide (kv.1=k)
noncomputable def chars (s:Str):List MV:=s.cps.toList.map fun c=>.str ⟨#[c]⟩
noncomputable def itemsO (o:Option MO):Option (List MV):=match o with
 | some (.list l)=>some l
 | some (.idict l)=>some (l.map fun kv=>.int kv.1)
 | _=>none
noncomputable def keysO (o:Option MO):Option (List MV):=match o with
 | some (.idict l)=>some (l.map fun kv=>.int kv.1)
 | _=>none
noncomputable def items (μ:MH):MV->Option (List MV)
 | .tup l=>some l
 | .str s=>some (chars s)
 | .ref a=>itemsO (μ a)
 | .keys a=>keysO (μ a)
 | _=>none
noncomputable def truthyO (o:Option MO):Option Bool:=match o with
 | some (.list l)=>if l.length≤2 ^ 20 then some (!l.isEmpty) else none
 | _=>none
noncomputable def truthy (μ:MH):MV->Option Bool
 | .none=>some false
 | .bool b=>some b
 | .int i=>some (decide (i≠0))
 | .ref a=>truthyO (μ a)
 | _=>none
set_option genCtorIdx true in
inductive BOp where|add|sub|mul|fdiv|mod
set_option genCtorIdx true in
inductive COp where|eq|ne|lt|le|gt|ge|isin|notin|isnot
set_option genCtorIdx true in
inductive BI where|len|min2|max2|max1|sorted|sortedR|sortedSet|sortedSetS|list|dict|int
set_option genCtorIdx true in
inductive MM where|append|extend|keys|clear|count|index|join
set_option genCtorIdx true in
inductive SK where|plain|range|rev
inductive MT where|one (i:Nat)|tup (l:List Nat)
set_option genCtorIdx true in
inductive TY where|int|bool|str|tuple|list|dict
 deriving DecidableEq
set_option genInjectivity false
inductive ME where
 | var (i:Nat)
 | glob (g:String)
 | cint (i:Int)|cstr (s:String)|cbool (b:Bool)|cnone
 | bin (op:BOp) (a b:ME)
 | neg (a:ME)|not (a:ME)
 | and (l:List ME)|or (l:List ME)
 | cmp (a:ME) (ops:List COp) (es:List ME)
 | idx (a i:ME)
 | slice (a lo hi st:ME)
 | list (l:List ME)|tuple (l:List ME)
 | dict0
 | call (f:String) (args:List ME)
 | bi (f:BI) (args:List ME)
 | isinst (e:ME) (t:TY)
 | meth (m:MM) (o:ME) (args:List ME)
 | comp (elt:ME) (t:MT) (k:SK) (its:List ME) (ifs:List ME)
 | attr (o:ME) (n:String)
 | mcall (n:String) (o:ME) (args:List ME)
 | new (c:String)
 | isx (e:ME) (c:String)
inductive MS where
 | assign (i:Nat) (e:ME)
 | setattr (o:ME) (n:String) (e:ME)
 | setidx (o i e:ME)
 | expr (e:ME)
 | ret (e:ME)
 | ite (c:ME) (a b:List MS)
 | for (t:MT) (k:SK) (its:List ME) (body:List MS)
 | while (c:ME) (body:List MS)
 | opq (chk:List (Nat×Str)->List (Str×NameKind)->PySem.Stmt->Bool)
set_option genCtorIdx true in
inductive MFlow where|next|brk|cont|ret (v:MV)
abbrev MVars:=Nat->Option MV
noncomputable def setv (vars:MVars) (i:Nat) (v:MV):MVars:=fun j=>if j=i then some v else vars j
abbrev MQ:=MV->MH->Prop
abbrev MX:=String->MH->Prop
structure MFun where
 n:Nat
 body:List MS
 nat:Option (Nat->List MV->List Addr->MQ->MH->Prop):=none
abbrev CallSpec:=String->List MV->List Addr->MQ->MX->MH->Prop
noncomputable def fits (n:Nat):Prop:=n≤2 ^ 20
noncomputable instance (n:Nat):Decidable (fits n):=inferInstanceAs (Decidable (_≤_))
noncomputable def small (i:Int):Prop:=-(2 ^ 63)≤i∧i<2 ^ 63
noncomputable def allocM (fz:List Addr) (μ:MH) (o:MO) (Q:Addr->MH->Prop):Prop:=∀ a,μ a=none->a∉fz->Q a (upd μ a o)
noncomputable def intsM (a b:MV) (P:Int->Int->Prop):Prop:=match a with
 | .int x=>(match b with | .int y=>P x y|_=>False)
 | _=>False
noncomputable def addM (fz:List Addr) (a b:MV) (Q:MQ) (μ:MH):Prop:=match a with
 | .int x=>(match b with | .int y=>Q (.int (x+y)) μ|_=>False)
 | .str x=>(match b with | .str y=>fits (x.length+y.length)∧Q (.str (x++y)) μ|_=>False)
 | .ref a=>(match b with | .ref b=>∃ x y,lst μ a=some x∧lst μ b=some y∧fits (x.length+y.length)∧allocM fz μ (.list (x++y)) fun c μ'=>Q (.ref c) μ'|_=>False)
 | _=>False
noncomputable def binM (fz:List Addr) (op:BOp) (a b:MV) (Q:MQ) (μ:MH):Prop:=match op with
 | .add=>addM fz a b Q μ
 | .sub=>intsM a b fun x y=>Q (.int (x-y)) μ
 | .mul=>intsM a b fun x y=>(small x∨small y)∧Q (.int (x*y)) μ
 | .fdiv=>intsM a b fun x y=>(y≠0∧small y)∧Q (.int (x.fdiv y)) μ
 | .mod=>intsM a b fun x y=>y≠0∧Q (.int (x.fmod y)) μ
noncomputable def eqD (μ:MH) (a b:MV):Option Bool:=(deep μ 9 a).bind fun x=>(deep μ 9 b).map (PyData.eqv x)
noncomputable def eqDicts {K:Type} [DecidableEq K] (μ:MH) (x y:List (K×MV)):Option Bool:=
 if x.length=y.length then (x.mapM fun (kv:K×MV)=>match lookI y kv.1 with|some v=>eqD μ kv.2 v|none=>some false).map fun (l:List Bool)=>l.all id
 else some false
noncomputable def eqO (μ:MH) (o o':Option MO) (r:Option Bool):Option Bool:=match o with
 | some (.idict x)=>(match o' with|some (.idict y)=>eqDicts μ x y|_=>r)
 | _=>r
noncomputable def eqM (μ:MH) (a b:MV):Option Bool:=match a,b with
 | .ref p,.ref q=>eqO μ (μ p) (μ q) (eqD μ a b)
 | a,b=>eqD μ a b
noncomputable def anyT (x y:Option PyData):Option Bool:=match x with
 | some (.tuple xs)=>y.map fun d=>xs.any fun y=>PyData.eqv y d
 | _=>none
noncomputable def anyL (x y:Option PyData):Option Bool:=match x with
 | some (.list xs)=>y.map fun d=>xs.any fun y=>PyData.eqv y d
 | _=>none
noncomputable def strIn (a:MV) (y:Str):Option Bool:=match a with
 | .str x=>if x.length=1 then some (y.cps.toList.contains (x.cps.toList.headD 0)) else none
 | _=>none
noncomputable def inO (μ:MH) (p:Addr) (a:MV) (o:Option MO):Option Bool:=match o with
 | some (.idict l)=>(match a with | .int k=>some ((lookI l k).isSome)|_=>none)
 | some (.list _)=>anyL (deep μ 9 (.ref p)) (deep μ 9 a)
 | _=>none
noncomputable def inM (μ:MH) (a b:MV):Option Bool:=match b with
 | .tup l=>anyT (deep μ 9 (.tup l)) (deep μ 9 a)
 | .ref p=>inO μ p a (μ p)
 | .str y=>strIn a y
 | _=>none
noncomputable def intsO (a b:MV) (f:Int->Int->Bool):Option Bool:=match a with
 | .int x=>(match b with | .int y=>some (f x y)|_=>none)
 | _=>none
noncomputable def isNoneO (a b:MV):Option Bool:=match b with
 | .none=>(match a with
  | .none=>some true
  | .keys _=>none
  | _=>some false)
 | _=>none
noncomputable def cmpM (op:COp) (μ:MH) (a b:MV):Option Bool:=match op with
 | .eq=>eqM μ a b
 | .ne=>(eqM μ a b).map (!·)
 | .isin=>inM μ a b
 | .notin=>(inM μ a b).map (!·)
 | .lt=>intsO a b fun x y=>decide (x<y)
 | .le=>intsO a b fun x y=>decide (x≤y)
 | .gt=>intsO a b fun x y=>decide (x > y)
 | .ge=>intsO a b fun x y=>decide (x≥y)
 | .isnot=>(isNoneO a b).map (!·)
noncomputable def atI {α:Type}(l:List α) (k:Int):Option α:=
 if 0≤k then l[k.toNat]? else if 0≤k+l.length then l[(k+l.length).toNat]? else none
noncomputable def intO (v:MV) (f:Int->Option MV):Option MV:=match v with
 | .int k=>f k
 | _=>none
noncomputable def strO (v:MV) (f:Str->Option MV):Option MV:=match v with
 | .str k=>f k
 | _=>none
noncomputable def idxO (o:Option MO) (i:MV):Option MV:=match o with
 | some (.list l)=>intO i fun k=>if l.length≤2 ^ 20 then atI l k else none
 | some (.idict l)=>intO i fun k=>lookI l k
 | _=>none
noncomputable def idxM (μ:MH) (a i:MV):Option MV:=match a with
 | .tup l=>intO i fun k=>if l.length≤2 ^ 20 then atI l k else none
 | .str s=>intO i fun k=>if s.length≤2 ^ 20 then (atI s.cps.toList k).map fun c=>.str ⟨#[c]⟩ else none
 | .ref p=>idxO (μ p) i
 | _=>none
noncomputable def pickN (n:Nat) (lo hi st:Option Int):List Nat:=sliceRange (sliceBounds lo hi st n).1 (sliceBounds lo hi st n).2.1 (sliceBounds lo hi st n).2.2
noncomputable def pick {α:Type}(l:List α) (lo hi st:Option Int):List α:=(pickN l.length lo hi st).filterMap (l[·]?)
noncomputable def partI:MV->Option (Option Int)
 | .none=>some none
 | .int i=>some (some i)
 | _=>none
noncomputable def sliceM (fz:List Addr) (a lo hi st:MV) (Q:MQ) (μ:MH):Prop:=∃ l h s,partI lo=some l∧partI hi=some h∧partI st=some s∧s≠some 0∧match a with
 | .str x=>fits x.length∧Q (.str ⟨(pick x.cps.toList l h s).toArray⟩) μ
 | .ref p=>∃ x,lst μ p=some x∧fits x.length∧allocM fz μ (.list (pick x l h s)) fun c μ'=>Q (.ref c) μ'
 | _=>False
noncomputable def isTyO (t:TY) (o:Option MO):Option Bool:=match o with
 | some (.list _)=>some (t=.list)
 | some (.idict _)=>some (t=.dict)
 | _=>none
noncomputable def isTy (μ:MH) (t:TY):MV->Option Bool
 | .none=>some false
 | .bool _=>some (t=.bool || t=.int)
 | .int _=>some (t=.int)
 | .str _=>some (t=.str)
 | .tup _=>some (t=.tuple)
 | .ref a=>isTyO t (μ a)
 | _=>none
noncomputable def isStrV:MV->Bool
 | .str _=>true
 | _=>false
noncomputable def intsOf (l:List MV):Option (List Int):=l.mapM fun | .int i=>some i|_=>none
noncomputable def strsOf (l:List MV):Option (List Str):=l.mapM fun | .str i=>some i|_=>none
noncomputable def boolsOf (l:List MV):Option (List Bool):=l.mapM fun | .bool i=>some i|_=>none
noncomputable def sortI (l:List Int):List Int:=l.mergeSort (fun a b=>decide (a≤b))
noncomputable def addD {K:Type} [DecidableEq K] (acc:List K) (v:K):List K:=if v∈acc then acc else acc++[v]
noncomputable def ddup {K:Type} [DecidableEq K] (l:List K):List K:=l.foldl addD []
noncomputable def maxI:List Int->Option Int
 | []=>none
 | x::r=>some (r.foldl max x)
noncomputable def pair2 (k:MV) (l:List MV):Option (Int×MV):=match k with
 | .int k=>(match l with|[v]=>some (k,v)|_=>none)
 | _=>none
noncomputable def pair1 (m:MV):Option (Int×MV):=match m with
 | .tup (k::l)=>pair2 k l
 | _=>none
noncomputable def pairsI (l:List MV):Option (List (Int×MV)):=l.mapM pair1
noncomputable def lenO (o:Option MO) (P:Nat->Prop):Prop:=match o with
 | some (.list l)=>fits l.length∧P l.length
 | some (.idict l)=>fits l.length∧P l.length
 | _=>False
noncomputable def lenM (v:MV) (Q:MQ) (μ:MH):Prop:=match v with
 | .tup l=>fits l.length∧Q (.int l.length) μ
 | .str s=>fits s.length∧Q (.int s.length) μ
 | .ref a=>lenO (μ a) fun n=>Q (.int n) μ
 | _=>False
noncomputable def a1 (args:List MV) (P:MV->Prop):Prop:=match args with
 | [v]=>P v
 | _=>False
noncomputable def a2 (args:List MV) (P:MV->MV->Prop):Prop:=match args with
 | [v,u]=>P v u
 | _=>False
noncomputable def intV (v:MV) (P:Int->Prop):Prop:=match v with
 | .int i=>P i
 | _=>False
noncomputable def boolV (v:MV) (P:Bool->Prop):Prop:=match v with
 | .bool i=>P i
 | _=>False
noncomputable def refV (v:MV) (P:Addr->Prop):Prop:=match v with
 | .ref i=>P i
 | _=>False
noncomputable def dictO (fz:List Addr) (o:Option MO) (Q:MQ) (μ:MH):Prop:=match o with
 | some (.idict l)=>fits l.length∧allocM fz μ (.idict l) fun c μ'=>Q (.ref c) μ'
 | some (.list l)=>∃ ps,pairsI l=some ps∧fits l.length∧allocM fz μ (.idict (ps.foldl (fun d kv=>putI d kv.1 kv.2) [])) fun c μ'=>Q (.ref c) μ'
 | _=>False
noncomputable def biM (fz:List Addr) (f:BI) (args:List MV) (Q:MQ) (μ:MH):Prop:=match f with
 | .len=>a1 args fun v=>lenM v Q μ
 | .min2=>a2 args fun a b=>intsM a b fun x y=>Q (.int (min x y)) μ
 | .max2=>a2 args fun a b=>intsM a b fun x y=>Q (.int (max x y)) μ
 | .max1=>a1 args fun v=>∃ l ns m,isStrV v=false∧items μ v=some l∧intsOf l=some ns∧fits l.length∧maxI ns=some m∧Q (.int m) μ
 | .sorted=>a1 args fun v=>∃ l ns,isStrV v=false∧items μ v=some l∧intsOf l=some ns∧l.length<64∧allocM fz μ (.list ((sortI ns).map .int)) fun c μ'=>Q (.ref c) μ'
 | .sortedR=>a1 args fun v=>∃ l ns,isStrV v=false∧items μ v=some l∧intsOf l=some ns∧l.length<64∧allocM fz μ (.list ((sortI ns).reverse.map .int)) fun c μ'=>Q (.ref c) μ'
 | .list=>a1 args fun v=>∃ l,isStrV v=false∧items μ v=some l∧fits l.length∧allocM fz μ (.list l) fun c μ'=>Q (.ref c) μ'
 | .dict=>a1 args fun v=>refV v fun a=>dictO fz (μ a) Q μ
 | .int=>a1 args fun v=>boolV v fun b=>Q (.int (if b then 1 else 0)) μ
 | .sortedSet=>a1 args fun v=>refV v fun a=>∃ l ns,lst μ a=some l∧intsOf l=some ns∧l.length<64∧allocM fz μ (.list ((sortI (ddup ns)).map .int)) fun c μ'=>Q (.ref c) μ'
 | .sortedSetS=>a1 args fun v=>refV v fun a=>∃ l ss,lst μ a=some l∧strsOf l=some ss∧l.length<64∧∀ ts:List Str,ts.Perm (ddup ss)->allocM fz μ (.list (ts.map .str)) fun c μ'=>Q (.ref c) μ'
noncomputable def isDictO (o:Option MO):Bool:=match o with
 | some (.idict _)=>true
 | _=>false
noncomputable def isListO (o:Option MO):Bool:=match o with
 | some (.list _)=>true
 | _=>false
noncomputable def refB (v:MV) (P:Addr->Bool):Bool:=match v with
 | .ref i=>P i
 | _=>false
noncomputable def mmKind (m:MM) (μ:MH) (v:MV):Bool:=match m with
 | .append | .extend=>refB v fun a=>isListO (μ a)
 | .count | .index=>refB v fun a=>isListO (μ a)
 | .keys | .clear=>refB v fun a=>isDictO (μ a)
 | .join=>isStrV v
noncomputable def strV (v:MV) (P:Str->Prop):Prop:=match v with
 | .str i=>P i
 | _=>False
noncomputable def a0 (args:List MV) (P:Prop):Prop:=match args with
 | []=>P
 | _=>False
noncomputable def methM (fz:List Addr) (m:MM) (o:MV) (args:List MV) (Q:MQ) (μ:MH):Prop:=match m with
 | .append=>refV o fun a=>a1 args fun v=>∃ l,μ a=some (.list l)∧a∉fz∧fits l.length∧Q .none (upd μ a (.list (l++[v])))
 | .extend=>refV o fun a=>a1 args fun v=>refV v fun b=>∃ l x,μ a=some (.list l)∧a∉fz∧lst μ b=some x∧a≠b∧fits (l.length+x.length)∧Q .none (upd μ a (.list (l++x)))
 | .keys=>refV o fun a=>a0 args (isDictO (μ a)=true∧Q (.keys a) μ)
 | .clear=>refV o fun a=>a0 args (∃ l,μ a=some (.idict l)∧a∉fz∧fits l.length∧Q .none (upd μ a (.idict [])))
 | .count=>refV o fun a=>a1 args fun v=>∃ l bs,lst μ a=some l∧boolsOf l=some bs∧fits l.length∧v=.bool true∧Q (.int (bs.countP id)) μ
 | .index=>refV o fun a=>a1 args fun v=>∃ l bs,lst μ a=some l∧boolsOf l=some bs∧fits l.length∧v=.bool true∧bs.any id=true∧Q (.int (bs.findIdx id)) μ
 | .join=>strV o fun x=>a1 args fun v=>refV v fun a=>∃ l ss,lst μ a=some l∧strsOf l=some ss∧x.length≤16∧(ss.map (·.length)).sum+ss.length≤2 ^ 20∧Q (.str (Txt.join x ss)) μ
inductive Src where
 | val (v:MV)
 | ints (l:List Int)
 | rev (v:MV)
noncomputable def Src.items (μ:MH):Src->Option (List MV)
 | .val v=>Mine.items μ v
 | .ints l=>some (l.map .int)
 | .rev (.ref a)=>(lst μ a).map List.reverse
 | .rev _=>none
noncomputable def rangeL (lo hi st:Int):List Int:=(List.range ((hi-lo+st-1) / st).toNat).map fun (k:Nat)=>lo+st*k
noncomputable def in62 (i:Int):Bool:=decide (-(2 ^ 62)≤i) && decide (i<2 ^ 62)
noncomputable def range1 (v:MV):Option (List Int):=match v with
 | .int h=>if in62 h then some (rangeL 0 h 1) else none
 | _=>none
noncomputable def rangeM (args:List MV):Option (List Int):=match args with
 | [v]=>range1 v
 | _=>none
noncomputable def one1 (f:MV->Src) (vs:List MV):Option Src:=match vs with
 | [v]=>some (f v)
 | _=>none
noncomputable def mkSrc (k:SK) (vs:List MV):Option Src:=match k with
 | .plain=>one1 .val vs
 | .range=>(rangeM vs).map .ints
 | .rev=>one1 .rev vs
noncomputable def setAt {α:Type}(l:List α) (k:Int) (v:α):Option (List α):=
 if 0≤k then (if k.toNat<l.length then some (l.set k.toNat v) else none)
 else if 0≤k+l.length then some (l.set (k+l.length).toNat v) else none
noncomputable def setO (o:Option MO) (i v:MV) (P:MO->Prop):Prop:=match o with
 | some (.list l)=>intV i fun k=>fits l.length∧∃ l',setAt l k v=some l'∧P (.list l')
 | some (.idict l)=>intV i fun k=>fits l.length∧P (.idict (putI l k v))
 | _=>False
noncomputable def setM (fz:List Addr) (o i v:MV) (Q:MH->Prop) (μ:MH):Prop:=refV o fun a=>a∉fz∧setO (μ a) i v fun o'=>Q (upd μ a o')
noncomputable def bindT (t:MT) (v:MV) (vars:MVars):Option MVars:=match t,v with
 | .one i,v=>some (setv vars i v)
 | .tup is,.tup l=>if is.length=l.length then some ((is.zip l).foldl (fun vs p=>setv vs p.1 p.2) vars) else none
 | .tup _,_=>none
noncomputable def Src.held:Src->List Addr
 | .val (.ref a) | .val (.keys a) | .rev (.ref a)=>[a]
 | _=>[]
noncomputable def loopM (t:MT) (B:MVars->(MFlow->MVars->MH->Prop)->MH->Prop) (R:MFlow->MVars->MH->Prop):List MV->MVars->MH->Prop
 | [],vars,μ=>R .next vars μ
 | v::rest,vars,μ=>∃ vars',bindT t v vars=some vars' ∧
   B vars' (fun fl vars'' μ'=>match fl with
    | .next | .cont=>loopM t B R rest vars'' μ'
    | .brk=>R .next vars'' μ'
    | .ret v=>R (.ret v) vars'' μ') μ
noncomputable def compM (fz:List Addr) (t:MT) (vars:MVars) (T:MVars->(Bool->MH->Prop)->MH->Prop) (B:MVars->MQ->MH->Prop) (Q:MQ):List MV->List MV->MH->Prop
 | [],acc,μ=>allocM fz μ (.list acc) fun c μ'=>Q (.ref c) μ'
 | v::rest,acc,μ=>∃ vars',bindT t v vars=some vars' ∧
   T vars' (fun ok μ'=>if ok then B vars' (fun r μ''=>compM fz t vars T B Q rest (acc++[r]) μ'') μ' else compM fz t vars T B Q rest acc μ') μ
noncomputable def whileM (C:MVars->(Bool->MH->Prop)->MH->Prop) (B:MVars->(MFlow->MVars->MH->Prop)->MH->Prop) (R:MFlow->MVars->MH->Prop):Nat->MVars->MH->Prop
 | 0,_,_=>False
 | n+1,vars,μ=>C vars (fun b μ'=>if b then B vars (fun fl vars'' μ''=>match fl with
    | .next | .cont=>whileM C B R n vars'' μ''
    | .brk=>R .next vars'' μ''
    | .ret v=>R (.ret v) vars'' μ'') μ'
   else R .next vars μ') μ
noncomputable def attrNames:List String:=["held", "ground", "given"]
noncomputable def attrName (n:String):Bool:=attrNames.contains n
noncomputable def instM (G:String->Option MV) (μ:MH) (a:Addr) (P:Addr->List (Str×MV)->Prop):Prop:=∃ C d l,G "Keeper" = some (.ref C)∧μ a=some (.inst C d)∧μ d=some (.attrs l)∧P d l
noncomputable def xNames:List String:=["BadEntry", "BadBook", "NoEntry", "Closed", "TooMany", "Gone", "BadText"]
noncomputable def isxM (G:String->Option MV) (c:String) (C:Addr) (b:Bool):Prop:=(∃ g∈xNames,G g=some (.ref C))∧((c = "ValueError"∧b=true)∨(c∈xNames∧∃ D,G c=some (.ref D)∧b=decide (C=D)))
section
variable (G:String->Option MV) (Φ:CallSpec) (X:MX)
mutual
noncomputable def ev:ME->List Addr->MVars->MQ->MH->Prop
 | .var i,_,vars,Q,μ=>∃ v,vars i=some v∧Q v μ
 | .glob g,_,_,Q,μ=>∃ v,G g=some v∧Q v μ
 | .cint i,_,_,Q,μ=>Q (.int i) μ
 | .cstr s,_,_,Q,μ=>Q (.str (Str.ofString s)) μ
 | .cbool b,_,_,Q,μ=>Q (.bool b) μ
 | .cnone,_,_,Q,μ=>Q .none μ
 | .bin op a b,fz,vars,Q,μ=>ev a fz vars (fun x μ'=>ev b fz vars (fun y μ''=>binM fz op x y Q μ'') μ') μ
 | .neg a,fz,vars,Q,μ=>ev a fz vars (fun x μ'=>∃ i,x=.int i∧Q (.int (-i)) μ') μ
 | .not a,fz,vars,Q,μ=>ev a fz vars (fun x μ'=>∃ b,truthy μ' x=some b∧Q (.bool (!b)) μ') μ
 | .and l,fz,vars,Q,μ=>evAnd l fz vars Q μ
 | .or l,fz,vars,Q,μ=>evOr l fz vars Q μ
 | .cmp a ops es,fz,vars,Q,μ=>ev a fz vars (fun x μ'=>evCmp es ops x fz vars Q μ') μ
 | .idx a i,fz,vars,Q,μ=>ev a fz vars (fun x μ'=>ev i fz vars (fun y μ''=>∃ v,idxM μ'' x y=some v∧Q v μ'') μ') μ
 | .slice a lo hi st,fz,vars,Q,μ=>ev a fz vars (fun x μ'=>ev lo fz vars (fun l μa=>ev hi fz vars (fun h μb=>ev st fz vars (fun s μ3=>sliceM fz x l h s Q μ3) μb) μa) μ') μ
 | .list l,fz,vars,Q,μ=>evs l fz vars (fun vs μ'=>fits vs.length∧allocM fz μ' (.list vs) fun c μ''=>Q (.ref c) μ'') μ
 | .tuple l,fz,vars,Q,μ=>evs l fz vars (fun vs μ'=>fits vs.length∧Q (.tup vs) μ') μ
 | .dict0,fz,_,Q,μ=>allocM fz μ (.idict []) fun c μ'=>Q (.ref c) μ'
 | .call f args,fz,vars,Q,μ=>evs args fz vars (fun vs μ'=>Φ f vs fz Q X μ') μ
 | .bi f args,fz,vars,Q,μ=>evs args fz vars (fun vs μ'=>biM fz f vs Q μ') μ
 | .isinst e t,fz,vars,Q,μ=>ev e fz vars (fun v μ'=>∃ b,isTy μ' t v=some b∧Q (.bool b) μ') μ
 | .meth m o args,fz,vars,Q,μ=>ev o fz vars (fun x μ'=>mmKind m μ' x=true∧evs args fz vars (fun vs μ''=>methM fz m x vs Q μ'') μ') μ
 | .comp elt t k its ifs,fz,vars,Q,μ=>evs its fz vars (fun vs μ'=>∃ src all,mkSrc k vs=some src∧src.items μ'=some all∧fits all.length ∧
   compM fz t vars (fun vs F μ=>evIfs ifs (src.held++fz) vs F μ) (fun vs F μ=>ev elt (src.held++fz) vs F μ) Q all [] μ') μ
 | .attr o n,fz,vars,Q,μ=>ev o fz vars (fun x μ'=>refV x fun a=>instM G μ' a fun _ l=>attrName n=true∧∃ v,lookI l (Str.ofString n)=some v∧Q v μ') μ
 | .mcall n o args,fz,vars,Q,μ=>ev o fz vars (fun x μ'=>refV x fun a=>(instM G μ' a fun _ l=>lookI l (Str.ofString n)=none)∧evs args fz vars (fun vs μ''=>Φ ("Keeper." ++ n) (x::vs) fz Q X μ'') μ') μ
 | .new c,fz,_,Q,μ=>∃ C,G c=some (.ref C)∧c = "Keeper"∧∀ x d,μ x=none->x∉fz->μ d=none->d∉fz->x≠d->Φ "Keeper.__init__" [.ref x] fz (fun v μ'=>v=.none∧Q (.ref x) μ') X (upd (upd μ d (.attrs [])) x (.inst C d))
 | .isx e c,fz,vars,Q,μ=>ev e fz vars (fun v μ'=>refV v fun a=>∃ C b,μ' a=some (.exn C)∧isxM G c C b∧Q (.bool b) μ') μ
noncomputable def evs:List ME->List Addr->MVars->(List MV->MH->Prop)->MH->Prop
 | [],_,_,Q,μ=>Q [] μ
 | e::r,fz,vars,Q,μ=>ev e fz vars (fun v μ'=>evs r fz vars (fun vs μ''=>Q (v::vs) μ'') μ') μ
noncomputable def evAnd:List ME->List Addr->MVars->MQ->MH->Prop
 | [],_,_,_,_=>False
 | e::r,fz,vars,Q,μ=>ev e fz vars (fun v μ'=>match r with
   | []=>Q v μ'
   | _::_=>∃ b,truthy μ' v=some b∧if b then evAnd r fz vars Q μ' else Q v μ') μ
noncomputable def evOr:List ME->List Addr->MVars->MQ->MH->Prop
 | [],_,_,_,_=>False
 | e::r,fz,vars,Q,μ=>ev e fz vars (fun v μ'=>match r with
   | []=>Q v μ'
   | _::_=>∃ b,truthy μ' v=some b∧if b then Q v μ' else evOr r fz vars Q μ') μ
noncomputable def evCmp:List ME->List COp->MV->List Addr->MVars->MQ->MH->Prop
 | e::r,op::ops,x,fz,vars,Q,μ=>ev e fz vars (fun y μ'=>∃ b,cmpM op μ' x y=some b∧match r,ops with
   | [],[]=>Q (.bool b) μ'
   | _::_,_::_=>if b then evCmp r ops y fz vars Q μ' else Q (.bool false) μ'
   | _,_=>False) μ
 | _,_,_,_,_,_,_=>False
noncomputable def evIfs:List ME->List Addr->MVars->(Bool->MH->Prop)->MH->Prop
 | [],_,_,F,μ=>F true μ
 | e::r,fz,vars,F,μ=>ev e fz vars (fun v μ'=>∃ b,truthy μ' v=some b∧match r with
   | []=>F b μ'
   | _::_=>if b then evIfs r fz vars F μ' else F false μ') μ
end
mutual
noncomputable def ex:MS->List Addr->MVars->(MFlow->MVars->MH->Prop)->MH->Prop
 | .assign i e,fz,vars,R,μ=>ev G Φ X e fz vars (fun v μ'=>R .next (setv vars i v) μ') μ
 | .setattr o n e,fz,vars,R,μ=>ev G Φ X e fz vars (fun v μa=>ev G Φ X o fz vars (fun x μb=>refV x fun a=>instM G μb a fun d l=>d∉fz∧attrName n=true∧fits l.length∧R .next vars (upd μb d (.attrs (putI l (Str.ofString n) v)))) μa) μ
 | .setidx o i e,fz,vars,R,μ=>ev G Φ X e fz vars (fun v μa=>ev G Φ X o fz vars (fun x μb=>ev G Φ X i fz vars (fun y μ3=>setM fz x y v (fun μ4=>R .next vars μ4) μ3) μb) μa) μ
 | .expr e,fz,vars,R,μ=>ev G Φ X e fz vars (fun _ μ'=>R .next vars μ') μ
 | .ret e,fz,vars,R,μ=>ev G Φ X e fz vars (fun v μ'=>R (.ret v) vars μ') μ
 | .ite c a b,fz,vars,R,μ=>ev G Φ X c fz vars (fun v μ'=>∃ t,truthy μ' v=some t∧if t then exs a fz vars R μ' else exs b fz vars R μ') μ
 | .for t k its body,fz,vars,R,μ=>evs G Φ X its fz vars (fun vs μ'=>∃ src all,mkSrc k vs=some src∧src.items μ'=some all∧fits all.length ∧
   loopM t (fun vs F μ=>exs body (src.held++fz) vs F μ) R all vars μ') μ
 | .while c body,fz,vars,R,μ=>∃ n,whileM (fun vs F μ=>ev G Φ X c fz vs (fun v μ'=>∃ t,truthy μ' v=some t∧F t μ') μ) (fun vs F μ=>exs body fz vs F μ) R n vars μ
 | .opq _,_,_,_,_=>False
noncomputable def exs:List MS->List Addr->MVars->(MFlow->MVars->MH->Prop)->MH->Prop
 | [],_,vars,R,μ=>R .next vars μ
 | st::r,fz,vars,R,μ=>ex st fz vars (fun fl vars' μ'=>match fl with
   | .next=>exs r fz vars' R μ'
   | fl=>R fl vars' μ') μ
end
end
noncomputable def args0 (vs:List MV):MVars:=fun i=>vs[i]?
noncomputable def calls (G:String->Option MV) (Γ:String->Option MFun):Nat->CallSpec
 | 0,_,_,_,_,_,_=>False
 | d+1,f,vs,fz,Q,X,μ=>∃ fd,Γ f=some fd∧vs.length=fd.n ∧
   match fd.nat with
   | some P=>P d vs fz Q μ
   | none=>exs G (calls G Γ d) X fd.body fz (args0 vs) (fun fl _ μ'=>match fl with
    | .ret v=>Q v μ'
    | .next=>Q .none μ'
    | _=>False) μ
theorem J8 {a b:MV}{P:Int->Int->Prop}(h:intsM a b P):∃ x y,a=.int x∧b=.int y∧P x y:=by
 cases a <;> first
  | exact False.elim h
  | (cases b <;> first|exact False.elim h|exact⟨_,_,rfl,rfl,h⟩)
theorem Nq {a b:MV}{f:Int->Int->Bool}{r:Bool}(h:intsO a b f=some r):∃ x y,a=.int x∧b=.int y∧f x y=r:=by
 cases a <;> first
  | (cases h;done)
  | (cases b <;> first|(cases h;done)|exact⟨_,_,rfl,rfl,Option.some.inj h⟩)
theorem X5 {v:MV}{P:Addr->Prop}(h:refV v P):∃ i,v=.ref i∧P i:=by
 cases v <;> first|exact False.elim h|exact⟨_,rfl,h⟩
theorem Km {v:MV}{P:Addr->Bool}(h:refB v P=true):∃ i,v=.ref i∧P i=true:=by
 cases v <;> first|exact(Bool.false_ne_true h).elim|exact⟨_,rfl,h⟩
theorem intV_inv {v:MV}{P:Int->Prop}(h:intV v P):∃ i,v=.int i∧P i:=by
 cases v <;> first|exact False.elim h|exact⟨_,rfl,h⟩
theorem boolV_inv {v:MV}{P:Bool->Prop}(h:boolV v P):∃ i,v=.bool i∧P i:=by
 cases v <;> first|exact False.elim h|exact⟨_,rfl,h⟩
theorem strV_inv {v:MV}{P:Str->Prop}(h:strV v P):∃ i,v=.str i∧P i:=by
 cases v <;> first|exact False.elim h|exact⟨_,rfl,h⟩
theorem isStrV_inv {v:MV}(h:isStrV v=true):∃ i,v=.str i:=by
 cases v <;> first|exact(Bool.false_ne_true h).elim|exact⟨_,rfl⟩
theorem a0_inv {args:List MV}{P:Prop}(h:a0 args P):args=[]∧P:=by
 cases args <;> first|exact False.elim h|exact⟨rfl,h⟩
theorem Z1 {args:List MV}{P:MV->Prop}(h:a1 args P):∃ v,args=[v]∧P v:=by
 cases args with
 | nil=>exact False.elim h
 | cons v r=>cases r with
  | nil=>exact⟨v,rfl,h⟩
  | cons _ _=>exact False.elim h
theorem a2_inv {args:List MV}{P:MV->MV->Prop}(h:a2 args P):∃ v u,args=[v,u]∧P v u:=by
 cases args with
 | nil=>exact False.elim h
 | cons v r=>cases r with
  | nil=>exact False.elim h
  | cons u r=>cases r with
   | nil=>exact⟨v,u,rfl,h⟩
   | cons _ _=>exact False.elim h
theorem C5 {o:Option MO}(h:isDictO o=true):∃ l,o=some (.idict l):=by
 cases o with
 | none=>exact(Bool.false_ne_true h).elim
 | some o=>cases o with
  | idict l=>exact⟨l,rfl⟩
  | _=>exact(Bool.false_ne_true h).elim
theorem isListO_inv {o:Option MO}(h:isListO o=true):∃ l,o=some (.list l):=by
 cases o with
 | none=>exact(Bool.false_ne_true h).elim
 | some o=>cases o with
  | list l=>exact⟨l,rfl⟩
  | _=>exact(Bool.false_ne_true h).elim
theorem anyT_inv {x y:Option PyData}{r:Bool}(h:anyT x y=some r):∃ xs d,x=some (.tuple xs)∧y=some d∧(xs.any fun y=>PyData.eqv y d)=r:=by
 cases x with
 | none=>cases h
 | some x=>
  cases x with
  | tuple xs=>obtain⟨d,e,q⟩:=Option.map_eq_some_iff.mp h;exact⟨xs,d,rfl,e,q⟩
  | _=>cases h
theorem anyL_inv {x y:Option PyData}{r:Bool}(h:anyL x y=some r):∃ xs d,x=some (.list xs)∧y=some d∧(xs.any fun y=>PyData.eqv y d)=r:=by
 cases x with
 | none=>cases h
 | some x=>
  cases x with
  | list xs=>obtain⟨d,e,q⟩:=Option.map_eq_some_iff.mp h;exact⟨xs,d,rfl,e,q⟩
  | _=>cases h
theorem A0 {v r:MV}{f:Int->Option MV}(h:intO v f=some r):∃ k,v=.int k∧f k=some r:=by
 cases v <;> first|(cases h;done)|exact⟨_,rfl,h⟩
theorem Px {p:Prop} [Decidable p] {α:Type}{x:Option α}{y:α}(h:(if p then x else none)=some y):p∧x=some y:=by
 by_cases q:p
 ·rw[if_pos q] at h;exact⟨q,h⟩
 ·rw[if_neg q] at h;cases h
end Mine
end
section
set_option genSizeOfSpec false
set_option genInjectivity false
namespace Mine
open PySem PySem.Calls
structure Sc where
 tab:List (Nat×Str)
 names:List (Str×NameKind)
 funs:List String
noncomputable def kindVar (k:Option NameKind):Bool:=decide (k=some .local) || decide (k=some .cell) || decide (k=some .free)
noncomputable def kindSt (k:Option NameKind):Bool:=decide (k=some .local) || decide (k=some .cell)
noncomputable def isGlobK (k:Option NameKind):Bool:=decide (k=some .globalImplicit)
noncomputable def notDebug (x:Str):Bool:=!(x == Str.ofString "__debug__") && !(x == Str.ofString "__classdict__")
noncomputable def Sc.isVar (S:Sc) (i:Nat) (x:Str):Bool:=S.tab.lookup i == some x && kindVar (S.names.lookup x) && notDebug x
noncomputable def Sc.isSt (S:Sc) (i:Nat) (x:Str):Bool:=S.tab.lookup i == some x && kindSt (S.names.lookup x)
noncomputable def Sc.isGlob (S:Sc) (g:String) (x:Str):Bool:=x == Str.ofString g && isGlobK (S.names.lookup x) && notDebug x
inductive Tg where|other (u:Unit)|name|cint|cstr|cbool|cnone|bin|neg|not|and|or|cmp|attr|sub|slc|list|tup|dict0|callN|callA|lc
noncomputable def Tg.no:Tg->Nat
 | .other _=>0
 | .name=>1
 | .cint=>2
 | .cstr=>3
 | .cbool=>4
 | .cnone=>5
 | .bin=>6
 | .neg=>7
 | .not=>8
 | .and=>9
 | .or=>10
 | .cmp=>11
 | .attr=>12
 | .sub=>13
 | .slc=>14
 | .list=>15
 | .tup=>16
 | .dict0=>17
 | .callN=>18
 | .callA=>19
 | .lc=>20
noncomputable def Tg.of (n:Nat):Tg:=[.other (),.name,.cint,.cstr,.cbool,.cnone,.bin,.neg,.not,.and,.or,.cmp,.attr,.sub,.slc,.list,.tup,.dict0,.callN,.callA,.lc].getD n (.other ())
theorem Tg.of_no (t:Tg):Tg.of t.no=t:=by cases t <;> rfl
noncomputable instance:DecidableEq Tg:=fun a b=>decidable_of_iff (a.no=b.no) ⟨fun h=>by rw[← Tg.of_no a,h,Tg.of_no],fun h=>by rw[h]⟩
structure Nd where
 t:Tg
 a:PySem.Expr
 b:PySem.Expr
 c:PySem.Expr
 l:List PySem.Expr
 os:List CmpOp
 op:Operator
 s:Str
 k:Nat
 i:Int
 bl:Bool
 kw:List Keyword
 sc:Scope
 o1:Option PySem.Expr
 o2:Option PySem.Expr
 o3:Option PySem.Expr
 p:Pos
 p2:Pos
noncomputable def nd0 (x:PySem.Expr):Nd:=⟨.other (),x,x,x,[],[],.Add,⟨#[]⟩,0,0,false,[],default,none,none,none,default,default⟩
noncomputable def node (x:PySem.Expr):Nd:=match x with
 | .Name s p=>{ nd0 x with t:=.name,s:=s,p:=p }
 | .Constant (.int i) k p=>{ nd0 x with t:=.cint,i:=i,k:=k,p:=p }
 | .Constant (.str s) k p=>{ nd0 x with t:=.cstr,s:=s,k:=k,p:=p }
 | .Constant (.bool b) k p=>{ nd0 x with t:=.cbool,bl:=b,k:=k,p:=p }
 | .Constant .none k p=>{ nd0 x with t:=.cnone,k:=k,p:=p }
 | .BinOp l o r p=>{ nd0 x with t:=.bin,a:=l,op:=o,b:=r,p:=p }
 | .UnaryOp .USub y p=>{ nd0 x with t:=.neg,a:=y,p:=p }
 | .UnaryOp .Not y p=>{ nd0 x with t:=.not,a:=y,p:=p }
 | .BoolOp .And l p=>{ nd0 x with t:=.and,l:=l,p:=p }
 | .BoolOp .Or l p=>{ nd0 x with t:=.or,l:=l,p:=p }
 | .Compare l os cs p=>{ nd0 x with t:=.cmp,a:=l,os:=os,l:=cs,p:=p }
 | .Attribute v nm p=>{ nd0 x with t:=.attr,a:=v,s:=nm,p:=p }
 | .Subscript v (.Slice l u s sp) p=>{ nd0 x with t:=.slc,a:=v,o1:=l,o2:=u,o3:=s,p2:=sp,p:=p }
 | .Subscript v s p=>{ nd0 x with t:=.sub,a:=v,b:=s,p:=p }
 | .List es p=>{ nd0 x with t:=.list,l:=es,p:=p }
 | .Tuple es k p=>{ nd0 x with t:=.tup,l:=es,k:=k,p:=p }
 | .Dict [] [] p=>{ nd0 x with t:=.dict0,p:=p }
 | .Call (.Name g np) as kw p=>{ nd0 x with t:=.callN,s:=g,p2:=np,l:=as,kw:=kw,p:=p }
 | .Call (.Attribute v nm ap) as kw p=>{ nd0 x with t:=.callA,a:=v,s:=nm,p2:=ap,l:=as,kw:=kw,p:=p }
 | .ListComp el [⟨tg,iter,ifs,0⟩] sc p=>{ nd0 x with t:=.lc,a:=el,b:=tg,c:=iter,l:=ifs,sc:=sc,p:=p }
 | _=>nd0 x
noncomputable def buildT (n:Nd):Tg->PySem.Expr
 | .other _=>n.a
 | .name=>.Name n.s n.p
 | .cint=>.Constant (.int n.i) n.k n.p
 | .cstr=>.Constant (.str n.s) n.k n.p
 | .cbool=>.Constant (.bool n.bl) n.k n.p
 | .cnone=>.Constant .none n.k n.p
 | .bin=>.BinOp n.a n.op n.b n.p
 | .neg=>.UnaryOp .USub n.a n.p
 | .not=>.UnaryOp .Not n.a n.p
 | .and=>.BoolOp .And n.l n.p
 | .or=>.BoolOp .Or n.l n.p
 | .cmp=>.Compare n.a n.os n.l n.p
 | .attr=>.Attribute n.a n.s n.p
 | .sub=>.Subscript n.a n.b n.p
 | .slc=>.Subscript n.a (.Slice n.o1 n.o2 n.o3 n.p2) n.p
 | .list=>.List n.l n.p
 | .tup=>.Tuple n.l n.k n.p
 | .dict0=>.Dict [] [] n.p
 | .callN=>.Call (.Name n.s n.p2) n.l n.kw n.p
 | .callA=>.Call (.Attribute n.a n.s n.p2) n.l n.kw n.p
 | .lc=>.ListComp n.a [⟨n.b,n.c,n.l,0⟩] n.sc n.p
theorem build_node (x:PySem.Expr):buildT (node x) (node x).t=x:=by
 cases x <;> try rfl
 case Constant c k p=>cases c <;> rfl
 case UnaryOp o y p=>cases o <;> rfl
 case BoolOp o l p=>cases o <;> rfl
 case Subscript v s p=>cases s <;> rfl
 case Dict ks vs p=>
  cases ks
  ·cases vs <;> rfl
  ·rfl
 case Call f as kw p=>cases f <;> rfl
 case ListComp el gs sc p=>
  cases gs with
  | nil=>rfl
  | cons g gs=>
   obtain⟨tg,it,ifs,n⟩:=g
   cases n with
   | ofNat m=>cases m <;> cases gs <;> rfl
   | negSucc m=>cases gs <;> rfl
theorem inv {x:PySem.Expr}{t:Tg}(h:decide ((node x).t=t)=true):x=buildT (node x) t:=by
 have:=build_node x
 rw[of_decide_eq_true h] at this
 exact this.symm
noncomputable def opOf:BOp->Operator
 | .add=>.Add | .sub=>.Sub | .mul=>.Mult | .fdiv=>.FloorDiv | .mod=>.Mod
noncomputable def copOf:COp->CmpOp
 | .eq=>.Eq | .ne=>.NotEq | .lt=>.Lt | .le=>.LtE | .gt=>.Gt | .ge=>.GtE | .isin=>.In | .notin=>.NotIn | .isnot=>.IsNot
noncomputable def opIs (op:BOp) (o:Operator):Bool:=decide (o=opOf op)
noncomputable def copIs (op:COp) (o:CmpOp):Bool:=decide (o=copOf op)
noncomputable def copsIs:List COp->List CmpOp->Bool
 | [],[]=>true
 | a::r,b::s=>copIs a b && copsIs r s
 | _,_=>false
noncomputable def biName:BI->String
 | .len=>"len" | .min2=>"min" | .max2=>"max" | .max1=>"max" | .sorted=>"sorted" | .sortedR=>"sorted" | .sortedSet=>"sorted"
 | .sortedSetS=>"sorted"
 | .list=>"list" | .dict=>"dict" | .int=>"int"
noncomputable def tyName:TY->String
 | .int=>"int" | .bool=>"bool" | .str=>"str" | .tuple=>"tuple" | .list=>"list" | .dict=>"dict"
noncomputable def mmName:MM->String
 | .append=>"append" | .extend=>"extend" | .keys=>"keys" | .clear=>"clear" | .count=>"count" | .index=>"index" | .join=>"join"
noncomputable def isNm (x:PySem.Expr):Bool:=decide ((node x).t=.name)
noncomputable def isTgt (S:Sc) (t:MT) (x:PySem.Expr):Bool:=match t with
 | .one i=>isNm x && S.isSt i (node x).s
 | .tup _=>false
noncomputable def tgtNames (x:PySem.Expr):List Str:=if isNm x then [(node x).s] else []
noncomputable def MT.vars:MT->List Nat
 | .one i=>[i]
 | .tup l=>l
noncomputable def isFree (k:NameKind):Bool:=decide (k=.free)
noncomputable def isCell (k:Option NameKind):Bool:=decide (k=some .cell)
noncomputable def isFreeO (k:Option NameKind):Bool:=decide (k=some .free)
noncomputable def relab (S:Sc) (names:List (Str×NameKind)):List (Str×NameKind):=names.map fun p=>if isFree p.2 && isCell (S.names.lookup p.1) then (p.1,.cell) else p
noncomputable def Sc.inner (S:Sc) (t:MT) (tg:PySem.Expr) (names:List (Str×NameKind)):Sc:=
 ⟨t.vars.zip (tgtNames tg)++S.tab.filter (fun p=>isFreeO (names.lookup p.2) && !t.vars.contains p.1),relab S names,S.funs⟩
noncomputable def innerOk (S:Sc) (sc:Scope):Bool:=
 decide (sc.kind=.function) && decide ((sc.names.map (·.1)).Nodup) && sc.names.all (fun p=>decide (p.2=.local) || decide (p.2=.globalImplicit) || (decide (p.2=.free) && (decide (S.names.lookup p.1=some .cell) || decide (S.names.lookup p.1=some .free))))
noncomputable def ME.isNone:ME->Bool
 | .cnone=>true
 | _=>false
noncomputable def callsG (S:Sc) (g:String) (x:PySem.Expr):Bool:=decide ((node x).t=.callN) && S.isGlob g (node x).s && (node x).kw.isEmpty
noncomputable def srcArgs (S:Sc) (k:SK) (e:PySem.Expr):Option (List PySem.Expr):=match k with
 | .plain=>some [e]
 | .range=>if callsG S "range" e then some (node e).l else none
 | .rev=>if callsG S "reversed" e then some (node e).l else none
noncomputable def notCall0 (x:PySem.Expr):Bool:=!(decide ((node x).t=.callN) && (node x).l.isEmpty && (node x).kw.isEmpty)
noncomputable def isOne:MT->Bool
 | .one _=>true
 | _=>false
noncomputable def optOk (o:Option PySem.Expr) (n:Bool) (f:PySem.Expr->Bool):Bool:=match o with
 | none=>n
 | some x=>f x
noncomputable def kw1 (l:List Keyword) (name:String):Option PySem.Expr:=match l with
 | [k]=>if k.arg=some (Str.ofString name) then some k.value else none
 | _=>none
noncomputable def isLocal (k:Option NameKind):Bool:=decide (k=some .local)
noncomputable def methTab:List (String×String):=[("Keeper.__init__", "__init__"),("Keeper.add", "add"),("Keeper.shorten", "shorten"),("Keeper.need_known", "need_known"),("Keeper.worth", "worth"),("Keeper.runs", "runs"),("Keeper.why", "why"),("Keeper.last", "last"),("Keeper.floor", "floor"),("Keeper.book", "book")]
noncomputable def methOf (n:String):Bool:=decide (methTab.lookup ("Keeper." ++ n)=some n)
noncomputable def isMeth (f:String):Bool:=(methTab.lookup f).isSome
mutual
noncomputable def isE (S:Sc):ME->PySem.Expr->Bool
 | .var i,x=>decide ((node x).t=.name) && S.isVar i (node x).s
 | .glob g,x=>decide ((node x).t=.name) && S.isGlob g (node x).s
 | .cint i,x=>decide ((node x).t=.cint) && decide (i=(node x).i)
 | .cstr s,x=>decide ((node x).t=.cstr) && decide ((node x).s=Str.ofString s)
 | .cbool b,x=>decide ((node x).t=.cbool) && decide (b=(node x).bl)
 | .cnone,x=>decide ((node x).t=.cnone)
 | .bin op a b,x=>decide ((node x).t=.bin) && (opIs op (node x).op && isE S a (node x).a && isE S b (node x).b)
 | .neg a,x=>decide ((node x).t=.neg) && isE S a (node x).a
 | .not a,x=>decide ((node x).t=.not) && isE S a (node x).a
 | .and l,x=>decide ((node x).t=.and) && isEs S l (node x).l
 | .or l,x=>decide ((node x).t=.or) && isEs S l (node x).l
 | .cmp a ops es,x=>decide ((node x).t=.cmp) && (isE S a (node x).a && copsIs ops (node x).os && isEs S es (node x).l)
 | .idx a i,x=>decide ((node x).t=.sub) && (isE S a (node x).a && isE S i (node x).b)
 | .slice a lo hi st,x=>decide ((node x).t=.slc) && (isE S a (node x).a && optOk (node x).o1 lo.isNone (isE S lo) && optOk (node x).o2 hi.isNone (isE S hi) && optOk (node x).o3 st.isNone (isE S st))
 | .list l,x=>decide ((node x).t=.list) && isEs S l (node x).l
 | .tuple l,x=>decide ((node x).t=.tup) && isEs S l (node x).l
 | .dict0,x=>decide ((node x).t=.dict0)
 | .call f args,x=>callsG S f x && (S.funs.contains f && !isMeth f && isEs S args (node x).l && decide (args.length≤25))
 | .bi f args,x=>(match f with
  | .sortedR=>decide ((node x).t=.callN) && (S.isGlob "sorted" (node x).s && (match kw1 (node x).kw "reverse" with|some e=>decide ((node e).t=.cbool) && (node e).bl|none=>false) && isEs S args (node x).l)
  | .sortedSet=>callsG S "sorted" x && (match (node x).l with|[y]=>callsG S "set" y && isEs S args (node y).l|_=>false)
  | .sortedSetS=>callsG S "sorted" x && (match (node x).l with|[y]=>callsG S "set" y && isEs S args (node y).l|_=>false)
  | f=>callsG S (biName f) x && (isEs S args (node x).l && decide (args.length≤25)))
 | .isinst a t,x=>callsG S "isinstance" x && (match (node x).l with|[y,z]=>decide ((node z).t=.name) && S.isGlob (tyName t) (node z).s && isE S a y|_=>false)
 | .meth m o args,x=>decide ((node x).t=.callA) && ((node x).kw.isEmpty && decide ((node x).s=Str.ofString (mmName m)) && decide ((node x).p2.endLine=(node x).p.line) && notCall0 (node x).a && isE S o (node x).a && isEs S args (node x).l && decide (args.length≤25))
 | .comp elt t k its ifs,x=>decide ((node x).t=.lc) && ((match srcArgs S k (node x).c with|some as=>isEs S its as|none=>false) && isOne t && innerOk S (node x).sc && decide (t.vars.Nodup) && decide ((tgtNames (node x).b).Nodup) && isTgt (S.inner t (node x).b (node x).sc.names) t (node x).b && (tgtNames (node x).b).all (fun y=>isLocal ((node x).sc.names.lookup y)) &&
    isEs (S.inner t (node x).b (node x).sc.names) ifs (node x).l && isE (S.inner t (node x).b (node x).sc.names) elt (node x).a)
 | .attr o n,x=>decide ((node x).t=.attr) && (decide ((node x).s=Str.ofString n) && notCall0 (node x).a && isE S o (node x).a)
 | .mcall n o args,x=>decide ((node x).t=.callA) && ((node x).kw.isEmpty && decide ((node x).s=Str.ofString n) && decide ((node x).p2.endLine=(node x).p.line) && notCall0 (node x).a && (S.funs.contains ("Keeper." ++ n) && methOf n) && isE S o (node x).a && isEs S args (node x).l && decide (args.length≤25))
 | .new c,x=>callsG S c x && (node x).l.isEmpty && S.funs.contains "Keeper.__init__"
 | .isx e c,x=>callsG S "isinstance" x && (match (node x).l with|[y,z]=>decide ((node z).t=.name) && S.isGlob c (node z).s && isE S e y|_=>false)
noncomputable def isEs (S:Sc):List ME->List PySem.Expr->Bool
 | [],es=>es.isEmpty
 | a::r,es=>(match es with|[]=>false|e::es=>isE S a e && isEs S r es)
end
inductive Tt where|other (u:Unit)|asn|asx|asa|rai|tri|expr|ret|ite|for|while
noncomputable def Tt.no:Tt->Nat
 | .other _=>0
 | .asn=>1
 | .asx=>2
 | .asa=>3
 | .rai=>4
 | .tri=>5
 | .expr=>6
 | .ret=>7
 | .ite=>8
 | .for=>9
 | .while=>10
noncomputable def Tt.of (n:Nat):Tt:=[.other (),.asn,.asx,.asa,.rai,.tri,.expr,.ret,.ite,.for,.while].getD n (.other ())
theorem Tt.of_no (t:Tt):Tt.of t.no=t:=by cases t <;> rfl
noncomputable instance:DecidableEq Tt:=fun a b=>decidable_of_iff (a.no=b.no) ⟨fun h=>by rw[← Tt.of_no a,h,Tt.of_no],fun h=>by rw[h]⟩
structure Ns where
 t:Tt
 a:PySem.Expr
 b:PySem.Expr
 c:PySem.Expr
 s:Str
 x:List PySem.Stmt
 y:List PySem.Stmt
 hs:List ExceptHandler
 p:Pos
 p2:Pos
noncomputable def ns0:Ns:=⟨.other (),.Starred (.Name ⟨#[]⟩ default) default,.Starred (.Name ⟨#[]⟩ default) default,.Starred (.Name ⟨#[]⟩ default) default,⟨#[]⟩,[],[],[],default,default⟩
noncomputable def asgN (v:PySem.Expr) (p:Pos) (t:PySem.Expr):Ns:=match t with
 | .Name s np=>{ ns0 with t:=.asn,s:=s,p2:=np,a:=v,p:=p }
 | .Subscript o i sp=>{ ns0 with t:=.asx,b:=o,c:=i,p2:=sp,a:=v,p:=p }
 | .Attribute o n sp=>{ ns0 with t:=.asa,b:=o,s:=n,p2:=sp,a:=v,p:=p }
 | _=>ns0
noncomputable def nodeS (x:PySem.Stmt):Ns:=match x with
 | .Assign [t] v p=>asgN v p t
 | .Expr v p=>{ ns0 with t:=.expr,a:=v,p:=p }
 | .Return (some v) p=>{ ns0 with t:=.ret,a:=v,p:=p }
 | .If c x y p=>{ ns0 with t:=.ite,a:=c,x:=x,y:=y,p:=p }
 | .For tg it b [] p=>{ ns0 with t:=.for,a:=tg,b:=it,x:=b,p:=p }
 | .While c b [] p=>{ ns0 with t:=.while,a:=c,x:=b,p:=p }
 | .Raise (some c) none p=>{ ns0 with t:=.rai,a:=c,p:=p }
 | .Try b hs [] [] p=>{ ns0 with t:=.tri,x:=b,hs:=hs,p:=p }
 | _=>ns0
noncomputable def buildS (n:Ns) (x:PySem.Stmt):Tt->PySem.Stmt
 | .other _=>x
 | .asn=>.Assign [.Name n.s n.p2] n.a n.p
 | .asx=>.Assign [.Subscript n.b n.c n.p2] n.a n.p
 | .asa=>.Assign [.Attribute n.b n.s n.p2] n.a n.p
 | .expr=>.Expr n.a n.p
 | .ret=>.Return (some n.a) n.p
 | .ite=>.If n.a n.x n.y n.p
 | .for=>.For n.a n.b n.x [] n.p
 | .while=>.While n.a n.x [] n.p
 | .rai=>.Raise (some n.a) none n.p
 | .tri=>.Try n.x n.hs [] [] n.p
theorem build_nodeS (x:PySem.Stmt):buildS (nodeS x) x (nodeS x).t=x:=by
 cases x <;> try rfl
 case Return v p=>cases v <;> rfl
 case For tg it b e p=>cases e <;> rfl
 case While c b e p=>cases e <;> rfl
 case Raise c f p=>cases c <;> cases f <;> rfl
 case Try b hs e f p=>cases e <;> cases f <;> rfl
 case Assign ts v p=>
  cases ts with
  | nil=>rfl
  | cons t ts=>
   cases ts with
   | nil=>cases t <;> rfl
   | cons _ _=>rfl
theorem Gp {x:PySem.Stmt}{t:Tt}(h:decide ((nodeS x).t=t)=true):x=buildS (nodeS x) x t:=by
 have:=build_nodeS x
 rw[of_decide_eq_true h] at this
 exact this.symm
noncomputable def notComp (x:PySem.Expr):Bool:=!decide ((node x).t=.lc) && !decide ((node x).t=.other ())
mutual
noncomputable def isS (S:Sc):MS->PySem.Stmt->Bool
 | .assign i a,x=>decide ((nodeS x).t=.asn) && (S.isSt i (nodeS x).s && isE S a (nodeS x).a)
 | .setattr o n a,x=>decide ((nodeS x).t=.asa) && (decide ((nodeS x).s=Str.ofString n) && isE S o (nodeS x).b && (isE S a (nodeS x).a && notComp (nodeS x).a))
 | .setidx o i a,x=>decide ((nodeS x).t=.asx) && (isE S o (nodeS x).b && isE S i (nodeS x).c && isE S a (nodeS x).a)
 | .expr a,x=>decide ((nodeS x).t=.expr) && (notComp (nodeS x).a && isE S a (nodeS x).a)
 | .ret a,x=>decide ((nodeS x).t=.ret) && isE S a (nodeS x).a
 | .ite c a b,x=>decide ((nodeS x).t=.ite) && (isE S c (nodeS x).a && isSs S a (nodeS x).x && isSs S b (nodeS x).y)
 | .for t k its body,x=>decide ((nodeS x).t=.for) && ((match srcArgs S k (nodeS x).b with|some as=>isEs S its as|none=>false) && isTgt S t (nodeS x).a && isSs S body (nodeS x).x)
 | .while c body,x=>decide ((nodeS x).t=.while) && (isE S c (nodeS x).a && isSs S body (nodeS x).x)
 | .opq chk,x=>chk S.tab S.names x
noncomputable def isSs (S:Sc):List MS->List PySem.Stmt->Bool
 | [],ss=>ss.isEmpty
 | a::r,ss=>(match ss with|[]=>false|s::ss=>isS S a s && isSs S r ss)
end
noncomputable def isFun (fd:MFun) (tab:List (Nat×Str)) (funs:List String) (params:Arguments) (body:List PySem.Stmt) (sc:Scope):Bool:=
 params.posonlyargs.isEmpty && params.vararg.isNone && params.kwonlyargs.isEmpty && params.kwarg.isNone && params.defaults.isEmpty && params.kw_defaults.isEmpty &&
 decide (params.args.length=fd.n) && (params.args.map (·.arg)).zipIdx.all (fun p=>tab.lookup p.2 == some p.1 && kindSt (sc.names.lookup p.1)) &&
 decide (sc.kind=.function) && !sc.isGenerator && !sc.isCoroutine &&
 decide ((tab.map (·.2)).Nodup) && decide ((tab.map (·.1)).Nodup) && decide ((sc.names.map (·.1)).Nodup) && decide ((params.args.map (·.arg)).Nodup) && sc.names.all (fun p=>!isFree p.2) && isSs ⟨tab,sc.names,funs⟩ fd.body body
section
variable {S:Sc}{x:PySem.Expr}
theorem and2 {a b:Bool}(h:(a && b)=true):a=true∧b=true:=by simpa using h
theorem inv_var {i:Nat}(h:isE S (.var i) x=true):∃ y p,x=.Name y p∧S.isVar i y=true:=⟨_,_,inv (and2 h).1,(and2 h).2⟩
theorem inv_glob {g:String}(h:isE S (.glob g) x=true):∃ y p,x=.Name y p∧S.isGlob g y=true:=⟨_,_,inv (and2 h).1,(and2 h).2⟩
theorem inv_cint {i:Int}(h:isE S (.cint i) x=true):∃ k p,x=.Constant (.int i) k p:=⟨(node x).k,(node x).p,by rw[of_decide_eq_true (and2 h).2];exact inv (and2 h).1⟩
theorem inv_cstr {t:String}(h:isE S (.cstr t) x=true):∃ k p,x=.Constant (.str (Str.ofString t)) k p:=⟨(node x).k,(node x).p,by rw[← of_decide_eq_true (and2 h).2];exact inv (and2 h).1⟩
theorem inv_cbool {b:Bool}(h:isE S (.cbool b) x=true):∃ k p,x=.Constant (.bool b) k p:=⟨(node x).k,(node x).p,by rw[of_decide_eq_true (and2 h).2];exact inv (and2 h).1⟩
theorem inv_cnone (h:isE S .cnone x=true):∃ k p,x=.Constant .none k p:=⟨_,_,inv h⟩
theorem inv_bin {op:BOp}{a b:ME}(h:isE S (.bin op a b) x=true):∃ l o r p,x=.BinOp l o r p∧(opIs op o && isE S a l && isE S b r)=true:=⟨_,_,_,_,inv (and2 h).1,(and2 h).2⟩
theorem inv_neg {a:ME}(h:isE S (.neg a) x=true):∃ y p,x=.UnaryOp .USub y p∧isE S a y=true:=⟨_,_,inv (and2 h).1,(and2 h).2⟩
theorem inv_not {a:ME}(h:isE S (.not a) x=true):∃ y p,x=.UnaryOp .Not y p∧isE S a y=true:=⟨_,_,inv (and2 h).1,(and2 h).2⟩
theorem inv_and {l:List ME}(h:isE S (.and l) x=true):∃ xs p,x=.BoolOp .And xs p∧isEs S l xs=true:=⟨_,_,inv (and2 h).1,(and2 h).2⟩
theorem inv_or {l:List ME}(h:isE S (.or l) x=true):∃ xs p,x=.BoolOp .Or xs p∧isEs S l xs=true:=⟨_,_,inv (and2 h).1,(and2 h).2⟩
theorem inv_cmp {a:ME}{ops:List COp}{es:List ME}(h:isE S (.cmp a ops es) x=true):∃ l os cs p,x=.Compare l os cs p∧(isE S a l && copsIs ops os && isEs S es cs)=true:=⟨_,_,_,_,inv (and2 h).1,(and2 h).2⟩
theorem inv_idx {a i:ME}(h:isE S (.idx a i) x=true):∃ v y p,x=.Subscript v y p∧(isE S a v && isE S i y)=true:=⟨_,_,_,inv (and2 h).1,(and2 h).2⟩
inductive SlParts (S:Sc) (a lo hi st:ME) (x:PySem.Expr):Prop
 | mk (v:_) (l:_) (u:_) (t:_) (sp:_) (p:_) (e0:x=.Subscript v (.Slice l u t sp) p) (e1:(isE S a v && optOk l lo.isNone (isE S lo) && optOk u hi.isNone (isE S hi) && optOk t st.isNone (isE S st))=true)
theorem inv_slice {a lo hi st:ME}(h:isE S (.slice a lo hi st) x=true):SlParts S a lo hi st x:=⟨_,_,_,_,_,_,inv (and2 h).1,(and2 h).2⟩
theorem inv_list {l:List ME}(h:isE S (.list l) x=true):∃ xs p,x=.List xs p∧isEs S l xs=true:=⟨_,_,inv (and2 h).1,(and2 h).2⟩
theorem inv_tuple {l:List ME}(h:isE S (.tuple l) x=true):∃ xs k p,x=.Tuple xs k p∧isEs S l xs=true:=⟨_,_,_,inv (and2 h).1,(and2 h).2⟩
theorem inv_dict0 (h:isE S .dict0 x=true):∃ p,x=.Dict [] [] p:=⟨_,inv h⟩
theorem Xw {g:String}(h:callsG S g x=true):∃ y np p,x=.Call (.Name y np) (node x).l [] p∧S.isGlob g y=true:=by
 obtain⟨h1,h3⟩:=and2 h
 obtain⟨h1,h2⟩:=and2 h1
 refine⟨_,(node x).p2,(node x).p,(inv h1).trans ?_,h2⟩
 show Expr.Call _ _ (node x).kw _=_
 rw[List.isEmpty_iff.mp h3]
theorem ifcall {nm:String}{as:List PySem.Expr}(h:(if callsG S nm x then some (node x).l else none)=some as):∃ g np p,x=.Call (.Name g np) as [] p∧S.isGlob nm g=true:=by
 by_cases q:callsG S nm x=true
 ·rw[if_pos q] at h;cases h;exact Xw q
 ·rw[if_neg q] at h;cases h
theorem inv_call {f:String}{args:List ME}(h:isE S (.call f args) x=true):∃ y np xs p,x=.Call (.Name y np) xs [] p∧S.isGlob f y=true∧(S.funs.contains f && !isMeth f && isEs S args xs && decide (args.length≤25))=true:=by
 obtain⟨y,np,p,e,hg⟩:=Xw (and2 h).1
 exact⟨y,np,_,p,e,hg,(and2 h).2⟩
inductive IiParts (S:Sc) (a:ME) (t:TY) (x:PySem.Expr):Prop
 | mk (g:_) (np:_) (y:_) (ty:_) (tp:_) (p:_) (e0:x=.Call (.Name g np) [y,.Name ty tp] [] p) (e1:S.isGlob "isinstance" g=true) (e2:S.isGlob (tyName t) ty=true) (e3:isE S a y=true)
inductive MtParts (S:Sc) (m:MM) (o:ME) (args:List ME) (x:PySem.Expr):Prop
 | mk (ov:_) (ap:_) (xs:_) (p:_) (e0:x=.Call (.Attribute ov (Str.ofString (mmName m)) ap) xs [] p) (e1:ap.endLine=p.line) (e2:notCall0 ov=true) (e3:isE S o ov=true) (e4:isEs S args xs=true) (e5:args.length≤25)
theorem inv_meth {m:MM}{o:ME}{args:List ME}(h:isE S (.meth m o args) x=true):MtParts S m o args x:=by
 obtain⟨h0,h⟩:=and2 h
 obtain⟨h,h6⟩:=and2 h
 obtain⟨h,h5⟩:=and2 h
 obtain⟨h,h4⟩:=and2 h
 obtain⟨h,h3⟩:=and2 h
 obtain⟨h,h2⟩:=and2 h
 obtain⟨h,h1⟩:=and2 h
 refine⟨_,(node x).p2,_,(node x).p,(inv h0).trans ?_,of_decide_eq_true h2,h3,h4,h5,of_decide_eq_true h6⟩
 show Expr.Call (.Attribute (node x).a (node x).s (node x).p2) (node x).l (node x).kw (node x).p=_
 rw[List.isEmpty_iff.mp h,of_decide_eq_true h1]
theorem inv_attr {o:ME}{n:String}(h:isE S (.attr o n) x=true):∃ v p,x=.Attribute v (Str.ofString n) p∧notCall0 v=true∧isE S o v=true:=by
 obtain⟨h0,h⟩:=and2 h
 obtain⟨h,h2⟩:=and2 h
 obtain⟨h,h1⟩:=and2 h
 refine⟨_,(node x).p,(inv h0).trans ?_,h1,h2⟩
 show Expr.Attribute _ (node x).s _=_
 rw[of_decide_eq_true h]
inductive McParts (S:Sc) (n:String) (o:ME) (args:List ME) (x:PySem.Expr):Prop
 | mk (ov:_) (ap:_) (xs:_) (p:_) (e0:x=.Call (.Attribute ov (Str.ofString n) ap) xs [] p) (e1:ap.endLine=p.line) (e2:notCall0 ov=true) (e3:isE S o ov=true) (e4:isEs S args xs=true) (e5:args.length≤25) (e6:"Keeper." ++ n∈S.funs) (e7:methOf n=true)
theorem inv_mcall {n:String}{o:ME}{args:List ME}(h:isE S (.mcall n o args) x=true):McParts S n o args x:=by
 obtain⟨h0,h⟩:=and2 h
 obtain⟨h,h6⟩:=and2 h
 obtain⟨h,h5⟩:=and2 h
 obtain⟨h,h4⟩:=and2 h
 obtain⟨h,h7⟩:=and2 h
 obtain⟨h,h3⟩:=and2 h
 obtain⟨h,h2⟩:=and2 h
 obtain⟨h,h1⟩:=and2 h
 refine⟨_,(node x).p2,_,(node x).p,(inv h0).trans ?_,of_decide_eq_true h2,h3,h4,h5,of_decide_eq_true h6,List.contains_iff_mem.mp (and2 h7).1,(and2 h7).2⟩
 show Expr.Call (.Attribute (node x).a (node x).s (node x).p2) (node x).l (node x).kw (node x).p=_
 rw[List.isEmpty_iff.mp h,of_decide_eq_true h1]
theorem inv_new {c:String}(h:isE S (.new c) x=true):∃ y np p,x=.Call (.Name y np) [] [] p∧S.isGlob c y=true ∧ "Keeper.__init__" ∈ S.funs:=by
 obtain⟨h,h2⟩:=and2 h
 obtain⟨h,h1⟩:=and2 h
 obtain⟨y,np,p,e,hg⟩:=Xw h
 exact⟨y,np,p,by rw[List.isEmpty_iff.mp h1] at e;exact e,hg,List.contains_iff_mem.mp h2⟩
inductive IxParts (S:Sc) (a:ME) (c:String) (x:PySem.Expr):Prop
 | mk (g:_) (np:_) (y:_) (ty:_) (tp:_) (p:_) (e0:x=.Call (.Name g np) [y,.Name ty tp] [] p) (e1:S.isGlob "isinstance" g=true) (e2:S.isGlob c ty=true) (e3:isE S a y=true)
theorem two_of {l:List PySem.Expr}{f:PySem.Expr->PySem.Expr->Bool}(h:(match l with|[y,z]=>f y z|_=>false)=true):∃ y z,l=[y,z]∧f y z=true:=by
 cases l with
 | nil=>cases h
 | cons y l=>cases l with
  | nil=>cases h
  | cons z l=>cases l with
   | nil=>exact⟨y,z,rfl,h⟩
   | cons _ _=>cases h
theorem inv_isx {a:ME}{c:String}(h:isE S (.isx a c) x=true):IxParts S a c x:=by
 obtain⟨g,np,p,e,hg⟩:=Xw (and2 h).1
 obtain⟨y,z,el,h2⟩:=two_of (f:=fun y z=>decide ((node z).t=.name) && S.isGlob c (node z).s && isE S a y) (and2 h).2
 obtain⟨h3,h4⟩:=and2 h2
 obtain⟨h3,h5⟩:=and2 h3
 have ez:=inv h3
 rw[el] at e
 refine⟨g,np,y,_,(node z).p,p,e.trans ?_,hg,h5,h4⟩
 exact congrArg (fun q=>Expr.Call (.Name g np) [y,q] [] p) ez
theorem inv_isinst {a:ME}{t:TY}(h:isE S (.isinst a t) x=true):IiParts S a t x:=by
 obtain⟨g,np,y,ty,tp,p,e0,e1,e2,e3⟩:=inv_isx (c:=tyName t) h
 exact⟨g,np,y,ty,tp,p,e0,e1,e2,e3⟩
noncomputable def plainBI:BI->Bool
 | .sortedR | .sortedSet | .sortedSetS=>false
 | _=>true
theorem inv_bi {f:BI}{l:List ME}(hp:plainBI f=true) (h:isE S (.bi f l) x=true):∃ g np as p,x=.Call (.Name g np) as [] p∧S.isGlob (biName f) g=true∧isEs S l as=true:=by
 have h':(callsG S (biName f) x && (isEs S l (node x).l && decide (l.length≤25)))=true:=by
  cases f <;> first|exact h|cases hp
 obtain⟨y,np,p,e,hg⟩:=Xw (and2 h').1
 exact⟨y,np,_,p,e,hg,(and2 (and2 h').2).1⟩
theorem inv_kw1 {l:List Keyword}{name:String}{e:PySem.Expr}(h:kw1 l name=some e):∃ kp,l=[⟨some (Str.ofString name),e,kp⟩]:=by
 cases l with
 | nil=>cases h
 | cons k l=>
  cases l with
  | cons _ _=>cases h
  | nil=>
   obtain⟨arg,v,p⟩:=k
   have h:(if arg=some (Str.ofString name) then some v else none)=some e:=h
   by_cases q:arg=some (Str.ofString name)
   ·rw[if_pos q] at h;cases h;subst q;exact⟨p,rfl⟩
   ·rw[if_neg q] at h;cases h
inductive SrParts (S:Sc) (l:List ME) (x:PySem.Expr):Prop
 | mk (g:_) (np:_) (as:_) (k:_) (p1:_) (p2:_) (p:_) (e0:x=.Call (.Name g np) as [⟨some (Str.ofString "reverse"),.Constant (.bool true) k p1,p2⟩] p) (e1:S.isGlob "sorted" g=true) (e2:isEs S l as=true)
theorem inv_sortedR {l:List ME}(h:isE S (.bi .sortedR l) x=true):SrParts S l x:=by
 obtain⟨h0,h⟩:=and2 h
 obtain⟨h,h1⟩:=and2 h
 obtain⟨hg,h⟩:=and2 h
 cases q:kw1 (node x).kw "reverse" with
 | none=>rw[q] at h;cases h
 | some e=>
  rw[q] at h
  obtain⟨h2,h3⟩:=and2 h
  obtain⟨kp,hk⟩:=inv_kw1 q
  have he:=inv h2
  refine⟨_,(node x).p2,_,(node e).k,(node e).p,kp,(node x).p,(inv h0).trans ?_,hg,h1⟩
  show Expr.Call _ _ (node x).kw _=_
  have he':e=.Constant (.bool true) (node e).k (node e).p:=he.trans (by show Expr.Constant (.bool (node e).bl) _ _=_;rw[h3])
  rw[hk,← he']
inductive SsParts (S:Sc) (l:List ME) (x:PySem.Expr):Prop
 | mk (g:_) (np:_) (g2:_) (np2:_) (as:_) (p2:_) (p:_) (e0:x=.Call (.Name g np) [.Call (.Name g2 np2) as [] p2] [] p) (e1:S.isGlob "sorted" g=true) (e2:S.isGlob "set" g2=true) (e3:isEs S l as=true)
theorem O6 {l:List ME}(h:isE S (.bi .sortedSet l) x=true):SsParts S l x:=by
 obtain⟨g,np,p,e,hg⟩:=Xw (and2 h).1
 replace h:=(and2 h).2
 revert e h
 cases q:(node x).l with
 | nil=>exact fun _ h=>(Bool.false_ne_true h).elim
 | cons y l'=>
  cases l' with
  | cons _ _=>exact fun _ h=>(Bool.false_ne_true h).elim
  | nil=>
   intro e h
   obtain⟨g2,np2,p2,e2,hg2⟩:=Xw (and2 h).1
   exact⟨g,np,g2,np2,_,p2,p,by rw[← e2];exact e,hg,hg2,(and2 h).2⟩
inductive CpParts (S:Sc) (elt:ME) (t:MT) (k:SK) (its ifs:List ME) (x:PySem.Expr):Prop
 | mk (el:_) (tg:_) (iter:_) (ifs':_) (sc:_) (p:_) (e0:x=.ListComp el [⟨tg,iter,ifs',0⟩] sc p) (e1:(∃ as,srcArgs S k iter=some as∧isEs S its as=true)) (e2:isOne t=true) (e3:innerOk S sc=true) (e4:t.vars.Nodup) (e5:(tgtNames tg).Nodup) (e6:isTgt (S.inner t tg sc.names) t tg=true) (e7:(∀ y∈tgtNames tg,sc.names.lookup y=some .local)) (e8:isEs (S.inner t tg sc.names) ifs ifs'=true) (e9:isE (S.inner t tg sc.names) elt el=true)
theorem inv_comp {elt:ME}{t:MT}{k:SK}{its ifs:List ME}(h:isE S (.comp elt t k its ifs) x=true):CpParts S elt t k its ifs x:=by
 obtain⟨h0,h⟩:=and2 h
 obtain⟨h,h8⟩:=and2 h
 obtain⟨h,h7⟩:=and2 h
 obtain⟨h,h6⟩:=and2 h
 obtain⟨h,h5⟩:=and2 h
 obtain⟨h,h4⟩:=and2 h
 obtain⟨h,h3⟩:=and2 h
 obtain⟨h,h2⟩:=and2 h
 obtain⟨h,h1⟩:=and2 h
 refine⟨_,_,_,_,_,(node x).p,inv h0,?_,h1,h2,of_decide_eq_true h3,of_decide_eq_true h4,h5,fun y hy=>?_,h7,h8⟩
 ·cases q:srcArgs S k (node x).c with
  | none=>rw[q] at h;cases h
  | some as=>rw[q] at h;exact⟨as,rfl,h⟩
 ·exact of_decide_eq_true (List.all_eq_true.mp h6 y hy)
theorem Qv {e:ME}{l:List ME}{x:PySem.Expr}{xs:List PySem.Expr}(h:isEs S (e::l) (x::xs)=true):isE S e x=true∧isEs S l xs=true:=and2 h
end
section
variable {S:Sc}{x:PySem.Stmt}
theorem C8 {i:Nat}{a:ME}(h:isS S (.assign i a) x=true):∃ y py v p,x=.Assign [.Name y py] v p∧S.isSt i y=true∧isE S a v=true:=⟨_,_,_,_,Gp (and2 h).1,and2 (and2 h).2⟩
theorem invS_setidx {o i a:ME}(h:isS S (.setidx o i a) x=true):∃ ov iv sp v p,x=.Assign [.Subscript ov iv sp] v p∧(isE S o ov && isE S i iv && isE S a v)=true:=⟨_,_,_,_,_,Gp (and2 h).1,(and2 h).2⟩
theorem R8 {o a:ME}{n:String}(h:isS S (.setattr o n a) x=true):∃ ov sp v p,x=.Assign [.Attribute ov (Str.ofString n) sp] v p∧isE S o ov=true∧isE S a v=true∧notComp v=true:=by
 obtain⟨h0,h⟩:=and2 h
 obtain⟨h,h2⟩:=and2 h
 obtain⟨h,h1⟩:=and2 h
 refine⟨_,(nodeS x).p2,_,(nodeS x).p,(Gp h0).trans ?_,h1,and2 h2⟩
 show Stmt.Assign [.Attribute _ (nodeS x).s _] _ _=_
 rw[of_decide_eq_true h]
theorem Hr {a:ME}(h:isS S (.expr a) x=true):∃ v p,x=.Expr v p∧notComp v=true∧isE S a v=true:=⟨_,_,Gp (and2 h).1,and2 (and2 h).2⟩
theorem invS_ret {a:ME}(h:isS S (.ret a) x=true):∃ v p,x=.Return (some v) p∧isE S a v=true:=⟨_,_,Gp (and2 h).1,(and2 h).2⟩
theorem invS_ite {c:ME}{a b:List MS}(h:isS S (.ite c a b) x=true):∃ t y z p,x=.If t y z p∧(isE S c t && isSs S a y && isSs S b z)=true:=⟨_,_,_,_,Gp (and2 h).1,(and2 h).2⟩
theorem invS_while {c:ME}{b:List MS}(h:isS S (.while c b) x=true):∃ t y p,x=.While t y [] p∧(isE S c t && isSs S b y)=true:=⟨_,_,_,Gp (and2 h).1,(and2 h).2⟩
inductive FrParts (S:Sc) (t:MT) (k:SK) (its:List ME) (body:List MS) (x:PySem.Stmt):Prop
 | mk (tg:_) (iter:_) (b:_) (p:_) (as:_) (e0:x=.For tg iter b [] p) (e1:srcArgs S k iter=some as) (e2:isEs S its as=true) (e3:isTgt S t tg=true) (e4:isSs S body b=true)
theorem invS_for {t:MT}{k:SK}{its:List ME}{body:List MS}(h:isS S (.for t k its body) x=true):FrParts S t k its body x:=by
 obtain⟨h0,h⟩:=and2 h
 obtain⟨h,h2⟩:=and2 h
 obtain⟨h,h1⟩:=and2 h
 cases q:srcArgs S k (nodeS x).b with
 | none=>rw[q] at h;cases h
 | some as=>rw[q] at h;exact⟨_,_,_,_,as,Gp h0,q,h,h1,h2⟩
theorem Hq {e:MS}{l:List MS}{x:PySem.Stmt}{xs:List PySem.Stmt}(h:isSs S (e::l) (x::xs)=true):isS S e x=true∧isSs S l xs=true:=and2 h
end
end Mine
end
section
namespace Mine
open PySem PySem.Calls PyProof.Rows PySem.W
noncomputable def qn:List Str:=["__init__", "__getattribute__", "__getattr__", "__class__"]
abbrev bmV:List Value:=[.type "ValueError",.type "Exception",.type "BaseException",.type "object"]
noncomputable def isGlobN (S:Sc) (g:String) (x:PySem.Expr):Bool:=decide ((node x).t=.name) && S.isGlob g (node x).s
noncomputable def oneStr (l:List PySem.Expr):Bool:=match l with
 | [y]=>decide ((node y).t=.cstr)
 | _=>false
noncomputable def chkRaise (cls:String) (tab:List (Nat×Str)) (names:List (Str×NameKind)) (x:PySem.Stmt):Bool:=decide ((nodeS x).t=.rai) && (callsG ⟨tab,names,[]⟩ cls (nodeS x).a && oneStr (node (nodeS x).a).l)
noncomputable def oneH (l:List ExceptHandler):Option (PySem.Expr×Str×List PySem.Stmt×Pos):=match l with
 | [.ExceptHandler (some t) (some n) suite p]=>some (t,n,suite,p)
 | _=>none
noncomputable def hOk (S:Sc) (ei:Nat) (hb:List MS) (z:Option (PySem.Expr×Str×List PySem.Stmt×Pos)):Bool:=match z with
 | some (t,n,suite,_)=>isGlobN S "BookError" t && (S.isSt ei n && (decide (S.names.lookup n=some .local) && isSs S hb suite))
 | none=>false
noncomputable def chkTry (funs:List String) (body hb:List MS) (ei:Nat) (tab:List (Nat×Str)) (names:List (Str×NameKind)) (x:PySem.Stmt):Bool:=
 decide ((nodeS x).t=.tri) && (isSs ⟨tab,names,funs⟩ body (nodeS x).x && hOk ⟨tab,names,funs⟩ ei hb (oneH (nodeS x).hs))
abbrev Defs:=List (String×MFun×List (Nat×Str))
noncomputable def stmtsOf:FuncBody->Option (List PySem.Stmt)
 | .stmts l=>some l
 | _=>none
noncomputable def codeOk (h:Heap) (cd:Value) (q:Str):Bool:=match cd with
 | .ref c=>(match h.get? c with
  | some o=>(match o.data with
   | .fields vs=>(match vs[1]? with
    | some (Value.str x _)=>decide (x=q)
    | _=>false)
   | _=>false)
  | none=>false)
 | _=>false
noncomputable def fnOk (h:Heap) (funs:List String) (p:String×MFun×List (Nat×Str)) (F:FuncData):Bool:=match stmtsOf F.body with
 | some body=>decide (F.globals=mainGlobals) && (F.closure.isEmpty && (decide (F.defaults=.none) && (decide (F.kwdefaults=.none) && (decide (F.builtins=builtinsNs) && (codeOk h F.code F.qualname && isFun p.2.1 p.2.2 funs F.params body F.scope)))))
 | none=>false
noncomputable def funcOf:Data->Option FuncData
 | .func F=>some F
 | _=>none
noncomputable def mthOk (h:Heap) (funs:List String) (p:String×MFun×List (Nat×Str)) (v:Option Value):Bool:=match v with
 | some (.ref a)=>(match h.get? a with
  | some o=>decide (o.cls=.type "function") && (match funcOf o.data with
   | some F=>fnOk h funs p F
   | none=>false)
  | none=>false)
 | _=>false
noncomputable def noneNames:List Str:=(["__getattribute__", "__getattr__", "__setattr__"]:List Str)++attrNames.map Str.ofString
noncomputable def kOkA (o:Obj):Bool:=decide (o.cls=.type "type") && (decide (o.slots.size=6) && decide (o.slots[4]?=some (some (.builtin "object.__new__"))))
noncomputable def kOkB (C:Addr) (cd:ClassData):Bool:=decide (cd.mro=[.ref C,.type "object"]) && (!cd.hasDel && (cd.hasDict && !cd.abstract))
noncomputable def kOkP (D:Defs) (h:Heap) (N:Addr) (p:String×MFun×List (Nat×Str)):Bool:=match methTab.lookup p.1 with
 | some n=>mthOk h (D.map (·.1)) p (h.nsMap N (Str.ofString n))
 | none=>true
noncomputable def kOkN (D:Defs) (h:Heap) (N:Addr):Bool:=h.isNs N && ((noneNames.all fun n=>(h.nsMap N n).isNone) && D.all (kOkP D h N))
noncomputable def kOk (D:Defs) (h:Heap):Bool:=match h.clsAt mainGlobals (Str.ofString "Keeper") with
 | some (C,o,cd)=>kOkA o && (kOkB C cd && kOkN D h cd.ns)
 | none=>false
noncomputable def clsOk1 (h:Heap) (x:Str) (chain:List Str):Bool:=h.ownExcOk x chain bmV "ValueError.__new__" && (match h.clsAt mainGlobals x with
 | some (_,_,cd)=>qn.all fun n=>(h.nsMap cd.ns n).isNone
 | none=>false)
noncomputable def xOk (h:Heap):Bool:=clsOk1 h (Str.ofString "BookError") [] && ((xNames.all fun n=>clsOk1 h (Str.ofString n) [Str.ofString "BookError"] && !decide (h.nsMap mainGlobals (Str.ofString n)=h.nsMap mainGlobals (Str.ofString "BookError"))) &&
 decide ((xNames.map fun n=>h.nsMap mainGlobals (Str.ofString n)).Nodup))
end Mine
end
section
namespace Mine
open PySem
noncomputable def Ak:MS:=.assign 2 .dict0
noncomputable def Aj:MS:=.assign 3 (.list [])
noncomputable def U3:MS:=.expr (.meth .append (.var 3) [(.var 4)])
noncomputable def P8:MS:=.setidx (.var 2) (.idx (.idx (.var 0) (.var 4)) (.cint 1)) (.cbool true)
noncomputable def Bh:MS:=.ite (.cmp (.idx (.idx (.var 0) (.var 4)) (.cint 0)) [.eq] [(.cstr "undo")]) [P8] []
noncomputable def Jp:MS:=.ite (.and [(.cmp (.var 4) [.le] [(.var 1)]),(.cmp (.var 4) [.notin] [(.var 2)])]) [U3,Bh] []
noncomputable def Ai:MS:=.for (.one 4) .plain [(.bi .sortedR [(.meth .keys (.var 0) [])])] [Jp]
noncomputable def Ah:MS:=.ret (.bi .sorted [(.var 3)])
noncomputable def Xg:MFun:={ n:=2,body:=[Ak,Aj,Ai,Ah] }
noncomputable def Ae:MS:=.ret (.and [(.cmp (.idx (.var 0) (.cint 0)) [.ne] [(.cstr "undo")]),(.cmp (.idx (.var 0) (.cint 1)) [.eq] [(.var 1)]),(.cmp (.idx (.var 0) (.cint 2)) [.le,.le] [(.var 2),(.idx (.var 0) (.cint 3))])])
noncomputable def Xc:MFun:={ n:=3,body:=[Ae] }
noncomputable def Vs:MS:=.assign 5 (.idx (.var 0) (.var 4))
noncomputable def P3:MS:=.ret (.idx (.var 5) (.cint 4))
noncomputable def Bb:MS:=.ite (.cmp (.idx (.var 5) (.cint 0)) [.eq] [(.cstr "tell")]) [P3] []
noncomputable def P2:MS:=.ret .cnone
noncomputable def Ba:MS:=.ite (.cmp (.idx (.var 5) (.cint 0)) [.eq] [(.cstr "clear")]) [P2] []
noncomputable def B9:MS:=.assign 2 (.idx (.var 5) (.cint 4))
noncomputable def Vr:MS:=.ite (.call "is_about" [(.var 5),(.var 2),(.var 3)]) [Bb,Ba,B9] []
noncomputable def Uq:MS:=.for (.one 4) .rev [(.var 1)] [Vs,Vr]
noncomputable def Zz:MS:=.ret .cnone
noncomputable def Xf:MFun:={ n:=4,body:=[Uq,Zz] }
noncomputable def A2:MS:=.ret (.call "worth_by" [(.var 0),(.call "counting" [(.var 0),(.var 1)]),(.var 2),(.var 3)])
noncomputable def P1:MFun:={ n:=4,body:=[A2] }
noncomputable def On:MS:=.assign 3 (.list [(.var 1)])
noncomputable def Zu:MS:=.assign 5 (.idx (.var 0) (.var 4))
noncomputable def Yr:MS:=.expr (.meth .extend (.var 3) [(.comp (.var 6) (.one 6) .plain [(.tuple [(.idx (.var 5) (.cint 2)),(.bin .add (.idx (.var 5) (.cint 3)) (.cint 1))])] [(.cmp (.var 1) [.lt,.le] [(.var 6),(.var 2)])])])
noncomputable def Ve:MS:=.ite (.cmp (.idx (.var 5) (.cint 0)) [.ne] [(.cstr "undo")]) [Yr] []
noncomputable def Om:MS:=.for (.one 4) .plain [(.var 0)] [Zu,Ve]
noncomputable def Ol:MS:=.ret (.bi .sortedSet [(.var 3)])
noncomputable def Xe:MFun:={ n:=3,body:=[On,Om,Ol] }
noncomputable def Kx:MS:=.assign 3 (.list [])
noncomputable def Yf:MS:=.assign 5 (.var 1)
noncomputable def Zl:MS:=.assign 5 (.bin .sub (.idx (.var 0) (.bin .add (.var 4) (.cint 1))) (.cint 1))
noncomputable def Jg:MS:=.ite (.cmp (.bin .add (.var 4) (.cint 1)) [.lt] [(.bi .len [(.var 0)])]) [Zl] []
noncomputable def Zk:MS:=.setidx (.var 3) (.neg (.cint 1)) (.tuple [(.idx (.idx (.var 3) (.neg (.cint 1))) (.cint 0)),(.var 5),(.idx (.var 2) (.var 4))])
noncomputable def Xq:MS:=.expr (.meth .append (.var 3) [(.tuple [(.idx (.var 0) (.var 4)),(.var 5),(.idx (.var 2) (.var 4))])])
noncomputable def Xm:MS:=.ite (.and [(.cmp (.bi .len [(.var 3)]) [.gt] [(.cint 0)]),(.cmp (.idx (.idx (.var 3) (.neg (.cint 1))) (.cint 2)) [.eq] [(.idx (.var 2) (.var 4))])]) [Zk] [Xq]
noncomputable def Kw:MS:=.for (.one 4) .range [(.bi .len [(.var 0)])] [Yf,Jg,Xm]
noncomputable def Kv:MS:=.ret (.var 3)
noncomputable def Qq:MFun:={ n:=3,body:=[Kx,Kw,Kv] }
noncomputable def Cd:MS:=.assign 5 (.call "begins_of" [(.var 0),(.var 3),(.var 4)])
noncomputable def Cc:MS:=.assign 6 (.call "counting" [(.var 0),(.var 1)])
noncomputable def Cb:MS:=.assign 7 (.comp (.call "worth_by" [(.var 0),(.var 6),(.var 2),(.var 8)]) (.one 8) .plain [(.var 5)] [])
noncomputable def C9:MS:=.ret (.comp (.var 9) (.one 9) .plain [(.call "stretches_of" [(.var 5),(.var 4),(.var 7)])] [(.cmp (.idx (.var 9) (.cint 2)) [.isnot] [.cnone])])
noncomputable def Yh:MFun:={ n:=5,body:=[Cd,Cc,Cb,C9] }
noncomputable def Rl:MS:=.ret (.and [(.isinst (.var 0) .int),(.not (.isinst (.var 0) .bool))])
noncomputable def Fk:MFun:={ n:=1,body:=[Rl] }
noncomputable def Gz:MS:=.ret (.cbool false)
noncomputable def f_is_name_1:MS:=.ite (.or [(.not (.isinst (.var 0) .str)),(.not (.cmp (.cint 1) [.le,.le] [(.bi .len [(.var 0)]),(.glob "MOST_SIGNS")]))]) [Gz] []
noncomputable def Cr:MS:=.ret (.cbool false)
noncomputable def Ok:MS:=.ite (.cmp (.var 1) [.notin] [(.glob "LETTERS")]) [Cr] []
noncomputable def f_is_name_2:MS:=.for (.one 1) .plain [(.var 0)] [Ok]
noncomputable def f_is_name_3:MS:=.ret (.cbool true)
noncomputable def I1:MFun:={ n:=1,body:=[f_is_name_1,f_is_name_2,f_is_name_3] }
noncomputable def f_is_day_1:MS:=.ret (.and [(.call "is_whole" [(.var 0)]),(.cmp (.cint 0) [.le,.le] [(.var 0),(.glob "MOST_DAY")])])
noncomputable def f_is_day:MFun:={ n:=1,body:=[f_is_day_1] }
noncomputable def Rk:MS:=.ret (.and [(.call "is_whole" [(.var 0)]),(.cmp (.bin .sub (.cint 0) (.glob "MOST_WORTH")) [.le,.le] [(.var 0),(.glob "MOST_WORTH")])])
noncomputable def Fj:MFun:={ n:=1,body:=[Rk] }
noncomputable def Fr:MS:=.ret (.cbool false)
noncomputable def Ux:MS:=.ite (.or [(.not (.isinst (.var 0) .tuple)),(.cmp (.bi .len [(.var 0)]) [.lt] [(.cint 2)]),(.not (.isinst (.idx (.var 0) (.cint 0)) .str))]) [Fr] []
noncomputable def Fq:MS:=.ret (.and [(.cmp (.bi .len [(.var 0)]) [.eq] [(.cint 2)]),(.call "is_whole" [(.idx (.var 0) (.cint 1))]),(.cmp (.idx (.var 0) (.cint 1)) [.ge] [(.cint 1)])])
noncomputable def Uw:MS:=.ite (.cmp (.idx (.var 0) (.cint 0)) [.eq] [(.cstr "undo")]) [Fq] []
noncomputable def Fp:MS:=.ret (.cbool false)
noncomputable def Uv:MS:=.ite (.or [(.cmp (.idx (.var 0) (.cint 0)) [.notin] [(.tuple [(.cstr "tell"),(.cstr "clear"),(.cstr "like")])]),(.cmp (.bi .len [(.var 0)]) [.lt] [(.cint 4)])]) [Fp] []
noncomputable def Fo:MS:=.ret (.cbool false)
noncomputable def Uu:MS:=.ite (.or [(.not (.call "is_name" [(.idx (.var 0) (.cint 1))])),(.not (.call "is_day" [(.idx (.var 0) (.cint 2))])),(.not (.call "is_day" [(.idx (.var 0) (.cint 3))])),(.cmp (.idx (.var 0) (.cint 2)) [.gt] [(.idx (.var 0) (.cint 3))])]) [Fo] []
noncomputable def Fn:MS:=.ret (.cmp (.bi .len [(.var 0)]) [.eq] [(.cint 4)])
noncomputable def Ad:MS:=.ite (.cmp (.idx (.var 0) (.cint 0)) [.eq] [(.cstr "clear")]) [Fn] []
noncomputable def Fm:MS:=.ret (.cbool false)
noncomputable def Ac:MS:=.ite (.cmp (.bi .len [(.var 0)]) [.ne] [(.cint 5)]) [Fm] []
noncomputable def Fl:MS:=.ret (.call "is_worth" [(.idx (.var 0) (.cint 4))])
noncomputable def Ab:MS:=.ite (.cmp (.idx (.var 0) (.cint 0)) [.eq] [(.cstr "tell")]) [Fl] []
noncomputable def Aa:MS:=.ret (.call "is_name" [(.idx (.var 0) (.cint 4))])
noncomputable def Fs:MFun:={ n:=1,body:=[Ux,Uw,Uv,Uu,Ad,Ac,Ab,Aa] }
noncomputable def Bc:MS:=.opq (chkRaise "BadEntry")
noncomputable def Fa:MS:=.ite (.not (.call "is_entry" [(.var 0)])) [Bc] []
noncomputable def F9:MS:=.ret (.var 0)
noncomputable def A4:MFun:={ n:=1,body:=[Fa,F9] }
noncomputable def Cj:MS:=.ret (.bi .dict [(.comp (.tuple [(.var 2),(.idx (.var 0) (.var 2))]) (.one 2) .plain [(.var 1)] [])])
noncomputable def Yi:MFun:={ n:=2,body:=[Cj] }
noncomputable def Ag:MS:=.assign 5 (.call "runs_of" [(.var 0),(.var 1),(.var 2),(.var 3),(.var 4)])
noncomputable def N5:MS:=.ret (.list [])
noncomputable def Rm:MS:=.ite (.cmp (.var 5) [.eq] [(.list [])]) [N5] []
noncomputable def Af:MS:=.assign 6 (.bi .sorted [(.comp (.var 10) (.one 10) .plain [(.var 0)] [(.cmp (.var 10) [.le] [(.var 1)])])])
noncomputable def Uz:MS:=.assign 7 (.bin .add (.bi .len [(.var 6)]) (.cint 1))
noncomputable def Jo:MS:=.assign 7 (.bi .len [(.var 6)])
noncomputable def Z8:MS:=.assign 9 (.comp (.var 11) (.one 11) .plain [(.var 6)] [(.cmp (.var 11) [.ne] [(.var 8)])])
noncomputable def Jm:MS:=.assign 6 (.var 9)
noncomputable def U2:MS:=.ite (.cmp (.call "runs_of" [(.call "book_of" [(.var 0),(.var 9)]),(.var 1),(.var 2),(.var 3),(.var 4)]) [.eq] [(.var 5)]) [Jm] []
noncomputable def Jn:MS:=.for (.one 8) .plain [(.bi .list [(.var 6)])] [Z8,U2]
noncomputable def Uy:MS:=.while (.cmp (.bi .len [(.var 6)]) [.lt] [(.var 7)]) [Jo,Jn]
noncomputable def J3:MS:=.ret (.var 6)
noncomputable def P7:MFun:={ n:=5,body:=[Ag,Rm,Af,Uz,Uy,J3] }
noncomputable def A3:MS:=.ret (.comp (.call "runs_of" [(.var 0),(.var 2),(.var 3),(.cint 0),(.glob "MOST_DAY")]) (.one 3) .plain [(.var 1)] [])
noncomputable def P4:MFun:={ n:=3,body:=[A3] }
noncomputable def O9:MS:=.assign 1 (.bi .max1 [(.bin .add (.list [(.cint 0)]) (.bi .list [(.meth .keys (.var 0) [])]))])
noncomputable def O8:MS:=.assign 2 (.bi .sortedSetS [(.comp (.idx (.idx (.var 0) (.var 8)) (.cint 1)) (.one 8) .plain [(.var 0)] [(.cmp (.idx (.idx (.var 0) (.var 8)) (.cint 0)) [.ne] [(.cstr "undo")])])])
noncomputable def Kc:MS:=.assign 3 (.call "state_of" [(.var 0),(.var 2),(.var 1)])
noncomputable def Kb:MS:=.assign 4 (.comp (.var 9) (.one 9) .plain [(.call "counting" [(.var 0),(.var 1)])] [(.cmp (.idx (.idx (.var 0) (.var 9)) (.cint 0)) [.ne] [(.cstr "undo")])])
noncomputable def Zc:MS:=.assign 5 (.bin .add (.bi .len [(.var 4)]) (.cint 1))
noncomputable def Zr:MS:=.assign 5 (.bi .len [(.var 4)])
noncomputable def Yo:MS:=.assign 7 (.comp (.var 10) (.one 10) .plain [(.var 4)] [(.cmp (.var 10) [.ne] [(.var 6)])])
noncomputable def Zv:MS:=.assign 4 (.var 7)
noncomputable def Jz:MS:=.ite (.cmp (.call "state_of" [(.call "book_of" [(.var 0),(.var 7)]),(.var 2),(.var 1)]) [.eq] [(.var 3)]) [Zv] []
noncomputable def Zq:MS:=.for (.one 6) .plain [(.bi .list [(.var 4)])] [Yo,Jz]
noncomputable def Zb:MS:=.while (.cmp (.bi .len [(.var 4)]) [.lt] [(.var 5)]) [Zr,Zq]
noncomputable def Y5:MS:=.ret (.call "book_of" [(.var 0),(.var 4)])
noncomputable def Vt:MFun:={ n:=1,body:=[O9,O8,Kc,Kb,Zc,Zb,Y5] }
noncomputable def An:MS:=.setattr (.var 0) "held" .dict0
noncomputable def Am:MS:=.setattr (.var 0) "ground" (.cint 0)
noncomputable def Al:MS:=.setattr (.var 0) "given" (.cint 0)
noncomputable def Vf:MFun:={ n:=1,body:=[An,Am,Al] }
noncomputable def N8:MS:=.expr (.call "need_entry" [(.var 1)])
noncomputable def Pb:MS:=.opq (chkRaise "Closed")
noncomputable def Bn:MS:=.ite (.cmp (.idx (.var 1) (.cint 1)) [.le] [(.attr (.var 0) "ground")]) [Pb] []
noncomputable def Pa:MS:=.opq (chkRaise "NoEntry")
noncomputable def Bm:MS:=.ite (.cmp (.idx (.var 1) (.cint 1)) [.gt] [(.attr (.var 0) "given")]) [Pa] []
noncomputable def Jt:MS:=.ite (.cmp (.idx (.var 1) (.cint 0)) [.eq] [(.cstr "undo")]) [Bn,Bm] []
noncomputable def Bl:MS:=.opq (chkRaise "TooMany")
noncomputable def Yv:MS:=.ite (.cmp (.bi .len [(.attr (.var 0) "held")]) [.ge] [(.glob "MOST")]) [Bl] []
noncomputable def Yu:MS:=.setattr (.var 0) "given" (.bin .add (.attr (.var 0) "given") (.cint 1))
noncomputable def Yt:MS:=.setidx (.attr (.var 0) "held") (.attr (.var 0) "given") (.var 1)
noncomputable def Ys:MS:=.ret (.attr (.var 0) "given")
noncomputable def Ap:MFun:={ n:=2,body:=[N8,Jt,Yv,Yu,Yt,Ys] }
noncomputable def P9:MS:=.assign 1 (.bi .len [(.attr (.var 0) "held")])
noncomputable def Js:MS:=.setattr (.var 0) "held" (.call "shortened" [(.attr (.var 0) "held")])
noncomputable def Jr:MS:=.setattr (.var 0) "ground" (.attr (.var 0) "given")
noncomputable def Jq:MS:=.ret (.bin .sub (.var 1) (.bi .len [(.attr (.var 0) "held")]))
noncomputable def U4:MFun:={ n:=1,body:=[P9,Js,Jr,Jq] }
noncomputable def U5:MS:=.opq (chkRaise "Gone")
noncomputable def Vg:MS:=.ite (.cmp (.var 1) [.lt] [(.attr (.var 0) "ground")]) [U5] []
noncomputable def Zw:MFun:={ n:=2,body:=[Vg] }
noncomputable def Bj:MS:=.expr (.mcall "need_known" (.var 0) [(.var 1)])
noncomputable def Bi:MS:=.ret (.call "worth_of" [(.attr (.var 0) "held"),(.var 1),(.var 2),(.var 3)])
noncomputable def N6:MFun:={ n:=4,body:=[Bj,Bi] }
noncomputable def Cu:MS:=.expr (.mcall "need_known" (.var 0) [(.var 1)])
noncomputable def Ct:MS:=.ret (.call "runs_of" [(.attr (.var 0) "held"),(.var 1),(.var 2),(.var 3),(.var 4)])
noncomputable def Oo:MFun:={ n:=5,body:=[Cu,Ct] }
noncomputable def Fu:MS:=.expr (.mcall "need_known" (.var 0) [(.var 1)])
noncomputable def Ft:MS:=.ret (.call "hangs_on" [(.attr (.var 0) "held"),(.var 1),(.var 2),(.var 3),(.var 4)])
noncomputable def Ao:MFun:={ n:=5,body:=[Fu,Ft] }
noncomputable def Cv:MS:=.ret (.attr (.var 0) "given")
noncomputable def Op:MFun:={ n:=1,body:=[Cv] }
noncomputable def Bk:MS:=.ret (.attr (.var 0) "ground")
noncomputable def N7:MFun:={ n:=1,body:=[Bk] }
noncomputable def Cx:MS:=.ret (.bi .dict [(.attr (.var 0) "held")])
noncomputable def Oq:MFun:={ n:=1,body:=[Cx] }
noncomputable def Fc:MS:=.ret (.idx (.bin .add (.slice (.var 0) (.var 1) (.bin .add (.var 1) (.cint 1)) .cnone) (.list [(.cint 0)])) (.cint 0))
noncomputable def Fd:MFun:={ n:=2,body:=[Fc] }
noncomputable def Oe:MS:=.assign 2 (.cstr "abcdefghijklmnopqrstuvwxy")
noncomputable def Od:MS:=.assign 3 (.list [])
noncomputable def Zt:MS:=.assign 5 (.bin .add (.bin .fdiv (.var 0) (.cint 2)) (.bin .mul (.bin .mul (.var 4) (.cint 48271)) (.bin .mod (.var 0) (.cint 2))))
noncomputable def Zs:MS:=.assign 6 (.meth .join (.cstr "") [(.comp (.idx (.var 2) (.bin .mod (.bin .add (.bin .fdiv (.var 5) (.cint 7)) (.bin .mul (.cint 6) (.var 8))) (.cint 25))) (.one 8) .range [(.bin .mod (.var 5) (.cint 7))] [])])
noncomputable def Ya:MS:=.assign 7 (.bin .mod (.bin .fdiv (.var 5) (.cint 175)) (.bin .add (.bi .len [(.var 6)]) (.cint 1)))
noncomputable def Y9:MS:=.expr (.meth .append (.var 3) [(.bin .add (.bin .add (.bin .add (.slice (.var 6) .cnone (.var 7) .cnone) (.cstr "z")) (.idx (.var 2) (.var 4))) (.slice (.var 6) (.var 7) .cnone .cnone))])
noncomputable def Oc:MS:=.for (.one 4) .range [(.var 1)] [Zt,Zs,Ya,Y9]
noncomputable def Va:MS:=.setidx (.var 3) (.cint 1) (.slice (.idx (.var 3) (.cint 0)) .cnone .cnone (.neg (.cint 1)))
noncomputable def Ob:MS:=.ite (.and [(.cmp (.bin .mod (.var 0) (.cint 5)) [.eq] [(.cint 3)]),(.cmp (.slice (.idx (.var 3) (.cint 0)) .cnone .cnone (.neg (.cint 1))) [.notin] [(.var 3)])]) [Va] []
noncomputable def Zd:MS:=.ret (.var 3)
noncomputable def K1:MFun:={ n:=2,body:=[Oe,Od,Oc,Ob,Zd] }
noncomputable def Oj:MS:=.assign 2 (.bin .mod (.bin .mul (.var 2) (.cint 48271)) (.cint 2147483647))
noncomputable def Oi:MS:=.assign 4 (.bi .min2 [(.cint 1000000),(.bin .add (.var 1) (.bin .mod (.bin .fdiv (.var 2) (.cint 24)) (.idx (.list [(.cint 10),(.cint 900000)]) (.bi .int [(.cmp (.bin .mod (.bin .fdiv (.var 2) (.cint 11520)) (.cint 5)) [.eq] [(.cint 1)])]))))])
noncomputable def Oh:MS:=.assign 5 (.bi .min2 [(.cint 1000000),(.bin .add (.var 4) (.idx (.list [(.cint 0),(.cint 1),(.cint 3),(.cint 9),(.cint 35),(.cint 700),(.cint 1000000),(.cint 9)]) (.bin .mod (.bin .fdiv (.var 2) (.cint 240)) (.cint 8))))])
noncomputable def Og:MS:=.assign 6 (.idx (.var 0) (.bin .mod (.bin .fdiv (.var 2) (.cint 8)) (.cint 3)))
noncomputable def Vd:MS:=.ret (.tuple [(.cstr "undo"),(.bin .add (.cint 1) (.bin .mod (.bin .fdiv (.var 2) (.cint 8)) (.bin .sub (.var 3) (.cint 1))))])
noncomputable def Of:MS:=.ite (.and [(.cmp (.bin .mod (.var 2) (.cint 8)) [.gt] [(.cint 5)]),(.cmp (.var 3) [.gt] [(.cint 1)])]) [Vd] []
noncomputable def Vc:MS:=.ret (.tuple [(.cstr "clear"),(.var 6),(.var 4),(.var 5)])
noncomputable def Kg:MS:=.ite (.cmp (.bin .mod (.var 2) (.cint 8)) [.eq] [(.cint 3)]) [Vc] []
noncomputable def Vb:MS:=.ret (.tuple [(.cstr "like"),(.var 6),(.var 4),(.var 5),(.idx (.var 0) (.bin .mod (.bin .fdiv (.var 2) (.cint 1920)) (.cint 3)))])
noncomputable def Kf:MS:=.ite (.cmp (.bin .mod (.var 2) (.cint 8)) [.isin] [(.tuple [(.cint 4),(.cint 5)])]) [Vb] []
noncomputable def Ke:MS:=.ret (.tuple [(.cstr "tell"),(.var 6),(.var 4),(.var 5),(.idx (.list [(.cint 1),(.cint 2),(.cint 1),(.cint 0),(.neg (.cint 1)),(.bin .sub (.bin .mod (.var 2) (.cint 2000000001)) (.cint 1000000000))]) (.bin .mod (.bin .fdiv (.var 2) (.cint 1920)) (.cint 6)))])
noncomputable def Vz:MFun:={ n:=4,body:=[Oj,Oi,Oh,Og,Of,Kg,Kf,Ke] }
noncomputable def Oa:MS:=.ret (.and [(.isinst (.var 0) .int),(.not (.isinst (.var 0) .bool))])
noncomputable def Vu:MFun:={ n:=1,body:=[Oa] }
noncomputable def Ur:MS:=.assign 1 (.list [(.isx (.var 0) "BadEntry"),(.isx (.var 0) "Closed"),(.isx (.var 0) "NoEntry"),(.isx (.var 0) "TooMany")])
noncomputable def J2:MS:=.assign 1 (.bin .add (.var 1) (.list [(.isx (.var 0) "Gone"),(.isx (.var 0) "BadBook"),(.isx (.var 0) "BadText")]))
noncomputable def Fb:MS:=.ret (.tuple [(.cstr "other")])
noncomputable def J1:MS:=.ite (.or [(.cmp (.meth .count (.var 1) [(.cbool true)]) [.ne] [(.cint 1)]),(.not (.isx (.var 0) "ValueError"))]) [Fb] []
noncomputable def J0:MS:=.ret (.tuple [(.idx (.list [(.cstr "bad"),(.cstr "closed"),(.cstr "none"),(.cstr "many"),(.cstr "gone"),(.cstr "book"),(.cstr "text")]) (.meth .index (.var 1) [(.cbool true)]))])
noncomputable def Yg:MFun:={ n:=1,body:=[Ur,J2,J1,J0] }
noncomputable def Cq:MS:=.ret (.mcall "add" (.var 0) [(.var 1)])
noncomputable def Bf:MS:=.ret (.call "_law_word" [(.var 2)])
noncomputable def Gy:MS:=.opq (chkTry ["Keeper.add", "_law_word"] [Cq] [Bf] 2)
noncomputable def Cf (P:Nat->List MV->List Addr->MQ->MH->Prop):MFun:=⟨2,[Gy],some P⟩
noncomputable def Be:MS:=.expr (.mcall "worth" (.var 0) [(.var 1),(.cstr "a"),(.cint 1)])
noncomputable def Nz:MS:=.expr (.mcall "runs" (.var 0) [(.var 1),(.cstr "a"),(.cint 1),(.cint 2)])
noncomputable def Vy:MS:=.expr (.mcall "why" (.var 0) [(.var 1),(.cstr "a"),(.cint 1),(.cint 2)])
noncomputable def A6:MS:=.ite (.cmp (.var 2) [.eq] [(.cint 1)]) [Nz] [Vy]
noncomputable def Fe:MS:=.ite (.cmp (.var 2) [.eq] [(.cint 0)]) [Be] [A6]
noncomputable def Co:MS:=.ret (.call "_law_word" [(.var 3)])
noncomputable def Ra:MS:=.opq (chkTry ["Keeper.worth", "Keeper.runs", "Keeper.why", "_law_word"] [Fe] [Co] 3)
noncomputable def A5:MS:=.ret (.tuple [])
noncomputable def Ff (P:Nat->List MV->List Addr->MQ->MH->Prop):MFun:=⟨3,[Ra,A5],some P⟩
noncomputable def f_law_due_1:MS:=.assign 4 (.and [(.isinst (.var 0) .tuple),(.cmp (.idx (.var 0) (.cint 0)) [.isin] [(.tuple [(.cstr "tell"),(.cstr "clear"),(.cstr "like"),(.cstr "undo")])])])
noncomputable def Gx:MS:=.ret (.tuple [(.cstr "bad")])
noncomputable def N4:MS:=.ite (.or [(.not (.var 4)),(.and [(.cmp (.idx (.var 0) (.cint 0)) [.eq] [(.cstr "undo")]),(.cmp (.idx (.var 0) (.cint 1)) [.eq] [(.cint 0)])]),(.and [(.cmp (.idx (.var 0) (.cint 0)) [.eq] [(.cstr "clear")]),(.cmp (.idx (.var 0) (.cint 2)) [.gt] [(.idx (.var 0) (.cint 3))])])]) [Gx] []
noncomputable def Gw:MS:=.ret (.tuple [(.cstr "closed")])
noncomputable def N3:MS:=.ite (.and [(.cmp (.idx (.var 0) (.cint 0)) [.eq] [(.cstr "undo")]),(.cmp (.idx (.var 0) (.cint 1)) [.le] [(.var 3)])]) [Gw] []
noncomputable def Gv:MS:=.ret (.tuple [(.cstr "none")])
noncomputable def N2:MS:=.ite (.and [(.cmp (.idx (.var 0) (.cint 0)) [.eq] [(.cstr "undo")]),(.cmp (.idx (.var 0) (.cint 1)) [.gt] [(.var 2)])]) [Gv] []
noncomputable def Gu:MS:=.ret (.tuple [(.cstr "many")])
noncomputable def K3:MS:=.ite (.cmp (.bi .len [(.var 1)]) [.ge] [(.cint 30)]) [Gu] []
noncomputable def K2:MS:=.ret (.bin .add (.var 2) (.cint 1))
noncomputable def Hz:MFun:={ n:=4,body:=[f_law_due_1,N4,N3,N2,K3,K2] }
noncomputable def Ce:MS:=.assign 4 (.list [(.tuple [(.cstr "undo"),(.bi .max2 [(.cint 0),(.bin .sub (.var 3) (.bin .mod (.var 1) (.cint 3)))])]),(.tuple [(.cstr "undo"),(.bin .add (.bin .add (.var 2) (.cint 1)) (.bin .mod (.var 1) (.cint 3)))]),(.tuple [(.cstr "clear"),(.cstr "a"),(.cint 4),(.cint 3)]),(.list [(.cstr "undo"),(.cint 1)])])
noncomputable def Vx:MS:=.ret (.idx (.bin .add (.var 4) (.list [(.tuple [(.cstr "undo"),(.cint 0)])])) (.bin .mod (.var 0) (.cint 5)))
noncomputable def Hy:MFun:={ n:=4,body:=[Ce,Vx] }
noncomputable def Jl:MS:=.assign 3 (.bin .sub (.var 2) (.bin .fdiv (.bin .mod (.var 2) (.cint 7)) (.cint 6)))
noncomputable def Yq:MS:=.expr (.mcall "add" (.var 0) [(.tuple [(.cstr "tell"),(.cstr "a"),(.bin .mul (.cint 2) (.var 3)),(.bin .add (.bin .mul (.cint 2) (.var 3)) (.bin .mod (.var 3) (.cint 2))),(.var 3)])])
noncomputable def A7:MS:=.for (.one 2) .range [(.var 1)] [Jl,Yq]
noncomputable def Rb:MS:=.ret (.var 1)
noncomputable def Fg:MFun:={ n:=2,body:=[A7,Rb] }
noncomputable def Yp:MS:=.assign 2 (.bin .add (.var 2) (.cint 1))
noncomputable def Kd:MS:=.ret (.cbool false)
noncomputable def Us:MS:=.ite (.cmp (.call "_law_added" [(.var 0),(.tuple [(.cstr "undo"),(.var 4)])]) [.ne] [(.var 2)]) [Kd] []
noncomputable def Xx:MS:=.ite (.and [(.cmp (.var 3) [.lt,.le] [(.var 4),(.var 2)]),(.cmp (.bi .len [(.mcall "book" (.var 0) [])]) [.lt] [(.cint 30)])]) [Yp,Us] []
noncomputable def Jk:MS:=.for (.one 4) .plain [(.var 1)] [Xx]
noncomputable def Vw:MS:=.ret (.cbool true)
noncomputable def P6:MS:=.ite (.cmp (.bi .len [(.mcall "book" (.var 0) [])]) [.lt] [(.cint 30)]) [Vw] []
noncomputable def Vv:MS:=.ret (.cbool false)
noncomputable def P5:MS:=.ite (.cmp (.call "_law_added" [(.var 0),(.tuple [(.cstr "clear"),(.cstr "b"),(.cint 0),(.cint 0)])]) [.ne] [(.tuple [(.cstr "many")])]) [Vv] []
noncomputable def Jj:MS:=.expr (.mcall "shorten" (.var 0) [])
noncomputable def Ji:MS:=.assign 5 (.idx (.list [(.bin .add (.var 2) (.cint 1)),(.tuple [(.cstr "many")])]) (.bi .int [(.cmp (.bi .len [(.mcall "book" (.var 0) [])]) [.eq] [(.cint 30)])]))
noncomputable def Jh:MS:=.ret (.cmp (.call "_law_added" [(.var 0),(.tuple [(.cstr "clear"),(.cstr "b"),(.cint 0),(.cint 0)])]) [.eq] [(.var 5)])
noncomputable def Ky:MFun:={ n:=4,body:=[Jk,P6,P5,Jj,Ji,Jh] }
noncomputable def f_law_1:MS:=.assign 1 (.call "_law_names" [(.call "_law_of" [(.var 0),(.cint 1)]),(.cint 3)])
noncomputable def f_law_2:MS:=.assign 2 (.new "Keeper")
noncomputable def f_law_3:MS:=.assign 3 (.cint 0)
noncomputable def I0:MS:=.assign 3 (.call "_law_full" [(.var 2),(.bin .add (.cint 26) (.bin .mod (.bin .fdiv (.call "_law_of" [(.var 0),(.cint 2)]) (.cint 9)) (.cint 5)))])
noncomputable def f_law_4:MS:=.ite (.cmp (.bin .mod (.call "_law_of" [(.var 0),(.cint 2)]) (.cint 9)) [.eq] [(.cint 1)]) [I0] []
noncomputable def Rj:MS:=.assign 4 (.cint 0)
noncomputable def Ri:MS:=.assign 5 (.list [])
noncomputable def Nu:MS:=.assign 7 (.idx (.var 0) (.bin .add (.cint 4) (.var 6)))
noncomputable def Nt:MS:=.assign 8 (.call "_law_entry" [(.var 1),(.cint 3),(.bin .add (.var 7) (.var 6)),(.bin .add (.var 3) (.cint 1))])
noncomputable def Ci:MS:=.assign 8 (.call "_law_odd" [(.bin .fdiv (.var 7) (.cint 28)),(.var 6),(.var 3),(.var 4)])
noncomputable def Bg:MS:=.ite (.cmp (.bin .mod (.bin .fdiv (.var 7) (.cint 7)) (.cint 4)) [.eq] [(.cint 1)]) [Ci] []
noncomputable def U1:MS:=.assign 9 (.mcall "book" (.var 2) [])
noncomputable def Nr:MS:=.assign 10 (.bi .dict [(.var 9)])
noncomputable def U0:MS:=.assign 11 (.call "_law_due" [(.var 8),(.var 10),(.var 3),(.var 4)])
noncomputable def f_law_7_7_1:MS:=.ret (.cbool false)
noncomputable def Kz:MS:=.ite (.or [(.cmp (.call "_law_added" [(.var 2),(.var 8)]) [.ne] [(.var 11)]),(.not (.isinst (.var 9) .dict))]) [f_law_7_7_1] []
noncomputable def Y1:MS:=.expr (.meth .clear (.var 9) [])
noncomputable def Cg:MS:=.expr (.meth .append (.var 5) [(.idx (.var 8) (.cint 1))])
noncomputable def Z7:MS:=.ite (.cmp (.var 11) [.eq] [(.tuple [(.cstr "none")])]) [Cg] []
noncomputable def Rg:MS:=.assign 3 (.bin .add (.var 3) (.cint 1))
noncomputable def A9:MS:=.setidx (.var 10) (.var 3) (.var 8)
noncomputable def Xy:MS:=.ite (.not (.isinst (.var 11) .tuple)) [Rg,A9] []
noncomputable def Rf:MS:=.ret (.cbool false)
noncomputable def Xo:MS:=.ite (.or [(.cmp (.mcall "book" (.var 2) []) [.ne] [(.var 10)]),(.cmp (.mcall "last" (.var 2) []) [.ne] [(.var 3)]),(.cmp (.mcall "floor" (.var 2) []) [.ne] [(.var 4)])]) [Rf] []
noncomputable def A8:MS:=.assign 12 (.mcall "shorten" (.var 2) [])
noncomputable def Re:MS:=.assign 4 (.var 3)
noncomputable def Fi:MS:=.ret (.cbool false)
noncomputable def Rd:MS:=.ite (.or [(.not (.call "_law_whole" [(.var 12)])),(.cmp (.var 12) [.ne] [(.bin .sub (.bi .len [(.var 10)]) (.bi .len [(.mcall "book" (.var 2) [])]))])]) [Fi] []
noncomputable def Xn:MS:=.ite (.cmp (.bin .mod (.bin .fdiv (.var 7) (.cint 140)) (.cint 5)) [.eq] [(.cint 1)]) [A8,Re,Rd] []
noncomputable def Fh:MS:=.ret (.cbool false)
noncomputable def Ut:MS:=.ite (.or [(.cmp (.call "_law_gone" [(.var 2),(.var 4),(.var 13)]) [.ne] [(.tuple [])]),(.and [(.cmp (.var 4) [.gt] [(.cint 0)]),(.cmp (.call "_law_gone" [(.var 2),(.bin .sub (.var 4) (.cint 1)),(.var 13)]) [.ne] [(.tuple [(.cstr "gone")])])])]) [Fh] []
noncomputable def Xb:MS:=.for (.one 13) .range [(.cint 3)] [Ut]
noncomputable def Rh:MS:=.for (.one 6) .range [(.bi .min2 [(.bin .sub (.cint 14) (.bin .mul (.cint 8) (.bi .int [(.cmp (.var 3) [.gt] [(.cint 0)])]))),(.bin .sub (.bi .len [(.var 0)]) (.cint 4))])] [Nu,Nt,Bg,U1,Nr,U0,Kz,Y1,Z7,Xy,Xo,Xn,Xb]
noncomputable def f_law_8_1:MS:=.ret (.cbool false)
noncomputable def f_law_8:MS:=.ite (.or [(.cmp (.mcall "floor" (.var 2) []) [.ne] [(.var 4)]),(.cmp (.mcall "last" (.var 2) []) [.ne] [(.var 3)])]) [f_law_8_1] []
noncomputable def Rc:MS:=.ret (.call "_law_taken_then" [(.var 2),(.var 5),(.var 3),(.var 4)])
noncomputable def f_law:MFun:={ n:=1,body:=[f_law_1,f_law_2,f_law_3,f_law_4,Rj,Ri,Rh,f_law_8,Rc] }
noncomputable def defs11 (N:String->Nat->List MV->List Addr->MQ->MH->Prop):Defs:=[
 ("counting",Xg,[(0,Str.ofString "book"),(1,Str.ofString "n"),(2,Str.ofString "undone"),(3,Str.ofString "found"),(4,Str.ofString "number")]),
 ("is_about",Xc,[(0,Str.ofString "entry"),(1,Str.ofString "name"),(2,Str.ofString "day")]),
 ("worth_by",Xf,[(0,Str.ofString "book"),(1,Str.ofString "numbers"),(2,Str.ofString "name"),(3,Str.ofString "day"),(4,Str.ofString "number"),(5,Str.ofString "entry")]),
 ("worth_of",P1,[(0,Str.ofString "book"),(1,Str.ofString "n"),(2,Str.ofString "name"),(3,Str.ofString "day")]),
 ("begins_of",Xe,[(0,Str.ofString "book"),(1,Str.ofString "low"),(2,Str.ofString "high"),(3,Str.ofString "found"),(4,Str.ofString "number"),(5,Str.ofString "entry")]),
 ("stretches_of",Qq,[(0,Str.ofString "begins"),(1,Str.ofString "high"),(2,Str.ofString "worths"),(3,Str.ofString "found"),(4,Str.ofString "place"),(5,Str.ofString "last")]),
 ("runs_of",Yh,[(0,Str.ofString "book"),(1,Str.ofString "n"),(2,Str.ofString "name"),(3,Str.ofString "low"),(4,Str.ofString "high"),(5,Str.ofString "begins"),(6,Str.ofString "numbers"),(7,Str.ofString "worths")]),
 ("is_whole",Fk,[(0,Str.ofString "thing")]),
 ("is_name",I1,[(0,Str.ofString "thing"),(1,Str.ofString "sign")]),
 ("is_day",f_is_day,[(0,Str.ofString "thing")]),
 ("is_worth",Fj,[(0,Str.ofString "thing")]),
 ("is_entry",Fs,[(0,Str.ofString "thing")]),
 ("need_entry",A4,[(0,Str.ofString "entry")]),
 ("book_of",Yi,[(0,Str.ofString "book"),(1,Str.ofString "numbers")]),
 ("hangs_on",P7,[(0,Str.ofString "book"),(1,Str.ofString "n"),(2,Str.ofString "name"),(3,Str.ofString "low"),(4,Str.ofString "high"),(5,Str.ofString "due"),(6,Str.ofString "left"),(7,Str.ofString "many"),(8,Str.ofString "number"),(9,Str.ofString "fewer")]),
 ("state_of",P4,[(0,Str.ofString "book"),(1,Str.ofString "names"),(2,Str.ofString "n")]),
 ("shortened",Vt,[(0,Str.ofString "book"),(1,Str.ofString "last"),(2,Str.ofString "names"),(3,Str.ofString "due"),(4,Str.ofString "left"),(5,Str.ofString "many"),(6,Str.ofString "number"),(7,Str.ofString "fewer")]),
 ("Keeper.__init__",Vf,[(0,Str.ofString "self")]),
 ("Keeper.add",Ap,[(0,Str.ofString "self"),(1,Str.ofString "entry")]),
 ("Keeper.shorten",U4,[(0,Str.ofString "self"),(1,Str.ofString "many")]),
 ("Keeper.need_known",Zw,[(0,Str.ofString "self"),(1,Str.ofString "n")]),
 ("Keeper.worth",N6,[(0,Str.ofString "self"),(1,Str.ofString "n"),(2,Str.ofString "name"),(3,Str.ofString "day")]),
 ("Keeper.runs",Oo,[(0,Str.ofString "self"),(1,Str.ofString "n"),(2,Str.ofString "name"),(3,Str.ofString "low"),(4,Str.ofString "high")]),
 ("Keeper.why",Ao,[(0,Str.ofString "self"),(1,Str.ofString "n"),(2,Str.ofString "name"),(3,Str.ofString "low"),(4,Str.ofString "high")]),
 ("Keeper.last",Op,[(0,Str.ofString "self")]),
 ("Keeper.floor",N7,[(0,Str.ofString "self")]),
 ("Keeper.book",Oq,[(0,Str.ofString "self")]),
 ("_law_of",Fd,[(0,Str.ofString "_law_script"),(1,Str.ofString "_law_k")]),
 ("_law_names",K1,[(0,Str.ofString "_law_cell"),(1,Str.ofString "_law_many"),(2,Str.ofString "_law_some"),(3,Str.ofString "_law_names_here"),(4,Str.ofString "_law_k"),(5,Str.ofString "_law_more"),(6,Str.ofString "_law_word_here"),(7,Str.ofString "_law_at")]),
 ("_law_entry",Vz,[(0,Str.ofString "_law_names_here"),(1,Str.ofString "_law_base"),(2,Str.ofString "_law_n"),(3,Str.ofString "_law_number"),(4,Str.ofString "_law_low"),(5,Str.ofString "_law_high"),(6,Str.ofString "_law_name")]),
 ("_law_whole",Vu,[(0,Str.ofString "_law_found")]),
 ("_law_word",Yg,[(0,Str.ofString "_law_e"),(1,Str.ofString "_law_kinds")]),
 ("_law_added",Cf (N "_law_added"),[(0,Str.ofString "_law_keeper"),(1,Str.ofString "_law_entry_here"),(2,Str.ofString "_law_e")]),
 ("_law_gone",Ff (N "_law_gone"),[(0,Str.ofString "_law_keeper"),(1,Str.ofString "_law_n"),(2,Str.ofString "_law_way"),(3,Str.ofString "_law_e")]),
 ("_law_due",Hz,[(0,Str.ofString "_law_entry_here"),(1,Str.ofString "_law_rows"),(2,Str.ofString "_law_given"),(3,Str.ofString "_law_floor"),(4,Str.ofString "_law_good")]),
 ("_law_odd",Hy,[(0,Str.ofString "_law_cell"),(1,Str.ofString "_law_k"),(2,Str.ofString "_law_given"),(3,Str.ofString "_law_floor"),(4,Str.ofString "_law_some")]),
 ("_law_full",Fg,[(0,Str.ofString "_law_keeper"),(1,Str.ofString "_law_many"),(2,Str.ofString "_law_k"),(3,Str.ofString "_law_day")]),
 ("_law_taken_then",Ky,[(0,Str.ofString "_law_keeper"),(1,Str.ofString "_law_numbers"),(2,Str.ofString "_law_given"),(3,Str.ofString "_law_floor"),(4,Str.ofString "_law_number"),(5,Str.ofString "_law_due_here")]),
 ("law",f_law,[(0,Str.ofString "_law_script"),(1,Str.ofString "_law_names_here"),(2,Str.ofString "_law_keeper"),(3,Str.ofString "_law_given"),(4,Str.ofString "_law_floor"),(5,Str.ofString "_law_missing"),(6,Str.ofString "_law_k"),(7,Str.ofString "_law_cell"),(8,Str.ofString "_law_entry_here"),(9,Str.ofString "_law_told"),(10,Str.ofString "_law_rows"),(11,Str.ofString "_law_due_here"),(12,Str.ofString "_law_left"),(13,Str.ofString "_law_way")])]
end Mine
end
section
set_option Elab.async false
set_option maxRecDepth 100000
set_option maxHeartbeats 8000000
open PySem PySem.W PyProof.Rows
namespace Mine
noncomputable def D0:Defs:=defs11 fun _ _ _ _ _ _=>False
theorem topX (w:World) (os:OsState):(R0 w os).map (fun s=>xOk s.heap && kOk D0 s.heap)=some true:=by
 kernel_rfl
theorem topOf (w:World) (os:OsState):(topFrom treeTable Challenge.pw_uf030030_11 w 20000 ⟨boot_heap w.params,Array.mk [],boot_drawn,boot_toks,os⟩).map (fun s=>(openSeen qOf lz (importedModules Challenge.pw_uf030030_11.main.body) (fun s=>xlAt qOf [] s && (xOk s.heap && kOk D0 s.heap)) true s,()))=some (openGood qOf lz,()):=by
 obtain⟨s,hs,eA⟩:=Option.map_eq_some_iff.mp (topA w os)
 have eB:=topB w os
 have eD:=topD w os
 have eX:=topX w os
 rw[hs] at eB eD eX
 replace eB:=Option.some.inj eB
 replace eD:=Option.some.inj eD
 replace eX:(xOk s.heap && kOk D0 s.heap)=true:=Option.some.inj eX
 show (R0 w os).map _=_
 rw[hs]
 have e1:=congrArg Prod.fst eA
 have e2:=congrArg Prod.snd eA
 refine congrArg (fun t=>some (t,())) ((Prod.ext e1 (Prod.ext e2 (Prod.ext ?_ eD)):openSeen qOf lz (importedModules Challenge.pw_uf030030_11.main.body) (fun s=>xlAt qOf [] s && (xOk s.heap && kOk D0 s.heap)) true s=openGood qOf lz))
 show (_ && (xlAt qOf [] s && (xOk s.heap && kOk D0 s.heap)) && _)=true
 rw[eX,Bool.and_true]
 exact eB
end Mine
end
section
namespace Mine
inductive LxT where|v (i:Nat)|n (k:Nat)|a (x y:LxT)|s (x y:LxT)|m (k:Nat) (x:LxT)|g (x:LxT)
inductive LxR where|z|c (x:Int) (r:LxR)
inductive LxN where|z|c (x:Nat) (r:LxN)
inductive LxC where|z|c (l r:LxT) (t:LxC)|k (n:Nat) (l r:LxT) (t:LxC)
noncomputable def LxR.at (r:LxR):Nat->Int:=r.rec (fun _=>0) fun x _ ih i=>i.rec x fun j _=>ih j
noncomputable def LxN.at (r:LxN):Nat->Nat:=r.rec (fun _=>0) fun x _ ih i=>i.rec x fun j _=>ih j
noncomputable def LxT.ev (r:LxR) (x:LxT):Int:=x.rec r.at (fun k=>k) (fun _ _ a b=>a+b) (fun _ _ a b=>a-b) (fun k _ a=>k*a) fun _ a=>-a
noncomputable def LxT.evN (r:LxN) (x:LxT):Nat:=x.rec r.at (fun k=>k) (fun _ _ a b=>a+b) (fun _ _ _ _=>0) (fun k _ a=>k*a) fun _ _=>0
noncomputable def LxC.den (r:LxR) (c:LxC):Prop:=c.rec False (fun x y _ p=>x.ev r≤y.ev r->p) fun _ x y _ p=>x.ev r≤y.ev r->p
noncomputable def LxC.denN (r:LxN) (c:LxC):Prop:=c.rec False (fun x y _ p=>x.evN r≤y.evN r->p) fun _ x y _ p=>x.evN r≤y.evN r->p
noncomputable def LxR.add (x:LxR):LxR->LxR:=x.rec (fun y=>y) fun a x ih y=>y.rec (.c a x) fun b y _=>.c (a+b) (ih y)
noncomputable def LxR.mul (k:Int) (x:LxR):LxR:=x.rec .z fun a _ ih=>.c (k*a) ih
noncomputable def LxR.dot (x:LxR):LxR->Int:=x.rec (fun _=>0) fun a _ ih y=>y.rec 0 fun b y _=>a*b+ih y
noncomputable def LxR.one (j:Nat):LxR:=j.rec (.c 1 .z) fun _ ih=>.c 0 ih
noncomputable def LxT.row (x:LxT):LxR:=x.rec (fun j=>.c 0 (.one j)) (fun k=>.c k .z) (fun _ _ a b=>a.add b) (fun _ _ a b=>a.add (.mul (-1) b)) (fun k _ a=>.mul k a) fun _ a=>.mul (-1) a
noncomputable def LxC.row (c:LxC):LxR:=c.rec .z (fun x y _ p=>(x.row.add (.mul (-1) y.row)).add p) fun k x y _ p=>(LxR.mul k (x.row.add (.mul (-1) y.row))).add p
theorem Z6:∀ {x y r:LxR},(x.add y).dot r=x.dot r+y.dot r:=fun {x}=>by
 induction x with
 | z=>exact fun {y r}=>(Int.zero_add _).symm
 | c a x ih=>
  intro y r
  cases y with
  | z=>exact(Int.add_zero _).symm
  | c b y=>
   cases r with
   | z=>rfl
   | c k r=>
    show (a+b)*k+(x.add y).dot r=(a*k+x.dot r)+(b*k+y.dot r)
    rw[ih,Int.add_mul,Int.add_assoc,Int.add_assoc,Int.add_left_comm (b*k)]
theorem Z5 {k:Int}:∀ {x r:LxR},(LxR.mul k x).dot r=k*x.dot r:=fun {x}=>by
 induction x with
 | z=>exact fun {r}=>(Int.mul_zero _).symm
 | c a x ih=>
  intro r
  cases r with
  | z=>exact(Int.mul_zero _).symm
  | c b r=>
   show k*a*b+(LxR.mul k x).dot r=k*(a*b+x.dot r)
   rw[ih,Int.mul_add,Int.mul_assoc]
theorem lx_dot_one:∀ {j:Nat}{r:LxR},(LxR.one j).dot r=r.at j:=fun {j}=>by
 induction j with
 | zero=>exact fun {r}=>by cases r with
  | z=>rfl
  | c x r=>show 1*x+0=x;rw[Int.one_mul,Int.add_zero]
 | succ j ih=>exact fun {r}=>by cases r with
  | z=>rfl
  | c x r=>show 0*x+(LxR.one j).dot r=r.at j;rw[Int.zero_mul,Int.zero_add,ih]
theorem R5 {x y:Int}:x+(-1)*y=x-y:=by rw[Int.neg_mul,Int.one_mul];rfl
theorem Nj {r:LxR}(x:LxT):x.row.dot (.c 1 r)=x.ev r:=by
 induction x with
 | v j=>show 0*1+(LxR.one j).dot r=r.at j;rw[lx_dot_one];exact Int.zero_add _
 | n k=>exact(Int.add_zero _).trans (Int.mul_one _)
 | a x y i j=>show (x.row.add y.row).dot _=x.ev r+y.ev r;rw[Z6,i,j]
 | s x y i j=>show (x.row.add (.mul (-1) y.row)).dot _=x.ev r-y.ev r;rw[Z6,Z5,i,j,R5]
 | m k x i=>show (LxR.mul k x.row).dot _=k*x.ev r;rw[Z5,i]
 | g x i=>show (LxR.mul (-1) x.row).dot _=-x.ev r;rw[Z5,i,Int.neg_mul,Int.one_mul]
noncomputable def LxC.tot (r:LxR) (c:LxC):Int:=c.rec 0 (fun x y _ p=>(x.ev r-y.ev r)+p) fun k x y _ p=>k*(x.ev r-y.ev r)+p
theorem Hl {r:LxR}(c:LxC):c.row.dot (.c 1 r)=c.tot r:=by
 induction c with
 | z=>rfl
 | c x y t ih=>show ((x.row.add (.mul (-1) y.row)).add t.row).dot _=(x.ev r-y.ev r)+t.tot r;rw[Z6,Z6,Z5,Nj,Nj,ih,R5]
 | k k x y t ih=>show ((LxR.mul k (x.row.add (.mul (-1) y.row))).add t.row).dot _=k*(x.ev r-y.ev r)+t.tot r;rw[Z6,Z5,Z6,Z5,Nj,Nj,ih,R5]
theorem Hm {r:LxR}{c:LxC}:∀ {a:Int},a≤0->0<a+c.tot r->c.den r:=by
 induction c with
 | z=>exact fun {a} h h'=>absurd h (Int.not_le.mpr (by rwa [show LxC.tot r .z=0 from rfl,Int.add_zero] at h'))
 | c x y t ih=>
  intro a h h' q
  refine ih (a:=a+(x.ev r-y.ev r)) (Int.add_nonpos h (Int.sub_nonpos_of_le q)) ?_
  rw[Int.add_assoc];exact h'
 | k k x y t ih=>
  intro a h h' q
  refine ih (a:=a+k*(x.ev r-y.ev r)) (Int.add_nonpos h (Int.mul_nonpos_of_nonneg_of_nonpos (Int.natCast_nonneg k) (Int.sub_nonpos_of_le q))) ?_
  rw[Int.add_assoc];exact h'
noncomputable def LxR.all (p:Int->Bool) (x:LxR):Bool:=x.rec true fun a _ b=>p a && b
noncomputable def LxR.ok (p:Int->Bool) (x:LxR):Bool:=x.rec false fun a x _=>decide (0<a) && x.all p
theorem lx_dot_zero {x:LxR}:∀ {r:LxR},x.all (fun a=>decide (a=0))=true->x.dot r=0:=by
 induction x with
 | z=>exact fun {r} _=>rfl
 | c a x ih=>
  intro r h
  have h:(decide (a=0) && x.all fun a=>decide (a=0))=true:=h
  rw[Bool.and_eq_true,decide_eq_true_eq] at h
  cases r with
  | z=>rfl
  | c b r=>show a*b+x.dot r=0;rw[ih h.2,h.1,Int.zero_mul];rfl
noncomputable def LxN.up (r:LxN):LxR:=r.rec .z fun x _ ih=>.c x ih
theorem lx_dot_nn {x:LxR}:∀ {r:LxN},x.all (fun a=>decide (0≤a))=true->0≤x.dot r.up:=by
 induction x with
 | z=>exact fun {r} _=>Int.le_refl 0
 | c a x ih=>
  intro r h
  have h:(decide (0≤a) && x.all fun a=>decide (0≤a))=true:=h
  rw[Bool.and_eq_true,decide_eq_true_eq] at h
  cases r with
  | z=>exact Int.le_refl 0
  | c b r=>exact Int.add_nonneg (Int.mul_nonneg h.1 (Int.natCast_nonneg b)) (ih h.2)
theorem lxI (r:LxR) (c:LxC) (h:c.row.ok (fun a=>decide (a=0))=true):c.den r:=by
 refine Hm (Int.le_refl 0) ?_
 rw[Int.zero_add,← Hl]
 generalize c.row=x at h
 cases x with
 | z=>cases h
 | c a x=>
  have h:(decide (0<a) && x.all fun a=>decide (a=0))=true:=h
  rw[Bool.and_eq_true,decide_eq_true_eq] at h
  show 0<a*1+x.dot r
  rw[lx_dot_zero h.2,Int.mul_one,Int.add_zero];exact h.1
theorem lx_at_up {r:LxN}:∀ {j:Nat},r.up.at j=(r.at j:Int):=by
 induction r with
 | z=>exact fun {j}=>rfl
 | c x r ih=>exact fun {j}=>by cases j with|zero=>rfl|succ j=>exact ih
noncomputable def LxT.pos (x:LxT):Bool:=x.rec (fun _=>true) (fun _=>true) (fun _ _ a b=>a && b) (fun _ _ _ _=>false) (fun _ _ a=>a) fun _ _=>false
noncomputable def LxC.pos (c:LxC):Bool:=c.rec true (fun x y _ p=>x.pos && (y.pos && p)) fun _ x y _ p=>x.pos && (y.pos && p)
theorem Nk {r:LxN}(x:LxT):x.pos=true->(x.evN r:Int)=x.ev r.up:=by
 induction x with
 | v j=>exact fun _=>lx_at_up.symm
 | n k=>exact fun _=>rfl
 | a x y i j=>exact fun h=>by have h:=(Bool.and_eq_true _ _).mp h;show (x.evN r:Int)+(y.evN r:Int)=x.ev r.up+y.ev r.up;rw[i h.1,j h.2]
 | s x y i j=>exact fun h=>by cases h
 | m k x i=>exact fun h=>(Int.natCast_mul _ _).trans (congrArg _ (i h))
 | g x i=>exact fun h=>by cases h
theorem lx_denN_of {r:LxN}{c:LxC}:c.pos=true->c.den r.up->c.denN r:=by
 induction c with
 | z=>exact fun _ h=>h
 | c x y t ih=>
  intro p h q
  have p:=(Bool.and_eq_true _ _).mp p
  have p':=(Bool.and_eq_true _ _).mp p.2
  refine ih p'.2 (h ?_)
  show x.ev r.up≤y.ev r.up
  rw[← Nk x p.1,← Nk y p'.1];exact Int.ofNat_le.mpr q
 | k k x y t ih=>
  intro p h q
  have p:=(Bool.and_eq_true _ _).mp p
  have p':=(Bool.and_eq_true _ _).mp p.2
  refine ih p'.2 (h ?_)
  show x.ev r.up≤y.ev r.up
  rw[← Nk x p.1,← Nk y p'.1];exact Int.ofNat_le.mpr q
theorem lxN (r:LxN) (c:LxC) (h:(c.pos && c.row.ok (fun a=>decide (0≤a)))=true):c.denN r:=by
 have h:=(Bool.and_eq_true _ _).mp h
 refine lx_denN_of h.1 (Hm (Int.le_refl 0) ?_)
 rw[Int.zero_add,← Hl]
 have h:=h.2
 generalize c.row=x at h
 cases x with
 | z=>cases h
 | c a x=>
  have h:(decide (0<a) && x.all fun a=>decide (0≤a))=true:=h
  rw[Bool.and_eq_true,decide_eq_true_eq] at h
  show 0<a*1+x.dot r.up
  rw[Int.mul_one];exact Int.add_pos_of_pos_of_nonneg h.1 (lx_dot_nn h.2)
noncomputable def V0:LxT:=.v 0
noncomputable def V1:LxT:=.v 1
noncomputable def V2:LxT:=.v 2
noncomputable def V3:LxT:=.v 3
noncomputable def V4:LxT:=.v 4
noncomputable def N0:LxT:=.n 0
noncomputable def N1:LxT:=.n 1
noncomputable def As (x:LxT):LxT:=.a x N1
noncomputable def Mn1 (a:Nat):LxN:=.c a .z
noncomputable def Ri1 (a:Int):LxR:=.c a .z
noncomputable def Mn2 (a b:Nat):LxN:=.c a (.c b .z)
noncomputable def Ri2 (a b:Int):LxR:=.c a (.c b .z)
noncomputable def Mn3 (a b c:Nat):LxN:=.c a (.c b (.c c .z))
noncomputable def Ri3 (a b c:Int):LxR:=.c a (.c b (.c c .z))
noncomputable def Mn4 (a b c d:Nat):LxN:=.c a (.c b (.c c (.c d .z)))
noncomputable def Ri4 (a b c d:Int):LxR:=.c a (.c b (.c c (.c d .z)))
noncomputable def Mn5 (a b c d e:Nat):LxN:=.c a (.c b (.c c (.c d (.c e .z))))
noncomputable def Cc1 (l0 r0:LxT):LxC:=.c l0 r0 .z
noncomputable def Cc2 (l0 r0 l1 r1:LxT):LxC:=.c l0 r0 (.c l1 r1 .z)
noncomputable def Cc3 (l0 r0 l1 r1 l2 r2:LxT):LxC:=.c l0 r0 (.c l1 r1 (.c l2 r2 .z))
noncomputable def Cc4 (l0 r0 l1 r1 l2 r2 l3 r3:LxT):LxC:=.c l0 r0 (.c l1 r1 (.c l2 r2 (.c l3 r3 .z)))
noncomputable def Cc5 (l0 r0 l1 r1 l2 r2 l3 r3 l4 r4:LxT):LxC:=.c l0 r0 (.c l1 r1 (.c l2 r2 (.c l3 r3 (.c l4 r4 .z))))
noncomputable def Cc6 (l0 r0 l1 r1 l2 r2 l3 r3 l4 r4 l5 r5:LxT):LxC:=.c l0 r0 (.c l1 r1 (.c l2 r2 (.c l3 r3 (.c l4 r4 (.c l5 r5 .z)))))
end Mine
end
section
namespace Mine
theorem ar1:(0:Nat)≤(300:Nat):=Nat.le_of_not_lt fun z=>lxN .z (.c (.a (.n 300) (.n 1)) (.n 0) .z) rfl z
theorem ar2 {a:Nat}(h:a<64):a / 30+1≤300:=Nat.le_of_not_lt fun z=>lxN (.c a (.c ((a / (30:Nat)):Nat) .z)) (.c (.a (.v 0) (.n 1)) (.n 64) (.k 30 (.a (.n 300) (.n 1)) (.a (.v 1) (.n 1)) (.c (.m 30 (.v 1)) (.v 0) .z))) rfl h z (Nat.mul_div_le a (30:Nat))
theorem ar3 {a:Int}(h:-2 ^ 63≤a):-2 ^ 64<a:=Int.lt_of_not_ge fun z=>lxI (Ri1 a) (Cc2 (.g (.n 9223372036854775808)) V0 V0 (.g (.n 18446744073709551616))) rfl h z
theorem ar4 {a:Int}(h:a<2 ^ 63):a<2 ^ 64:=Int.lt_of_not_ge fun z=>lxI (Ri1 a) (Cc2 (As V0) (.n 9223372036854775808) (.n 18446744073709551616) V0) rfl h z
theorem ar5 {a b c d e:Nat}(h:a=b) (i:c=d) (j:b+d≤e):a+c≤e:=Nat.le_of_not_lt fun z=>lxN (Mn5 a b c d e) (Cc4 V0 V1 V2 V3 (.a V1 V3) V4 (As V4) (.a V0 V2)) rfl (Nat.le_of_eq h) (Nat.le_of_eq i) j z
theorem ar6 {a b:Nat}(h:a≤2 ^ 20) (i:b=a):(b:Int)<9223372036854775808:=Int.lt_of_not_ge fun z=>lxI (Ri2 a b) (Cc3 V0 (.n 1048576) V1 V0 (.n 9223372036854775808) V1) rfl (Int.ofNat_le.mpr h :) (Int.ofNat_le.mpr (Nat.le_of_eq i) :) z
theorem ar7 {a b c d e:Nat}(h:a≤9) (i:b+4*c+100<d):b+min e a<d:=Nat.lt_of_not_le fun z=>lxN (Mn5 a b c d ((min e a):Nat)) (Cc4 V0 (.n 9) (As (.a (.a V1 (.m 4 V2)) (.n 100))) V3 V3 (.a V1 V4) V4 V0) rfl h i z (Nat.min_le_right e a)
theorem ar8 {a b c d e:Nat}(h:a≤9) (i:b+4*c+100<d):b+1+min e a<d:=Nat.lt_of_not_le fun z=>lxN (Mn5 a b c d ((min e a):Nat)) (Cc4 V0 (.n 9) (As (.a (.a V1 (.m 4 V2)) (.n 100))) V3 V3 (.a (As V1) V4) V4 V0) rfl h i z (Nat.min_le_right e a)
theorem ar9 {a:Int}{b:Nat}(h:0≤a):-(b:Int)≤a:=Int.le_of_not_gt fun z=>lxI (Ri2 a b) (Cc3 N0 V0 (As V0) (.g V1) N0 V1) rfl h z (Int.natCast_nonneg b)
theorem ar10 {a:Int}{b:Nat}(h:a.toNat<b):a<(b:Int):=Int.lt_of_not_ge fun z=>lxI (Ri3 a b ((a).toNat:Nat)) (Cc3 (As V2) V1 V1 V0 V0 V2) rfl (Int.ofNat_le.mpr h :) z (Int.self_le_toNat a)
theorem ar11 {a:Int}{b:Nat}(h:0≤a+(b:Int)):-(b:Int)≤a:=Int.le_of_not_gt fun z=>lxI (Ri2 a b) (Cc2 N0 (.a V0 V1) (As V0) (.g V1)) rfl h z
theorem ar12 {a:Int}{b:Nat}(h:¬(0:Int)≤a):a<(b:Int):=Int.lt_of_not_ge fun z=>lxI (Ri2 a b) (Cc3 (As V0) N0 V1 V0 N0 V1) rfl (Int.lt_of_not_ge h) z (Int.natCast_nonneg b)
theorem ar13 {a:Int}(h:¬(0:Int)≤a):a<0:=Int.lt_of_not_ge fun z=>lxI (Ri1 a) (Cc2 (As V0) N0 N0 V0) rfl (Int.lt_of_not_ge h) z
theorem ar14 {a:Int}{b:Nat}(h:¬(0:Int)≤a):a+(b:Int)<(b:Int):=Int.lt_of_not_ge fun z=>lxI (Ri2 a b) (Cc2 (As V0) N0 V1 (.a V0 V1)) rfl (Int.lt_of_not_ge h) z
theorem ar15 {a b:Nat}{c:Int}(h:a≤2 ^ 20) (i:b=a) (j:c.toNat<b):c<2 ^ 63:=Int.lt_of_not_ge fun z=>lxI (Ri4 a b c ((c).toNat:Nat)) (Cc5 V0 (.n 1048576) V1 V0 (As V3) V1 (.n 9223372036854775808) V2 V2 V3) rfl (Int.ofNat_le.mpr h :) (Int.ofNat_le.mpr (Nat.le_of_eq i) :) (Int.ofNat_le.mpr j :) z (Int.self_le_toNat c)
theorem ar16 {a b:Nat}{c:Int}(h:a=b) (i:0≤c+(b:Int)):-(a:Int)≤c:=Int.le_of_not_gt fun z=>lxI (Ri3 a b c) (Cc3 V1 V0 N0 (.a V2 V1) (As V2) (.g V0)) rfl (Int.ofNat_le.mpr (Nat.le_of_eq h.symm) :) i z
theorem ar17 {a:Nat}{b:Int}(h:a≤2 ^ 20) (i:0≤b+(a:Int)):-2 ^ 63≤b:=Int.le_of_not_gt fun z=>lxI (Ri2 a b) (Cc3 V0 (.n 1048576) N0 (.a V1 V0) (As V1) (.g (.n 9223372036854775808))) rfl (Int.ofNat_le.mpr h :) i z
theorem ar18 {a:Nat}{b:Int}(h:a≤2 ^ 20) (i:-(a:Int)≤b):-2 ^ 63≤b:=Int.le_of_not_gt fun z=>lxI (Ri2 a b) (Cc3 V0 (.n 1048576) (.g V0) V1 (As V1) (.g (.n 9223372036854775808))) rfl (Int.ofNat_le.mpr h :) i z
theorem ar19 {a:Nat}{b:Int}(h:a≤2 ^ 20) (i:b<(a:Int)):b<2 ^ 63:=Int.lt_of_not_ge fun z=>lxI (Ri2 a b) (Cc3 V0 (.n 1048576) (As V1) V0 (.n 9223372036854775808) V1) rfl (Int.ofNat_le.mpr h :) i z
theorem ar20 {a:Nat}{b:Int}(h:-(a:Int)≤b) (i:b<(a:Int)) (j:a≤2 ^ 20):(-9223372036854775808:Int)≤b∧b<(9223372036854775808:Int):=⟨Int.le_of_not_gt fun z=>lxI (Ri2 a b) (Cc3 (.g V0) V1 V0 (.n 1048576) (As V1) (.g (.n 9223372036854775808))) rfl h (Int.ofNat_le.mpr j :) z,Int.lt_of_not_ge fun z=>lxI (Ri2 a b) (Cc3 (As V1) V0 V0 (.n 1048576) (.n 9223372036854775808) V1) rfl i (Int.ofNat_le.mpr j :) z⟩
theorem G9 {a b c:Nat}(h:a=b) (i:b≤c):a≤c:=Nat.le_of_not_lt fun z=>lxN (Mn3 a b c) (Cc3 V0 V1 V1 V2 (As V2) V0) rfl (Nat.le_of_eq h) i z
theorem ar22 {a b c:Nat}(h:a≤b) (i:b≤c):a≤c:=Nat.le_of_not_lt fun z=>lxN (Mn3 a b c) (Cc3 V0 V1 V1 V2 (As V2) V0) rfl h i z
theorem ar23 {a b:Int}:a≤b∨b≤a:=Int.le_total _ _
theorem ar24 {a b:Int}(h:a≤b) (i:b≤a):a=b:=Int.le_antisymm (Int.le_of_not_gt fun z=>lxI (Ri2 a b) (Cc2 V0 V1 (As V1) V0) rfl h z) (Int.le_of_not_gt fun z=>lxI (Ri2 a b) (Cc2 V1 V0 (As V0) V1) rfl i z)
theorem ar25 {a b:Nat}(h:a<64) (i:b=a):b<64:=Nat.lt_of_not_le fun z=>lxN (Mn2 a b) (Cc3 (As V0) (.n 64) V1 V0 (.n 64) V1) rfl h (Nat.le_of_eq i) z
theorem ar26 {a b:Nat}:a+b≤a+(b+1):=Nat.le_of_not_lt fun z=>lxN (Mn2 a b) (Cc1 (As (.a V0 (As V1))) (.a V0 V1)) rfl z
theorem ar27 {a b:Nat}:a+1+b≤a+(b+1):=Nat.le_of_not_lt fun z=>lxN (Mn2 a b) (Cc1 (As (.a V0 (As V1))) (.a (As V0) V1)) rfl z
theorem ar28 {a b c:Nat}(h:a+(b+1)=c):a<c:=Nat.lt_of_not_le fun z=>lxN (Mn3 a b c) (Cc2 (.a V0 (As V1)) V2 V2 V0) rfl (Nat.le_of_eq h) z
theorem ar29 {a b c:Nat}(h:a+(b+1)+1<c):a+1<c:=Nat.lt_of_not_le fun z=>lxN (Mn3 a b c) (Cc2 (As (As (.a V0 (As V1)))) V2 V2 (As V0)) rfl h z
theorem ar30 {a b c:Nat}(h:a+(b+1)=c):a+1+b=c:=Nat.le_antisymm (Nat.le_of_not_lt fun z=>lxN (Mn3 a b c) (Cc2 (.a V0 (As V1)) V2 (As V2) (.a (As V0) V1)) rfl (Nat.le_of_eq h) z) (Nat.le_of_not_lt fun z=>lxN (Mn3 a b c) (Cc2 V2 (.a V0 (As V1)) (As (.a (As V0) V1)) V2) rfl (Nat.le_of_eq h.symm) z)
theorem ar31 {a b c:Nat}(h:a+(b+1)+1<c):a+b+1<c:=Nat.lt_of_not_le fun z=>lxN (Mn3 a b c) (Cc2 (As (As (.a V0 (As V1)))) V2 V2 (As (.a V0 V1))) rfl h z
theorem ar32 {a b c:Nat}(h:a+(b+1)+1<c):a+1+b+1<c:=Nat.lt_of_not_le fun z=>lxN (Mn3 a b c) (Cc2 (As (As (.a V0 (As V1)))) V2 V2 (As (.a (As V0) V1))) rfl h z
theorem ar33 {a b:Nat}(h:a=b):0+a=b:=Nat.le_antisymm (Nat.le_of_not_lt fun z=>lxN (Mn2 a b) (Cc2 V0 V1 (As V1) (.a N0 V0)) rfl (Nat.le_of_eq h) z) (Nat.le_of_not_lt fun z=>lxN (Mn2 a b) (Cc2 V1 V0 (As (.a N0 V0)) V1) rfl (Nat.le_of_eq h.symm) z)
theorem ar34 {a b:Nat}(h:a+1=b):0<b:=Nat.lt_of_not_le fun z=>lxN (Mn2 a b) (Cc2 (As V0) V1 V1 N0) rfl (Nat.le_of_eq h) z
theorem ar35 {a b:Nat}(h:a+1=b):a=b-1:=Nat.le_antisymm (Nat.le_of_not_lt fun z=>lxN (Mn3 a b ((b-(1:Nat)):Nat)) (Cc3 (As V0) V1 (As V2) V0 V1 (As V2)) rfl (Nat.le_of_eq h) z (Nat.le_add_of_sub_le (Nat.le_refl (b-(1:Nat))))) (Nat.le_of_not_lt fun z=>lxN (Mn3 a b ((b-(1:Nat)):Nat)) (Cc3 V1 (As V0) (As V0) V2 (As V2) V1) rfl (Nat.le_of_eq h.symm) z (Nat.le_of_eq (Nat.sub_add_cancel (Nat.le_of_not_lt fun q=>lxN (Mn2 a b) (Cc2 (As V0) V1 (As V1) N1) rfl (Nat.le_of_eq h) q))))
theorem ar36 {a b c:Nat}(h:a=b) (i:c+1≤b):c<a:=Nat.lt_of_not_le fun z=>lxN (Mn3 a b c) (Cc3 V1 V0 (As V2) V1 V0 V2) rfl (Nat.le_of_eq h.symm) i z
theorem ar37 {a b:Nat}(h:¬a<b):b≤a:=Nat.le_of_not_lt fun z=>lxN (Mn2 a b) (Cc2 V1 V0 (As V0) V1) rfl (Nat.le_of_not_lt h) z
theorem ar38 {a b:Nat}(h:a=a+b):b=0:=Nat.le_antisymm (Nat.le_of_not_lt fun z=>lxN (Mn2 a b) (Cc2 (.a V0 V1) V0 (As N0) V1) rfl (Nat.le_of_eq h.symm) z) (Nat.le_of_not_lt fun z=>lxN (Mn2 a b) (Cc2 V0 (.a V0 V1) (As V1) N0) rfl (Nat.le_of_eq h) z)
theorem ar39 {a b:Nat}(h:a<64) (i:b=a):b+1<4096:=Nat.lt_of_not_le fun z=>lxN (Mn2 a b) (Cc3 (As V0) (.n 64) V1 V0 (.n 4096) (As V1)) rfl h (Nat.le_of_eq i) z
theorem ar40 {a b c d e:Nat}(h:a<64) (i:b=a) (j:c=d) (k:e=c) (l:d≤b):e<64:=Nat.lt_of_not_le fun z=>lxN (Mn5 a b c d e) (Cc6 (As V0) (.n 64) V1 V0 V2 V3 V4 V2 V3 V1 (.n 64) V4) rfl h (Nat.le_of_eq i) (Nat.le_of_eq j) (Nat.le_of_eq k) l z
theorem ar41 {a b c:Nat}(h:a+(b+1)≤c):a≤c:=Nat.le_of_not_lt fun z=>lxN (Mn3 a b c) (Cc2 (.a V0 (As V1)) V2 (As V2) V0) rfl h z
theorem ar42 {a b c:Nat}(h:a=b+(c+1)):a=b+1+c:=Nat.le_antisymm (Nat.le_of_not_lt fun z=>lxN (Mn3 a b c) (Cc2 V0 (.a V1 (As V2)) (As (.a (As V1) V2)) V0) rfl (Nat.le_of_eq h) z) (Nat.le_of_not_lt fun z=>lxN (Mn3 a b c) (Cc2 (.a V1 (As V2)) V0 (As V0) (.a (As V1) V2)) rfl (Nat.le_of_eq h.symm) z)
theorem ar43 {a b c d:Nat}(h:a+(b+1)≤c) (i:d≤a+1):d+b≤c:=Nat.le_of_not_lt fun z=>lxN (Mn4 a b c d) (Cc3 (.a V0 (As V1)) V2 V3 (As V0) (As V2) (.a V3 V1)) rfl h i z
theorem ar44 {a b:Nat}:a+1+b=a+(b+1):=Nat.le_antisymm (Nat.le_of_not_lt fun z=>lxN (Mn2 a b) (Cc1 (As (.a V0 (As V1))) (.a (As V0) V1)) rfl z) (Nat.le_of_not_lt fun z=>lxN (Mn2 a b) (Cc1 (As (.a (As V0) V1)) (.a V0 (As V1))) rfl z)
theorem ar45 {a b c:Nat}(h:a=b) (i:c=b):c=a:=Nat.le_antisymm (Nat.le_of_not_lt fun z=>lxN (Mn3 a b c) (Cc3 V1 V0 V2 V1 (As V0) V2) rfl (Nat.le_of_eq h.symm) (Nat.le_of_eq i) z) (Nat.le_of_not_lt fun z=>lxN (Mn3 a b c) (Cc3 V0 V1 V1 V2 (As V2) V0) rfl (Nat.le_of_eq h) (Nat.le_of_eq i.symm) z)
theorem ar46 {a:Nat}(h:a≤2 ^ 20):(a:Int)<2 ^ 63:=Int.lt_of_not_ge fun z=>lxI (Ri1 a) (Cc2 V0 (.n 1048576) (.n 9223372036854775808) V0) rfl (Int.ofNat_le.mpr h :) z
theorem ar47 {a b:Nat}(h:a=b) (i:(b:Int)<2 ^ 63):(a:Int)<9223372036854775808:=Int.lt_of_not_ge fun z=>lxI (Ri2 a b) (Cc3 V0 V1 (As V1) (.n 9223372036854775808) (.n 9223372036854775808) V0) rfl (Int.ofNat_le.mpr (Nat.le_of_eq h) :) i z
theorem ar48 {a:Nat}(h:(a:Int)<2 ^ 63):¬(a:Int)≥(2:Int) ^ (63:Nat):=fun g=>lxI (Ri1 a) (Cc2 (As V0) (.n 9223372036854775808) (.n 9223372036854775808) V0) rfl h g
theorem ar49 {a b:Nat}(h:a=b) (i:(b:Int)<2 ^ 63):(a:Int)<2 ^ 63:=Int.lt_of_not_ge fun z=>lxI (Ri2 a b) (Cc3 V0 V1 (As V1) (.n 9223372036854775808) (.n 9223372036854775808) V0) rfl (Int.ofNat_le.mpr (Nat.le_of_eq h) :) i z
theorem ar50 {a b:Int}(h:a<b):a=min b a:=Int.le_antisymm (Int.le_of_not_gt fun z=>(Int.le_total b a).elim (fun q0=>lxI (Ri2 a b) (Cc2 (As V0) V1 V1 V0) rfl h q0) fun q0=>lxI (Ri2 a ((min b a):Int)) (Cc2 (As V1) V0 V0 V1) rfl z (Int.le_of_eq (Int.min_eq_right q0).symm)) (Int.le_of_not_gt fun z=>lxI (Ri2 a ((min b a):Int)) (Cc2 (As V0) V1 V1 V0) rfl z (Int.min_le_right b a))
theorem ar51 {a b:Int}(h:¬a<b):b=min b a:=Int.le_antisymm (Int.le_of_not_gt fun z=>(Int.le_total b a).elim (fun q0=>lxI (Ri2 b ((min b a):Int)) (Cc2 (As V1) V0 V0 V1) rfl z (Int.le_of_eq (Int.min_eq_left q0).symm)) fun q0=>lxI (Ri3 a b ((min b a):Int)) (Cc3 V1 V0 (As V2) V1 V0 V2) rfl (Int.le_of_not_gt h) z (Int.le_of_eq (Int.min_eq_right q0).symm)) (Int.le_of_not_gt fun z=>lxI (Ri2 b ((min b a):Int)) (Cc2 (As V0) V1 V1 V0) rfl z (Int.min_le_left b a))
theorem ar52 {a b:Int}(h:a > b):a=max b a:=Int.le_antisymm (Int.le_of_not_gt fun z=>lxI (Ri2 a ((max b a):Int)) (Cc2 (As V1) V0 V0 V1) rfl z (Int.le_max_right b a)) (Int.le_of_not_gt fun z=>(Int.le_total b a).elim (fun q0=>lxI (Ri2 a ((max b a):Int)) (Cc2 (As V0) V1 V1 V0) rfl z (Int.le_of_eq (Int.max_eq_right q0))) fun q0=>lxI (Ri2 a b) (Cc2 (As V1) V0 V0 V1) rfl h q0)
theorem ar53 {a b:Int}(h:¬a > b):b=max b a:=Int.le_antisymm (Int.le_of_not_gt fun z=>lxI (Ri2 b ((max b a):Int)) (Cc2 (As V1) V0 V0 V1) rfl z (Int.le_max_left b a)) (Int.le_of_not_gt fun z=>(Int.le_total b a).elim (fun q0=>lxI (Ri3 a b ((max b a):Int)) (Cc3 V0 V1 (As V1) V2 V2 V0) rfl (Int.le_of_not_gt h) z (Int.le_of_eq (Int.max_eq_right q0))) fun q0=>lxI (Ri2 b ((max b a):Int)) (Cc2 (As V0) V1 V1 V0) rfl z (Int.le_of_eq (Int.max_eq_left q0)))
theorem ar54 {a b c:Nat}(h:a=b+(c+1)):b<a:=Nat.lt_of_not_le fun z=>lxN (Mn3 a b c) (Cc2 (.a V1 (As V2)) V0 V0 V1) rfl (Nat.le_of_eq h.symm) z
theorem ar55 {a b:Int}(h:a<b):b=max a b:=Int.le_antisymm (Int.le_of_not_gt fun z=>lxI (Ri2 b ((max a b):Int)) (Cc2 (As V1) V0 V0 V1) rfl z (Int.le_max_right a b)) (Int.le_of_not_gt fun z=>(Int.le_total a b).elim (fun q0=>lxI (Ri2 b ((max a b):Int)) (Cc2 (As V0) V1 V1 V0) rfl z (Int.le_of_eq (Int.max_eq_right q0))) fun q0=>lxI (Ri2 a b) (Cc2 (As V0) V1 V1 V0) rfl h q0)
theorem ar56 {a b:Int}(h:¬a<b):a=max a b:=Int.le_antisymm (Int.le_of_not_gt fun z=>lxI (Ri2 a ((max a b):Int)) (Cc2 (As V1) V0 V0 V1) rfl z (Int.le_max_left a b)) (Int.le_of_not_gt fun z=>(Int.le_total a b).elim (fun q0=>lxI (Ri3 a b ((max a b):Int)) (Cc3 V1 V0 (As V0) V2 V2 V1) rfl (Int.le_of_not_gt h) z (Int.le_of_eq (Int.max_eq_right q0))) fun q0=>lxI (Ri2 a ((max a b):Int)) (Cc2 (As V0) V1 V1 V0) rfl z (Int.le_of_eq (Int.max_eq_left q0)))
theorem ar57 {a b c:Nat}(h:a=b) (i:c<a):c<b:=Nat.lt_of_not_le fun z=>lxN (Mn3 a b c) (Cc3 V0 V1 (As V2) V0 V1 V2) rfl (Nat.le_of_eq h) i z
theorem ar58 {a:Nat}:a+1=1+a:=Nat.le_antisymm (Nat.le_of_not_lt fun z=>lxN (Mn1 a) (Cc1 (As (.a N1 V0)) (As V0)) rfl z) (Nat.le_of_not_lt fun z=>lxN (Mn1 a) (Cc1 (As (As V0)) (.a N1 V0)) rfl z)
theorem ar59 {a b c:Nat}(h:a+4*b+100<c):a+1+min 0 0<c:=Nat.lt_of_not_le fun z=>lxN (Mn4 a b c ((min (0:Nat) (0:Nat)):Nat)) (Cc3 (As (.a (.a V0 (.m 4 V1)) (.n 100))) V2 V2 (.a (As V0) V3) V3 N0) rfl h z (Nat.min_le_left (0:Nat) (0:Nat))
theorem ar60 {a b c:Nat}(h:a≤2 ^ 20) (i:b=a) (j:c<b):(c:Int)<2 ^ 63-1:=Int.lt_of_not_ge fun z=>lxI (Ri3 a b c) (Cc4 V0 (.n 1048576) V1 V0 (As V2) V1 (.n 9223372036854775807) V2) rfl (Int.ofNat_le.mpr h :) (Int.ofNat_le.mpr (Nat.le_of_eq i) :) (Int.ofNat_le.mpr j :) z
theorem ar61 {a b c:Nat}(h:a+b≤c):a≤c:=Nat.le_of_not_lt fun z=>lxN (Mn3 a b c) (Cc2 (.a V0 V1) V2 (As V2) V0) rfl h z
theorem ar62 {a b c:Nat}(h:a+b≤c):¬a+b > c:=fun g=>lxN (Mn3 a b c) (Cc2 (.a V0 V1) V2 (As V2) (.a V0 V1)) rfl h g
theorem ar63 {a b:Nat}(h:(a:Int)=(b:Int)):a=b:=Nat.le_antisymm (Nat.le_of_not_lt fun z=>lxI (Ri2 a b) (Cc2 V0 V1 (As V1) V0) rfl (Int.le_of_eq h) (Int.ofNat_le.mpr z :)) (Nat.le_of_not_lt fun z=>lxI (Ri2 a b) (Cc2 V1 V0 (As V0) V1) rfl (Int.le_of_eq h.symm) (Int.ofNat_le.mpr z :))
theorem ar64 {a b c:Nat}(h:(a:Int)<(0:Int)∧(a:Int)+(b:Int)=(c:Int)):a=c:=Nat.le_antisymm (Nat.le_of_not_lt fun z=>lxI (Ri1 a) (Cc2 (As V0) N0 N0 V0) rfl h.1 (Int.natCast_nonneg a)) (Nat.le_of_not_lt fun z=>lxI (Ri1 a) (Cc2 (As V0) N0 N0 V0) rfl h.1 (Int.natCast_nonneg a))
theorem ar65 {a:Int}(h:0≤a):a=(↑a.toNat:Int):=Int.le_antisymm (Int.le_of_not_gt fun z=>lxI (Ri2 a ((a).toNat:Nat)) (Cc2 (As V1) V0 V0 V1) rfl z (Int.self_le_toNat a)) (Int.le_of_not_gt fun z=>lxI (Ri2 a ((a).toNat:Nat)) (Cc2 (As V0) V1 V1 V0) rfl z (Int.le_of_eq (Int.toNat_of_nonneg (Int.le_of_not_gt fun q=>lxI (Ri1 a) (Cc2 N0 V0 (As V0) N0) rfl h q))))
theorem ar66 {a b:Nat}{c:Int}(h:a=b) (i:¬(0:Int)≤c) (j:0≤c+(b:Int)):(c+(b:Int)).toNat<a:=Nat.lt_of_not_le fun z=>lxI (Ri4 a b c (((c+((↑b):Int))).toNat:Nat)) (Cc4 V1 V0 (As V2) N0 V0 V3 V3 (.a V2 V1)) rfl (Int.ofNat_le.mpr (Nat.le_of_eq h.symm) :) (Int.lt_of_not_ge i) (Int.ofNat_le.mpr z :) (Int.le_of_eq (Int.toNat_of_nonneg (Int.le_of_not_gt fun q=>lxI (Ri2 b c) (Cc2 N0 (.a V1 V0) (As (.a V1 V0)) N0) rfl j q)))
theorem ar67 {a b:Nat}{c:Int}(h:a=b) (i:0≤c+(b:Int)):c+(a:Int)=(↑(c+(b:Int)).toNat:Int):=Int.le_antisymm (Int.le_of_not_gt fun z=>lxI (Ri4 a b c (((c+((↑b):Int))).toNat:Nat)) (Cc3 V0 V1 (As V3) (.a V2 V0) (.a V2 V1) V3) rfl (Int.ofNat_le.mpr (Nat.le_of_eq h) :) z (Int.self_le_toNat (c+((↑b):Int)))) (Int.le_of_not_gt fun z=>lxI (Ri4 a b c (((c+((↑b):Int))).toNat:Nat)) (Cc3 V1 V0 (As (.a V2 V0)) V3 V3 (.a V2 V1)) rfl (Int.ofNat_le.mpr (Nat.le_of_eq h.symm) :) z (Int.le_of_eq (Int.toNat_of_nonneg (Int.le_of_not_gt fun q=>lxI (Ri2 b c) (Cc2 N0 (.a V1 V0) (As (.a V1 V0)) N0) rfl i q))))
theorem ar68 {a b c:Nat}{d:Int}(h:a≤2 ^ 20) (i:b=a) (j:c<b) (k:d=(c:Int)∨d<(0:Int)∧d+(b:Int)=(c:Int)):-(2:Int) ^ (63:Nat)≤d∧d<(2:Int) ^ (63:Nat):=⟨Int.le_of_not_gt fun z=>k.elim (fun q=>lxI (Ri2 c d) (Cc3 (As V1) (.g (.n 9223372036854775808)) V0 V1 N0 V0) rfl z (Int.le_of_eq q.symm) (Int.natCast_nonneg c)) fun q=>lxI (Ri4 a b c d) (Cc5 V0 (.n 1048576) V1 V0 (As V3) (.g (.n 9223372036854775808)) V2 (.a V3 V1) N0 V2) rfl (Int.ofNat_le.mpr h :) (Int.ofNat_le.mpr (Nat.le_of_eq i) :) z (Int.le_of_eq q.2.symm) (Int.natCast_nonneg c),Int.lt_of_not_ge fun z=>k.elim (fun q=>lxI (Ri4 a b c d) (Cc5 V0 (.n 1048576) V1 V0 (As V2) V1 (.n 9223372036854775808) V3 V3 V2) rfl (Int.ofNat_le.mpr h :) (Int.ofNat_le.mpr (Nat.le_of_eq i) :) (Int.ofNat_le.mpr j :) z (Int.le_of_eq q)) fun q=>lxI (Ri1 d) (Cc2 (.n 9223372036854775808) V0 (As V0) N0) rfl z q.1⟩
theorem ar69 {a b c:Nat}(h:a+4*b+100<c):a<c:=Nat.lt_of_not_le fun z=>lxN (Mn3 a b c) (Cc2 (As (.a (.a V0 (.m 4 V1)) (.n 100))) V2 V2 V0) rfl h z
theorem ar70 {a b c d:Nat}(h:a=b) (i:c=d) (j:¬b=d):a≠c:=fun g=>(Nat.lt_or_gt_of_ne j).elim (fun q=>lxN (Mn4 a b c d) (Cc4 V0 V1 V3 V2 V2 V0 (As V1) V3) rfl (Nat.le_of_eq h) (Nat.le_of_eq i.symm) (Nat.le_of_eq g.symm) q) fun q=>lxN (Mn4 a b c d) (Cc4 V1 V0 V2 V3 V0 V2 (As V3) V1) rfl (Nat.le_of_eq h.symm) (Nat.le_of_eq i) (Nat.le_of_eq g) q
theorem ar71 {a b:Nat}(h:a≤25) (i:b=a):b+0+0<30:=Nat.lt_of_not_le fun z=>lxN (Mn2 a b) (Cc3 V0 (.n 25) V1 V0 (.n 30) (.a (.a V1 N0) N0)) rfl h (Nat.le_of_eq i) z
theorem ar72 {a b c:Nat}(h:a=b) (i:a-1-c<a):a-1-c<b:=Nat.lt_of_not_le fun z=>lxN (Mn3 a b (((a-(1:Nat))-c):Nat)) (Cc3 V0 V1 (As V2) V0 V1 V2) rfl (Nat.le_of_eq h) i z
theorem ar73 {a b c:Nat}(h:a=b):b-1-c=a-1-c:=h▸rfl
theorem ar74 {a b:Nat}(h:a<b):b+1-(a+1)<b+1-a:=Nat.lt_of_not_le fun z=>lxN (Mn4 a b (((b+(1:Nat))-a):Nat) (((b+(1:Nat))-(a+(1:Nat))):Nat)) (Cc3 V2 V3 (As V1) (.a V2 V0) (.a V3 (As V0)) (As V1)) rfl z (Nat.le_add_of_sub_le (Nat.le_refl ((b+(1:Nat))-a))) (Nat.le_of_eq (Nat.sub_add_cancel (Nat.le_of_not_lt fun q=>lxN (Mn2 a b) (Cc2 (As V0) V1 (As (As V1)) (As V0)) rfl h q)))
theorem ar75 {a b c d e:Nat}(h:a≤b) (i:b<c) (j:d=a) (k:c≤e):d≤e:=Nat.le_of_not_lt fun z=>lxN (Mn5 a b c d e) (Cc5 V0 V1 (As V1) V2 V3 V0 V2 V4 (As V4) V3) rfl h i (Nat.le_of_eq j) k z
theorem ar76 {a b:Nat}(h:a≤b) (i:¬a<b):a=b:=Nat.le_antisymm (Nat.le_of_not_lt fun z=>lxN (Mn2 a b) (Cc2 V0 V1 (As V1) V0) rfl h z) (Nat.le_of_not_lt fun z=>lxN (Mn2 a b) (Cc2 V1 V0 (As V0) V1) rfl (Nat.le_of_not_lt i) z)
theorem ar77 {a b c:Nat}(h:a+2*b+2<c):a+1+2*b+1<c:=Nat.lt_of_not_le fun z=>lxN (Mn3 a b c) (Cc2 (As (.a (.a V0 (.m 2 V1)) (.n 2))) V2 V2 (As (.a (As V0) (.m 2 V1)))) rfl h z
theorem ar78 {a b c:Nat}(h:a+4*b+100<c):a+1+4*b+99<c:=Nat.lt_of_not_le fun z=>lxN (Mn3 a b c) (Cc2 (As (.a (.a V0 (.m 4 V1)) (.n 100))) V2 V2 (.a (.a (As V0) (.m 4 V1)) (.n 99))) rfl h z
theorem ar79 {a b:Nat}(h:a=b):¬a > b:=fun g=>lxN (Mn2 a b) (Cc2 V0 V1 (As V1) V0) rfl (Nat.le_of_eq h) g
theorem ar80 {a b:Nat}(h:a=b):b≤a:=Nat.le_of_not_lt fun z=>lxN (Mn2 a b) (Cc2 V1 V0 (As V0) V1) rfl (Nat.le_of_eq h.symm) z
theorem ar81 {a b c:Nat}(h:a+2*(b+1)+1<c):a<c:=Nat.lt_of_not_le fun z=>lxN (Mn3 a b c) (Cc2 (.a (As (.a V0 (.m 2 (As V1)))) N1) V2 V2 V0) rfl h z
theorem ar82 {a b c:Nat}(h:a+2*(b+1)+1<c):a+1+2*b+2<c:=Nat.lt_of_not_le fun z=>lxN (Mn3 a b c) (Cc2 (.a (As (.a V0 (.m 2 (As V1)))) N1) V2 V2 (.a (.a (As V0) (.m 2 V1)) (.n 2))) rfl h z
theorem ar83 {a b c:Nat}(h:a+4*(b+1)+99<c):a+3+4*b+100<c:=Nat.lt_of_not_le fun z=>lxN (Mn3 a b c) (Cc2 (.a (.a (.a V0 (.m 4 (As V1))) (.n 99)) N1) V2 V2 (.a (.a (.a V0 (.n 3)) (.m 4 V1)) (.n 100))) rfl h z
theorem ar84 {a:Int}(h:(-1000000000000:Int)≤a∧a≤(1000000000000:Int)):-2 ^ 63≤a:=Int.le_of_not_gt fun z=>lxI (Ri1 a) (Cc2 (.g (.n 1000000000000)) V0 (As V0) (.g (.n 9223372036854775808))) rfl h.1 z
theorem ar85 {a:Int}(h:(-1000000000000:Int)≤a∧a≤(1000000000000:Int)):a<2 ^ 63:=Int.lt_of_not_ge fun z=>lxI (Ri1 a) (Cc2 V0 (.n 1000000000000) (.n 9223372036854775808) V0) rfl h.2 z
theorem ar86 {a:Int}(h:(0:Int)<a∧a≤(1000000000000:Int)):a≠0:=fun g=>lxI (Ri1 a) (Cc2 (As N0) V0 V0 N0) rfl h.1 (Int.le_of_eq g)
theorem ar87 {a:Int}(h:(0:Int)<a∧a≤(1000000000000:Int)):-2 ^ 63≤a:=Int.le_of_not_gt fun z=>lxI (Ri1 a) (Cc2 (As N0) V0 (As V0) (.g (.n 9223372036854775808))) rfl h.1 z
theorem ar88 {a:Int}(h:(0:Int)<a∧a≤(1000000000000:Int)):a<2 ^ 63:=Int.lt_of_not_ge fun z=>lxI (Ri1 a) (Cc2 V0 (.n 1000000000000) (.n 9223372036854775808) V0) rfl h.2 z
theorem ar89 {a:Int}(h:0<a):a≠0:=fun g=>lxI (Ri1 a) (Cc2 (As N0) V0 V0 N0) rfl h (Int.le_of_eq g)
theorem ar90 {a:Nat}(h:a≤100000):a≤2 ^ 20:=Nat.le_of_not_lt fun z=>lxN (Mn1 a) (Cc2 V0 (.n 100000) (As (.n 1048576)) V0) rfl h z
theorem ar91 {a:Int}{b:Nat}(h:0≤a) (i:a<(b:Int)):a.toNat<b:=Nat.lt_of_not_le fun z=>lxI (Ri3 a b ((a).toNat:Nat)) (Cc3 (As V0) V1 V1 V2 V2 V0) rfl i (Int.ofNat_le.mpr z :) (Int.le_of_eq (Int.toNat_of_nonneg (Int.le_of_not_gt fun q=>lxI (Ri1 a) (Cc2 N0 V0 (As V0) N0) rfl h q)))
theorem ar93 (h:(0:Nat)<(0:Nat)):False:=lxN .z (.c (.a (.n 0) (.n 1)) (.n 0) .z) rfl h
theorem ar94 {a:Nat}(h:a≤63):a≤1048576:=Nat.le_of_not_lt fun z=>lxN (Mn1 a) (Cc2 V0 (.n 63) (As (.n 1048576)) V0) rfl h z
theorem ar95 {a:Nat}{b:Int}:min 1 (a-b.toNat)≤99999:=Nat.le_of_not_lt fun z=>lxI (Ri1 ((min (1:Nat) (a-(b).toNat)):Nat)) (Cc2 (As (.n 99999)) V0 V0 N1) rfl (Int.ofNat_le.mpr z :) (Int.ofNat_le.mpr (Nat.min_le_left (1:Nat) (a-(b).toNat)) :)
theorem ar96 {a:Nat}{b:Int}:min 1 (a-b.toNat)≤1048575:=Nat.le_of_not_lt fun z=>lxI (Ri1 ((min (1:Nat) (a-(b).toNat)):Nat)) (Cc2 (As (.n 1048575)) V0 V0 N1) rfl (Int.ofNat_le.mpr z :) (Int.ofNat_le.mpr (Nat.min_le_left (1:Nat) (a-(b).toNat)) :)
theorem ar97 {a:Int}{b:Nat}(h:¬a.toNat<b):b≤a.toNat:=Nat.le_of_not_lt fun z=>lxI (Ri2 b ((a).toNat:Nat)) (Cc2 V0 V1 (As V1) V0) rfl (Int.ofNat_le.mpr (Nat.le_of_not_lt h) :) (Int.ofNat_le.mpr z :)
theorem ar98 {a:Nat}(h:a≤1000):a≤1048576:=Nat.le_of_not_lt fun z=>lxN (Mn1 a) (Cc2 V0 (.n 1000) (As (.n 1048576)) V0) rfl h z
theorem ar99 {a:Int}(h:a > 1):0<a-1:=Int.lt_of_not_ge fun z=>lxI (Ri1 a) (Cc2 (As N1) V0 (.s V0 N1) N0) rfl h z
theorem ar100 {a b:Int}(h:(0:Int)≤a∧a<b-(1:Int)):1≤1+a:=Int.le_of_not_gt fun z=>lxI (Ri1 a) (Cc2 N0 V0 (As (.a N1 V0)) N1) rfl h.1 z
theorem ar101 {a b:Int}(h:(0:Int)≤a∧a<b-(1:Int)):1+a<b:=Int.lt_of_not_ge fun z=>lxI (Ri2 a b) (Cc2 (As V0) (.s V1 N1) V1 (.a N1 V0)) rfl h.2 z
theorem ar102 {a:Nat}(h:(97:Nat)≤a∧a≤(122:Nat)):a<1114112:=Nat.lt_of_not_le fun z=>lxN (Mn1 a) (Cc2 V0 (.n 122) (.n 1114112) V0) rfl h.2 z
theorem ar103 {a b:Nat}(h:a=0):1+a+(b+1)=b+1+1:=Nat.le_antisymm (Nat.le_of_not_lt fun z=>lxN (Mn2 a b) (Cc2 V0 N0 (As (As (As V1))) (.a (.a N1 V0) (As V1))) rfl (Nat.le_of_eq h) z) (Nat.le_of_not_lt fun z=>lxN (Mn2 a b) (Cc2 N0 V0 (As (.a (.a N1 V0) (As V1))) (As (As V1))) rfl (Nat.le_of_eq h.symm) z)
theorem ar104 {a:Int}(h:(0:Int)≤a∧a<(7:Int)):((a-0+1-1) / 1).toNat≤6:=Nat.le_of_not_lt fun z=>lxI (Ri3 a (((((a-(0:Int))+(1:Int))-(1:Int)) / (1:Int)):Int) ((((((a-(0:Int))+(1:Int))-(1:Int)) / (1:Int))).toNat:Nat)) (Cc4 (As V0) (.n 7) (As (.n 6)) V2 (.m 1 V1) (.s (As (.s V0 N0)) N1) V2 V1) rfl h.2 (Int.ofNat_le.mpr z :) (Int.mul_ediv_self_le (x:=(((a-(0:Int))+(1:Int))-(1:Int))) (k:=(1:Int)) (by decide)) (Int.le_of_eq (Int.toNat_of_nonneg (Int.le_of_not_gt fun q=>lxI (Ri2 a (((((a-(0:Int))+(1:Int))-(1:Int)) / (1:Int)):Int)) (Cc3 N0 V0 (As (.s (As (.s V0 N0)) N1)) (As (.m 1 V1)) (As V1) N0) rfl h.1 (Int.lt_mul_ediv_self_add (x:=(((a-(0:Int))+(1:Int))-(1:Int))) (k:=(1:Int)) (by decide)) q)))
theorem ar105 {a:Int}(h:(0:Int)≤a∧a<(2:Int)):(-1000000000000:Int)≤a∧a≤(1000000000000:Int):=⟨Int.le_of_not_gt fun z=>lxI (Ri1 a) (Cc2 N0 V0 (As V0) (.g (.n 1000000000000))) rfl h.1 z,Int.le_of_not_gt fun z=>lxI (Ri1 a) (Cc2 (As V0) (.n 2) (As (.n 1000000000000)) V0) rfl h.2 z⟩
theorem ar106 {a:Int}(h:(0:Int)≤a∧a<(7:Int)):-(2:Int) ^ (62:Nat)≤a∧a<(2:Int) ^ (62:Nat):=⟨Int.le_of_not_gt fun z=>lxI (Ri1 a) (Cc2 N0 V0 (As V0) (.g (.n 4611686018427387904))) rfl h.1 z,Int.lt_of_not_ge fun z=>lxI (Ri1 a) (Cc2 (As V0) (.n 7) (.n 4611686018427387904) V0) rfl h.2 z⟩
theorem ar107 {a:Int}(h:(0:Int)≤a∧a<(7:Int)):((a-0+1-1) / 1).toNat≤100000:=Nat.le_of_not_lt fun z=>lxI (Ri3 a (((((a-(0:Int))+(1:Int))-(1:Int)) / (1:Int)):Int) ((((((a-(0:Int))+(1:Int))-(1:Int)) / (1:Int))).toNat:Nat)) (Cc4 (As V0) (.n 7) (As (.n 100000)) V2 (.m 1 V1) (.s (As (.s V0 N0)) N1) V2 V1) rfl h.2 (Int.ofNat_le.mpr z :) (Int.mul_ediv_self_le (x:=(((a-(0:Int))+(1:Int))-(1:Int))) (k:=(1:Int)) (by decide)) (Int.le_of_eq (Int.toNat_of_nonneg (Int.le_of_not_gt fun q=>lxI (Ri2 a (((((a-(0:Int))+(1:Int))-(1:Int)) / (1:Int)):Int)) (Cc3 N0 V0 (As (.s (As (.s V0 N0)) N1)) (As (.m 1 V1)) (As V1) N0) rfl h.1 (Int.lt_mul_ediv_self_add (x:=(((a-(0:Int))+(1:Int))-(1:Int))) (k:=(1:Int)) (by decide)) q)))
theorem ar108 {a:Nat}:1+a=a+1:=Nat.le_antisymm (Nat.le_of_not_lt fun z=>lxN (Mn1 a) (Cc1 (As (As V0)) (.a N1 V0)) rfl z) (Nat.le_of_not_lt fun z=>lxN (Mn1 a) (Cc1 (As (.a N1 V0)) (As V0)) rfl z)
theorem ar109 {a b:Nat}(h:a≤6) (i:b=a):b+a≤2 ^ 20:=Nat.le_of_not_lt fun z=>lxN (.c a (.c b .z)) (.k 2 (.v 0) (.n 6) (.c (.v 1) (.v 0) (.c (.a (.n 1048576) (.n 1)) (.a (.v 1) (.v 0)) .z))) rfl h (Nat.le_of_eq i) z
theorem ar110 {a b:Nat}(h:a≤6) (i:b=a):b≤100000:=Nat.le_of_not_lt fun z=>lxN (Mn2 a b) (Cc3 V0 (.n 6) V1 V0 (As (.n 100000)) V1) rfl h (Nat.le_of_eq i) z
theorem ar111 {a:Int}{b c:Nat}(h:(0:Int)≤a∧a<(b:Int)+(1:Int)) (i:b=c):a≤(c:Int):=Int.le_of_not_gt fun z=>lxI (Ri3 a b c) (Cc3 (As V0) (As V1) V1 V2 (As V2) V0) rfl h.2 (Int.ofNat_le.mpr (Nat.le_of_eq i) :) z
theorem ar112 {a:Int}{b:Nat}(h:(0:Int)≤a∧a<(b:Int)+(1:Int)):min a.toNat b=a.toNat:=Nat.le_antisymm (Nat.le_of_not_lt fun z=>lxI (Ri2 ((a).toNat:Nat) ((min (a).toNat b):Nat)) (Cc2 (As V0) V1 V1 V0) rfl (Int.ofNat_le.mpr z :) (Int.ofNat_le.mpr (Nat.min_le_left (a).toNat b) :)) (Nat.le_of_not_lt fun z=>(Int.le_total a 0).elim (fun q0=>lxI (Ri2 ((a).toNat:Nat) ((min (a).toNat b):Nat)) (Cc3 (As V1) V0 V0 N0 N0 V1) rfl (Int.ofNat_le.mpr z :) (Int.ofNat_le.mpr (Nat.le_of_eq (Int.toNat_of_nonpos q0)) :) (Int.natCast_nonneg (min (a).toNat b))) fun q0=>(Nat.le_total (a).toNat b).elim (fun q1=>lxI (Ri2 ((a).toNat:Nat) ((min (a).toNat b):Nat)) (Cc2 (As V1) V0 V0 V1) rfl (Int.ofNat_le.mpr z :) (Int.ofNat_le.mpr (Nat.le_of_eq (Nat.min_eq_left q1).symm) :)) fun q1=>lxI (Ri4 a b ((a).toNat:Nat) ((min (a).toNat b):Nat)) (Cc4 (As V0) (As V1) (As V3) V2 V2 V0 V1 V3) rfl h.2 (Int.ofNat_le.mpr z :) (Int.le_of_eq (Int.toNat_of_nonneg q0)) (Int.ofNat_le.mpr (Nat.le_of_eq (Nat.min_eq_right q1).symm) :))
theorem ar113 {a b:Nat}{c:Int}(h:a≤6) (i:b=a) (j:(0:Int)≤c∧c<(b:Int)+(1:Int)):c.toNat+1≤100000:=Nat.le_of_not_lt fun z=>lxI (Ri4 a b c ((c).toNat:Nat)) (Cc5 V0 (.n 6) V1 V0 (As V2) (As V1) (As (.n 100000)) (As V3) V3 V2) rfl (Int.ofNat_le.mpr h :) (Int.ofNat_le.mpr (Nat.le_of_eq i) :) j.2 (Int.ofNat_le.mpr z :) (Int.le_of_eq (Int.toNat_of_nonneg (Int.le_of_not_gt fun q=>lxI (Ri1 c) (Cc2 N0 V0 (As V0) N0) rfl j.1 q)))
theorem ar114 {a b:Nat}{c:Int}(h:a≤6) (i:b=a) (j:(0:Int)≤c∧c<(b:Int)+(1:Int)):c.toNat+1+1≤100000:=Nat.le_of_not_lt fun z=>lxI (Ri4 a b c ((c).toNat:Nat)) (Cc5 V0 (.n 6) V1 V0 (As V2) (As V1) (As (.n 100000)) (As (As V3)) V3 V2) rfl (Int.ofNat_le.mpr h :) (Int.ofNat_le.mpr (Nat.le_of_eq i) :) j.2 (Int.ofNat_le.mpr z :) (Int.le_of_eq (Int.toNat_of_nonneg (Int.le_of_not_gt fun q=>lxI (Ri1 c) (Cc2 N0 V0 (As V0) N0) rfl j.1 q)))
theorem ar115 {a:Int}{b:Nat}(h:(0:Int)≤a∧a<(b:Int)+(1:Int)):a.toNat+1+1+(b-a.toNat)=b+2:=Nat.le_antisymm (Nat.le_of_not_lt fun z=>lxI (Ri3 b ((a).toNat:Nat) ((b-(a).toNat):Nat)) (Cc2 (As (.a V0 (.n 2))) (.a (As (As V1)) V2) (.a V2 V1) V0) rfl (Int.ofNat_le.mpr z :) (Int.ofNat_le.mpr (Nat.le_of_eq (Nat.sub_add_cancel (Nat.le_of_not_lt fun q=>lxI (Ri3 a b ((a).toNat:Nat)) (Cc3 (As V0) (As V1) V2 V0 (As V1) V2) rfl h.2 (Int.le_of_eq (Int.toNat_of_nonneg (Int.le_of_not_gt fun q=>lxI (Ri1 a) (Cc2 N0 V0 (As V0) N0) rfl h.1 q))) (Int.ofNat_le.mpr q :)))) :)) (Nat.le_of_not_lt fun z=>lxI (Ri3 b ((a).toNat:Nat) ((b-(a).toNat):Nat)) (Cc2 (As (.a (As (As V1)) V2)) (.a V0 (.n 2)) V0 (.a V2 V1)) rfl (Int.ofNat_le.mpr z :) (Int.ofNat_le.mpr (Nat.le_add_of_sub_le (Nat.le_refl (b-(a).toNat))) :))
theorem ar116 {a b:Nat}{c:Int}(h:a≤6) (i:b=a) (j:(0:Int)≤c∧c<(b:Int)+(1:Int)):c.toNat+1+1+(b-c.toNat)≤100000:=Nat.le_of_not_lt fun z=>lxI (Ri4 a b ((c).toNat:Nat) ((b-(c).toNat):Nat)) (Cc4 V0 (.n 6) V1 V0 (As (.n 100000)) (.a (As (As V2)) V3) (.a V3 V2) V1) rfl (Int.ofNat_le.mpr h :) (Int.ofNat_le.mpr (Nat.le_of_eq i) :) (Int.ofNat_le.mpr z :) (Int.ofNat_le.mpr (Nat.le_of_eq (Nat.sub_add_cancel (Nat.le_of_not_lt fun q=>lxI (Ri3 b c ((c).toNat:Nat)) (Cc3 (As V1) (As V0) V2 V1 (As V0) V2) rfl j.2 (Int.le_of_eq (Int.toNat_of_nonneg (Int.le_of_not_gt fun q=>lxI (Ri1 c) (Cc2 N0 V0 (As V0) N0) rfl j.1 q))) (Int.ofNat_le.mpr q :)))) :)
theorem ar117 {a:Nat}(h:a≤100):a≤100000:=Nat.le_of_not_lt fun z=>lxN (Mn1 a) (Cc2 V0 (.n 100) (As (.n 100000)) V0) rfl h z
theorem ar118 {a b:Nat}(h:a≤6) (i:b=a):b+2≤8:=Nat.le_of_not_lt fun z=>lxN (Mn2 a b) (Cc3 V0 (.n 6) V1 V0 (As (.n 8)) (.a V1 (.n 2))) rfl h (Nat.le_of_eq i) z
theorem ar119 {a b:Nat}(h:a+(b+1)≤100):a≤100000:=Nat.le_of_not_lt fun z=>lxN (Mn2 a b) (Cc2 (.a V0 (As V1)) (.n 100) (As (.n 100000)) V0) rfl h z
theorem ar120 {a b c:Nat}(h:a+(b+1)≤100) (i:c≤a+1):c+b≤100:=Nat.le_of_not_lt fun z=>lxN (Mn3 a b c) (Cc3 (.a V0 (As V1)) (.n 100) V2 (As V0) (As (.n 100)) (.a V2 V1)) rfl h i z
theorem ar121 {a b:Nat}(h:a+(b+1)≤100):a+1+b≤100:=Nat.le_of_not_lt fun z=>lxN (Mn2 a b) (Cc2 (.a V0 (As V1)) (.n 100) (As (.n 100)) (.a (As V0) V1)) rfl h z
theorem ar122 {a:Nat}(h:a<64):a≤100000:=Nat.le_of_not_lt fun z=>lxN (Mn1 a) (Cc2 (As V0) (.n 64) (As (.n 100000)) V0) rfl h z
theorem ar123 {a b:Nat}(h:a<64) (i:b=a):b≤100:=Nat.le_of_not_lt fun z=>lxN (Mn2 a b) (Cc3 (As V0) (.n 64) V1 V0 (As (.n 100)) V1) rfl h (Nat.le_of_eq i) z
theorem ar124 {a b:Nat}(h:a<64) (i:b≤a):b<64:=Nat.lt_of_not_le fun z=>lxN (Mn2 a b) (Cc3 (As V0) (.n 64) V1 V0 (.n 64) V1) rfl h i z
theorem ar125 {a b:Int}(h:a≤b∧a≠b):a<b:=Int.lt_iff_le_and_ne.mpr h
theorem ar126 {a:Nat}(h:a≤1000):a≤100000:=Nat.le_of_not_lt fun z=>lxN (Mn1 a) (Cc2 V0 (.n 1000) (As (.n 100000)) V0) rfl h z
theorem ar127 {a b:Nat}(h:a≤40) (i:b≤a):b≤1000:=Nat.le_of_not_lt fun z=>lxN (Mn2 a b) (Cc3 V0 (.n 40) V1 V0 (As (.n 1000)) V1) rfl h i z
theorem ar128 {a:Nat}:0≤-1+((a:Int)+1):=Int.le_of_not_gt fun z=>lxI (Ri1 a) (Cc2 (As (.a (.g N1) (As V0))) N0 N0 V0) rfl z (Int.natCast_nonneg a)
theorem ar129 {a:Nat}:(-1+((a:Int)+1)).toNat=a:=Nat.le_antisymm (Nat.le_of_not_lt fun z=>lxI (Ri2 a (((((-1):Int)+(((↑a):Int)+(1:Int)))).toNat:Nat)) (Cc2 (As V0) V1 V1 (.a (.g N1) (As V0))) rfl (Int.ofNat_le.mpr z :) (Int.le_of_eq (Int.toNat_of_nonneg (Int.le_of_not_gt fun q=>lxI (Ri1 a) (Cc2 (As (.a (.g N1) (As V0))) N0 N0 V0) rfl q (Int.natCast_nonneg a))))) (Nat.le_of_not_lt fun z=>lxI (Ri2 a (((((-1):Int)+(((↑a):Int)+(1:Int)))).toNat:Nat)) (Cc2 (As V1) V0 (.a (.g N1) (As V0)) V1) rfl (Int.ofNat_le.mpr z :) (Int.self_le_toNat (((-1):Int)+(((↑a):Int)+(1:Int)))))
theorem ar130 {a b c:Nat}(h:a≤2*b) (i:c≤2):c+a≤2*(b+1):=Nat.le_of_not_lt fun z=>lxN (Mn3 a b c) (Cc3 V0 (.m 2 V1) V2 (.n 2) (As (.m 2 (As V1))) (.a V2 V0)) rfl h i z
theorem ar131 {a b:Nat}(h:a≤2*b):a+1≤1+2*b:=Nat.le_of_not_lt fun z=>lxN (Mn2 a b) (Cc2 V0 (.m 2 V1) (As (.a N1 (.m 2 V1))) (As V0)) rfl h z
theorem ar132 {a b c:Nat}(h:a+2*(b+1)≤1000) (i:c≤2):a+c≤100000:=Nat.le_of_not_lt fun z=>lxN (Mn3 a b c) (Cc3 (.a V0 (.m 2 (As V1))) (.n 1000) V2 (.n 2) (As (.n 100000)) (.a V0 V2)) rfl h i z
theorem ar133 {a b c:Nat}(h:a+2*(b+1)≤1000) (i:c≤2):a+c+2*b≤1000:=Nat.le_of_not_lt fun z=>lxN (Mn3 a b c) (Cc3 (.a V0 (.m 2 (As V1))) (.n 1000) V2 (.n 2) (As (.n 1000)) (.a (.a V0 V2) (.m 2 V1))) rfl h i z
theorem ar134 {a b:Nat}(h:a+2*(b+1)≤1000):a+2*b≤1000:=Nat.le_of_not_lt fun z=>lxN (Mn2 a b) (Cc2 (.a V0 (.m 2 (As V1))) (.n 1000) (As (.n 1000)) (.a V0 (.m 2 V1))) rfl h z
theorem ar135 {a:Nat}(h:a≤30):a≤100000:=Nat.le_of_not_lt fun z=>lxN (Mn1 a) (Cc2 V0 (.n 30) (As (.n 100000)) V0) rfl h z
theorem ar136 {a:Nat}(h:a≤30):1+2*a≤1000:=Nat.le_of_not_lt fun z=>lxN (.c a .z) (.k 2 (.v 0) (.n 30) (.c (.a (.n 1000) (.n 1)) (.a (.n 1) (.m 2 (.v 0))) .z)) rfl h z
theorem ar137 {a:Nat}(h:a≤30):1+2*a<64:=Nat.lt_of_not_le fun z=>lxN (.c a .z) (.k 2 (.v 0) (.n 30) (.c (.n 64) (.a (.n 1) (.m 2 (.v 0))) .z)) rfl h z
theorem ar138 {a:Nat}(h:a≤1000):a≤2 ^ 20:=Nat.le_of_not_lt fun z=>lxN (Mn1 a) (Cc2 V0 (.n 1000) (As (.n 1048576)) V0) rfl h z
theorem ar139 {a:Nat}(h:a≤999):a≤100000:=Nat.le_of_not_lt fun z=>lxN (Mn1 a) (Cc2 V0 (.n 999) (As (.n 100000)) V0) rfl h z
theorem ar140 {a:Nat}(h:a≤1000):a≤10000:=Nat.le_of_not_lt fun z=>lxN (Mn1 a) (Cc2 V0 (.n 1000) (As (.n 10000)) V0) rfl h z
theorem ar141 {a b c:Nat}(h:a+0=b):min b c≤a:=Nat.le_of_not_lt fun z=>lxN (Mn3 a b ((min b c):Nat)) (Cc3 V1 (.a V0 N0) (As V0) V2 V2 V1) rfl (Nat.le_of_eq h.symm) z (Nat.min_le_left b c)
theorem ar142 {a b c d:Nat}(h:a=b) (i:c+(d+1)=b):c<min b a:=Nat.lt_of_not_le fun z=>(Nat.le_total b a).elim (fun q0=>lxN (Mn4 b c d ((min b a):Nat)) (Cc3 (.a V1 (As V2)) V0 V3 V1 V0 V3) rfl (Nat.le_of_eq i) z (Nat.le_of_eq (Nat.min_eq_left q0).symm)) fun q0=>lxN (Mn5 a b c d ((min b a):Nat)) (Cc4 V1 V0 (.a V2 (As V3)) V1 V4 V2 V0 V4) rfl (Nat.le_of_eq h.symm) (Nat.le_of_eq i) z (Nat.le_of_eq (Nat.min_eq_right q0).symm)
theorem ar143 {a b:Nat}(h:a≤900) (i:b=a):b≤1000:=Nat.le_of_not_lt fun z=>lxN (Mn2 a b) (Cc3 V0 (.n 900) V1 V0 (As (.n 1000)) V1) rfl h (Nat.le_of_eq i) z
theorem ar144 {a b c d:Nat}(h:a≤900) (i:b+(c+1)=a) (j:d≤b):d≤999:=Nat.le_of_not_lt fun z=>lxN (Mn4 a b c d) (Cc4 V0 (.n 900) (.a V1 (As V2)) V0 V3 V1 (As (.n 999)) V3) rfl h (Nat.le_of_eq i) j z
theorem ar145 {a:Nat}(h:a≤900):a≤100000:=Nat.le_of_not_lt fun z=>lxN (Mn1 a) (Cc2 V0 (.n 900) (As (.n 100000)) V0) rfl h z
theorem ar146 {a b c:Nat}(h:a=b) (i:c+1<b):c+1<min b a:=Nat.lt_of_not_le fun z=>(Nat.le_total b a).elim (fun q0=>lxN (Mn3 b c ((min b a):Nat)) (Cc3 (As (As V1)) V0 V2 (As V1) V0 V2) rfl i z (Nat.le_of_eq (Nat.min_eq_left q0).symm)) fun q0=>lxN (Mn4 a b c ((min b a):Nat)) (Cc4 V1 V0 (As (As V2)) V1 V3 (As V2) V0 V3) rfl (Nat.le_of_eq h.symm) i z (Nat.le_of_eq (Nat.min_eq_right q0).symm)
theorem ar147 {a b:Nat}(h:¬a+(1:Nat)<b):¬(a:Int)+(1:Int)<(b:Int):=fun g=>lxI (Ri2 a b) (Cc2 V1 (As V0) (As (As V0)) V1) rfl (Int.ofNat_le.mpr (Nat.le_of_not_lt h) :) g
theorem ar148 {a b c:Nat}(h:¬a+(1:Nat)<b):min b c≤a+1:=Nat.le_of_not_lt fun z=>lxN (Mn3 a b ((min b c):Nat)) (Cc3 V1 (As V0) (As (As V0)) V2 V2 V1) rfl (Nat.le_of_not_lt h) z (Nat.min_le_left b c)
theorem ar149 {a:Nat}(h:a≤900):(a:Int)<4611686018427387904:=Int.lt_of_not_ge fun z=>lxI (Ri1 a) (Cc2 V0 (.n 900) (.n 4611686018427387904) V0) rfl (Int.ofNat_le.mpr h :) z
theorem ar155 {a b:Nat}(h:a≤b+1):a≤1+b:=Nat.le_of_not_lt fun z=>lxN (Mn2 a b) (Cc2 V0 (As V1) (As (.a N1 V1)) V0) rfl h z
theorem ar156 {a b c d:Nat}(h:a≤b+1) (i:c≤d+1+a):c≤d+1+1+b:=Nat.le_of_not_lt fun z=>lxN (Mn4 a b c d) (Cc3 V0 (As V1) V2 (.a (As V3) V0) (As (.a (As (As V3)) V1)) V2) rfl h i z
theorem ar157 {a b:Nat}(h:a≤30) (i:b≤1+2*a):b≤100000:=Nat.le_of_not_lt fun z=>lxN (.c a (.c b .z)) (.k 2 (.v 0) (.n 30) (.c (.v 1) (.a (.n 1) (.m 2 (.v 0))) (.c (.a (.n 100000) (.n 1)) (.v 1) .z))) rfl h i z
theorem ar158 {a b:Nat}(h:a≤30) (i:b≤a):b≤1000:=Nat.le_of_not_lt fun z=>lxN (Mn2 a b) (Cc3 V0 (.n 30) V1 V0 (As (.n 1000)) V1) rfl h i z
theorem ar159 {a b:Nat}(h:a≤30) (i:b≤1+2*a):b≤900:=Nat.le_of_not_lt fun z=>lxN (.c a (.c b .z)) (.k 2 (.v 0) (.n 30) (.c (.v 1) (.a (.n 1) (.m 2 (.v 0))) (.c (.a (.n 900) (.n 1)) (.v 1) .z))) rfl h i z
theorem ar160 {a:Nat}(h:1≤a):a=a-1+1:=Nat.le_antisymm (Nat.le_of_not_lt fun z=>lxN (Mn2 a ((a-(1:Nat)):Nat)) (Cc2 (As (As V1)) V0 V0 (As V1)) rfl z (Nat.le_add_of_sub_le (Nat.le_refl (a-(1:Nat))))) (Nat.le_of_not_lt fun z=>lxN (Mn2 a ((a-(1:Nat)):Nat)) (Cc2 (As V0) (As V1) (As V1) V0) rfl z (Nat.le_of_eq (Nat.sub_add_cancel (Nat.le_of_not_lt fun q=>lxN (Mn1 a) (Cc2 N1 V0 (As V0) N1) rfl h q))))
theorem ar161 {a:Nat}(h:¬a≤(8:Nat)):¬(a:Int)≤(8:Int):=fun g=>lxI (Ri1 a) (Cc2 (As (.n 8)) V0 V0 (.n 8)) rfl (Int.ofNat_le.mpr (Nat.lt_of_not_le h) :) g
theorem ar162 {a:Nat}(h:¬(1:Int)≤(a:Int)):¬(1:Nat)≤a:=fun g=>lxI (Ri1 a) (Cc2 (As V0) N1 N1 V0) rfl (Int.lt_of_not_ge h) (Int.ofNat_le.mpr g :)
theorem ar163 {a:Nat}(h:1≤a):¬(↑(a+(1:Nat)):Int)<(2:Int):=fun g=>lxI (Ri1 a) (Cc2 N1 V0 (As (As V0)) (.n 2)) rfl (Int.ofNat_le.mpr h :) g
theorem ar164 {a:Nat}(h:a≤7):a+1+1+1+1≤100:=Nat.le_of_not_lt fun z=>lxN (Mn1 a) (Cc2 V0 (.n 7) (As (.n 100)) (As (As (As (As V0))))) rfl h z
theorem ar165 {a:Nat}:¬(↑(a+(1:Nat)+(1:Nat)+(1:Nat)+(1:Nat)):Int)<(4:Int):=fun g=>lxI (Ri1 a) (Cc2 (.a (As (As (As (As V0)))) N1) (.n 4) N0 V0) rfl g (Int.natCast_nonneg a)
theorem ar166 {a b:Int}(h:a≤b):¬a > b:=fun g=>lxI (Ri2 a b) (Cc2 V0 V1 (As V1) V0) rfl h g
theorem ar167 {a b:Int}(h:¬a≤b):a > b:=Int.lt_of_not_ge fun z=>lxI (Ri2 a b) (Cc2 (As V1) V0 V0 V1) rfl (Int.lt_of_not_ge h) z
theorem ar168 {a b:Int}(h:(0:Int)≤a∧a≤b):0≤b:=Int.le_of_not_gt fun z=>lxI (Ri2 a b) (Cc3 N0 V0 V0 V1 (As V1) N0) rfl h.1 h.2 z
theorem ar169 {a:Nat}(h:4≤a):a=a-1+1:=Nat.le_antisymm (Nat.le_of_not_lt fun z=>lxN (Mn2 a ((a-(1:Nat)):Nat)) (Cc2 (As (As V1)) V0 V0 (As V1)) rfl z (Nat.le_add_of_sub_le (Nat.le_refl (a-(1:Nat))))) (Nat.le_of_not_lt fun z=>lxN (Mn2 a ((a-(1:Nat)):Nat)) (Cc2 (As V0) (As V1) (As V1) V0) rfl z (Nat.le_of_eq (Nat.sub_add_cancel (Nat.le_of_not_lt fun q=>lxN (Mn1 a) (Cc2 (.n 4) V0 (As V0) N1) rfl h q))))
theorem ar170 {a:Nat}(h:¬(30:Nat)≤a):¬(a:Int)≥(30:Int):=fun g=>lxI (Ri1 a) (Cc2 (As V0) (.n 30) (.n 30) V0) rfl (Int.ofNat_le.mpr (Nat.lt_of_not_le h) :) g
theorem ar171 {a:Nat}(h:¬(30:Nat)≤a):a≤100000:=Nat.le_of_not_lt fun z=>lxN (Mn1 a) (Cc2 (As V0) (.n 30) (As (.n 100000)) V0) rfl (Nat.lt_of_not_le h) z
theorem ar172 {a:Int}(h:a+1≤a):False:=lxI (Ri1 a) (Cc1 (As V0) V0) rfl h
theorem ar173 {a:Nat}(h:¬(30:Nat)≤a):a<30:=Nat.lt_of_not_le fun z=>lxN (Mn1 a) (Cc2 (As V0) (.n 30) (.n 30) V0) rfl (Nat.lt_of_not_le h) z
theorem ar174 {a:Nat}(h:5≤a):a=a-1+1:=Nat.le_antisymm (Nat.le_of_not_lt fun z=>lxN (Mn2 a ((a-(1:Nat)):Nat)) (Cc2 (As (As V1)) V0 V0 (As V1)) rfl z (Nat.le_add_of_sub_le (Nat.le_refl (a-(1:Nat))))) (Nat.le_of_not_lt fun z=>lxN (Mn2 a ((a-(1:Nat)):Nat)) (Cc2 (As V0) (As V1) (As V1) V0) rfl z (Nat.le_of_eq (Nat.sub_add_cancel (Nat.le_of_not_lt fun q=>lxN (Mn1 a) (Cc2 (.n 5) V0 (As V0) N1) rfl h q))))
theorem ar175 {a:Nat}(h:a<30):¬(30:Nat)≤a:=fun g=>lxN (Mn1 a) (Cc2 (As V0) (.n 30) (.n 30) V0) rfl h g
theorem ar176 {a:Nat}(h:6≤a):a=a-1+1:=Nat.le_antisymm (Nat.le_of_not_lt fun z=>lxN (Mn2 a ((a-(1:Nat)):Nat)) (Cc2 (As (As V1)) V0 V0 (As V1)) rfl z (Nat.le_add_of_sub_le (Nat.le_refl (a-(1:Nat))))) (Nat.le_of_not_lt fun z=>lxN (Mn2 a ((a-(1:Nat)):Nat)) (Cc2 (As V0) (As V1) (As V1) V0) rfl z (Nat.le_of_eq (Nat.sub_add_cancel (Nat.le_of_not_lt fun q=>lxN (Mn1 a) (Cc2 (.n 6) V0 (As V0) N1) rfl h q))))
theorem ar177 {a:Nat}(h:a<4):a<7:=Nat.lt_of_not_le fun z=>lxN (Mn1 a) (Cc2 (As V0) (.n 4) (.n 7) V0) rfl h z
theorem ar178 {a b:Int}(h:¬a<b):b≤a:=Int.le_of_not_gt fun z=>lxI (Ri2 a b) (Cc2 V1 V0 (As V0) V1) rfl (Int.le_of_not_gt h) z
theorem ar179 {a:Nat}(h:7≤a):a=a-1+1:=Nat.le_antisymm (Nat.le_of_not_lt fun z=>lxN (Mn2 a ((a-(1:Nat)):Nat)) (Cc2 (As (As V1)) V0 V0 (As V1)) rfl z (Nat.le_add_of_sub_le (Nat.le_refl (a-(1:Nat))))) (Nat.le_of_not_lt fun z=>lxN (Mn2 a ((a-(1:Nat)):Nat)) (Cc2 (As V0) (As V1) (As V1) V0) rfl z (Nat.le_of_eq (Nat.sub_add_cancel (Nat.le_of_not_lt fun q=>lxN (Mn1 a) (Cc2 (.n 7) V0 (As V0) N1) rfl h q))))
theorem ar180 {a:Nat}(h:8≤a):a=a-1+1:=Nat.le_antisymm (Nat.le_of_not_lt fun z=>lxN (Mn2 a ((a-(1:Nat)):Nat)) (Cc2 (As (As V1)) V0 V0 (As V1)) rfl z (Nat.le_add_of_sub_le (Nat.le_refl (a-(1:Nat))))) (Nat.le_of_not_lt fun z=>lxN (Mn2 a ((a-(1:Nat)):Nat)) (Cc2 (As V0) (As V1) (As V1) V0) rfl z (Nat.le_of_eq (Nat.sub_add_cancel (Nat.le_of_not_lt fun q=>lxN (Mn1 a) (Cc2 (.n 8) V0 (As V0) N1) rfl h q))))
theorem ar181 {a:Int}(h:0≤a) (i:¬a=(0:Int)):a≥1:=Int.le_of_not_gt fun z=>(Int.lt_or_gt_of_ne i).elim (fun q=>lxI (Ri1 a) (Cc2 N0 V0 (As V0) N0) rfl h q) fun q=>lxI (Ri1 a) (Cc2 (As V0) N1 (As N0) V0) rfl z q
theorem ar182 {a:Nat}(h:(0:Int)≤(a:Int)∧(a:Int)<(5:Int)):a<5:=Nat.lt_of_not_le fun z=>lxI (Ri1 a) (Cc2 (As V0) (.n 5) (.n 5) V0) rfl h.2 (Int.ofNat_le.mpr z :)
theorem ar183 {a:Nat}(h:(0:Int)≤(↑(a+(1:Nat)+(1:Nat)+(1:Nat)+(1:Nat)+(1:Nat)):Int) ∧   (↑(a+(1:Nat)+(1:Nat)+(1:Nat)+(1:Nat)+(1:Nat)):Int)<(5:Int)):False:=lxI (Ri1 a) (Cc2 (.a (.a (As (As (As (As V0)))) N1) N1) (.n 5) N0 V0) rfl h.2 (Int.natCast_nonneg a)
theorem ar184 {a b:Int}:0≤max 0 (a-b):=Int.le_of_not_gt fun z=>lxI (Ri1 ((max (0:Int) (a-b)):Int)) (Cc2 (As V0) N0 N0 V0) rfl z (Int.le_max_left (0:Int) (a-b))
theorem ar185 {a b:Int}(h:0≤a) (i:(0:Int)≤b∧b<(3:Int)):0≤a+1+b:=Int.le_of_not_gt fun z=>lxI (Ri2 a b) (Cc3 N0 V0 N0 V1 (As (.a (As V0) V1)) N0) rfl h i.1 z
theorem ar186 {a b:Int}(h:a≤b) (i:b≤1000000):a≤1000000:=Int.le_of_not_gt fun z=>lxI (Ri2 a b) (Cc3 V0 V1 V1 (.n 1000000) (As (.n 1000000)) V0) rfl h i z
theorem ar187 {a b:Int}(h:0≤a) (i:a≤b):0≤b:=Int.le_of_not_gt fun z=>lxI (Ri2 a b) (Cc3 N0 V0 V0 V1 (As V1) N0) rfl h i z
theorem ar188 {a:Int}(h:1≤a):a≠0:=fun g=>lxI (Ri1 a) (Cc2 N1 V0 V0 N0) rfl h (Int.le_of_eq g)
theorem ar189 {a:Nat}(h:a<30):a≤39:=Nat.le_of_not_lt fun z=>lxN (Mn1 a) (Cc2 (As V0) (.n 30) (As (.n 39)) V0) rfl h z
theorem ar190 {a b:Int}(h:(0:Int)≤a∧a≤b):(0:Int)≤a∧a≤b+(1:Int):=⟨Int.le_of_not_gt fun z=>lxI (Ri1 a) (Cc2 N0 V0 (As V0) N0) rfl h.1 z,Int.le_of_not_gt fun z=>lxI (Ri2 a b) (Cc2 V0 V1 (As (As V1)) V0) rfl h.2 z⟩
theorem ar191 {a b c:Int}(h:a=b+1) (i:c≤b):c≠a:=fun g=>lxI (Ri3 a b c) (Cc3 (As V1) V0 V2 V1 V0 V2) rfl (Int.le_of_eq h.symm) i (Int.le_of_eq g.symm)
theorem ar192 {a b:Int}(h:a≤b):a≤b+1:=Int.le_of_not_gt fun z=>lxI (Ri2 a b) (Cc2 V0 V1 (As (As V1)) V0) rfl h z
theorem ar193 {a:Nat}(h:5≤a):3≤a-1-1:=Nat.le_of_not_lt fun z=>lxN (Mn3 a ((a-(1:Nat)):Nat) (((a-(1:Nat))-(1:Nat)):Nat)) (Cc4 (.n 5) V0 (As V2) (.n 3) V0 (As V1) V1 (As V2)) rfl h z (Nat.le_add_of_sub_le (Nat.le_refl (a-(1:Nat)))) (Nat.le_add_of_sub_le (Nat.le_refl ((a-(1:Nat))-(1:Nat))))
theorem ar194 {a:Nat}(h:a<30):¬(a:Int)≥(30:Int):=fun g=>lxI (Ri1 a) (Cc2 (As V0) (.n 30) (.n 30) V0) rfl (Int.ofNat_le.mpr h :) g
theorem ar195 {a:Nat}(h:a<30):a≤100000:=Nat.le_of_not_lt fun z=>lxN (Mn1 a) (Cc2 (As V0) (.n 30) (As (.n 100000)) V0) rfl h z
theorem ar196 {a:Int}(h:(0:Int)≤a∧a≤(30:Int)):0≤2*a:=Int.le_of_not_gt fun z=>lxI (.c a .z) (.k 2 (.n 0) (.v 0) (.c (.a (.m 2 (.v 0)) (.n 1)) (.n 0) .z)) rfl h.1 z
theorem ar197 {a b:Int}(h:(0:Int)≤a∧a<(2:Int)):2*b≤2*b+a:=Int.le_of_not_gt fun z=>lxI (Ri2 a b) (Cc2 N0 V0 (As (.a (.m 2 V1) V0)) (.m 2 V1)) rfl h.1 z
theorem ar198 {a b:Int}(h:(0:Int)≤a∧a≤(30:Int)) (i:(0:Int)≤b∧b<(2:Int)):2*a+b≤1000000:=Int.le_of_not_gt fun z=>lxI (.c a (.c b .z)) (.k 2 (.v 0) (.n 30) (.c (.a (.v 1) (.n 1)) (.n 2) (.c (.a (.n 1000000) (.n 1)) (.a (.m 2 (.v 0)) (.v 1)) .z))) rfl h.2 i.2 z
theorem ar199 {a:Int}(h:(0:Int)≤a∧a≤(30:Int)):-1000000000≤a:=Int.le_of_not_gt fun z=>lxI (Ri1 a) (Cc2 N0 V0 (As V0) (.g (.n 1000000000))) rfl h.1 z
theorem ar200 {a b:Nat}(h:a+(b+1)≤30):a<31:=Nat.lt_of_not_le fun z=>lxN (Mn2 a b) (Cc2 (.a V0 (As V1)) (.n 30) (.n 31) V0) rfl h z
theorem ar201 {a b c:Nat}(h:a+(b+1)≤30) (i:c=a):c<30:=Nat.lt_of_not_le fun z=>lxN (Mn3 a b c) (Cc3 (.a V0 (As V1)) (.n 30) V2 V0 (.n 30) V2) rfl h (Nat.le_of_eq i) z
theorem ar202 {a b:Nat}(h:a+(b+1)≤30):a+1+b≤30:=Nat.le_of_not_lt fun z=>lxN (Mn2 a b) (Cc2 (.a V0 (As V1)) (.n 30) (As (.n 30)) (.a (As V0) V1)) rfl h z
theorem ar203 {a:Nat}(h:(0:Int)≤(a:Int)∧(a:Int)≤(30:Int)):-(2:Int) ^ (62:Nat)≤(a:Int)∧(a:Int)<(2:Int) ^ (62:Nat):=⟨Int.le_of_not_gt fun z=>lxI (Ri1 a) (Cc2 N0 V0 (As V0) (.g (.n 4611686018427387904))) rfl h.1 z,Int.lt_of_not_ge fun z=>lxI (Ri1 a) (Cc2 V0 (.n 30) (.n 4611686018427387904) V0) rfl h.2 z⟩
theorem ar204 {a:Nat}(h:(0:Int)≤(a:Int)∧(a:Int)≤(30:Int)):a≤100000:=Nat.le_of_not_lt fun z=>lxI (Ri1 a) (Cc2 V0 (.n 30) (As (.n 100000)) V0) rfl h.2 (Int.ofNat_le.mpr z :)
theorem ar205 {a:Nat}(h:(0:Int)≤(a:Int)∧(a:Int)≤(30:Int)):0+a≤30:=Nat.le_of_not_lt fun z=>lxI (Ri1 a) (Cc2 V0 (.n 30) (As (.n 30)) (.a N0 V0)) rfl h.2 (Int.ofNat_le.mpr z :)
theorem ar206 {a b c:Int}(h:a<b) (i:(0:Int)≤a∧a≤c):1≤b:=Int.le_of_not_gt fun z=>lxI (Ri2 a b) (Cc3 (As V0) V1 N0 V0 (As V1) N1) rfl h i.1 z
theorem ar207 {a:Nat}(h:¬a<(30:Nat)):¬(a:Int)<(30:Int):=fun g=>lxI (Ri1 a) (Cc2 (.n 30) V0 (As V0) (.n 30)) rfl (Int.ofNat_le.mpr (Nat.le_of_not_lt h) :) g
theorem ar208 {a:Nat}(h:¬a<(30:Nat)):30≤a:=Nat.le_of_not_lt fun z=>lxN (Mn1 a) (Cc2 (.n 30) V0 (As V0) (.n 30)) rfl (Nat.le_of_not_lt h) z
theorem ar209 {a:Nat}(h:¬a=(30:Nat)):¬(a:Int)=(30:Int):=fun g=>(Nat.lt_or_gt_of_ne h).elim (fun q=>lxI (Ri1 a) (Cc2 (.n 30) V0 (As V0) (.n 30)) rfl (Int.le_of_eq g.symm) (Int.ofNat_le.mpr q :)) fun q=>lxI (Ri1 a) (Cc2 V0 (.n 30) (As (.n 30)) V0) rfl (Int.le_of_eq g) (Int.ofNat_le.mpr q :)
theorem ar210 {a:Nat}(h:a≤30) (i:¬a=(30:Nat)):¬(30:Nat)≤a:=fun g=>(Nat.lt_or_gt_of_ne i).elim (fun q=>lxN (Mn1 a) (Cc2 (.n 30) V0 (As V0) (.n 30)) rfl g q) fun q=>lxN (Mn1 a) (Cc2 V0 (.n 30) (As (.n 30)) V0) rfl h q
theorem ar211 {a:Nat}(h:6≤a):0≠a:=fun g=>lxN (Mn1 a) (Cc2 (.n 6) V0 V0 N0) rfl h (Nat.le_of_eq g.symm)
theorem ar212 {a:Nat}(h:6≤a):1≠a:=fun g=>lxN (Mn1 a) (Cc2 (.n 6) V0 V0 N1) rfl h (Nat.le_of_eq g.symm)
theorem ar213 {a:Nat}(h:6≤a):2≠a:=fun g=>lxN (Mn1 a) (Cc2 (.n 6) V0 V0 (.n 2)) rfl h (Nat.le_of_eq g.symm)
theorem ar214 {a:Nat}(h:6≤a):3≠a:=fun g=>lxN (Mn1 a) (Cc2 (.n 6) V0 V0 (.n 3)) rfl h (Nat.le_of_eq g.symm)
theorem ar215 {a:Nat}(h:6≤a):4≠a:=fun g=>lxN (Mn1 a) (Cc2 (.n 6) V0 V0 (.n 4)) rfl h (Nat.le_of_eq g.symm)
theorem ar216 {a:Nat}(h:6≤a):5≠a:=fun g=>lxN (Mn1 a) (Cc2 (.n 6) V0 V0 (.n 5)) rfl h (Nat.le_of_eq g.symm)
theorem ar217 {a:Int}(h:a≤a-1):False:=lxI (Ri1 a) (Cc1 V0 (.s V0 N1)) rfl h
theorem ar218 {a:Int}:a≤a+1:=Int.le_of_not_gt fun z=>lxI (Ri1 a) (Cc1 (As (As V0)) V0) rfl z
theorem ar219 {a b:Int}(h:a≤500) (i:(0:Int)≤b∧b≤a):(1:Int)≤a+(1:Int)∧a+(1:Int)≤(1000:Int):=⟨Int.le_of_not_gt fun z=>lxI (Ri2 a b) (Cc3 N0 V1 V1 V0 (As (As V0)) N1) rfl i.1 i.2 z,Int.le_of_not_gt fun z=>lxI (Ri1 a) (Cc2 V0 (.n 500) (As (.n 1000)) (As V0)) rfl h z⟩
theorem ar220 {a b:Nat}(h:a+0≤63) (i:b≤a):b≤1000:=Nat.le_of_not_lt fun z=>lxN (Mn2 a b) (Cc3 (.a V0 N0) (.n 63) V1 V0 (As (.n 1000)) V1) rfl h i z
theorem ar221 {a b c:Nat}(h:4+a+(b+1)≤c):4+a<c:=Nat.lt_of_not_le fun z=>lxN (Mn3 a b c) (Cc2 (.a (.a (.n 4) V0) (As V1)) V2 V2 (.a (.n 4) V0)) rfl h z
theorem ar222 {a:Nat}{b:Int}{c d:Nat}(h:a≤63) (i:b≤30+(c:Int)) (j:4+c+(d+1)≤a):b≤500:=Int.le_of_not_gt fun z=>lxI (Ri4 a b c d) (Cc5 V0 (.n 63) V1 (.a (.n 30) V2) (.a (.a (.n 4) V2) (As V3)) V0 (As (.n 500)) V1 N0 V3) rfl (Int.ofNat_le.mpr h :) i (Int.ofNat_le.mpr j :) z (Int.natCast_nonneg d)
theorem ar223 {a b c d:Nat}(h:a≤63) (i:b≤c) (j:4+c+(d+1)≤a):b≤1000:=Nat.le_of_not_lt fun z=>lxN (Mn4 a b c d) (Cc4 V0 (.n 63) V1 V2 (.a (.a (.n 4) V2) (As V3)) V0 (As (.n 1000)) V1) rfl h i j z
theorem ar224 {a b c:Nat}(h:4+a+(b+1)≤c):4+(a+1)+b≤c:=Nat.le_of_not_lt fun z=>lxN (Mn3 a b c) (Cc2 (.a (.a (.n 4) V0) (As V1)) V2 (As V2) (.a (.a (.n 4) (As V0)) V1)) rfl h z
theorem ar225 {a b:Nat}(h:a+(b+1)≤63):a+1+b≤63:=Nat.le_of_not_lt fun z=>lxN (Mn2 a b) (Cc2 (.a V0 (As V1)) (.n 63) (As (.n 63)) (.a (As V0) V1)) rfl h z
theorem ar226 {a:Int}{b:Nat}{c:Int}(h:a≤30+(b:Int)) (i:c≤a+1):c≤30+(↑(b+1):Int):=Int.le_of_not_gt fun z=>lxI (Ri3 a b c) (Cc3 V0 (.a (.n 30) V1) V2 (As V0) (As (.a (.n 30) (As V1))) V2) rfl h i z
theorem ar227 {a b c:Nat}(h:a≤b) (i:c≤a+1):c≤b+1:=Nat.le_of_not_lt fun z=>lxN (Mn3 a b c) (Cc3 V0 V1 V2 (As V0) (As (As V1)) V2) rfl h i z
theorem ar228 {a:Nat}:min ((14:Int)-(8:Int)*(1:Int)) ((a:Int)-(4:Int))≤(14:Int) ∧   min ((14:Int)-(8:Int)*(1:Int)) ((a:Int)-(4:Int))≤(a:Int)-(4:Int) ∧     (-4:Int)≤min ((14:Int)-(8:Int)*(1:Int)) ((a:Int)-(4:Int)):=⟨Int.le_of_not_gt fun z=>lxI (Ri1 ((min ((14:Int)-((8:Int)*(1:Int))) (((↑a):Int)-(4:Int))):Int)) (Cc2 (As (.n 14)) V0 V0 (.n 6)) rfl z (Int.min_le_left ((14:Int)-((8:Int)*(1:Int))) (((↑a):Int)-(4:Int))),⟨Int.le_of_not_gt fun z=>lxI (Ri2 a ((min ((14:Int)-((8:Int)*(1:Int))) (((↑a):Int)-(4:Int))):Int)) (Cc2 (As (.s V0 (.n 4))) V1 V1 (.s V0 (.n 4))) rfl z (Int.min_le_right ((14:Int)-((8:Int)*(1:Int))) (((↑a):Int)-(4:Int))),Int.le_of_not_gt fun z=>(Int.le_total ((14:Int)-((8:Int)*(1:Int))) (((↑a):Int)-(4:Int))).elim (fun q0=>lxI (Ri1 ((min ((14:Int)-((8:Int)*(1:Int))) (((↑a):Int)-(4:Int))):Int)) (Cc2 (As V0) (.g (.n 4)) (.n 6) V0) rfl z (Int.le_of_eq (Int.min_eq_left q0).symm)) fun q0=>lxI (Ri2 a ((min ((14:Int)-((8:Int)*(1:Int))) (((↑a):Int)-(4:Int))):Int)) (Cc3 (As V1) (.g (.n 4)) (.s V0 (.n 4)) V1 N0 V0) rfl z (Int.le_of_eq (Int.min_eq_right q0).symm) (Int.natCast_nonneg a)⟩⟩
theorem ar229 {a:Nat}:min ((14:Int)-(8:Int)*(0:Int)) ((a:Int)-(4:Int))≤(14:Int) ∧   min ((14:Int)-(8:Int)*(0:Int)) ((a:Int)-(4:Int))≤(a:Int)-(4:Int) ∧     (-4:Int)≤min ((14:Int)-(8:Int)*(0:Int)) ((a:Int)-(4:Int)):=⟨Int.le_of_not_gt fun z=>lxI (Ri1 ((min ((14:Int)-((8:Int)*(0:Int))) (((↑a):Int)-(4:Int))):Int)) (Cc2 (As (.n 14)) V0 V0 (.n 14)) rfl z (Int.min_le_left ((14:Int)-((8:Int)*(0:Int))) (((↑a):Int)-(4:Int))),⟨Int.le_of_not_gt fun z=>lxI (Ri2 a ((min ((14:Int)-((8:Int)*(0:Int))) (((↑a):Int)-(4:Int))):Int)) (Cc2 (As (.s V0 (.n 4))) V1 V1 (.s V0 (.n 4))) rfl z (Int.min_le_right ((14:Int)-((8:Int)*(0:Int))) (((↑a):Int)-(4:Int))),Int.le_of_not_gt fun z=>(Int.le_total ((14:Int)-((8:Int)*(0:Int))) (((↑a):Int)-(4:Int))).elim (fun q0=>lxI (Ri1 ((min ((14:Int)-((8:Int)*(0:Int))) (((↑a):Int)-(4:Int))):Int)) (Cc2 (As V0) (.g (.n 4)) (.n 14) V0) rfl z (Int.le_of_eq (Int.min_eq_left q0).symm)) fun q0=>lxI (Ri2 a ((min ((14:Int)-((8:Int)*(0:Int))) (((↑a):Int)-(4:Int))):Int)) (Cc3 (As V1) (.g (.n 4)) (.s V0 (.n 4)) V1 N0 V0) rfl z (Int.le_of_eq (Int.min_eq_right q0).symm) (Int.natCast_nonneg a)⟩⟩
theorem ar230 {a:Int}{b:Nat}(h:a≤(14:Int)∧a≤(b:Int)-(4:Int)∧(-4:Int)≤a):-(2:Int) ^ (62:Nat)≤a∧a<(2:Int) ^ (62:Nat):=⟨Int.le_of_not_gt fun z=>lxI (Ri1 a) (Cc2 (.g (.n 4)) V0 (As V0) (.g (.n 4611686018427387904))) rfl h.2.2 z,Int.lt_of_not_ge fun z=>lxI (Ri1 a) (Cc2 V0 (.n 14) (.n 4611686018427387904) V0) rfl h.1 z⟩
theorem ar231 {a:Int}{b:Nat}(h:a≤(14:Int)∧a≤(b:Int)-(4:Int)∧(-4:Int)≤a):a.toNat≤100000:=Nat.le_of_not_lt fun z=>(Int.le_total a 0).elim (fun q0=>lxI (Ri1 ((a).toNat:Nat)) (Cc2 (As (.n 100000)) V0 V0 N0) rfl (Int.ofNat_le.mpr z :) (Int.ofNat_le.mpr (Nat.le_of_eq (Int.toNat_of_nonpos q0)) :)) fun q0=>lxI (Ri2 a ((a).toNat:Nat)) (Cc3 V0 (.n 14) (As (.n 100000)) V1 V1 V0) rfl h.1 (Int.ofNat_le.mpr z :) (Int.le_of_eq (Int.toNat_of_nonneg q0))
theorem ar232 {a:Int}{b:Nat}(h:a≤(14:Int)∧a≤(b:Int)-(4:Int)∧(-4:Int)≤a) (i:0<a.toNat):4+0+a.toNat≤b:=Nat.le_of_not_lt fun z=>(Int.le_total a 0).elim (fun q0=>lxI (Ri1 ((a).toNat:Nat)) (Cc2 (As N0) V0 V0 N0) rfl (Int.ofNat_le.mpr i :) (Int.ofNat_le.mpr (Nat.le_of_eq (Int.toNat_of_nonpos q0)) :)) fun q0=>lxI (Ri3 a b ((a).toNat:Nat)) (Cc3 V0 (.s V1 (.n 4)) (As V1) (.a (.n 4) V2) V2 V0) rfl h.2.1 (Int.ofNat_le.mpr z :) (Int.le_of_eq (Int.toNat_of_nonneg q0))
theorem ar233 {a:Int}{b:Nat}(h:a≤(14:Int)∧a≤(b:Int)-(4:Int)∧(-4:Int)≤a):0+a.toNat≤63:=Nat.le_of_not_lt fun z=>(Int.le_total a 0).elim (fun q0=>lxI (Ri1 ((a).toNat:Nat)) (Cc2 (As (.n 63)) (.a N0 V0) V0 N0) rfl (Int.ofNat_le.mpr z :) (Int.ofNat_le.mpr (Nat.le_of_eq (Int.toNat_of_nonpos q0)) :)) fun q0=>lxI (Ri2 a ((a).toNat:Nat)) (Cc3 V0 (.n 14) (As (.n 63)) (.a N0 V1) V1 V0) rfl h.1 (Int.ofNat_le.mpr z :) (Int.le_of_eq (Int.toNat_of_nonneg q0))
theorem ar234 {a:Int}(h:(0:Int)≤a∧a<(5:Int)):(0:Int)≤(26:Int)+a∧(26:Int)+a≤(30:Int):=⟨Int.le_of_not_gt fun z=>lxI (Ri1 a) (Cc2 N0 V0 (As (.a (.n 26) V0)) N0) rfl h.1 z,Int.le_of_not_gt fun z=>lxI (Ri1 a) (Cc2 (As V0) (.n 5) (As (.n 30)) (.a (.n 26) V0)) rfl h.2 z⟩
theorem ar235 {a:Int}(h:(0:Int)≤a∧a<(5:Int)):26+a≤30:=Int.le_of_not_gt fun z=>lxI (Ri1 a) (Cc2 (As V0) (.n 5) (As (.n 30)) (.a (.n 26) V0)) rfl h.2 z
theorem ar236 {a:Nat}(h:a+1+1+1+1+1+1+1<7):False:=lxN (Mn1 a) (Cc1 (.a (.a (.a (.a (As (As (As (As V0)))) N1) N1) N1) N1) (.n 7)) rfl h
end Mine
end
section
namespace Mine
open PySem PySem.Calls
noncomputable def KeysView (h:Heap) (v d:Addr):Prop:=∃ o,h.get? v=some o∧o.cls=.type "dict_keys"∧o.data=.fields #[.ref d]
mutual
noncomputable def RepV (h:Heap):MV->Value->Prop
 | .none,v=>v=.none
 | .bool b,v=>v=.bool b
 | .int i,v=>∃ t,v=.int i t
 | .str x,v=>∃ t,v=.str x t
 | .tup l,v=>∃ a vs n,v=.ref a∧h.get? a=some { cls:=.type "tuple",data:=.seq (List.toArray vs) n }∧RepVs h l vs
 | .ref a,v=>v=.ref a
 | .keys d,v=>∃ a,v=.ref a∧KeysView h a d
noncomputable def RepVs (h:Heap):List MV->List Value->Prop
 | [],[]=>True
 | m::ms,v::vs=>RepV h m v∧RepVs h ms vs
 | [],_::_=>False
 | _::_,[]=>False
end
noncomputable def RepKV {K:Type}(h:Heap):List (K×MV)->List (K×Value)->Prop
 | [],[]=>True
 | m::ms,v::vs=>m.1=v.1∧RepV h m.2 v.2∧RepKV h ms vs
 | [],_::_=>False
 | _::_,[]=>False
noncomputable def RepA (h:Heap) (l:List (Str×MV)) (m:Str->Option Value):Prop:=∀ n,(lookI l n=none∧m n=none)∨∃ mv v,lookI l n=some mv∧m n=some v∧RepV h mv v
noncomputable def RepO (prog:Program) (w:World) (h:Heap) (a:Addr):MO->Prop
 | .list l=>∃ vs:List Value,h.PlainList a vs.toArray∧RepVs h l vs
 | .idict l=>∃ kvs,h.DictOf (intKind prog w) a kvs∧RepKV h l kvs∧(a == sysModules)=false
 | .inst C d=>∃ o,h.get? a=some o∧o.cls=.ref C∧(∀ c,o.data≠.cls c)∧o.dict=some d∧d≠a∧C≠a
 | .attrs l=>∃ mA,h.Ns1 a mA∧RepA h l mA
 | .exn C=>∃ o vs,h.get? a=some o∧o.cls=.ref C∧o.data=.fields vs
noncomputable def RepH (prog:Program) (w:World) (μ:MH) (h:Heap):Prop:=∀ a o,μ a=some o->RepO prog w h a o
noncomputable def ImmCls (o:Obj):Prop:=(o.cls=.type "tuple"∧∃ xs n,o.data=.seq xs n)∨(o.cls=.type "dict_keys"∧∃ vs,o.data=.fields vs)
noncomputable def KeepsT (h h':Heap):Prop:=∀ b o,h.get? b=some o->ImmCls o->h'.get? b=some o
theorem KeepsT.of_all {h h':Heap}(k:∀ b o,h.get? b=some o->h'.get? b=some o):KeepsT h h':=fun b o e _=>k b o e
mutual
theorem RepV.keepT {h h':Heap}(k:KeepsT h h'):∀ {m:MV}{v:Value},RepV h m v->RepV h' m v
 | .none,_=>fun x=>x
 | .bool _,_=>fun x=>x
 | .int _,_=>fun x=>x
 | .str _,_=>fun x=>x
 | .tup l,_=>fun x=>by
  obtain⟨a,vs,n,e,ho,hv⟩:=x
  exact⟨a,vs,n,e,k a _ ho (.inl ⟨rfl,_,_,rfl⟩),RepVs.keepT k hv⟩
 | .ref _,_=>fun x=>x
 | .keys d,_=>fun x=>by
  obtain⟨a,e,o,ho,hc,r⟩:=x
  exact⟨a,e,o,k a o ho (.inr ⟨hc,_,r⟩),hc,r⟩
theorem RepVs.keepT {h h':Heap}(k:KeepsT h h'):∀ {m:List MV}{v:List Value},RepVs h m v->RepVs h' m v
 | [],[]=>fun _=>trivial
 | _::_,_::_=>fun x=>⟨RepV.keepT k x.1,RepVs.keepT k x.2⟩
 | [],_::_=>fun x=>False.elim x
 | _::_,[]=>fun x=>False.elim x
end
theorem RepKV.keepT {K:Type}{h h':Heap}(k:KeepsT h h'):∀ {m:List (K×MV)}{v:List (K×Value)},RepKV h m v->RepKV h' m v
 | [],[]=>fun _=>trivial
 | _::_,_::_=>fun x=>⟨x.1,RepV.keepT k x.2.1,RepKV.keepT k x.2.2⟩
 | [],_::_=>fun x=>False.elim x
 | _::_,[]=>fun x=>False.elim x
theorem RepA.keepT {h h':Heap}(k:KeepsT h h') {l:List (Str×MV)}{m:Str->Option Value}(r:RepA h l m):RepA h' l m:=fun n=>(r n).imp id fun ⟨mv,v,e1,e2,rv⟩=>⟨mv,v,e1,e2,rv.keepT k⟩
theorem RepVs.length {h:Heap}:∀ {m:List MV}{v:List Value},RepVs h m v->v.length=m.length
 | [],[]=>fun _=>rfl
 | _::_,_::_=>fun x=>congrArg (·+1) (RepVs.length x.2)
 | [],_::_=>fun x=>False.elim x
 | _::_,[]=>fun x=>False.elim x
theorem RepKV.length {K:Type}{h:Heap}:∀ {m:List (K×MV)}{v:List (K×Value)},RepKV h m v->v.length=m.length
 | [],[]=>fun _=>rfl
 | _::_,_::_=>fun x=>congrArg (·+1) (RepKV.length x.2.2)
 | [],_::_=>fun x=>False.elim x
 | _::_,[]=>fun x=>False.elim x
theorem RepVs.append {h:Heap}:∀ {m m':List MV}{v v':List Value},RepVs h m v->RepVs h m' v'->RepVs h (m++m') (v++v')
 | [],_,[],_=>fun _ y=>y
 | _::_,_,_::_,_=>fun x y=>⟨x.1,RepVs.append x.2 y⟩
 | [],_,_::_,_=>fun x _=>False.elim x
 | _::_,_,[],_=>fun x _=>False.elim x
theorem RepVs.get {h:Heap}:∀ {m:List MV}{v:List Value}{i:Nat}{x:MV},RepVs h m v->m[i]?=some x->∃ y,v[i]?=some y∧RepV h x y
 | [],[],i,x=>fun _ e=>nomatch (List.getElem?_nil (i:=i)).symm.trans e
 | m::ms,y::ys,0,x=>fun r e=>by cases e;exact⟨y,rfl,r.1⟩
 | m::ms,y::ys,i+1,x=>fun r e=>RepVs.get (i:=i) r.2 e
 | [],_::_,_,_=>fun r _=>False.elim r
 | _::_,[],_,_=>fun r _=>False.elim r
theorem RepO.keeps {prog:Program}{w:World}{h h':Heap}(k:KeepsT h h') {a:Addr}{o:MO}(ka:∀ x,h.get? a=some x->h'.get? a=some x) (r:RepO prog w h a o):RepO prog w h' a o:=by
 cases o with
 | list l=>obtain⟨vs,⟨n,ho⟩,hv⟩:=r;exact⟨vs,⟨n,ka _ ho⟩,hv.keepT k⟩
 | idict l=>obtain⟨kvs,⟨o,es,ep,ho,hr⟩,hv,hs⟩:=r;exact⟨kvs,⟨o,es,ep,ka o ho,hr⟩,hv.keepT k,hs⟩
 | inst C d=>obtain⟨o,ho,r⟩:=r;exact⟨o,ka o ho,r⟩
 | attrs l=>obtain⟨mA,hn,hr⟩:=r;exact⟨mA,hn.at ka,hr.keepT k⟩
 | exn C=>obtain⟨o,vs,ho,r⟩:=r;exact⟨o,vs,ka o ho,r⟩
theorem R2 {α:Type}{x:Option α}{a:α}(h:x=none) (h':x=some a):False:=by rw[h] at h';cases h'
theorem no_at {α β:Type}{f:α->Option β}{a b:α}{o:β}(h:f b=some o) (h':f a=none):b≠a:=fun q=>by rw[q,h'] at h;cases h
theorem imm_ref {o:Obj}{C:Addr}(h:o.cls=.ref C):¬ ImmCls o:=fun i=>i.elim (fun q=>nomatch h.symm.trans q.1) fun q=>nomatch h.symm.trans q.1
theorem F2 {o:Obj}{n:String}(h:o.cls=.type n) (h1:n ≠ "tuple") (h2:n ≠ "dict_keys"):¬ ImmCls o:=fun i=>i.elim (fun q=>h1 (by injection h.symm.trans q.1)) fun q=>h2 (by injection h.symm.trans q.1)
theorem F3 {o:Obj}{es:_}{ep:_}(h:o.data=.dict es ep):¬ ImmCls o:=fun i=>i.elim (fun ⟨_,_,_,q⟩=>nomatch h.symm.trans q) fun ⟨_,_,q⟩=>nomatch h.symm.trans q
theorem RepO.obj {prog:Program}{w:World}{h:Heap}{a:Addr}{o:MO}(r:RepO prog w h a o):∃ x,h.get? a=some x∧¬ ImmCls x:=by
 cases o with
 | list l=>obtain⟨vs,⟨n,ho⟩,_⟩:=r;exact⟨_,ho,F2 rfl (by decide) (by decide)⟩
 | idict l=>obtain⟨kvs,⟨o,es,ep,ho,hc,_⟩,_⟩:=r;exact⟨o,ho,F2 hc.1 (by decide) (by decide)⟩
 | inst C d=>obtain⟨o,ho,hc,hd,hdi,_⟩:=r;exact⟨o,ho,imm_ref hc⟩
 | attrs l=>obtain⟨mA,⟨o,es,ep,ho,hd,_⟩,_⟩:=r;exact⟨o,ho,F3 hd⟩
 | exn C=>obtain⟨o,vs,ho,hc,_⟩:=r;exact⟨o,ho,imm_ref hc⟩
theorem RepH.ext {prog:Program}{w:World}{μ:MH}{h h':Heap}(r:RepH prog w μ h) (k:∀ b o,h.get? b=some o->h'.get? b=some o):RepH prog w μ h':=
 fun a o e=>(r a o e).keeps (.of_all k) (k a)
theorem RepH.alloc {prog:Program}{w:World}{μ:MH}{h h':Heap}{c:Addr}{o:MO}(r:RepH prog w μ h) (k:∀ b o,h.get? b=some o->h'.get? b=some o) (ho:RepO prog w h' c o):RepH prog w (upd μ c o) h':=by
 intro a o' e
 unfold upd at e
 split at e
 ·rename_i q;cases e;rw[q];exact ho
 ·exact(r a o' e).keeps (.of_all k) (k a)
theorem KeepsT.but {prog:Program}{w:World}{μ:MH}{h h':Heap}{c:Addr}{o:MO}(r:RepH prog w μ h) (e:μ c=some o) (k:∀ b o,b≠c->h.get? b=some o->h'.get? b=some o):KeepsT h h':=fun b x hb hi=>by
 refine k b x (fun q=>?_) hb
 obtain⟨y,hy,hn⟩:=(r c o e).obj
 rw[q,hy] at hb;cases hb;exact hn hi
theorem RepH.update {prog:Program}{w:World}{μ:MH}{h h':Heap}{c:Addr}{o o':MO}(r:RepH prog w μ h) (e:μ c=some o) (k:∀ b o,b≠c->h.get? b=some o->h'.get? b=some o)
  (ho:KeepsT h h'->RepO prog w h' c o'):RepH prog w (upd μ c o') h':=by
 have kt:=KeepsT.but r e k
 intro a x ex
 unfold upd at ex
 split at ex
 ·rename_i q;cases ex;rw[q];exact ho kt
 ·rename_i q;exact(r a x ex).keeps kt fun y hy=>k a y q hy
inductive Loose (o:Obj) (r:Option Obj):Prop
 | slots (es:_) (ep:_) (h:o.data=.dict es ep) (sl:_) (e:r=some { o with slots:=sl })
 | tb (h:o.cls=.type "traceback") (vs:_) (e:o.data=.fields vs) (o':_) (e':r=some o') (h':o'.cls=.type "traceback") (vs':_) (d':o'.data=.fields vs')
noncomputable def bot (fz:List Addr):Addr:=match fz.getLast? with
 | some n=>n+1
 | none=>0
theorem Ru {cs fz:List Addr}{b:Addr}(h:b<bot fz):bot (cs++fz)=bot fz:=by
 cases fz with
 | nil=>exact absurd h (Nat.not_lt_zero _)
 | cons x l=>unfold bot;rw[List.getLast?_append,List.getLast?_cons];rfl
theorem bot_le {cs fz:List Addr}{b:Addr}(h:bot (cs++fz)≤b):bot fz≤b:=
 Nat.le_of_not_lt fun q=>Nat.lt_irrefl b (Nat.lt_of_lt_of_le (Ru q▸q) h)
inductive Held (fz:List Addr) (μ:MH) (b:Addr) (o:Obj) (r:Option Obj):Prop
 | same (e:r=some o)
 | loose (m:μ b=none) (n:bot fz≤b) (l:Loose o r)
structure Grow (fz:List Addr) (μ:MH) (s:Shared) (μ':MH) (s':Shared):Prop where
 keep:∀ b o,(μ b=none∨b∈fz)->s.heap.get? b=some o->Held fz μ b o (s'.heap.get? b)∧μ' b=μ b
 os:s'.os=s.os
 gens:s'.gens=s.gens
theorem Held.imm {fz:List Addr}{μ:MH}{b:Addr}{o:Obj}{r:Option Obj}(h:Held fz μ b o r) (i:ImmCls o):r=some o:=by
 cases h with
 | same e=>exact e
 | loose m n l=>
  cases l with
  | slots es ep h=>exact absurd i (F3 h)
  | tb h=>exact absurd i (F2 h (by decide) (by decide))
theorem Held.low {fz:List Addr}{μ:MH}{b:Addr}{o:Obj}{r:Option Obj}(h:Held fz μ b o r) (i:b<bot fz):r=some o:=by
 cases h with
 | same e=>exact e
 | loose m n l=>exact absurd i (Nat.not_lt_of_le n)
theorem Held.data {fz:List Addr}{μ:MH}{b:Addr}{o:Obj}{r:Option Obj}(h:Held fz μ b o r) (i:∀ vs,o.data≠.fields vs):∃ sl,r=some { o with slots:=sl }:=by
 cases h with
 | same e=>exact⟨o.slots,e⟩
 | loose m n l=>
  cases l with
  | slots es ep h sl e=>exact⟨sl,e⟩
  | tb h vs e=>exact absurd e (i vs)
theorem Held.trans {fz:List Addr}{μ μ':MH}{b:Addr}{o:Obj}{s:Shared}{r:Option Obj}(x:Held fz μ b o (s.heap.get? b)) (q:μ' b=μ b) (y:∀ o',s.heap.get? b=some o'->Held fz μ' b o' r):Held fz μ b o r:=by
 cases x with
 | same e=>
  cases y o e with
  | same e'=>exact .same e'
  | loose m n l=>exact .loose (q▸m) n l
 | loose m n l=>
  cases l with
  | slots es ep h sl e=>
   cases y _ e with
   | same e'=>exact .loose m n (.slots es ep h sl e')
   | loose m' n' l'=>
    cases l' with
    | slots es' ep' h' sl' e'=>exact .loose m n (.slots es ep h sl' e')
    | tb h' vs e'=>exact absurd (h.symm.trans e') (by intro z;cases z)
  | tb h vs e o' e' h' vs' d'=>
   cases y _ e' with
   | same e''=>exact .loose m n (.tb h vs e o' e'' h' vs' d')
   | loose m' n' l'=>
    cases l' with
    | slots es' ep' h'' sl' e''=>exact absurd (d'.symm.trans h'') (by intro z;cases z)
    | tb h1 v1 e1 o1 e2 h2 v2 d2=>exact .loose m n (.tb h vs e o1 e2 h2 v2 d2)
theorem Held.there {fz:List Addr}{μ:MH}{b:Addr}{o:Obj}{r:Option Obj}(x:Held fz μ b o r):∃ o',r=some o':=by
 cases x with
 | same e=>exact⟨_,e⟩
 | loose m n l=>
  cases l with
  | slots es ep h sl e=>exact⟨_,e⟩
  | tb q vs e o' e'=>exact⟨_,e'⟩
theorem Held.skip {fz:List Addr}{μ:MH}{b:Addr}{o:Obj}{r r':Option Obj}(x:Held fz μ b o r) (k:∀ o',r=some o'->r'=some o'):Held fz μ b o r':=by
 obtain⟨o',e⟩:=x.there
 rw[k o' e,← e];exact x
noncomputable def Firm (o:Obj):Prop:=(∀ es ep,o.data≠.dict es ep)∧o.cls≠.type "traceback"
theorem Held.firm {fz:List Addr}{μ:MH}{b:Addr}{o:Obj}{r:Option Obj}(x:Held fz μ b o r) (f:μ b≠none∨Firm o):r=some o:=by
 cases x with
 | same e=>exact e
 | loose m n l=>
  rcases f with f|f
  ·exact absurd m f
  ·cases l with
   | slots es ep h=>exact absurd h (f.1 es ep)
   | tb h=>exact absurd h f.2
theorem Grow.refl {fz:List Addr}{μ:MH}{s:Shared}:Grow fz μ s μ s:=⟨fun _ _ _ e=>⟨.same e,rfl⟩,rfl,rfl⟩
theorem Grow.trans {fz:List Addr}{μ μa μb:MH}{s s1 sd:Shared}(x:Grow fz μ s μa s1) (y:Grow fz μa s1 μb sd):Grow fz μ s μb sd:=
 ⟨fun b o f e=>by
  obtain⟨e1,q1⟩:=x.keep b o f e
  have f':=f.imp (fun z=>q1.trans z) id
  obtain⟨o',e'⟩:=e1.there
  exact⟨e1.trans q1 fun o' e'=>(y.keep b o' f' e').1,(y.keep b o' f' e').2.trans q1⟩,y.os.trans x.os,y.gens.trans x.gens⟩
theorem Held.weak {fz cs:List Addr}{μ:MH}{b:Addr}{o:Obj}{r:Option Obj}(x:Held (cs++fz) μ b o r):Held fz μ b o r:=by
 cases x with
 | same e=>exact .same e
 | loose m n l=>exact .loose m (bot_le n) l
theorem Grow.weak {fz cs:List Addr}{μ μ':MH}{s s':Shared}(x:Grow (cs++fz) μ s μ' s'):Grow fz μ s μ' s':=
 ⟨fun b o f e=>(x.keep b o (f.imp id fun m=>List.mem_append_right _ m) e).imp Held.weak id,x.os,x.gens⟩
theorem Grow.keepT {prog:Program}{w:World}{fz:List Addr}{μ μ':MH}{s s':Shared}(x:Grow fz μ s μ' s') (r:RepH prog w μ s.heap):KeepsT s.heap s'.heap:=fun b o e hi=>by
 refine(x.keep b o ?_ e).1.imm hi
 cases q:μ b with
 | none=>exact .inl rfl
 | some m=>
  obtain⟨y,hy,hn⟩:=(r b m q).obj
  rw[e] at hy;cases hy;exact absurd hi hn
noncomputable def FzIn (fz:List Addr) (h:Heap):Prop:=∀ b∈fz,h.get? b≠none
theorem FzIn.grow {fz:List Addr}{μ μ':MH}{s s':Shared}(f:FzIn fz s.heap) (x:Grow fz μ s μ' s'):FzIn fz s'.heap:=fun b hb=>by
 cases q:s.heap.get? b with
 | none=>exact absurd q (f b hb)
 | some o=>
  obtain⟨o',e⟩:=(x.keep b o (.inr hb) q).1.there
  exact fun z=>R2 z e
theorem FzIn.ext {fz:List Addr}{h h':Heap}(f:FzIn fz h) (k:∀ b o,h.get? b=some o->h'.get? b=some o):FzIn fz h':=fun b hb=>by
 cases q:h.get? b with
 | none=>exact absurd q (f b hb)
 | some o=>exact fun z=>R2 z (k b o q)
theorem Grow.ext {fz:List Addr}{μ:MH}{s:Shared}{h':Heap}{tk:Nat}(k:∀ b o,s.heap.get? b=some o->h'.get? b=some o):Grow fz μ s μ { s with heap:=h',toks:=tk }:=
 ⟨fun b o _ e=>⟨.same (k b o e),rfl⟩,rfl,rfl⟩
theorem Grow.alloc {fz:List Addr}{μ:MH}{s:Shared}{h':Heap}{tk:Nat}{c:Addr}{o:MO}(k:∀ b o,s.heap.get? b=some o->h'.get? b=some o) (hc:s.heap.get? c=none):
  Grow fz μ s (upd μ c o) { s with heap:=h',toks:=tk }:=
 ⟨fun b x _ e=>⟨.same (k b x e),if_neg (no_at e hc)⟩,rfl,rfl⟩
theorem Grow.update {fz:List Addr}{μ:MH}{s:Shared}{h':Heap}{tk:Nat}{c:Addr}{o o':MO}(e:μ c=some o) (hf:c∉fz) (k:∀ b o,b≠c->s.heap.get? b=some o->h'.get? b=some o):
  Grow fz μ s (upd μ c o') { s with heap:=h',toks:=tk }:=
 ⟨fun b x f hb=>by
  have ne:b≠c:=fun q=>f.elim (fun f=>R2 f (q▸e)) fun f=>hf (q▸f)
  exact⟨.same (k b x ne hb),if_neg ne⟩,rfl,rfl⟩
end Mine
end
section
namespace Mine
open PySem PySem.Calls PyProof.Rows
inductive PostV (prog:Program) (w:World) (fz:List Addr) (μ:MH) (s:Shared) (Q:MQ) (v:Value) (s':Shared):Prop
 | mk (mv:MV) (μ':MH) (q:Q mv μ') (rv:RepV s'.heap mv v) (r:RepH prog w μ' s'.heap) (g:Grow fz μ s μ' s')
structure Dp where
 n:Nat
 h:Bool
structure OkA (d:Dp) (A:Around):Prop where
 hand:d.h=true->A.handled=none
 depth:A.depth+2*d.n+2<recursionLimit
 units:A.units+4*d.n+100<cLine
structure OkC (d:Dp) (A:Around):Prop where
 hand:d.h=true->A.handled=none
 depth:A.depth+2*d.n+1<recursionLimit
 units:A.units+4*d.n+99<cLine
theorem OkA.toC {d:Dp}{A:Around}(h:OkA d A):OkC d A:=⟨h.hand,Nat.lt_of_succ_lt h.depth,Nat.lt_of_succ_lt h.units⟩
section
variable {prog:Program}{w:World}{fz:List Addr}{μ:MH}{s:Shared}{Q:MQ}{A:Around}{E:Value->Shared->Prop}
theorem RepH.free {h:Heap}(r:RepH prog w μ h) {c:Addr}(hc:h.get? c=none):μ c=none:=by
 cases q:μ c with
 | none=>rfl
 | some o=>obtain⟨x,hx,_⟩:=(r c o q).obj;rw[hc] at hx;cases hx
theorem FzIn.free {h:Heap}(f:FzIn fz h) {c:Addr}(hc:h.get? c=none):c∉fz:=fun m=>f c m hc
theorem Yn (h:Heap):h.get? h.objs.size=none:=by
 cases q:h.get? h.objs.size with
 | none=>rfl
 | some o=>exact absurd (Heap.lt_size q) (Nat.lt_irrefl _)
theorem Qd {mv:MV}{v:Value}{s':Shared}(hq:Q mv μ) (r:RepH prog w μ s.heap) (hv:RepV s.heap mv v) (hh:s'.heap=s.heap) (ho:s'.os=s.os) (hg:s'.gens=s.gens):PostV prog w fz μ s Q v s':=
 ⟨mv,μ,hq,hh▸hv,hh▸r,⟨fun b o _ e=>⟨.same (hh▸e),rfl⟩,ho,hg⟩⟩
theorem Jd {mv:MV}{v:Value}{h':Heap}{tk:Nat}(hq:Q mv μ) (r:RepH prog w μ s.heap) (k:∀ b o,s.heap.get? b=some o->h'.get? b=some o) (hv:RepV h' mv v):PostV prog w fz μ s Q v { s with heap:=h',toks:=tk }:=
 ⟨mv,μ,hq,hv,r.ext k,.ext k⟩
theorem Z3 {o:MO}{c:Addr}{h':Heap}{tk:Nat}(ha:allocM fz μ o fun c μ'=>Q (.ref c) μ') (r:RepH prog w μ s.heap) (f:FzIn fz s.heap) (hc:s.heap.get? c=none)
  (k:∀ b o,s.heap.get? b=some o->h'.get? b=some o) (ho:RepO prog w h' c o):PostV prog w fz μ s Q (.ref c) { s with heap:=h',toks:=tk }:=by
 have hm:=r.free hc
 exact⟨.ref c,upd μ c o,ha c hm (f.free hc),rfl,r.alloc k ho,.alloc k hc⟩
theorem Nh {o:MO}{ob:Obj}{tk:Nat}(ha:allocM fz μ o fun c μ'=>Q (.ref c) μ') (r:RepH prog w μ s.heap) (f:FzIn fz s.heap)
  (ho:RepO prog w (s.heap.push ob) s.heap.objs.size o):PostV prog w fz μ s Q (.ref s.heap.objs.size) { s with heap:=s.heap.push ob,toks:=tk }:=
 Z3 ha r f (Yn _) (fun b x e=>Heap.get?_push_of_some _ e) ho
theorem Ue {l:List MV}{vs:List Value}{h:Heap}(hv:RepVs h l vs):RepO prog w (h.push { cls:=.type "list",data:=.seq vs.toArray }) h.objs.size (.list l):=
 ⟨vs,⟨0,Heap.get?_push_size _ rfl⟩,hv.keepT (.of_all fun b x e=>Heap.get?_push_of_some _ e)⟩
theorem Qe {n:Nat}(h:fits n):n≤sizeLine:=Nat.le_trans h (by decide)
theorem notPylong (x:Int) {y:Int}(h:small y):Builtin.divisionGoesByPylong x y=false:=by
 unfold Builtin.divisionGoesByPylong
 have h1:y.natAbs<2 ^ 64:=by have:=h.1;have:=h.2;lia
 have h2:y.natAbs.log2<64:=by
  by_cases q:y.natAbs=0
  ·rw[q];decide
  ·exact(Nat.log2_lt q).mpr h1
 have h3:(if (y == 0)=true then 0 else y.natAbs.log2 / 30+1)≤300:=by split <;> (first|exact ar1|exact ar2 h2)
 simp only[gt_iff_lt,Bool.and_eq_false_iff,decide_eq_false_iff_not,Nat.not_lt]
 exact .inl h3
theorem repTup_push {l:List MV}{vs:List Value}{h:Heap}(hv:RepVs h l vs):RepV (h.push { cls:=.type "tuple",data:=.seq vs.toArray }) (.tup l) (.ref h.objs.size):=by
 exact⟨_,vs,0,rfl,Heap.get?_push_size _ rfl,hv.keepT (.of_all fun b x e=>Heap.get?_push_of_some _ e)⟩
theorem Ym {a:Addr}{l:List MV}(r:RepH prog w μ s.heap) (e:lst μ a=some l):∃ vs:List Value,s.heap.PlainList a vs.toArray∧RepVs s.heap l vs∧μ a=some (.list l):=by
 replace e:lstO (μ a)=some l:=e
 cases q:μ a with
 | none=>rw[q] at e;cases e
 | some o=>
  rw[q] at e
  cases o with
  | list l'=>
   cases e
   obtain⟨vs,h1,h2⟩:=r a _ q
   exact⟨vs,h1,h2,rfl⟩
  | _=>cases e
theorem op_bin {op:BOp}{o:Operator}{a b:MV}{va vb:Value}{d:Dp}(ho:opIs op o=true) (ha:RepV s.heap a va) (hb:RepV s.heap b vb) (r:RepH prog w μ s.heap) (f:FzIn fz s.heap) (hA:OkA d A)
  (h:binM fz op a b Q μ):wpAny (model prog w) A (binaryOp o va vb) (PostV prog w fz μ s Q) E s:=by
 obtain rfl:=of_decide_eq_true ho
 cases op with
 | sub=>
  obtain⟨x,y,rfl,rfl,h⟩:=J8 h
  obtain⟨t,rfl⟩:=ha;obtain⟨u,rfl⟩:=hb
  exact PyProof.Rows.sub_int' (Qd h r (by exact⟨_,rfl⟩) rfl rfl rfl)
 | mul=>
  obtain⟨x,y,rfl,rfl,h⟩:=J8 h
  obtain⟨t,rfl⟩:=ha;obtain⟨u,rfl⟩:=hb
  obtain⟨hs,h⟩:=h
  refine PyProof.Rows.mul_int (Qd h r (by exact⟨_,rfl⟩) rfl rfl rfl) ?_
  rcases hs with hs|hs
  ·exact IntMulOk.of_left (intBits_le_64 (by have:=hs.1;exact ar3 this) (by have:=hs.2;exact ar4 this))
  ·exact IntMulOk.of_right (intBits_le_64 (by have:=hs.1;lia) (by have:=hs.2;exact ar4 this))
 | fdiv=>
  obtain⟨x,y,rfl,rfl,h⟩:=J8 h
  obtain⟨t,rfl⟩:=ha;obtain⟨u,rfl⟩:=hb
  obtain⟨hs,h⟩:=h
  exact PyProof.Rows.floordiv_int hs.1 (Qd h r (by exact⟨_,rfl⟩) rfl rfl rfl) (.inl (notPylong _ hs.2))
 | mod=>
  obtain⟨x,y,rfl,rfl,h⟩:=J8 h
  obtain⟨t,rfl⟩:=ha;obtain⟨u,rfl⟩:=hb
  exact PyProof.Rows.mod_int' h.1 (Qd h.2 r (by exact⟨_,rfl⟩) rfl rfl rfl)
 | add=>
  cases a with
  | int x=>
   cases b with
   | int y=>
    obtain⟨t,rfl⟩:=ha;obtain⟨u,rfl⟩:=hb
    exact PyProof.Rows.add_int (Qd h r (by exact⟨_,rfl⟩) rfl rfl rfl)
   | _=>exact False.elim h
  | str x=>
   cases b with
   | str y=>
    obtain⟨t,rfl⟩:=ha;obtain⟨u,rfl⟩:=hb
    exact PyProof.Rows.add_str (fun t' tk=>Qd h.2 r (by exact⟨_,rfl⟩) rfl rfl rfl) (Qe h.1)
   | _=>exact False.elim h
  | ref p=>
   cases b with
   | ref q=>
    obtain⟨x,y,hx,hy,hz,h⟩:=h
    obtain rfl:va=.ref p:=ha
    obtain rfl:vb=.ref q:=hb
    obtain⟨vs,⟨n1,h1⟩,hv,_⟩:=Ym r hx
    obtain⟨ws,⟨n2,h2⟩,hw,_⟩:=Ym r hy
    refine P.add_list h1 h2 ?_ (by have:=hv.length;have:=hw.length;have:=Qe hz;simp;exact ar5 (by assumption) (by assumption) this)
    rw[show vs.toArray++ws.toArray=(vs++ws).toArray by simp]
    exact Nh h r f (Ue (hv.append hw))
   | _=>exact False.elim h
  | _=>exact False.elim h
end
end Mine
end
section
namespace Mine
open PySem PySem.Calls PyProof.Rows
section
variable {prog:Program}{w:World}{fz:List Addr}{μ:MH}{s:Shared}{Q:MQ}{A:Around}{E:Value->Shared->Prop}{d:Dp}
noncomputable def Still (s s':Shared):Prop:=s'.heap=s.heap∧s'.os=s.os∧s'.gens=s.gens
theorem Still.refl:Still s s:=⟨rfl,rfl,rfl⟩
theorem Z2 {mv:MV}{v:Value}{s':Shared}(hq:Q mv μ) (r:RepH prog w μ s.heap) (hv:RepV s.heap mv v) (st:Still s s'):PostV prog w fz μ s Q v s':=
 Qd hq r hv st.1 st.2.1 st.2.2
theorem B5 {v:MV}{x:Value}{b:Bool}(hv:RepV s.heap v x) (r:RepH prog w μ s.heap) (e:truthy μ v=some b):
  wpAny (model prog w) A (PySem.truthy x) (fun b' s'=>b'=b∧Still s s') E s:=by
 cases v with
 | none=>obtain rfl:=Option.some.inj e;obtain rfl:x=.none:=hv;exact truthy_none ⟨rfl,.refl⟩
 | bool c=>obtain rfl:=Option.some.inj e;obtain rfl:x=.bool c:=hv;exact wpAny_truthy_bool ⟨rfl,.refl⟩
 | int i=>obtain rfl:=Option.some.inj e;obtain⟨t,rfl⟩:=hv;exact PyProof.Rows.truthy_int ⟨by simp[bne,BEq.beq],.refl⟩
 | ref a=>
  obtain rfl:x=.ref a:=hv
  replace e:truthyO (μ a)=some b:=e
  cases q:μ a with
  | none=>rw[q] at e;cases e
  | some mo=>
   rw[q] at e
   cases mo with
   | list l=>
    have e:(if l.length≤2 ^ 20 then some (!l.isEmpty) else none)=some b:=e
    by_cases hs:l.length≤2 ^ 20
    ·rw[if_pos hs] at e
     obtain rfl:=Option.some.inj e
     obtain⟨vs,h1,h2⟩:=r a _ q
     have hl:=h2.length
     refine wpAny_truthy_list h1.isList (by simp;exact ar6 hs hl) ⟨?_,rfl,rfl,rfl⟩
     cases l <;> cases vs <;> first|rfl|cases hl
    ·rw[if_neg hs] at e;cases e
   | _=>cases e
 | _=>cases e
noncomputable def DR (h:Heap) (n:Nat) (x:Value) (dd:PyData):Prop:=∃ as,Reads h x dd as∧dd.canLay0=true∧dd.depth≤n
noncomputable def DRs (h:Heap) (n:Nat) (vs:List Value) (ds:List PyData):Prop:=∃ as,ReadsAll h vs ds as∧PyData.canLayAll0 ds=true∧PyData.depthAll ds≤n
theorem deep_all {n:Nat}(ih:∀ (v:MV) (x:Value) (dd:PyData),deep μ n v=some dd->RepV s.heap v x->DR s.heap n x dd):∀ (l:List MV) (vs:List Value) (ds:List PyData),l.mapM (deep μ n)=some ds->RepVs s.heap l vs->DRs s.heap n vs ds:=by
 intro l
 induction l with
 | nil=>
  intro vs ds e h
  cases vs with
  | cons _ _=>exact False.elim h
  | nil=>obtain rfl:([]:List PyData)=ds:=Option.some.inj e;exact⟨_,.nil,rfl,Nat.zero_le _⟩
 | cons v l il=>
  intro vs ds e h
  cases vs with
  | nil=>exact False.elim h
  | cons x vs=>
   rw[List.mapM_cons] at e
   obtain⟨d1,e1,e⟩:=Option.bind_eq_some_iff.mp e
   obtain⟨d2,e2,e⟩:=Option.bind_eq_some_iff.mp e
   obtain rfl:d1::d2=ds:=Option.some.inj e
   obtain⟨as,a1,a2,a3⟩:=ih v x d1 e1 h.1
   obtain⟨bs,b1,b2,b3⟩:=il vs d2 e2 h.2
   exact⟨_,.cons a1 b1,by simp only[PyData.canLayAll0,a2,b2,Bool.and_self],by simp only[PyData.depthAll];exact Nat.max_le.mpr ⟨a3,b3⟩⟩
theorem deep_str {n:Nat}{i:Str}{x:Value}{dd:PyData}(e:deep μ n (.str i)=some dd) (h:RepV s.heap (.str i) x):DR s.heap n x dd:=by
 have e:(if PyData.strOk i then some (PyData.str i) else none)=some dd:=by cases n <;> exact e
 by_cases ok:PyData.strOk i=true
 ·rw[if_pos ok] at e
  obtain rfl:=Option.some.inj e
  obtain⟨t,rfl⟩:=h
  exact⟨_,.str i t,by simpa[PyData.canLay0] using ok,by simp only[PyData.depth];exact Nat.zero_le _⟩
 ·rw[if_neg ok] at e;cases e
theorem deep_int {n:Nat}{i:Int}{x:Value}{dd:PyData}(e:deep μ n (.int i)=some dd) (h:RepV s.heap (.int i) x):DR s.heap n x dd:=by
 obtain rfl:PyData.int i=dd:=Option.some.inj (by cases n <;> exact e)
 obtain⟨t,rfl⟩:=h
 exact⟨_,.int i t,rfl,by simp only[PyData.depth];exact Nat.zero_le _⟩
theorem I7 {n:Nat}{b:Bool}{x:Value}{dd:PyData}(e:deep μ n (.bool b)=some dd) (h:RepV s.heap (.bool b) x):DR s.heap n x dd:=by
 obtain rfl:PyData.bool b=dd:=Option.some.inj (by cases n <;> exact e)
 obtain rfl:x=.bool b:=h
 exact⟨_,.bool b,rfl,by simp only[PyData.depth];exact Nat.zero_le _⟩
theorem I6 {n:Nat}{x:Value}{dd:PyData}(e:deep μ n .none=some dd) (h:RepV s.heap .none x):DR s.heap n x dd:=by
 obtain rfl:PyData.none=dd:=Option.some.inj (by cases n <;> exact e)
 obtain rfl:x=.none:=h
 exact⟨_,.none,rfl,by simp only[PyData.depth];exact Nat.zero_le _⟩
theorem Y0 (r:RepH prog w μ s.heap):∀ (n:Nat) (v:MV) (x:Value) (dd:PyData),deep μ n v=some dd->RepV s.heap v x->DR s.heap n x dd:=by
 intro n
 induction n with
 | zero=>
  intro v x dd e h
  cases v with
  | none=>exact I6 e h
  | bool b=>exact I7 e h
  | int i=>exact deep_int e h
  | str i=>exact deep_str e h
  | _=>cases e
 | succ n ih=>
  intro v x dd e h
  cases v with
  | none=>exact I6 e h
  | bool b=>exact I7 e h
  | int i=>exact deep_int e h
  | str i=>exact deep_str e h
  | tup l=>
   obtain⟨a,vs,k,rfl,ho,hv⟩:=h
   obtain⟨ds,hd,rfl⟩:=Option.map_eq_some_iff.mp e
   obtain⟨as,h1,h2,h3⟩:=deep_all ih l vs ds hd hv
   exact⟨_,.tuple ho rfl rfl (by simpa using h1),by simpa[PyData.canLay0] using h2,by simp only[PyData.depth];exact Nat.succ_le_succ (by assumption)⟩
  | ref a=>
   obtain⟨l,q,e⟩:=Option.bind_eq_some_iff.mp e
   obtain rfl:x=.ref a:=h
   obtain⟨vs,⟨k,ho⟩,hv,_⟩:=Ym r q
   obtain⟨ds,hd,rfl⟩:=Option.map_eq_some_iff.mp e
   obtain⟨as,h1,h2,h3⟩:=deep_all ih l vs ds hd hv
   exact⟨_,.list ho rfl rfl (by simpa using h1),by simpa[PyData.canLay0] using h2,by simp only[PyData.depth];exact Nat.succ_le_succ (by assumption)⟩
  | _=>cases e
theorem op_eq {neg:Bool}{a b:MV}{x y:Value}{r':Bool}(ha:RepV s.heap a x) (hb:RepV s.heap b y) (r:RepH prog w μ s.heap) (hA:OkA d A) (e:eqD μ a b=some r')
  {Q:Value->Shared->Prop}(h:Q (.bool (if neg then !r' else r')) s):wpAny (model prog w) A (compareOp (if neg then .NotEq else .Eq) x y) Q E s:=by
 obtain⟨d1,e1,e⟩:=Option.bind_eq_some_iff.mp e
 obtain⟨d2,e2,rfl⟩:=Option.map_eq_some_iff.mp e
 obtain⟨as,a1,a2,a3⟩:=Y0 r 9 a x d1 e1 ha
 obtain⟨bs,b1,b2,b3⟩:=Y0 r 9 b y d2 e2 hb
 have hu:A.units+min d1.depth d2.depth<cLine:=by have:=hA.units;exact ar7 b3 this
 cases neg
 ·exact SeqAt.compareEq_reads a1 b1 a2 b2 hu h
 ·exact SeqAt.compareNe_reads a1 b1 a2 b2 hu h
theorem F7 {K β:Type} [DecidableEq K] {m:K×β}{ms:List (K×β)}{k:K}(h:m.1=k):(m::ms).find? (fun kv=>kv.1=k)=some m:=List.find?_cons_of_pos (p:=fun kv:K×β=>decide (kv.1=k)) (decide_eq_true h)
theorem F8 {K β:Type} [DecidableEq K] {m:K×β}{ms:List (K×β)}{k:K}(h:m.1≠k):(m::ms).find? (fun kv=>kv.1=k)=ms.find? (fun kv=>kv.1=k):=List.find?_cons_of_neg (p:=fun kv:K×β=>decide (kv.1=k)) fun z=>h (of_decide_eq_true z)
theorem Uf {K:Type} [DecidableEq K] {h:Heap}(k:K):∀ {l:List (K×MV)}{kvs:List (K×Value)},RepKV h l kvs->
  (lookI l k=none∧valueAt kvs k=none)∨∃ v x,lookI l k=some v∧valueAt kvs k=some x∧RepV h v x
 | [],[]=>fun _=>.inl ⟨rfl,rfl⟩
 | m::ms,v::vs=>fun x=>by
  unfold lookI valueAt
  by_cases q:v.1=k
  ·exact .inr ⟨m.2,v.2,by rw[F7 (x.1.trans q)];rfl,by rw[F7 q];rfl,x.2.1⟩
  ·rw[F8 (fun z=>q (x.1.symm.trans z)),F8 q];exact Uf k x.2.2
 | [],_::_=>fun x=>False.elim x
 | _::_,[]=>fun x=>False.elim x
theorem He {K:Type} [DecidableEq K] {h:Heap}(k:K):∀ {l:List (K×MV)}{kvs:List (K×Value)},RepKV h l kvs->l.any (fun kv=>kv.1=k)=kvs.any (fun kv=>kv.1=k)
 | [],[]=>fun _=>rfl
 | m::ms,v::vs=>fun x=>by rw[List.any_cons,List.any_cons,He k x.2.2,x.1]
 | [],_::_=>fun x=>False.elim x
 | _::_,[]=>fun x=>False.elim x
theorem B4 {K:Type} [DecidableEq K] {h:Heap}(k:K) {v:MV}{x:Value}(hv:RepV h v x):∀ {l:List (K×MV)}{kvs:List (K×Value)},RepKV h l kvs->
  RepKV h (l.map (fun kv=>if kv.1=k then (kv.1,v) else kv)) (kvs.map (fun kv=>if kv.1=k then (kv.1,x) else kv))
 | [],[]=>fun _=>trivial
 | m::ms,u::vs=>fun x=>by
  by_cases q:u.1=k
  ·rw[List.map_cons,List.map_cons,if_pos (x.1.trans q),if_pos q];exact⟨x.1,hv,B4 k hv x.2.2⟩
  ·rw[List.map_cons,List.map_cons,if_neg (fun z=>q (x.1.symm.trans z)),if_neg q];exact⟨x.1,x.2.1,B4 k hv x.2.2⟩
 | [],_::_=>fun x=>False.elim x
 | _::_,[]=>fun x=>False.elim x
theorem Pp {K:Type}{h:Heap}{m:K×MV}{x:K×Value}(e:m.1=x.1) (hv:RepV h m.2 x.2):∀ {l:List (K×MV)}{kvs:List (K×Value)},RepKV h l kvs->RepKV h (l++[m]) (kvs++[x])
 | [],[]=>fun _=>⟨e,hv,trivial⟩
 | _::ms,_::vs=>fun y=>⟨y.1,y.2.1,Pp e hv y.2.2⟩
 | [],_::_=>fun x=>False.elim x
 | _::_,[]=>fun x=>False.elim x
theorem Hd {K:Type} [DecidableEq K] {h:Heap}(k:K) {v:MV}{x:Value}(hv:RepV h v x) {l:List (K×MV)}{kvs:List (K×Value)}(r:RepKV h l kvs):RepKV h (putI l k v) (stored kvs k x):=by
 unfold putI stored
 rw[He k r]
 split
 ·exact B4 k hv r
 ·exact Pp (m:=(k,v)) (x:=(k,x)) rfl hv r
theorem look_some {K:Type} [DecidableEq K] {h:Heap}(k:K) {l:List (K×MV)}{kvs:List (K×Value)}(hr:RepKV h l kvs):(valueAt kvs k).isSome=(lookI l k).isSome:=by
 rcases Uf k hr with ⟨e1,e2⟩|⟨v,x,e1,e2,_⟩ <;> rw[e1,e2] <;> rfl
theorem op_in {neg:Bool}{a b:MV}{x y:Value}{r':Bool}(ha:RepV s.heap a x) (hb:RepV s.heap b y) (r:RepH prog w μ s.heap) (hA:OkA d A) (e:inM μ a b=some r')
  {Q:Value->Shared->Prop}(h:∀ s',Still s s'->Q (.bool (if neg then !r' else r')) s'):wpAny (model prog w) A (compareOp (if neg then .NotIn else .In) x y) Q E s:=by
 cases b with
 | tup l=>
  obtain⟨xs,dd,e1,e2,rfl⟩:=anyT_inv e
  obtain⟨as,a1,a2,a3⟩:=Y0 r 9 _ _ _ e1 hb
  obtain⟨bs,b1,b2,b3⟩:=Y0 r 9 _ _ _ e2 ha
  have hu:A.units+1+min (PyData.depthAll xs) dd.depth<cLine:=by have:=hA.units;exact ar8 b3 this
  have a2':PyData.canLayAll0 xs=true:=a2
  cases neg
  ·exact SeqAt.in_tuple_reads a1 b1 a2' b2 hu (h s .refl)
  ·exact SeqAt.notIn_tuple_reads a1 b1 a2' b2 hu (h s .refl)
 | ref p=>
  have hp:y=.ref p:=hb
  replace e:inO μ p a (μ p)=some r':=e
  cases q:μ p with
  | none=>rw[q] at e;cases e
  | some mo=>
   rw[q] at e
   cases mo with
   | idict l=>
    cases a with
    | int k=>
     obtain rfl:=Option.some.inj e
     obtain⟨t,rfl⟩:=ha;subst hp
     obtain⟨kvs,hd,hr,hs⟩:=r p _ q
     have hl:=look_some k hr
     cases neg
     ·exact wpAny_in_of (intKind_is prog w k t) hs hd.mapOf (by rw[hl];exact h _ ⟨rfl,rfl,rfl⟩)
     ·exact wpAny_notIn_of (intKind_is prog w k t) hs hd.mapOf (by rw[hl];exact h _ ⟨rfl,rfl,rfl⟩)
    | _=>cases e
   | list l=>
    obtain⟨xs,dd,e1,e2,rfl⟩:=anyL_inv e
    obtain⟨as,a1,a2,a3⟩:=Y0 r 9 _ _ _ e1 hb
    obtain⟨bs,b1,b2,b3⟩:=Y0 r 9 _ _ _ e2 ha
    have hu:A.units+1+min (PyData.depthAll xs) dd.depth<cLine:=by have:=hA.units;lia
    have a2':PyData.canLayAll0 xs=true:=a2
    cases neg
    ·exact SeqAt.in_list_reads a1 b1 a2' b2 hu (h s .refl)
    ·exact SeqAt.notIn_list_reads a1 b1 a2' b2 hu (h s .refl)
   | _=>cases e
 | str y'=>
  cases a with
  | str x'=>
   have e:(if x'.length=1 then some (y'.cps.toList.contains (x'.cps.toList.headD 0)) else none)=some r':=e
   by_cases hl:x'.length=1
   ·rw[if_pos hl] at e
    obtain rfl:=Option.some.inj e
    obtain⟨t,rfl⟩:=ha;obtain⟨u,rfl⟩:=hb
    have hx:x'=⟨#[x'.cps.toList.headD 0]⟩:=by
     obtain⟨cps⟩:=x'
     obtain⟨l⟩:=cps
     have hl':l.length=1:=hl
     match l,hl' with
     | [c],_=>rfl
    have hc:(!(Builtin.Str.occurrences y' x' 0 y'.length 1).isEmpty)=y'.cps.toList.contains (x'.cps.toList.headD 0):=by
     rw[hx,StrLaws.found_one]
     simp
    cases neg
    ·exact P.in_str (by rw[hc];exact h s .refl)
    ·exact P.notIn_str (by rw[hc];exact h s .refl)
   ·rw[if_neg hl] at e;cases e
  | _=>cases e
 | _=>cases e
end
end Mine
end
section
namespace Mine
open PySem PySem.Calls PyProof.Rows
section
variable {prog:Program}{w:World}{fz:List Addr}{μ:MH}{s:Shared}{Q:MQ}{A:Around}{E:Value->Shared->Prop}{d:Dp}
theorem atI_seq {α:Type}{l:List α}{k:Int}{v:α}(e:atI l k=some v):∃ j,seqIndex? k l.length=some j∧l[j]?=some v∧-(l.length:Int)≤k∧k<l.length:=by
 unfold atI at e
 unfold seqIndex?
 split at e
 ·rename_i h0
  have hlt:k.toNat<l.length:=by
   cases q:l[k.toNat]? with
   | none=>rw[q] at e;cases e
   | some _=>exact(List.getElem?_eq_some_iff.mp q).1
  refine⟨k.toNat,?_,e,by exact ar9 h0,by exact ar10 hlt⟩
  have:¬ k<0:=by simp[*]
  simp[this,h0];lia
 ·split at e
  ·rename_i h0 h1
   have hlt:(k+l.length).toNat<l.length:=by
    cases q:l[(k+l.length).toNat]? with
    | none=>rw[q] at e;cases e
    | some _=>exact(List.getElem?_eq_some_iff.mp q).1
   refine⟨(k+l.length).toNat,?_,e,by exact ar11 h1,by exact ar12 h0⟩
   have:k<0:=by exact ar13 h0
   simp[this,h1];exact ar14 h0
  ·cases e
theorem Iy {p:Addr}{l:List MV}{vs:List Value}{k:Int}{t:Tok}{v:MV}{Q:Value->Shared->Prop}(h1:s.heap.PlainList p vs.toArray) (hv:RepVs s.heap l vs) (hz:l.length≤2 ^ 20) (e:atI l k=some v)
  (h:∀ z,RepV s.heap v z->Q z s):wpAny (model prog w) A (getItem (.ref p) (.int k t)) Q E s:=by
 have hl:=hv.length
 unfold atI at e
 split at e
 ·rename_i h0
  obtain⟨z,hz1,hz2⟩:=hv.get e
  have:=(List.getElem?_eq_some_iff.mp hz1).1
  exact wpAny_getItem_list h1.isList h0 (by exact ar15 hz hl this) (by simpa using hz1) (h z hz2)
 ·split at e
  ·rename_i h0 h2
   obtain⟨z,hz1,hz2⟩:=hv.get e
   refine wpAny_getItem_list_neg h1.isList (by exact ar13 h0) (by simp;exact ar16 hl h2) (by exact ar17 hz h2) (x:=z) ?_ (h z hz2)
   simp only[List.size_toArray,hl];simpa using hz1
  ·cases e
theorem op_item {a i v:MV}{x y:Value}{value slice:PySem.Expr}{Q:Value->Shared->Prop}(ha:RepV s.heap a x) (hi:RepV s.heap i y) (r:RepH prog w μ s.heap) (e:idxM μ a i=some v)
  (hs:∀ o i,subscripted slice false o i=operate [o,i] (getItem o i)) (h:∀ z s',RepV s.heap v z->Still s s'->Q z s'):wpAny (model prog w) A (subscriptTail value slice x y) Q E s:=by
 cases a with
 | tup l=>
  replace e:=A0 e;obtain⟨k,rfl,e⟩:=e
  replace e:=Px e;obtain⟨hz,e⟩:=e
  obtain⟨p,vs,n,rfl,h1,hv⟩:=ha;obtain⟨t,rfl⟩:=hi
  have hl:=hv.length
  obtain⟨j,e1,e2,e3,e4⟩:=atI_seq e
  obtain⟨z,hz1,hz2⟩:=hv.get e2
  exact tail_any ⟨_,h1,rfl⟩ F.slot_tuple_getitem.lookup (P.getItem_tuple h1 (by exact ar18 hz e3) (by exact ar19 hz e4) (by simpa[hl] using e1) (by simpa using hz1) (h z s hz2 .refl)) (hs _ _)
 | str st=>
  replace e:=A0 e;obtain⟨k,rfl,e⟩:=e
  replace e:=Px e;obtain⟨hz,e⟩:=e
  obtain⟨c,e',rfl⟩:=Option.map_eq_some_iff.mp e
  obtain⟨u,rfl⟩:=ha;obtain⟨t,rfl⟩:=hi
  obtain⟨j,e1,e2,e3,e4⟩:=atI_seq e'
  have hz':st.cps.toList.length≤2 ^ 20:=by simpa[Str.length] using hz
  refine tail_any (typeIs_str s st u) F.slot_str_getitem.lookup (P.getItem_str (c:=c) ?_ ?_ (h _ _ ⟨_,rfl⟩ ⟨rfl,rfl,rfl⟩)) (hs _ _)
  ·simp;exact ar20 e3 e4 hz'
  ·rw[show st.length=st.cps.toList.length by rfl,e1];simpa using e2
 | ref p=>
  obtain rfl:x=.ref p:=ha
  replace e:idxO (μ p) i=some v:=e
  cases q:μ p with
  | none=>rw[q] at e;cases e
  | some mo=>
   rw[q] at e
   cases mo with
   | list l=>
    replace e:=A0 e;obtain⟨k,rfl,e⟩:=e
    replace e:=Px e;obtain⟨hz,e⟩:=e
    obtain⟨t,rfl⟩:=hi
    obtain⟨vs,h1,hv⟩:=r p _ q
    exact tail_any h1.isList.typeIs slot_list_getitem.lookup (Iy h1 hv hz e fun z hz=>h z s hz .refl) (hs _ _)
   | idict l=>
    replace e:=A0 e;obtain⟨k,rfl,e⟩:=e
    obtain⟨t,rfl⟩:=hi
    obtain⟨kvs,hd,hr,_⟩:=r p _ q
    rcases Uf k hr with ⟨e1,e2⟩|⟨v',z,e1,e2,hz⟩
    ·rw[e1] at e;cases e
    ·obtain rfl:=Option.some.inj (e1.symm.trans e)
     exact tail_any hd.typeIs slot_dict_getitem.lookup (wpAny_getItem_of (intKind_is prog w k t) hd.mapOf e2 (h z _ hz ⟨rfl,rfl,rfl⟩)) (hs _ _)
   | _=>cases e
 | _=>cases e
theorem Dl {h:Heap}{l:List MV}{vs:List Value}(hv:RepVs h l vs):∀ (js:List Nat),RepVs h (js.filterMap (l[·]?)) (js.filterMap (vs[·]?))
 | []=>trivial
 | j::js=>by
  have ih:=Dl hv js
  have hl:=hv.length
  simp only[List.filterMap_cons]
  cases q:l[j]? with
  | none=>
   have:vs[j]?=none:=by rw[List.getElem?_eq_none_iff] at q ⊢;exact G9 hl q
   rw[this];exact ih
  | some m=>
   obtain⟨z,h1,h2⟩:=hv.get q
   rw[h1];exact⟨h2,ih⟩
theorem B8 {m:MV}{v:Value}{o:Option Int}(hr:RepV s.heap m v) (e:partI m=some o):IsPart v o∧∃ p:Option (Int×Tok),v=partValue p∧p.map (·.1)=o:=by
 cases m with
 | none=>obtain rfl:=Option.some.inj e;obtain rfl:v=.none:=hr;exact⟨.none,none,rfl,rfl⟩
 | int i=>obtain rfl:=Option.some.inj e;obtain⟨t,rfl⟩:=hr;exact⟨.int _ _,some (_,t),rfl,rfl⟩
 | _=>cases e
theorem pickN_str (n:Nat) (lo hi st:Option Int):Builtin.Str.strSliceIndices lo hi (st.getD 1) n=pickN n lo hi st:=by
 unfold Builtin.Str.strSliceIndices pickN sliceBounds
 cases lo <;> cases hi <;> cases st <;> rfl
theorem sliceRange_one (a b:Int):sliceRange a b 1=(List.range (b-a).toNat).map fun (k:Nat)=>(a+k).toNat:=by
 show (List.range (if a<b then (b-a+1-1) / 1 else 0).toNat).map (fun (k:Nat)=>(a+1*(k:Int)).toNat)=_
 rw[Int.ediv_one,Int.add_sub_cancel]
 have e:(if a<b then b-a else 0).toNat=(b-a).toNat:=by
  by_cases h:a<b
  ·rw[if_pos h]
  ·rw[if_neg h,Int.toNat_of_nonpos (Int.sub_nonpos_of_le (Int.not_lt.mp h))];rfl
 rw[e]
 exact List.map_congr_left fun k _=>by rw[Int.one_mul]
theorem sb_pos {n:Nat}{lo hi st:Option Int}(h:st.getD 1 > 0):0≤(sliceBounds lo hi st n).1∧(sliceBounds lo hi st n).2.1≤n:=by
 constructor
 ·cases lo with
  | none=>exact Int.le_of_eq (if_pos h).symm
  | some i=>exact Int.le_trans (Int.le_max_left 0 _) (Int.le_of_eq (if_pos h).symm)
 ·cases hi with
  | none=>exact Int.le_of_eq (if_pos h)
  | some i=>exact Int.le_trans (Int.le_of_eq (if_pos h)) (Int.max_le.mpr ⟨Int.natCast_nonneg n,Int.min_le_right ..⟩)
theorem sb_neg {n:Nat}{lo hi st:Option Int}(h:¬ st.getD 1 > 0):(sliceBounds lo hi st n).1≤(n:Int)-1∧-1≤(sliceBounds lo hi st n).2.1:=by
 constructor
 ·cases lo with
  | none=>exact Int.le_of_eq (if_neg h)
  | some i=>exact Int.le_trans (Int.le_of_eq (if_neg h)) (Int.max_le.mpr ⟨Int.sub_le_sub_right (Int.natCast_nonneg n) 1,Int.min_le_right ..⟩)
 ·cases hi with
  | none=>exact Int.le_of_eq (if_neg h).symm
  | some i=>exact Int.le_trans (Int.le_max_left (-1) _) (Int.le_of_eq (if_neg h).symm)
theorem full_at {a b:Int}{n k:Nat}(ha:0≤a) (hb:b≤n) (hl:(b-a).toNat=n) (hk:k<n):(a+k).toNat=k:=by
 obtain⟨m,rfl⟩:=Int.eq_ofNat_of_zero_le ha
 cases q:b-(m:Int) with
 | ofNat c=>
  rw[q] at hl
  obtain rfl:c=n:=hl
  rw[← Int.sub_add_cancel b m,q] at hb
  obtain rfl:=Nat.le_zero.mp (Nat.le_of_add_le_add_left (Int.ofNat_le.mp hb:c+m≤c+0))
  exact Nat.zero_add k
 | negSucc c=>rw[q] at hl;exact absurd hk (hl▸Nat.not_lt_zero _)
theorem pickN_full {n:Nat}{lo hi st:Option Int}(h1:st.getD 1=1) (hl:(pickN n lo hi st).length=n):pickN n lo hi st=List.range n:=by
 obtain⟨b1,b2⟩:=sb_pos (n:=n) (lo:=lo) (hi:=hi) (st:=st) (by rw[h1];decide)
 have b3:(sliceBounds lo hi st n).2.2=1:=h1
 unfold pickN at hl ⊢
 rw[b3,sliceRange_one] at hl ⊢
 rw[List.length_map,List.length_range] at hl
 rw[hl]
 exact(List.map_congr_left fun k hk=>full_at b1 b2 hl (List.mem_range.mp hk)).trans (List.map_id _)
theorem pickN_le (n:Nat) (lo hi st:Option Int):(pickN n lo hi st).length≤n:=sliceRange_length_le _ _ _ _ sb_pos sb_neg
theorem V9 {α:Type}:∀ (l:List α),(List.range l.length).filterMap (l[·]?)=l
 | []=>rfl
 | x::l=>by
  have ih:=V9 l
  rw[List.length_cons,List.range_succ_eq_map,List.filterMap_cons]
  simp only[List.getElem?_cons_zero,List.filterMap_map]
  congr 1
theorem op_slice {a lo hi st:MV}{x vl vh vs:Value}{value:PySem.Expr}{l u t:Option PySem.Expr}{p:Pos}{sl:Addr}{μc:MH}{s0:Shared}(ha:RepV s.heap a x) (hlo:RepV s.heap lo vl) (hhi:RepV s.heap hi vh) (hst:RepV s.heap st vs)
  (r:RepH prog w μ s.heap) (f:FzIn fz s.heap) (h:sliceM fz a lo hi st Q μ) (hs:s.heap.get? sl=some { cls:=.type "slice",data:=.fields #[vl,vh,vs] }):
  wpAny (model prog w) A (subscriptTail value (.Slice l u t p) x (.ref sl)) (PostV prog w fz μ s Q) E s:=by
 obtain⟨ol,oh,os,e1,e2,e3,e0,h⟩:=h
 obtain⟨pl,ql,rfl,rfl⟩:=B8 hlo e1
 obtain⟨ph,qh,rfl,rfl⟩:=B8 hhi e2
 obtain⟨ps,qs,rfl,rfl⟩:=B8 hst e3
 have hsub:∀ o,∃ ops,subscripted (.Slice l u t p) false o (.ref sl)=operate ops (getItem o (.ref sl)):=fun o=>by
  cases t
  ·exact⟨_,rfl⟩
  ·exact⟨_,rfl⟩
 cases a with
 | str x'=>
  obtain⟨hz,h⟩:=h
  obtain⟨tk,rfl⟩:=ha
  obtain⟨ops,hop⟩:=hsub (.str x' tk)
  have h0:((qs.map (·.1)).getD 1 == 0)=false:=by
   cases q:qs with
   | none=>rfl
   | some c=>rw[q] at e0;simp at e0 ⊢;exact e0
  refine tail_any (typeIs_str s x' tk) F.slot_str_getitem.lookup (wpAny_getItem_str_slice (l:=ql) (u:=qh) (st:=qs) ⟨_,hs,rfl,rfl⟩ h0 ?_) hop
  have hp:slicePicked x' ql qh qs=pickN x'.length (ql.map (·.1)) (qh.map (·.1)) (qs.map (·.1)):=pickN_str _ _ _ _
  have hlen:x'.length=x'.cps.toList.length:=by rfl
  unfold sliceMade
  split
  ·rename_i hc
   simp only[Bool.and_eq_true,beq_iff_eq] at hc
   have hfull:=pickN_full (n:=x'.length) (lo:=ql.map (·.1)) (hi:=qh.map (·.1)) (st:=qs.map (·.1)) hc.1 (by rw[← hp];exact hc.2)
   have hx:(⟨(pick x'.cps.toList (ql.map (·.1)) (qh.map (·.1)) (qs.map (·.1))).toArray⟩:Str)=x':=by
    unfold pick
    rw[← hlen,hfull,hlen,V9]
   rw[hx] at h
   exact Qd h r (by exact⟨_,rfl⟩) rfl rfl rfl
  ·have hx:((slicePicked x' ql qh qs).filterMap (x'.cps[·]?)).toArray=(pick x'.cps.toList (ql.map (·.1)) (qh.map (·.1)) (qs.map (·.1))).toArray:=by
    unfold pick
    rw[hp,hlen]
    congr 2
    funext i
    simp
   rw[hx]
   refine⟨?_,Qd h r (by exact⟨_,rfl⟩) rfl rfl rfl⟩
   have h1:(pick x'.cps.toList (ql.map (·.1)) (qh.map (·.1)) (qs.map (·.1))).length≤x'.length:=by
    unfold pick
    rw[← hlen]
    exact Nat.le_trans (List.length_filterMap_le _ _) (pickN_le _ _ _ _)
   have h2:=Qe hz
   simp only[Str.length,List.size_toArray] at h1 h2 ⊢
   exact ar22 h1 h2
 | ref q=>
  obtain⟨y,hy,hz,h⟩:=h
  obtain rfl:x=.ref q:=ha
  obtain⟨ops,hop⟩:=hsub (.ref q)
  obtain⟨vs',h1,hv,_⟩:=Ym r hy
  have hl:=hv.length
  refine tail_any h1.isList.typeIs slot_list_getitem.lookup (wpAny_getItem_list_slice h1.isList (sl:=sl) ⟨_,hs,rfl,rfl⟩ pl ph ps e0 ?_ (by have:=Qe hz;simp;exact G9 hl this)) hop
  have hx:slicePick vs'.toArray (ql.map (·.1)) (qh.map (·.1)) (qs.map (·.1))=((pickN y.length (ql.map (·.1)) (qh.map (·.1)) (qs.map (·.1))).filterMap (vs'[·]?)).toArray:=by
   unfold slicePick pickN
   simp only[List.size_toArray,hl]
   congr 2
   funext i
   simp
  rw[hx]
  exact Nh h r f (Ue (Dl hv _))
 | _=>exact False.elim h
end
end Mine
end
section
namespace Mine
open PySem PySem.Calls PyProof.Rows PySem.W
section
variable {prog:Program}{w:World}{fz:List Addr}{μ:MH}{s:Shared}{Q:MQ}{A:Around}{E:Value->Shared->Prop}{d:Dp}
theorem Uc {h:Heap}:∀ {l:List MV}{vs:List Value},vs.length=l.length->(∀ (j:Nat) (v:Value),vs[j]?=some v->∃ m,l[j]?=some m∧RepV h m v)->RepVs h l vs
 | [],[]=>fun _ _=>trivial
 | m::l,v::vs=>fun hl hg=>by
  obtain⟨m',h1,h2⟩:=hg 0 v rfl
  cases h1
  exact⟨h2,Uc (Nat.succ.inj hl) fun j u e=>hg (j+1) u e⟩
 | [],_::_=>fun hl _=>by contradiction
 | _::_,[]=>fun hl _=>by contradiction
theorem Ng {K:Type}{h:Heap}:∀ {l:List (K×MV)}{kvs:List (K×Value)}{i:Nat}{kv:K×Value},RepKV h l kvs->kvs[i]?=some kv->∃ m,l[i]?=some (kv.1,m)∧RepV h m kv.2
 | [],[],i,kv=>fun _ e=>by contradiction
 | m::ms,y::ys,0,kv=>fun r e=>by
  cases e
  exact⟨m.2,by rw[← r.1];rfl,r.2.1⟩
 | m::ms,y::ys,i+1,kv=>fun r e=>Ng (i:=i) r.2.2 e
 | [],_::_,_,_=>fun r _=>False.elim r
 | _::_,[],_,_=>fun r _=>False.elim r
structure DSrc (prog:Program) (w:World) (s:Shared) (x:Value) (l:List MV) (da:Addr):Prop where
 ex:∃ T r n P OK,x=.ref r∧KdlSrc prog w T r da n P OK∧OK s.heap∧n=l.length∧∀ i v,P i v->∀ h',KeepsT s.heap h'->∃ m,l[i]?=some m∧RepV h' m v
inductive DsrcIs (prog:Program) (w:World) (s:Shared) (x:Value) (l:List MV):Prop
 | seq (a:Addr) (vs:List Value) (n:Nat) (hx:x=.ref a) (ho:s.heap.get? a=some { cls:=.type "list",data:=.seq (List.toArray vs) n }∨s.heap.get? a=some { cls:=.type "tuple",data:=.seq (List.toArray vs) n }) (hr:RepVs s.heap l vs)
 | str (st:Str) (t:Tok) (hx:x=.str st t)
 | dict (da:Addr) (hd:DSrc prog w s x l da)
theorem dsrc_dict {K:Type} [DecidableEq K] (knd:PySem.KeyKind prog w K) (enc:K->MV) (he:∀ k u h',knd.is k u=true->RepV h' (enc k) u) (a:Addr) (kv:List (K×MV)) (kvs:List (K×Value)) (hD:s.heap.DictOf knd a kvs) (hk:RepKV s.heap kv kvs) (hs:(a == sysModules)=false):DSrc prog w s (.ref a) (kv.map fun p=>enc p.1) a:=by
 obtain⟨ep,hat⟩:=hD.dictAt
 refine⟨_,a,_,_,_,rfl,kdl_dict (knd:=knd) (kvs:=kvs) (ep:=ep) hs,hat,by rw[List.length_map,hk.length],?_⟩
 rintro i u ⟨k,y,h1,h2⟩ h' kt
 obtain⟨m,h3,h4⟩:=Ng hk h1
 exact⟨enc k,by rw[List.getElem?_map,h3];rfl,he k u h' h2⟩
theorem dsrc_keys {K:Type} [DecidableEq K] (knd:PySem.KeyKind prog w K) (enc:K->MV) (he:∀ k u h',knd.is k u=true->RepV h' (enc k) u) (a:Addr) (kv:List (K×MV)) (kvs:List (K×Value)) (hD:s.heap.DictOf knd a kvs) (hk:RepKV s.heap kv kvs) (r:Addr) (hr:KeysView s.heap r a):DSrc prog w s (.ref r) (kv.map fun p=>enc p.1) a:=by
 obtain⟨ep,hat⟩:=hD.dictAt
 refine⟨_,r,_,_,_,rfl,kdl_keys (knd:=knd) (kvs:=kvs) (ep:=ep),⟨hr,hat⟩,by rw[List.length_map,hk.length],?_⟩
 rintro i u ⟨k,y,h1,h2⟩ h' kt
 obtain⟨m,h3,h4⟩:=Ng hk h1
 exact⟨enc k,by rw[List.getElem?_map,h3];rfl,he k u h' h2⟩
theorem encI (k:Int) (u:Value) (h':Heap) (hi:(intKind prog w).is k u=true):RepV h' (.int k) u:=Value.isInt_shape hi
theorem Rq {v:MV}{x:Value}{l:List MV}(r:RepH prog w μ s.heap) (hv:RepV s.heap v x) (e:items μ v=some l):DsrcIs prog w s x l:=by
 cases v with
 | tup l'=>
  obtain rfl:=Option.some.inj e
  obtain⟨a,vs,n,rfl,h1,h2⟩:=hv
  exact .seq a vs n rfl (.inr h1) h2
 | str st=>
  obtain⟨t,rfl⟩:=hv
  exact .str st t rfl
 | ref a=>
  obtain rfl:x=.ref a:=hv
  replace e:itemsO (μ a)=some l:=e
  cases q:μ a with
  | none=>rw[q] at e;cases e
  | some mo=>
   rw[q] at e
   cases mo with
   | list l'=>obtain rfl:=Option.some.inj e;obtain⟨vs,⟨n,h1⟩,h2⟩:=r a _ q;exact .seq a vs n rfl (.inl h1) h2
   | idict l'=>obtain rfl:=Option.some.inj e;obtain⟨kvs,h1,h2,h3⟩:=r a _ q;exact .dict a (dsrc_dict _ _ encI a l' kvs h1 h2 h3)
   | _=>cases e
 | keys a=>
  obtain⟨p,rfl,hp⟩:=hv
  replace e:keysO (μ a)=some l:=e
  cases q:μ a with
  | none=>rw[q] at e;cases e
  | some mo=>
   rw[q] at e
   cases mo with
   | list l'=>cases e
   | idict l'=>obtain rfl:=Option.some.inj e;obtain⟨kvs,h1,h2,h3⟩:=r a _ q;exact .dict a (dsrc_keys _ _ encI a l' kvs h1 h2 p hp)
   | _=>cases e
 | _=>cases e
theorem Dm {P:Prop}{h:Heap}{v:MV}{x:Str}{t:Tok}(hv:RepV h v (.str x t)) (hn:∀ st,v≠.str st):P:=by
 cases v with
 | str st=>exact absurd rfl (hn st)
 | none=>cases hv
 | bool b=>cases hv
 | int i=>obtain⟨_,q⟩:=hv;cases q
 | tup l=>obtain⟨_,_,_,q,_⟩:=hv;cases q
 | ref a=>cases hv
 | keys d=>obtain⟨_,q,_⟩:=hv;cases q
theorem Dq {v:MV}{x:Value}{l:List MV}{R:List Value->Shared->Prop}(r:RepH prog w μ s.heap) (hv:RepV s.heap v x) (e:items μ v=some l) (hn:fits l.length) (hA:A.handled=none) (hns:∀ st,v≠.str st)
  (h:∀ vs h' tk,(∀ b o,s.heap.get? b=some o->h'.get? b=some o)->RepVs h' l vs->R vs { s with heap:=h',toks:=tk }):wpAny (model prog w) A (collect x) R E s:=by
 rcases Rq r hv e with ⟨a,vs,n,rfl,ho,hr⟩|⟨st,t,rfl⟩|⟨da,⟨T,p,n,P,OK,rfl,K,ok,rfl,hP⟩⟩
 ·have hl:=hr.length
  rcases ho with ho|ho
  ·exact wpAny_collect_seq a (.inl rfl) ho rfl rfl (fun h' k=>h vs h' s.toks k (hr.keepT (.of_all k))) (by have:=Qe hn;simp;exact G9 hl this)
  ·exact wpAny_collect_seq a (.inr rfl) ho rfl rfl (fun h' k=>h vs h' s.toks k (hr.keepT (.of_all k))) (by have:=Qe hn;simp;exact G9 hl this)
 ·exact Dm hv hns
 ·refine kdu_collect K hA ok (Qe hn) fun h' tk acc k ha=>h _ h' tk k (Uc (by rw[Array.length_toList];exact ha.1) fun j u hj=>?_)
  exact hP j u (ha.2 j u (by rw[← Array.getElem?_toList];exact hj)) h' (.of_all k)
theorem Uo {h:Heap}:∀ {l:List MV}{vs:List Value}{ns:List Int},RepVs h l vs->intsOf l=some ns->IntsAre vs ns
 | [],[],ns=>fun _ e=>by cases e;exact .nil
 | m::l,v::vs,ns=>fun r e=>by
  unfold intsOf at e
  rw[List.mapM_cons] at e
  obtain⟨i,e1,e⟩:=Option.bind_eq_some_iff.mp e
  obtain⟨ns',e2,e⟩:=Option.bind_eq_some_iff.mp e
  obtain rfl:i::ns'=ns:=Option.some.inj e
  cases m <;> first|cases e1|skip
  obtain⟨⟨t,rfl⟩,hr⟩:=r
  exact .cons _ t (Uo hr e2)
 | [],_::_,_=>fun r _=>False.elim r
 | _::_,[],_=>fun r _=>False.elim r
theorem Ud {h:Heap}:∀ {vs:List Value}{ns:List Int},IntsAre vs ns->RepVs h (ns.map .int) vs
 | _,_,.nil=>trivial
 | _,_,.cons n t r=>⟨⟨t,rfl⟩,Ud r⟩
theorem O7 {l:List MV}{ns:List Int}(e:intsOf l=some ns):ns.length=l.length:=by
 unfold intsOf at e
 induction l generalizing ns with
 | nil=>simp at e;subst e;rfl
 | cons m l ih=>
  rw[List.mapM_cons] at e
  simp only[Option.bind_eq_bind,Option.bind_eq_some_iff,Option.pure_def,Option.some.injEq] at e
  obtain⟨i,e1,ns',e2,rfl⟩:=e
  simp[ih e2]
theorem Zx {ns ns':List Int}(hp:ns'.Perm ns) (hs:ns'.Pairwise (·≤·)):ns'=sortI ns:=by
 have h1:(sortI ns).Perm ns:=List.mergeSort_perm _ _
 have h2:(sortI ns).Pairwise (fun a b=>decide (a≤b)=true):=List.pairwise_mergeSort (by intro a b c;simp;solve_by_elim (maxDepth:=3) only[*,Int.le_trans,Int.lt_of_lt_of_le,Int.lt_of_le_of_lt,Int.le_of_lt]) (by intro a b;simp;exact ar23) ns
 refine List.Perm.eq_of_pairwise (le:=fun a b=>a≤b) ?_ hs (h2.imp (by intro a b h;simpa using h)) (hp.trans h1.symm)
 intro a b _ _ h3 h4;exact ar24 h3 h4
theorem Ny {ns:List Int}(h:ns.Pairwise (·≥·)):ns.reverse.Pairwise (·≤·):=by
 rw[List.pairwise_reverse];exact h
theorem Hf {b:Bool}{v:MV}{x:Value}{l:List MV}{ns:List Int}(r:RepH prog w μ s.heap) (f:FzIn fz s.heap) (hv:RepV s.heap v x) (e:items μ v=some l) (hi:intsOf l=some ns) (hn:l.length<64) (hA:A.handled=none) (hns:∀ st,v≠.str st)
  (h:allocM fz μ (.list ((if b then (sortI ns).reverse else sortI ns).map .int)) fun c μ'=>Q (.ref c) μ'):
  (b=false->wpAny (model prog w) A (call (.builtin "sorted") [x]) (PostV prog w fz μ s Q) E s)∧wpAny (model prog w) A (call (.builtin "sorted") [x] [(Str.ofString "reverse",.bool b)]) (PostV prog w fz μ s Q) E s:=by
 have hf:fits l.length:=Nat.le_trans (Nat.le_of_lt hn) (by decide)
 have fin:∀ (vs:List Value) (h':Heap) (tk:Nat) (out:Array Value) (ns':List Int),(∀ b o,s.heap.get? b=some o->h'.get? b=some o)->IntsAre out.toList ns'->ns'=(if b then (sortI ns).reverse else sortI ns)->
   PostV prog w fz μ s Q (.ref h'.objs.size) { s with heap:=sortedHeap (h'.push (seqObj "list" vs.toArray 0)) h'.objs.size vs out,toks:=tk }:=by
  intro vs h' tk out ns' k hI hns'
  have hnew:s.heap.get? h'.objs.size=none:=by
   cases q:s.heap.get? h'.objs.size with
   | none=>rfl
   | some o=>exact absurd (Heap.lt_size (k _ _ q)) (Nat.lt_irrefl _)
  have k2:∀ b o,s.heap.get? b=some o->(sortedHeap (h'.push (seqObj "list" vs.toArray 0)) h'.objs.size vs out).get? b=some o:=fun b o e=>by
   have e':=k b o e
   have hlt:=Heap.lt_size e'
   rw[sortedHeap_old (Nat.ne_of_lt hlt) (by rw[Heap.size_push];exact Nat.lt_succ_of_lt hlt)]
   exact Heap.get?_push_of_some _ e'
  refine Z3 h r f hnew k2 ?_
  obtain⟨ep,he⟩:=sortedHeap_at (h:=h'.push (seqObj "list" vs.toArray 0)) (a:=h'.objs.size) (vs:=vs) (n:=0) (out:=out) (Heap.get?_push_size _ rfl)
  refine⟨out.toList,⟨ep,by simpa[seqObj] using he⟩,?_⟩
  rw[← hns']
  exact Ud hI
 refine⟨fun hb=>?_,?_⟩
 ·subst hb
  refine Calls.call_function_entry kind_sorted plain_sorted entry_sorted (args_sorted1 _) ?_
  unfold Builtin.«sorted»
  refine wpAny_bind (m:=checkCount "sorted" 1 1 _) (wpAny_pure ?_)
  refine wpAny_bind (Dq (A:=A.in1) r hv e hf hA hns fun vs h' tk k hr=>?_)
  have hl:=hr.length
  refine wpAny_bind (wpAny_newList ?_ (by have:=Qe hf;exact G9 hl this))
  have hoL:(h'.push (seqObj "list" vs.toArray 0)).get? h'.objs.size=some (seqObj "list" vs.toArray 0):=Heap.get?_push_size _ rfl
  refine wpAny_bind (wpAny_holding (wpAny_call_entry slot_list_sort ⟨_,hoL,rfl⟩ entry_list_sort (list_sort_tree hoL (Uo hr hi) (by exact ar25 hn hl) fun out ns' a1 a2 a3=>⟨_,rfl,?_⟩) (args_list_sort _)))
  exact wpAny_pure ⟨_,rfl,fin vs h' tk out ns' k a1 (Zx a2 a3)⟩
 ·refine call_function_entry_kw kind_sorted plain_sorted entry_sorted (args_sorted_rev _ _) ?_
  unfold Builtin.«sorted»
  refine wpAny_bind (m:=checkCount "sorted" 1 1 _) (wpAny_pure ?_)
  refine wpAny_bind (Dq (A:=A.in1) r hv e hf hA hns fun vs h' tk k hr=>?_)
  have hl:=hr.length
  refine wpAny_bind (wpAny_newList ?_ (by have:=Qe hf;exact G9 hl this))
  have hoL:(h'.push (seqObj "list" vs.toArray 0)).get? h'.objs.size=some (seqObj "list" vs.toArray 0):=Heap.get?_push_size _ rfl
  refine wpAny_bind (wpAny_holding (wpAny_call_entry_kw slot_list_sort ⟨_,hoL,rfl⟩ entry_list_sort (list_sort_tree_rev hoL (Uo hr hi) (by exact ar25 hn hl) fun out ns' a1 a2 a3=>⟨_,rfl,?_⟩) (args_list_sort_rev _ _)))
  refine wpAny_pure ⟨_,rfl,fin vs h' tk out ns' k a1 ?_⟩
  cases b
  ·exact Zx a2 a3
  ·have:=Zx ((List.reverse_perm ns').trans a2) (Ny a3)
   simp only[if_true]
   rw[← this,List.reverse_reverse]
end
end Mine
end
section
namespace Mine
open PySem
structure TabOk (led:Bool) (t:SetTable):Prop where
 ris:t.place.toList.Pairwise (·<·)
 led:t.led=led
noncomputable def Ris (xs:Array Nat):Prop:=∀ (i k a b:Nat),i<k->xs[i]?=some a->xs[k]?=some b->a<b
theorem Dk {xs:Array Nat}(h:xs.toList.Pairwise (·<·)):Ris xs:=fun i k a b hik ha hb=>by
 rw[← Array.getElem?_toList] at ha hb
 obtain⟨h1,rfl⟩:=List.getElem?_eq_some_iff.mp ha
 obtain⟨h2,rfl⟩:=List.getElem?_eq_some_iff.mp hb
 exact List.pairwise_iff_getElem.mp h i k h1 h2 hik
structure BelowIs (xs:Array Nat) (j r:Nat):Prop where
 le:r≤xs.size
 lt:∀ i a,i<r->xs[i]?=some a->a<j
 ge:∀ i a,r≤i->xs[i]?=some a->j≤a
theorem mid_in {lo hi:Nat}(h:lo<hi):lo≤(lo+hi) / 2∧(lo+hi) / 2<hi:=
 ⟨(Nat.le_div_iff_mul_le (by decide)).mpr (Nat.mul_two lo▸Nat.add_le_add_left (Nat.le_of_lt h) lo),Nat.div_lt_of_lt_mul (Nat.two_mul hi▸Nat.add_lt_add_right h hi)⟩
theorem below_s {xs:Array Nat}{j fuel lo hi:Nat}:SetTable.below.go xs j (fuel+1) lo hi=if lo<hi then (if xs.getD ((lo+hi) / 2) j<j then SetTable.below.go xs j fuel ((lo+hi) / 2+1) hi else SetTable.below.go xs j fuel lo ((lo+hi) / 2)) else lo:=rfl
theorem below_go {xs:Array Nat}{j:Nat}(hr:Ris xs) (fuel:Nat):∀ {lo hi:Nat},lo≤hi->hi≤lo+fuel->hi≤xs.size->(∀ i a,i<lo->xs[i]?=some a->a<j)->(∀ i a,hi≤i->xs[i]?=some a->j≤a)->BelowIs xs j (SetTable.below.go xs j fuel lo hi):=by
 induction fuel with
 | zero=>exact fun h1 h3 h2 hL hH=>⟨Nat.le_trans h1 h2,hL,fun i a q=>hH i a (Nat.le_trans h3 q)⟩
 | succ fuel ih=>
  intro lo hi h1 h3 h2 hL hH
  rw[below_s]
  by_cases q:lo<hi
  ·rw[if_pos q]
   obtain⟨m1,m2⟩:=mid_in q
   generalize (lo+hi) / 2=m at m1 m2 ⊢
   have ha:xs[m]?=some (xs.getD m j):=by
    unfold Array.getD
    rw[dif_pos (Nat.lt_of_lt_of_le m2 h2)];exact Array.getElem?_eq_getElem _
   generalize xs.getD m j=a at ha ⊢
   by_cases c:a<j
   ·rw[if_pos c]
    refine ih m2 ((Nat.succ_add m fuel).symm▸Nat.le_trans h3 (Nat.succ_le_succ (Nat.add_le_add_right m1 fuel))) h2 (fun i b hi' hb=>?_) hH
    rcases Nat.lt_or_eq_of_le (Nat.le_of_lt_succ hi') with z|rfl
    ·exact Nat.lt_trans (hr i _ b a z hb ha) c
    ·exact Option.some.inj (ha.symm.trans hb)▸c
   ·rw[if_neg c]
    refine ih m1 (Nat.le_of_lt_succ (Nat.lt_of_lt_of_le m2 h3)) (Nat.le_trans (Nat.le_of_lt m2) h2) hL fun i b hi' hb=>?_
    rcases Nat.lt_or_eq_of_le hi' with z|rfl
    ·exact Nat.le_trans (Nat.not_lt.mp c) (Nat.le_of_lt (hr _ i a b z ha hb))
    ·exact Option.some.inj (ha.symm.trans hb)▸Nat.not_lt.mp c
  ·rw[if_neg q]
   exact⟨Nat.le_trans h1 h2,hL,fun i a z=>hH i a (Nat.le_trans (Nat.not_lt.mp q) z)⟩
theorem B0 {xs:Array Nat}(h:xs.toList.Pairwise (·<·)) (j:Nat):BelowIs xs j (SetTable.below xs j):=
 below_go (Dk h) _ (Nat.zero_le _) (Nat.le_add_left ..) (Nat.le_refl _) (fun i a hi=>absurd hi (Nat.not_lt_zero _)) fun i a hi ha=>by
  rw[Array.getElem?_eq_none hi] at ha;cases ha
theorem BelowIs.ge' {xs:Array Nat}{j r r':Nat}(h:BelowIs xs j r) (h':BelowIs xs j r'):r'≤r:=Nat.le_of_not_lt fun q=>
 have ha:=Array.getElem?_eq_getElem (xs:=xs) (Nat.lt_of_lt_of_le q h'.le)
 Nat.not_lt.mpr (h.ge r _ (Nat.le_refl _) ha) (h'.lt r _ q ha)
theorem BelowIs.eq {xs:Array Nat}{j r r':Nat}(h:BelowIs xs j r) (h':BelowIs xs j r'):r=r':=Nat.le_antisymm (h'.ge' h) (h.ge' h')
theorem below_next {xs:Array Nat}(h:xs.toList.Pairwise (·<·)) {k a:Nat}(ha:xs[k]?=some a):SetTable.below xs (a+1)=k+1:=by
 have hk:k<xs.size:=(Array.getElem?_eq_some_iff.mp ha).1
 refine(B0 h (a+1)).eq ⟨hk,fun i b hi hb=>?_,fun i b hi hb=>?_⟩
 ·rcases Nat.lt_or_eq_of_le (Nat.le_of_lt_succ hi) with z|rfl
  ·exact Nat.lt_succ_of_lt (Dk h i k b a z hb ha)
  ·exact Option.some.inj (ha.symm.trans hb)▸Nat.lt_succ_self _
 ·exact Dk h k i a b hi ha hb
theorem below_zero {xs:Array Nat}(h:xs.toList.Pairwise (·<·)):SetTable.below xs 0=0:=
 (B0 h 0).eq ⟨Nat.zero_le _,fun i b hi=>absurd hi (Nat.not_lt_zero _),fun i b _ _=>Nat.zero_le _⟩
theorem not_live {t:SetTable}(h:t.place.toList.Pairwise (·<·)) {j:Nat}(hj:t.place[SetTable.below t.place j]?≠some j):j∉t.place.toList:=fun m=>by
 obtain⟨i,hi,e⟩:=List.mem_iff_getElem.mp m
 have ha:t.place[i]?=some j:=by rw[← Array.getElem?_toList,List.getElem?_eq_getElem hi,e]
 have:SetTable.below t.place j=i:=(B0 h j).eq ⟨Nat.le_of_lt hi,fun k b hk hb=>Dk h k i b j hk hb ha,fun k b hk hb=>by
  rcases Nat.lt_or_eq_of_le hk with z|rfl
  ·exact Nat.le_of_lt (Dk h i k j b z ha hb)
  ·exact Option.some.inj (ha.symm.trans hb)▸Nat.le_refl _⟩
 rw[this] at hj;exact hj ha
noncomputable def Free (t:SetTable) (j:Nat):Prop:=t.place[SetTable.below t.place j]?≠some j
theorem H9 {t:SetTable}{j:Nat}(h:∀ i,t.slot j≠.live i):Free t j:=fun e=>by
 refine h (SetTable.below t.place j) ?_
 unfold SetTable.slot
 dsimp only
 rw[if_pos (by rw[e];exact if_pos rfl)]
theorem Ow {t:SetTable}{hashAt:Nat->Int}{hs:Int}:∀ (fuel:Nat) (p:SetTable.Probe),(∀ d,p.dummy=some d->Free t d)->∀ j d,SetTable.probe.go t hashAt hs fuel p=some (.empty j d)->Free t (d.getD j)
 | 0=>fun p _ j d h=>by cases h
 | fuel+1=>fun p hp j d h=>by
  replace h:(match t.slot p.j with | .empty=>some (SetTable.Met.empty p.j p.dummy) | .dummy=>SetTable.probe.go t hashAt hs fuel (t.advance { p with dummy:=some p.j }) | .live i=>if hashAt i == hs then some (SetTable.Met.candidate p.j i (t.advance p)) else SetTable.probe.go t hashAt hs fuel (t.advance p))=some (SetTable.Met.empty j d):=h
  have adv:∀ q:SetTable.Probe,(t.advance q).dummy=q.dummy:=fun q=>by unfold SetTable.advance;split <;> rfl
  cases q:t.slot p.j with
  | empty=>
   rw[q] at h
   simp only[Option.some.injEq,SetTable.Met.empty.injEq] at h
   obtain⟨rfl,rfl⟩:=h
   cases e:p.dummy with
   | none=>exact H9 fun i=>by rw[Option.getD_none,q];simp
   | some d=>exact hp d e
  | dummy=>
   rw[q] at h
   refine Ow fuel _ (fun d' e=>?_) j d h
   rw[adv] at e
   simp only[Option.some.injEq] at e
   subst e
   exact H9 fun i=>by rw[q];simp
  | live i=>
   rw[q] at h
   dsimp only at h
   split at h
   ·cases h
   ·exact Ow fuel _ (fun d' e=>hp d' (by rwa [adv] at e)) j d h
theorem Gr {t:SetTable}{hs:Int}{j:Nat}{b:Bool}(h:t.freeSlot hs=some (j,b)):Free t j:=by
 unfold SetTable.freeSlot at h
 split at h
 ·rename_i j' d e
  simp only[Option.some.injEq,Prod.mk.injEq] at h
  rw[← h.1]
  exact Ow _ _ (fun d e=>by unfold SetTable.probeStart at e;cases e) _ _ e
 ·cases h
theorem put_ris {t:SetTable}(h:t.place.toList.Pairwise (·<·)) {j:Nat}(hj:Free t j):(t.put j).1.place.toList.Pairwise (·<·):=by
 show (SetTable.insertAt t.place (SetTable.below t.place j) j).toList.Pairwise (·<·)
 rw[SetTable.toList_insertAt]
 have hb:=B0 h j
 have hn:=not_live h hj
 rw[List.pairwise_append]
 refine⟨h.sublist (List.take_sublist ..),List.pairwise_cons.mpr ⟨fun a ha=>?_,h.sublist (List.drop_sublist ..)⟩,fun a ha b hb'=>?_⟩
 ·obtain⟨i,hi,rfl⟩:=List.mem_iff_getElem.mp ha
  rw[List.getElem_drop]
  have hi':SetTable.below t.place j+i<t.place.toList.length:=Nat.add_lt_of_lt_sub' (List.length_drop▸hi)
  exact Nat.lt_of_le_of_ne (hb.ge _ _ (Nat.le_add_right ..) (Array.getElem?_eq_getElem hi')) fun e=>hn (e▸List.getElem_mem hi')
 ·have la:a<j:=by
   obtain⟨i,hi,rfl⟩:=List.mem_iff_getElem.mp ha
   rw[List.getElem_take]
   rw[List.length_take] at hi
   exact hb.lt i _ (Nat.lt_of_lt_of_le hi (Nat.min_le_left ..)) (Array.getElem?_eq_getElem (Nat.lt_of_lt_of_le hi (Nat.min_le_right ..)))
  rcases List.mem_cons.mp hb' with rfl|hb'
  ·exact la
  ·obtain⟨i,hi,rfl⟩:=List.mem_iff_getElem.mp hb'
   rw[List.getElem_drop]
   have hi':SetTable.below t.place j+i<t.place.toList.length:=Nat.add_lt_of_lt_sub' (List.length_drop▸hi)
   exact Nat.lt_of_lt_of_le la (hb.ge _ _ (Nat.le_add_right ..) (Array.getElem?_eq_getElem hi'))
theorem Ua {led:Bool}{t:SetTable}(h:t.led=led) (n:Nat):TabOk led (t.standIn n):=⟨by
 show (Array.range n).toList.Pairwise (·<·)
 rw[Array.toList_range];exact List.pairwise_lt_range,h⟩
theorem Iw {led:Bool}{t:SetTable}(h:TabOk led t) (n:Nat):TabOk led (t.orStandIn n):=by
 unfold SetTable.orStandIn
 split
 ·exact h
 ·exact Ua h.led n
theorem layNew_ok {led:Bool}{t:SetTable}(h:TabOk led t) (es:Array (Int×Value)) (hs:Int) (x:Value):TabOk led (layNew t es hs x).2.1:=by
 unfold layNew
 split
 ·rename_i slot d e
  exact Iw ⟨put_ris h.ris (Gr e),h.led⟩ _
 ·exact Ua h.led _
theorem relayAll_ok {led:Bool}{t:SetTable}(h:TabOk led t) (es:Array (Int×Value)) (n:Nat):TabOk led (relayAll t es n).2.1:=by
 unfold relayAll
 split
 ·rename_i t' order e
  dsimp only
  split
  ·unfold SetTable.relaid SetTable.laid at e
   obtain⟨owner,_,e⟩:=Option.bind_eq_some_iff.mp e
   simp only[Option.pure_def,Option.some.injEq,Prod.mk.injEq] at e
   obtain⟨rfl,_⟩:=e
   refine⟨?_,h.led⟩
   show (((List.range _).filterMap _).map _).toArray.toList.Pairwise (·<·)
   rw[List.toList_toArray,List.pairwise_map,List.pairwise_filterMap]
   refine List.Pairwise.imp ?_ List.pairwise_lt_range
   intro a b hab x hx y hy
   cases ha:owner.getD a none with
   | none=>rw[ha] at hx;cases hx
   | some u=>
    cases hb:owner.getD b none with
    | none=>rw[hb] at hy;cases hy
    | some v=>rw[ha] at hx;rw[hb] at hy;cases hx;cases hy;exact hab
  ·exact Ua h.led _
 ·exact Ua h.led _
theorem plainOff_ok {led:Bool}{t:SetTable}(h:TabOk led t):TabOk led { t with plain:=false }:=⟨h.ris,h.led⟩
end Mine
end
section
namespace Mine
open PySem PySem.Calls PyProof.Rows
section
variable {prog:Program}{w:World}{K:Type} [DecidableEq K] {knd:KeyKind prog w K}{A:Around}{E:Value->Shared->Prop}{s:Shared}
structure SetIs (knd:KeyKind prog w K) (led:Bool) (S:K->Bool) (n:Nat) (o:Obj) (es:Array (Int×Value)) (ep:Nat) (t:SetTable):Prop where
 ex:o.ExactSet
 data:o.data=.set es ep t
 el:ElemsOf knd es.toList
 mem:∀ k,S k=true↔∃ e∈es.toList,knd.is k e.2=true
 bd:es.size<scanBound
 fits:t.fits es.size=true
 size:es.size=n
 tab:TabOk led t
noncomputable def SetG (knd:KeyKind prog w K) (h:Heap) (a:Addr) (led:Bool) (S:K->Bool) (n:Nat):Prop:=∃ o es ep t,h.get? a=some o∧SetIs knd led S n o es ep t
theorem SetG.keep {h h':Heap}{a:Addr}{led:Bool}{S:K->Bool}{n:Nat}(x:SetG knd h a led S n) (k:∀ o,h.get? a=some o->h'.get? a=some o):SetG knd h' a led S n:=by
 obtain⟨o,es,ep,t,ho,q⟩:=x
 exact⟨o,es,ep,t,k o ho,q⟩
theorem SetIs.put {led:Bool}{S S':K->Bool}{n:Nat}{h:Heap}{a:Addr}{o:Obj}{es es':Array (Int×Value)}{ep:Nat}{t t':SetTable}(x:SetIs knd led S n o es ep t) (ho:h.get? a=some o) (hel:ElemsOf knd es'.toList) (hmem:∀ k,S' k=true↔∃ e∈es'.toList,knd.is k e.2=true)
  (hb:es'.size<scanBound) (hf:t'.fits es'.size=true) (ht:TabOk led t'):∃ o',(h.update a (Obj.putSet es' t')).get? a=some o'∧SetIs knd led S' es'.size o' es' (ep+1) t':=by
 have hg:=Heap.get?_update_self (Obj.putSet es' t') ho (by rw[putSet_of es' t' x.data];rfl)
 rw[putSet_of es' t' x.data] at hg
 exact⟨_,hg,x.ex,rfl,hel,hmem,hb,hf,rfl,ht⟩
theorem set_tail {g:Bool->Sem Unit}(hg:∀ (b:Bool) (s1:Shared) (Q':Unit->Shared->Prop),Q' () s1->wpAny (model prog w) A (g b) Q' E s1) {led:Bool}{S S':K->Bool}{n:Nat}{a:Addr}{o:Obj}{es es':Array (Int×Value)}{ep:Nat}{t t':SetTable}(x:SetIs knd led S n o es ep t) (ho:s.heap.get? a=some o)
  (hel:ElemsOf knd es'.toList) (hmem:∀ k,S' k=true↔∃ e∈es'.toList,knd.is k e.2=true) (hb:es'.size<scanBound) (hf:t'.fits es'.size=true) (ht:TabOk led t') {d:Bool}{R:Option Bool->Shared->Prop}
  (h:∀ h',Heap.SameBut a s.heap h'->SetG knd h' a led S' es'.size->R (some true) { s with heap:=h' }):
  wpAny (model prog w) A (do
    storeSet a es' t'
    if (!d && t'.tooFull)=true then do
      g (relayAll t' es' (SetTable.grown es'.size)).2.2
      storeSet a (relayAll t' es' (SetTable.grown es'.size)).1 (relayAll t' es' (SetTable.grown es'.size)).2.1
      pure (some true)
     else pure (some true)) R E s:=by
 refine wpAny_bind (wpAny_storeSet_of ho x.data ?_ (fits_of_scanBound hb))
 obtain⟨od,ho1,xa⟩:=x.put ho hel hmem hb hf ht
 have hs:=Heap.SameBut.update s.heap a (Obj.putSet es' t')
 split
 ·have hp:=relayAll_perm t' es' (SetTable.grown es'.size)
  have hfb:=relayAll_fits t' es' (SetTable.grown es'.size)
  have ht2:=relayAll_ok ht es' (SetTable.grown es'.size)
  generalize relayAll t' es' (SetTable.grown es'.size)=Z at hp hfb ht2 ⊢
  obtain⟨esa,tc,gave⟩:=Z
  have hz:esa.size=es'.size:=by rw[← Array.length_toList,hp.length_eq,Array.length_toList]
  obtain⟨og,ho2,xb⟩:=xa.put (S':=S') ho1 (hel.perm hp) (fun k=>(hmem k).trans ⟨fun ⟨e,he,q⟩=>⟨e,hp.mem_iff.mpr he,q⟩,fun ⟨e,he,q⟩=>⟨e,hp.mem_iff.mp he,q⟩⟩) (hz▸hb) hfb ht2
  refine wpAny_bind (hg _ _ _ (wpAny_bind (wpAny_storeSet_of ho1 xa.data ?_ (fits_of_scanBound (hz▸hb)))))
  rw[hz] at xb
  exact wpAny_pure (h _ (hs.trans (Heap.SameBut.update _ a _)) ⟨og,_,_,_,ho2,xb⟩)
 ·exact wpAny_pure (h _ hs ⟨od,_,_,_,ho1,xa⟩)
theorem set_add {led:Bool}{S:K->Bool}{n:Nat}{a:Addr}{k:K}{x:Value}{Q:Bool->Shared->Prop}(hkey:knd.is k x=true) (hsc:x.scannable=true) (hS:SetG knd s.heap a led S n) (hroom:n+1<scanBound)
  (h:∀ h',Heap.SameBut a s.heap h'->SetG knd h' a led (fun k'=>S k' || decide (k'=k)) (if S k then n else n+1)->∀ b,Q b { s with heap:=h' }):
  wpAny (model prog w) A (setAddHashed a x (knd.hash k)) Q E s:=by
 obtain⟨o,es,ep,t,ho,hx⟩:=hS
 unfold setAddHashed setAddHashedIn
 refine wpAny_holding (wpAny_bind (wpAny_setState_of ho hx.data hx.fits ?_))
 dsimp only
 rw[byScan_of hsc hx.bd hx.el]
 simp only[↓reduceIte]
 unfold setAddByScan
 refine wpAny_bind (wpAny_bind (wpAny_rule (wpAny_bind (wpAny_setScan_of hkey ho hx.data hx.fits hx.el ?_))))
 cases hr:List.findIdx? (fun e=>knd.is k e.2) es.toList with
 | some j=>
  dsimp only
  obtain⟨hj,hpj,_⟩:=List.findIdx?_eq_some_iff_getElem.mp hr
  have hSk:S k=true:=(hx.mem k).mpr ⟨_,List.getElem_mem hj,hpj⟩
  refine wpAny_pure (wpAny_pure ?_)
  have e:(fun k'=>S k' || decide (k'=k))=S:=funext fun k'=>by
   by_cases q:k'=k
   ·subst q;simp[hSk]
   ·simp[q]
  have:=h s.heap (.refl a _) (by rw[e,hSk];exact⟨o,es,ep,t,ho,hx⟩) false
  cases s;exact this
 | none=>
  dsimp only
  have hSk:S k=false:=by
   cases q:S k with
   | false=>rfl
   | true=>obtain⟨e,he,hp⟩:=(hx.mem k).mp q;have:=List.findIdx?_eq_none_iff.mp hr e he;rw[hp] at this;cases this
  have hp:=layNew_perm t es (knd.hash k) x
  have hf:=layNew_fits t es (knd.hash k) x
  have ht:=layNew_ok hx.tab es (knd.hash k) x
  generalize layNew t es (knd.hash k) x=Z at hp hf ht ⊢
  obtain⟨es1,te,d,gave⟩:=Z
  dsimp only at hp hf ht ⊢
  rw[Array.toList_push] at hp
  have hel:=(hx.el.push hkey hsc).perm hp
  have hmem:=mem_push_iff hkey hx.mem hp
  have hz:es1.size=n+1:=by rw[← Array.length_toList,hp.length_eq,List.length_append,Array.length_toList,hx.size];rfl
  have hgw:∀ (b:Bool) (s1:Shared) (Q':Unit->Shared->Prop),Q' () s1->wpAny (model prog w) A (match b with|true=>rule "set.scan.the-table-gave-way" | false=>pure ()) Q' E s1:=
   fun b s1 Q' hq=>by cases b <;> first|exact wpAny_pure hq|exact wpAny_rule hq
  refine wpAny_bind (hgw _ _ _ ?_)
  have fin:∀ h',Heap.SameBut a s.heap h'->SetG knd h' a led (fun k'=>S k' || decide (k'=k)) es1.size->∀ b,Q b { s with heap:=h' }:=fun h' hs q=>h h' hs (by rw[hSk];rw[hz] at q;exact q)
  split
  ·refine wpAny_bind ?_
   rw[hashByValue_scannable 8 hsc]
   refine wpAny_pure (set_tail ?_ hx ho hel hmem (by rw[hz];exact hroom) ?_ ?_ fun h' hs q=>?_)
   ·exact fun b s1 Q' hq=>by cases b <;> first|exact wpAny_pure hq|exact wpAny_rule hq
   ·split
    ·exact hf
    ·exact SetTable.fits_plain_off hf
   ·split
    ·exact ht
    ·exact plainOff_ok ht
   ·exact wpAny_pure (fin h' hs q _)
  ·refine wpAny_bind (wpAny_pure ?_)
   simp only[↓reduceIte]
   refine set_tail ?_ hx ho hel hmem (by rw[hz];exact hroom) hf ht fun h' hs q=>?_
   ·exact fun b s1 Q' hq=>by cases b <;> first|exact wpAny_pure hq|exact wpAny_rule hq
   ·exact wpAny_pure (fin h' hs q _)
end
end Mine
end
section
set_option maxRecDepth 100000
namespace Mine
open PySem PySem.Calls PyProof.Rows
theorem addD_mem {K:Type} [DecidableEq K] {acc:List K}{v k:K}:k∈addD acc v↔k∈acc∨k=v:=by
 unfold addD
 split
 ·rename_i h
  exact⟨.inl,fun x=>x.elim id fun e=>e▸h⟩
 ·simp
theorem addD_nodup {K:Type} [DecidableEq K] {acc:List K}{v:K}(h:acc.Nodup):(addD acc v).Nodup:=by
 unfold addD
 split
 ·exact h
 ·rename_i q
  rw[List.nodup_append]
  exact⟨h,by simp,fun a ha b hb e=>by rw[List.mem_singleton] at hb;subst hb;subst e;exact q ha⟩
theorem Gb {K:Type} [DecidableEq K] {acc:List K}{v:K}:(addD acc v).length=if v∈acc then acc.length else acc.length+1:=by
 unfold addD;split <;> simp
theorem fold_mem {K:Type} [DecidableEq K]:∀ (l acc:List K) (k:K),k∈l.foldl addD acc↔k∈acc∨k∈l
 | []=>fun acc k=>by simp
 | v::l=>fun acc k=>by rw[List.foldl_cons,fold_mem l,addD_mem,List.mem_cons,or_assoc]
theorem F5 {K:Type} [DecidableEq K]:∀ (l acc:List K),acc.Nodup->(l.foldl addD acc).Nodup
 | []=>fun _ h=>h
 | v::l=>fun acc h=>F5 l _ (addD_nodup h)
theorem fold_len {K:Type} [DecidableEq K]:∀ (l acc:List K),(l.foldl addD acc).length≤acc.length+l.length
 | []=>fun acc=>Nat.le_refl _
 | v::l=>fun acc=>by
  refine Nat.le_trans (fold_len l _) ?_
  rw[Gb,List.length_cons]
  split <;> (first|exact ar26|exact ar27)
theorem ddup_mem {K:Type} [DecidableEq K] {l:List K}{k:K}:k∈ddup l↔k∈l:=by unfold ddup;rw[fold_mem];simp
theorem ddup_nodup {K:Type} [DecidableEq K] (l:List K):(ddup l).Nodup:=F5 l [] List.nodup_nil
theorem Av {K:Type} [DecidableEq K] (l:List K):(ddup l).length≤l.length:=by have:=fold_len l [];simpa[ddup] using this
section
variable {prog:Program}{w:World}{K:Type} [DecidableEq K] {knd:PySem.KeyKind prog w K}{A:Around}{E:Value->Shared->Prop}{s:Shared}
inductive AreK (knd:PySem.KeyKind prog w K):List Value->List K->Prop
 | nil:AreK knd [] []
 | cons {v:Value}{k:K}{vs:List Value}{ks:List K}:knd.is k v=true->v.scannable=true->AreK knd vs ks->AreK knd (v::vs) (k::ks)
theorem AreK.length {vs:List Value}{ks:List K}(h:AreK knd vs ks):vs.length=ks.length:=by
 induction h with
 | nil=>rfl
 | cons _ _ _ ih=>exact congrArg (·+1) ih
abbrev SetL (knd:PySem.KeyKind prog w K) (h:Heap) (a:Addr) (led:Bool) (acc:List K):Prop:=SetG knd h a led (fun k=>decide (k∈acc)) acc.length
theorem SetL.step {h:Heap}{a:Addr}{led:Bool}{acc:List K}{v:K}(x:SetG knd h a led (fun k'=>decide (k'∈acc) || decide (k'=v)) (if decide (v∈acc) then acc.length else acc.length+1)):SetL knd h a led (addD acc v):=by
 have e1:(fun k'=>decide (k'∈acc) || decide (k'=v))=(fun k=>decide (k∈addD acc v)):=funext fun k=>by
  rw[Bool.eq_iff_iff];simp[addD_mem]
 have e2:(if decide (v∈acc) then acc.length else acc.length+1)=(addD acc v).length:=by rw[Gb];simp
 rw[e1,e2] at x;exact x
theorem set_loop {R:Result->Shared->Prop}{I l:Addr}{items:Array Value}{led:Bool}{n:Nat}{St:Nat->Heap->Prop}(W:Walks prog w A.in1 I [I,l] [I] n (fun i v=>items[i]?=some v) St) (S:Addr) (hSf:S∉[I,l]):
  ∀ (ns:List K) (i:Nat) (acc:List K) (s:Shared),i+ns.length=n->AreK knd (items.toList.drop i) ns->St i s.heap->SetL knd s.heap S led acc->acc.length+ns.length+1<scanBound->
   (∀ s',(∀ b o,b≠S->b≠I->s.heap.get? b=some o->s'.heap.get? b=some o)->s'.os=s.os->s'.gens=s.gens->s'.drawn=s.drawn->SetL knd s'.heap S led (ns.foldl addD acc)->R (.ok (.ret .none)) s')->
   codeAny (model prog w) A (.builtin "set.update.loop" ⟨[.ref S,.ref I],[]⟩) R s
 | []=>fun i acc s hi hns hst hS hb hR=>by
  obtain rfl:i=n:=by simpa using hi
  refine codeAny_builtin F.entry_set_update_loop ?_
  rw[Around.under_plainId F.plain_set_update_loop _]
  show wpAny _ A.in1 (pyNext (.ref I) >>= _) _ _ s
  refine wpAny_bind (W.done s _ _ hst fun h' tk hk=>?_)
  show wpAny _ A.in1 (ret Value.none) _ _ _
  have hSI:S∉[I]:=fun m=>hSf (W.sub _ m)
  exact wpAny_pure (hR _ (fun b o h1 h2 e=>hk b o (by simpa using h2) e) rfl rfl rfl (hS.keep fun o e=>hk S o hSI e))
 | v::ns=>fun i acc s hi hns hst hS hb hR=>by
  have hlt:i<n:=by rw[List.length_cons] at hi;exact ar28 hi
  refine codeAny_builtin F.entry_set_update_loop ?_
  rw[Around.under_plainId F.plain_set_update_loop _]
  show wpAny _ A.in1 (pyNext (.ref I) >>= _) _ _ s
  refine wpAny_bind (W.item i s _ _ hlt hst fun x h' tk hP hst' hk=>?_)
  have hSI:S∉[I]:=fun m=>hSf (W.sub _ m)
  have hd:items.toList.drop i=x::items.toList.drop (i+1):=by
   rw[← Array.getElem?_toList] at hP
   obtain⟨h1,rfl⟩:=List.getElem?_eq_some_iff.mp hP
   exact List.drop_eq_getElem_cons h1
  rw[hd] at hns
  cases hns with
  | cons hkv hsc hns=>
  have hS':=hS.keep fun o e=>hk S o hSI e
  show wpAny _ A.in1 (holding [x] (setAdd S x) >>= _) _ _ _
  refine wpAny_bind (wpAny_holding ?_)
  unfold setAdd
  refine wpAny_holding ?_
  refine wpAny_bind (knd.pyHash (k:=v) hkv ?_)
  simp only[List.length_cons] at hb hi
  refine set_add (knd:=knd) hkv hsc hS' (by exact ar29 hb) fun h₂ hsa hS2 _=>?_
  have hne:∀ b,b∈[I,l]->b≠S:=fun b hb e=>hSf (e▸hb)
  refine wpAny_pure ⟨plainId_quiet F.plain_set_update_loop _,set_loop W S hSf ns (i+1) (addD acc v) _ (by exact ar30 hi) hns (W.frame _ _ _ hst' fun b hb o e=>hsa.extBut b o (hne b hb) e) (SetL.step hS2) (by rw[Gb];split <;> (first|exact ar31 hb|exact ar32 hb)) fun s' k' ho hg hdr hS''=>?_⟩
  exact hR s' (fun b o h1 h2 e=>k' b o h1 h2 (hsa.extBut b o h1 (hk b o (by simpa using h2) e))) ho hg hdr hS''
theorem set_new (a:Value) {Q₁:Value->Shared->Prop}
  (h:Q₁ (.ref s.heap.objs.size) { s with heap:=s.heap.push { cls:=.type "set",dict:=none,data:=.set #[] 0 (.fresh 0 0 (!w.params.followText "set-order")) } }):
  codeAny (model prog w) A (.call (.builtin "set.__new__") ⟨[.type "set",a],[]⟩) (wants Q₁ E) s:=by
 refine codeAny_of_tree ?_
 show wpAny _ A.in1 (do checkBuiltinCall "set.__new__" ⟨[.type "set",a],[]⟩;again (.builtin "set.__new__" ⟨[.type "set",a],[]⟩)) _ _ s
 refine wpAny_bind (wpAny_of_eq (PySem.F.newCall_set_1 a) (wpAny_pure ⟨plainId_quiet PySem.F.plain_set_new _,codeAny_builtin PySem.F.entry_set_new ?_⟩))
 rw[Around.under_plainId PySem.F.plain_set_new _]
 unfold Builtin.«set.__new__» Builtin.Frozenset.newClass
 have hsub:=PySem.sub_set_self
 obtain⟨hp,g,d,tk,os⟩:=s
 dsimp only
 wp_walk
 refine wpAny_askSetting (wpAny_pure ?_)
 dsimp only
 simp only[newObj]
 refine wpAny_bind (wpAny_alloc (wpAny_pure ?_))
 exact wpAny_pure h
end
end Mine
end
section
set_option maxRecDepth 100000
set_option maxHeartbeats 3200000
namespace Mine
open PySem PySem.Calls PyProof.Rows
section
variable {prog:Program}{w:World}{K:Type} [DecidableEq K] {knd:PySem.KeyKind prog w K}{A:Around}{E:Value->Shared->Prop}{s:Shared}
noncomputable def emptySet (w:World):Obj:={ cls:=.type "set",dict:=none,data:=.set #[] 0 (.fresh 0 0 (!w.params.followText "set-order")) }
theorem empty_is:SetIs knd (!w.params.followText "set-order") (fun k=>decide (k∈([]:List K))) 0 (emptySet w) #[] 0 (.fresh 0 0 (!w.params.followText "set-order")) where
 ex:=⟨rfl,rfl,rfl⟩
 data:=rfl
 el:=fun e he=>by exact(List.not_mem_nil he).elim
 mem:=fun k=>by simp
 bd:=by decide
 fits:=rfl
 size:=rfl
 tab:=⟨List.Pairwise.nil,rfl⟩
theorem call_set {l:Addr}{items:Array Value}{ns:List K}{Q:Value->Shared->Prop}(hh:A.handled=none) (hl:s.heap.IsList l items) (hi:AreK knd items.toList ns) (hb:ns.length+1<scanBound)
  (h:∀ h' tk,SetL knd h' s.heap.objs.size (!w.params.followText "set-order") (ddup ns)->(∀ b o,s.heap.get? b=some o->h'.get? b=some o)->Q (.ref s.heap.objs.size) { s with heap:=h',toks:=tk }):
  wpAny (model prog w) A (call (.type "set") [.ref l]) Q E s:=by
 obtain⟨c,tl,hmro⟩:=PySem.F.called_set.mro
 have hmade:=PySem.F.called_set.made
 have hsub:=PySem.F.called_set.sub
 refine wpAny_call (codeAny_of_tree ?_)
 show wpAny _ _ (callAny (.type "set") _) _ _ _
 refine wpAny_pure ⟨Code.quiet_builtin _ (by decide +kernel),codeAny_builtin PySem.F.entry_type_call ?_⟩
 rw[Around.under_plain (weight_type_call_type "set" [.ref l] []) rfl]
 have h1:=PySem.F.called_set.notType
 have h2:=PySem.F.called_set.canCreate
 have hct:=PySem.F.typeCall_set_1 (.ref l)
 repeat (any_goals (first|assumption|wp_step))
 refine codeAny_mono (set_new (.ref l) (E:=E) (Q₁:=fun obj s1=>obj=.ref s.heap.objs.size∧s1={ s with heap:=s.heap.push (emptySet w) }) ⟨rfl,rfl⟩) fun r s1 hr=>?_
 cases r with
 | error e=>exact hr
 | ok fl=>
  cases fl with
  | ret obj=>
   obtain⟨rfl,rfl⟩:=hr
   have hS:(s.heap.push (emptySet w)).get? s.heap.objs.size=some (emptySet w):=Heap.get?_push_size _ rfl
   have hT:Shared.TypeIs { s with heap:=s.heap.push (emptySet w) } (.ref s.heap.objs.size) "set":=⟨_,hS,rfl⟩
   have hli:=PySem.F.called_set.init.lookup
   have hbi:=PySem.F.called_set.init.bind (.ref s.heap.objs.size)
   repeat (any_goals (first|assumption|wp_step))
   refine codeAny_mono (codeAny_call_builtin (R:=wants (fun r sd=>r=.none∧∃ h' tk,sd={ s with heap:=h',toks:=tk }∧SetL knd h' s.heap.objs.size (!w.params.followText "set-order") (ddup ns) ∧
     (∀ b o,s.heap.get? b=some o->h'.get? b=some o)) E) PySem.F.called_set.init.plain PySem.F.entry_set_init (check_set_init_1 hT ?_)) fun rd sd hr2=>?_
   ·obtain⟨ol,hol,hcl,nl,hdl⟩:=hl
    obtain⟨ocls,odict,odata,oslots⟩:=ol
    simp only at hcl hdl
    subst hcl;subst hdl
    have hol':(s.heap.push (emptySet w)).get? l=some { cls:=.type "list",dict:=odict,data:=.seq items nl,slots:=oslots }:=Heap.get?_push_of_some _ hol
    have hsls:=PySem.F.sub_list_set
    have hslf:=PySem.F.sub_list_frozenset
    have hne:(Value.type "list" == Value.type "dict")=false:=by decide
    have hl1:(s.heap.push (emptySet w)).IsList l items:=⟨_,hol',rfl,nl,rfl⟩
    unfold Builtin.«set.__init__» noKeywords Builtin.Frozenset.updateFrom
    generalize hPI:pyIter=PI
    wp_walk
    subst hPI
    refine wpAny_pyIter_list hl1 (wpAny_bind (wpAny_runValue ?_))
    have hlS:l<s.heap.objs.size:=Heap.lt_size hol
    have hz:(s.heap.push (emptySet w)).objs.size=s.heap.objs.size+1:=Heap.size_push ..
    have hneI:l≠(s.heap.push (emptySet w)).objs.size:=by rw[hz];exact Nat.ne_of_lt (Nat.lt_succ_of_lt hlS)
    have hSI:s.heap.objs.size≠(s.heap.push (emptySet w)).objs.size:=by rw[hz];exact Nat.ne_of_lt (Nat.lt_succ_self _)
    have hlen:ns.length=items.size:=by
     have:=hi.length
     simpa using this.symm
    have W:Walks prog w A.in1.in1.in1 (s.heap.push (emptySet w)).objs.size [_,l] [_] items.size (fun i v=>items[i]?=some v) _:=Walks.list (by simp[hh]) _ l hneI items
    refine set_loop W s.heap.objs.size (fun m=>?_) ns 0 [] _ (by exact ar33 hlen) (by rw[List.drop_zero];exact hi) ⟨⟨_,Heap.get?_push_size _ rfl,rfl,rfl⟩,hl1.push _⟩ ⟨_,_,_,_,Heap.get?_push_of_some _ hS,empty_is⟩ (by simpa using hb) fun s' hk ho hg hd hS'=>?_
    ·rcases List.mem_cons.mp m with q|q
     ·exact hSI q
     ·exact Nat.ne_of_gt hlS (List.mem_singleton.mp q)
    ·obtain⟨h',g',d',tk',os'⟩:=s'
     obtain rfl:g'=s.gens:=hg
     obtain rfl:d'=s.drawn:=hd
     obtain rfl:os'=s.os:=ho
     show wpAny _ _ _ _ _ _
     refine wpAny_pure ?_
     show wpAny _ _ (ret Value.none) _ _ _
     refine wpAny_pure ⟨rfl,h',tk',rfl,hS',fun b o e=>?_⟩
     have hlt:=Heap.lt_size e
     exact hk b o (Nat.ne_of_lt hlt) (by rw[hz];exact Nat.ne_of_lt (Nat.lt_succ_of_lt hlt)) (Heap.get?_push_of_some _ (Heap.get?_push_of_some _ e))
   ·cases rd with
    | error e=>exact hr2
    | ok fl2=>
     cases fl2 with
     | ret r=>
      obtain⟨rfl,h',tk,rfl,hS',hk'⟩:=hr2
      repeat (any_goals (first|assumption|wp_step))
      exact h _ _ hS' hk'
     | _=>exact hr2.elim
  | _=>exact hr.elim
end
end Mine
end
section
set_option maxRecDepth 100000
namespace Mine
open PySem PySem.Calls PyProof.Rows
theorem Ql:Slot "set_iterator" "__next__" "set_iterator.__next__":=
 .of (owner:="set_iterator") (n:="__next__") (by rw[typeLookup_type,builtinLookup_eq_fast];kernel_rfl) (by decide +kernel) (by decide +kernel) (by decide +kernel)
  (by first|exact .inl (by decide +kernel)|exact .inr (by decide +kernel)) (by rw[isSubtype_type];kernel_rfl)
theorem Yw:entryFor table "set_iterator.__next__" = some Builtin.«set_iterator.__next__»:=entryFor_of_tree (by kernel_rfl)
theorem Ze (a:Value):argsOk "set_iterator.__next__" ⟨[a],[]⟩:=by unfold argsOk;kernel_rfl
theorem Fx:entryFor table "set.__iter__" = some Builtin.«frozenset.__iter__»:=
 entryFor_alias (id':="frozenset.__iter__") (by kernel_rfl) rfl (by decide +kernel) (by kernel_rfl)
theorem Kl:Slot "set_iterator" "__iter__" "set_iterator.__iter__":=
 .of (owner:="set_iterator") (n:="__iter__") (by rw[typeLookup_type,builtinLookup_eq_fast];kernel_rfl) (by decide +kernel) (by decide +kernel) (by decide +kernel)
  (by first|exact .inl (by decide +kernel)|exact .inr (by decide +kernel)) (by rw[isSubtype_type];kernel_rfl)
theorem Au:entryFor table "set_iterator.__iter__" = some Builtin.«dict_keyiterator.__iter__»:=
 entryFor_alias (id':="dict_keyiterator.__iter__") (by kernel_rfl) rfl (by decide +kernel) (by kernel_rfl)
theorem Bv (a:Value):argsOk "set_iterator.__iter__" ⟨[a],[]⟩:=by unfold argsOk;kernel_rfl
section
variable {prog:Program}{w:World}{A:Around}{E:Value->Shared->Prop}{s:Shared}
theorem it_self {I:Addr}{Q:Value->Shared->Prop}(hT:s.TypeIs (.ref I) "set_iterator") (h:Q (.ref I) s):wpAny (model prog w) A (pyIter (.ref I)) Q E s:=by
 refine wpAny_pyIter_slot hT Kl (wpAny_call_entry Kl hT Au ?_ (Bv _))
 show wpAny _ _ (ret (.ref I)) _ _ s
 exact wpAny_pure ⟨_,rfl, "set_iterator",_,hT,Ql.lookup,h⟩
theorem Dn {α:Type}{Q:α->Shared->Prop}(hh:A.handled=none) (hE:∀ h' e,(∀ b o,s.heap.get? b=some o->h'.get? b=some o)->(∃ o,h'.get? e=some o∧o.cls=.type "StopIteration")->E (.ref e) { s with heap:=h' }):
  wpAny (model prog w) A (newExc (.type "StopIteration") [] >>= fun e=>(raiseNew e:Sem α)) Q E s:=by
 refine wpAny_bind ?_
 simp only[newExc,newTuple]
 refine wpAny_bind (wpAny_newObj_type ?_ (by size_fits))
 refine wpAny_bind (m:=firstArgMember _ _) (wpAny_of_eq (a:=Value.none) (by first|rfl|(simp only[firstArgMember];rfl)) ?_)
 refine wpAny_newObj_type ?_ (by size_fits)
 delta raiseNew
 refine wpAny_bind (wpAny_handled ?_)
 rw[hh]
 refine wpAny_bind (wpAny_pure (wpAny_throw ?_))
 exact hE _ _ (fun b o e=>Heap.get?_push_of_some _ (Heap.get?_push_of_some _ e)) ⟨_,Heap.get?_push_size _ rfl,rfl⟩
noncomputable def itObj (first:Value) (i:Nat) (a:Addr) (n ep:Nat):Obj:={ cls:=.type "set_iterator",dict:=none,data:=.fields #[first,rawInt i,.ref a,rawInt n,rawInt ep],slots:=#[] }
theorem Db {a I:Addr}{o:Obj}{es:Array (Int×Value)}{ep:Nat}{t:SetTable}{order:List Value}{slots:Nat->Nat}(hh:A.handled=none) (hne:a≠I) (hd:o.data=.set es ep t) (hf:t.fits es.size=true) (hz:order.length=es.size)
  (hnext:∀ (i:Nat) (A:Around) (s:Shared) (Q:Option (Value×Nat)->Shared->Prop) (E:Value->Shared->Prop),i≤es.size->s.heap.get? a=some o->Q ((order[i]?).map fun x=>(x,slots (i+1))) s->wpAny (model prog w) A (setNext a (slots i) i ep) Q E s):
  Walks prog w A I [I,a] [I] es.size (fun i v=>order[i]?=some v) (fun i h=>h.get? I=some (itObj (rawInt (slots i)) i a es.size ep)∧h.get? a=some o) where
 sub:=fun b hb=>by simp at hb;simp[hb]
 frame:=fun i h h' st hk=>⟨hk I (by exact .head _) _ st.1,hk a (by exact .tail _ (.head _)) _ st.2⟩
 item:=fun i s Q E hi st hQ=>by
  have hT:s.TypeIs (.ref I) "set_iterator":=⟨_,st.1,rfl⟩
  have hx:order[i]?=some order[i]:=List.getElem?_eq_getElem (by rw[hz];exact hi)
  generalize order[i]=x at hx
  unfold pyNext
  refine wpAny_bind (wpAny_attempt (wpAny_callSpecial?_slot (name:=Str.ofString "__next__") hT Ql (wpAny_call_entry Ql hT Yw ?_ (Ze _))))
  show wpAny _ _ (fieldsOf (.ref I) >>= _) _ _ s
  refine wpAny_bind (wpAny_fieldsOf st.1 rfl ?_)
  dsimp only[rawInt]
  refine wpAny_bind (wpAny_setEntries_of st.2 hd hf ?_)
  rw[if_neg (by simp)]
  simp only[Int.toNat_natCast]
  refine wpAny_bind (hnext i _ _ _ _ (Nat.le_of_lt hi) st.2 ?_)
  rw[hx]
  dsimp only[Option.map_some]
  refine wpAny_bind (wpAny_setField_rec st.1 (by exact Nat.succ_pos _) fun h₁ ed s1=>?_)
  refine wpAny_bind (wpAny_setField_rec ed (by simp) fun h₂ ee sd=>?_)
  refine wpAny_pure ⟨x,rfl,wpAny_pure ?_⟩
  exact hQ x h₂ s.toks hx ⟨ee,sd.extBut _ _ hne (s1.extBut _ _ hne st.2)⟩ fun b o' hb e=>sd.extBut b o' (by simpa using hb) (s1.extBut b o' (by simpa using hb) e)
 done:=fun s Q E st hQ=>by
  have hT:s.TypeIs (.ref I) "set_iterator":=⟨_,st.1,rfl⟩
  have hx:order[es.size]?=none:=List.getElem?_eq_none (by rw[hz];exact Nat.le_refl _)
  unfold pyNext
  refine wpAny_bind (wpAny_attempt (wpAny_callSpecial?_slot (name:=Str.ofString "__next__") hT Ql (wpAny_call_entry Ql hT Yw ?_ (Ze _))))
  show wpAny _ _ (fieldsOf (.ref I) >>= _) _ _ s
  refine wpAny_bind (wpAny_fieldsOf st.1 rfl ?_)
  dsimp only[rawInt]
  refine wpAny_bind (wpAny_setEntries_of st.2 hd hf ?_)
  rw[if_neg (by simp)]
  simp only[Int.toNat_natCast]
  refine wpAny_bind (hnext _ _ _ _ _ (Nat.le_refl _) st.2 ?_)
  rw[hx]
  dsimp only[Option.map_none]
  refine wpAny_bind (wpAny_setField_rec st.1 (by simp) fun h₁ ed s1=>?_)
  refine Dn (by simpa using hh) fun h₂ e k he=>?_
  obtain⟨oe,hoe,hce⟩:=he
  refine wpAny_bind (wpAny_isInstance (T:="StopIteration") (b:=true) ⟨oe,hoe,hce⟩ isSubtype_stop ?_)
  exact wpAny_pure (hQ h₂ s.toks fun b o' hb e=>k b o' (s1.extBut b o' (by simpa using hb) e))
 self:=fun i s Q E st hQ=>it_self ⟨_,st.1,rfl⟩ hQ
end
end Mine
end
section
set_option maxRecDepth 100000
namespace Mine
open PySem PySem.Calls PyProof.Rows
theorem Pe {α:Type}:∀ {l:List α}{i:Nat}(h:i<l.length),(l[i]::l.eraseIdx i).Perm l
 | x::l,0,h=>.rfl
 | x::l,i+1,h=>(List.Perm.swap x _ _).trans (List.Perm.cons x (Pe (l:=l) (Nat.lt_of_succ_lt_succ h)))
theorem pick_go {α:Type}(next:Nat->Nat):∀ (fuel k:Nat) (left:List α) (out:Array α),fuel=left.length->(pickOrder.go next fuel k left out).toList.Perm (out.toList++left)
 | 0=>fun k left out h=>by
  obtain rfl:left=[]:=List.length_eq_zero_iff.mp h.symm
  show out.toList.Perm _
  rw[List.append_nil]
 | fuel+1=>fun k left out h=>by
  have hl:next k % left.length<left.length:=Nat.mod_lt _ (by exact ar34 h)
  show (match left[next k % left.length]? with|some x=>pickOrder.go next fuel (k+1) (left.eraseIdx (next k % left.length)) (out.push x)|none=>out).toList.Perm _
  rw[List.getElem?_eq_getElem hl]
  refine(pick_go next fuel (k+1) _ _ (by rw[List.length_eraseIdx_of_lt hl];exact ar35 h)).trans ?_
  rw[Array.toList_push,List.append_assoc]
  exact List.Perm.append_left _ (Pe hl)
theorem pick_perm {α:Type}(next:Nat->Nat) (xs:Array α):(pickOrder next xs).toList.Perm xs.toList:=by
 have:=pick_go next xs.size 0 xs.toList #[] (by simp)
 simpa[pickOrder] using this
section
variable {prog:Program}{w:World}{A:Around}{E:Value->Shared->Prop}{s:Shared}
theorem wp_choose {src:Source}{n:Nat}{Q:Nat->Shared->Prop}(hn:n≠0) (h:∀ i,i<n->∀ d,Q i { s with drawn:=d }):wpAny (model prog w) A (choose src n) Q E s:=
 fun _ _ _=>⟨hn,h _ (Nat.mod_lt _ (Nat.pos_of_ne_zero hn)) _⟩
theorem Ph {α:Type}:∀ (n:Nat) (xs:List α) (s:Shared) (Q:List α->Shared->Prop),n=xs.length->(∀ ys d,ys.Perm xs->Q ys { s with drawn:=d })->wpAny (model prog w) A (drawOrder n xs) Q E s
 | 0,xs=>fun s Q h hQ=>by
  obtain rfl:xs=[]:=List.length_eq_zero_iff.mp h.symm
  have:=hQ [] s.drawn .rfl
  exact wpAny_pure (by cases s;exact this)
 | n+1,[]=>fun s Q h hQ=>by contradiction
 | n+1,x::xs=>fun s Q h hQ=>by
  show wpAny _ A (choose .order (x::xs).length >>= fun i=>match (x::xs)[i]? with|some y=>drawOrder n ((x::xs).eraseIdx i) >>= fun r=>pure (y::r)|none=>unsupported "internal:drawOrder") Q E s
  refine wpAny_bind (wp_choose (by simp) fun i hi d=>?_)
  rw[List.getElem?_eq_getElem hi]
  refine wpAny_bind (Ph n _ _ _ (by rw[List.length_eraseIdx_of_lt hi];exact ar35 h) fun ys d' hp=>wpAny_pure ?_)
  exact hQ _ d' ((List.Perm.cons _ hp).trans (Pe hi))
theorem next_text {a:Addr}{o:Obj}{es:Array (Int×Value)}{ep:Nat}{t:SetTable}(hb:w.params.followText "set-order" = true) (hd:o.data=.set es ep t) (hf:t.fits es.size=true) {i:Nat}{Q:Option (Value×Nat)->Shared->Prop}(ho:s.heap.get? a=some o)
  (h:Q ((((pickOrder (w.params.setOrder a ep) es).toList.map (·.2))[i]?).map fun x=>(x,0)) s):wpAny (model prog w) A (setNext a 0 i ep) Q E s:=by
 unfold setNext setsByText
 refine wpAny_bind (wpAny_setState_of ho hd hf ?_)
 dsimp only
 refine wpAny_bind (wpAny_bind (wpAny_askSetting (wpAny_pure ?_)))
 show wpAny _ _ (if w.params.followText "set-order" = true then _ else _) _ _ s
 rw[if_pos hb,if_neg (by simp)]
 unfold setWalk setsByText
 refine wpAny_bind (wpAny_bind (wpAny_setState_of ho hd hf ?_))
 dsimp only
 refine wpAny_bind (wpAny_bind (wpAny_askSetting (wpAny_pure ?_)))
 show wpAny _ _ (if w.params.followText "set-order" = true then _ else _) _ _ s
 rw[if_pos hb]
 refine wpAny_bind (wpAny_askSetting (wpAny_pure (wpAny_pure ?_)))
 rw[List.getElem?_map,Array.getElem?_toList,Option.map_map] at h
 exact h
noncomputable def slotAt (t:SetTable):Nat->Nat
 | 0=>0
 | k+1=>t.place.getD k 0+1
theorem next_slot {a:Addr}{o:Obj}{es:Array (Int×Value)}{ep:Nat}{t:SetTable}(hb:w.params.followText "set-order" = false) (hd:o.data=.set es ep t) (hf:t.fits es.size=true) (ht:TabOk true t) (hdr:(!t.plain && decide (es.size > 1))=false) {i:Nat}(hi:i≤es.size) {Q:Option (Value×Nat)->Shared->Prop}(ho:s.heap.get? a=some o)
  (h:Q (((es.toList.map (·.2))[i]?).map fun x=>(x,slotAt t (i+1))) s):wpAny (model prog w) A (setNext a (slotAt t i) i ep) Q E s:=by
 have hz:t.place.size=es.size:=by
  unfold SetTable.fits at hf
  exact eq_of_beq (Bool.and_eq_true_iff.mp hf).1
 have hbl:SetTable.below t.place (slotAt t i)=i:=by
  cases i with
  | zero=>exact below_zero ht.ris
  | succ k=>
   have hk:k<t.place.size:=by exact ar36 hz hi
   have ha:t.place[k]?=some t.place[k]:=Array.getElem?_eq_getElem hk
   have:t.place.getD k 0=t.place[k]:=by simp[Array.getD,hk]
   show SetTable.below t.place (t.place.getD k 0+1)=k+1
   rw[this];exact below_next ht.ris ha
 unfold setNext setsByText
 refine wpAny_bind (wpAny_setState_of ho hd hf ?_)
 dsimp only
 refine wpAny_bind (wpAny_bind (wpAny_askSetting (wpAny_pure ?_)))
 show wpAny _ _ (if w.params.followText "set-order" = true then _ else _) _ _ s
 rw[if_neg (by rw[hb];decide)]
 show wpAny _ _ (if (!t.plain && decide (es.size > 1))=true then _ else _) _ _ s
 rw[if_neg (by rw[hdr];decide)]
 refine wpAny_bind ?_
 show wpAny _ _ (if (!t.led && !es.isEmpty)=true then _ else _) _ _ s
 rw[if_neg (by rw[ht.led];exact Bool.false_ne_true)]
 refine wpAny_pure (wpAny_pure ?_)
 rw[hbl]
 rw[List.getElem?_map,Array.getElem?_toList] at h
 by_cases hlt:i<es.size
 ·have h1:es[i]?=some es[i]:=Array.getElem?_eq_getElem hlt
  have h2:t.place[i]?=some t.place[i]:=Array.getElem?_eq_getElem (by omega)
  have h3:t.place.getD i 0=t.place[i]:=by simp[Array.getD,hz,hlt]
  rw[h1] at h ⊢
  rw[h2]
  replace h:Q (some (es[i].2,t.place.getD i 0+1)) s:=h
  rw[h3] at h
  exact h
 ·rw[Array.getElem?_eq_none (by exact ar37 hlt)] at h ⊢
  exact h
theorem walk_drawn {a I tp:Addr}{o:Obj}{es:Array (Int×Value)}{ep:Nat}{t:SetTable}{places:List Nat}{order:List Value}(hh:A.handled=none) (hne:a≠I) (hnt:tp≠I) (hd:o.data=.set es ep t) (hf:t.fits es.size=true) (hz:order.length=es.size) (hp:places.length=es.size)
  (hord:∀ (i p:Nat),places[i]?=some p->∃ e,es[p]?=some e∧order[i]?=some e.2):
  Walks prog w A I [I,a,tp] [I] es.size (fun i v=>order[i]?=some v) (fun i h=>h.get? I=some (itObj (.ref tp) i a es.size ep)∧h.get? a=some o∧h.get? tp=some { cls:=.type "tuple",data:=.seq (places.map fun (p:Nat)=>rawInt p).toArray }) where
 sub:=fun b hb=>by simp at hb;simp[hb]
 frame:=fun i h h' st hk=>⟨hk I (by exact .head _) _ st.1,hk a (by exact .tail _ (.head _)) _ st.2.1,hk tp (by simp) _ st.2.2⟩
 item:=fun i s Q E hi st hQ=>by
  have hT:s.TypeIs (.ref I) "set_iterator":=⟨_,st.1,rfl⟩
  have hpi:places[i]?=some places[i]:=List.getElem?_eq_getElem (by rw[hp];exact hi)
  generalize places[i]=p at hpi
  obtain⟨⟨hsh,x⟩,he,hx⟩:=hord i p hpi
  unfold pyNext
  refine wpAny_bind (wpAny_attempt (wpAny_callSpecial?_slot (name:=Str.ofString "__next__") hT Ql (wpAny_call_entry Ql hT Yw ?_ (Ze _))))
  show wpAny _ _ (fieldsOf (.ref I) >>= _) _ _ s
  refine wpAny_bind (wpAny_fieldsOf st.1 rfl ?_)
  dsimp only[rawInt]
  refine wpAny_bind (wpAny_setEntries_of st.2.1 hd hf ?_)
  rw[if_neg (by simp)]
  refine wpAny_bind (wpAny_seqItems st.2.2 rfl ?_)
  simp only[Int.toNat_natCast,List.getElem?_toArray,List.getElem?_map,hpi,Option.map_some,rawInt]
  refine wpAny_bind ?_
  unfold setNextDrawn
  refine wpAny_bind (wpAny_setState_of st.2.1 hd hf ?_)
  dsimp only
  rw[if_neg (by simp)]
  simp only[he]
  refine wpAny_pure ?_
  refine wpAny_bind (wpAny_setField_rec st.1 (by simp) fun h₂ ee sd=>?_)
  refine wpAny_pure ⟨x,rfl,wpAny_pure ?_⟩
  exact hQ x h₂ s.toks hx ⟨ee,sd.extBut _ _ hne st.2.1,sd.extBut _ _ hnt st.2.2⟩ fun b o' hb e=>sd.extBut b o' (by simpa using hb) e
 done:=fun s Q E st hQ=>by
  have hT:s.TypeIs (.ref I) "set_iterator":=⟨_,st.1,rfl⟩
  have hpi:places[es.size]?=none:=List.getElem?_eq_none (by rw[hp];exact Nat.le_refl _)
  unfold pyNext
  refine wpAny_bind (wpAny_attempt (wpAny_callSpecial?_slot (name:=Str.ofString "__next__") hT Ql (wpAny_call_entry Ql hT Yw ?_ (Ze _))))
  show wpAny _ _ (fieldsOf (.ref I) >>= _) _ _ s
  refine wpAny_bind (wpAny_fieldsOf st.1 rfl ?_)
  dsimp only[rawInt]
  refine wpAny_bind (wpAny_setEntries_of st.2.1 hd hf ?_)
  rw[if_neg (by simp)]
  refine wpAny_bind (wpAny_seqItems st.2.2 rfl ?_)
  simp only[Int.toNat_natCast,List.getElem?_toArray,List.getElem?_map,hpi,Option.map_none]
  refine wpAny_bind (wpAny_setField_rec st.1 (by exact Nat.succ_pos _) fun h₁ ed s1=>?_)
  refine wpAny_bind (wpAny_setField_rec ed (by simp) fun h₂ ee sd=>?_)
  refine Dn (by simpa using hh) fun h₃ e k he=>?_
  obtain⟨oe,hoe,hce⟩:=he
  refine wpAny_bind (wpAny_isInstance (T:="StopIteration") (b:=true) ⟨oe,hoe,hce⟩ isSubtype_stop ?_)
  exact wpAny_pure (hQ h₃ s.toks fun b o' hb e=>k b o' (sd.extBut b o' (by simpa using hb) (s1.extBut b o' (by simpa using hb) e)))
 self:=fun i s Q E st hQ=>it_self ⟨_,st.1,rfl⟩ hQ
end
end Mine
end
section
set_option maxRecDepth 100000
namespace Mine
open PySem PySem.Calls PyProof.Rows PySem.W
section
variable {prog:Program}{w:World}{A:Around}{E:Value->Shared->Prop}{s:Shared}
inductive SetIt (prog:Program) (w:World) (A:Around) (a:Addr) (vals:List Value) (s:Shared) (it:Value) (s1:Shared):Prop
 | mk (I:Addr) (fp:List Addr) (order:List Value) (St:Nat->Heap->Prop) (n:Nat) (hn:n=vals.length) (e:it=.ref I) (hp:order.Perm vals) (W:Walks prog w A I fp [I] n (fun i v=>order[i]?=some v) St) (st:St 0 s1.heap)
  (hfp:∀ b∈fp,b=a∨s.heap.objs.size≤b) (hI:s.heap.objs.size≤I) (k:∀ b o,s.heap.get? b=some o->s1.heap.get? b=some o) (os:s1.os=s.os) (gens:s1.gens=s.gens)
theorem set_iter {led:Bool}{a:Addr}{o:Obj}{es:Array (Int×Value)}{ep:Nat}{t:SetTable}{Q:Value->Shared->Prop}(hh:A.handled=none) (hled:led=!w.params.followText "set-order") (ho:s.heap.get? a=some o) (hcl:o.cls=.type "set") (hd:o.data=.set es ep t) (hf:t.fits es.size=true) (hb:es.size<scanBound) (ht:TabOk led t)
  (h:∀ it s1,SetIt prog w A a (es.toList.map (·.2)) s it s1->Q it s1):wpAny (model prog w) A (pyIter (.ref a)) Q E s:=by
 have hT:s.TypeIs (.ref a) "set":=⟨o,ho,hcl⟩
 have hlt:=Heap.lt_size ho
 have hlen:(es.toList.map (·.2)).length=es.size:=by exact List.length_map _
 refine wpAny_pyIter_slot hT PySem.F.slot_set_iter (wpAny_call_entry PySem.F.slot_set_iter hT Fx ?_ (PySem.F.args_set_iter_1 _))
 unfold Builtin.«frozenset.__iter__»
 show wpAny _ _ (Builtin.Frozenset.sizeOf a >>= _) _ _ s
 unfold Builtin.Frozenset.sizeOf
 refine wpAny_bind (wpAny_bind (wpAny_setEntries_of ho hd hf (wpAny_pure ?_)))
 unfold setDrawn setsByText
 refine wpAny_bind (wpAny_bind (wpAny_setState_of ho hd hf ?_))
 dsimp only
 refine wpAny_bind (wpAny_bind (wpAny_askSetting (wpAny_pure (wpAny_pure ?_))))
 show wpAny _ _ (if (!w.params.followText "set-order" && (!t.plain && decide (es.size > 1)))=true then _ else _) _ _ s
 cases hbt:w.params.followText "set-order" with
 | true=>
  rw[if_neg (by exact Bool.false_ne_true)]
  show wpAny _ _ (setEpoch a >>= _) _ _ s
  refine wpAny_bind (wpAny_setEpoch_of ho hd hf (wpAny_bind (wpAny_newObj_type (wpAny_pure ⟨_,rfl, "set_iterator",_,⟨_,Heap.get?_push_size _ rfl,rfl⟩,Ql.lookup,?_⟩))))
  have hp:=(pick_perm (w.params.setOrder a ep) es).map (·.2)
  refine h _ _ ⟨s.heap.objs.size,_,_,_,_,hlen.symm,rfl,hp,Db (slots:=fun _=>0) hh (Nat.ne_of_lt hlt) hd hf (by rw[hp.length_eq,hlen]) (fun i A s Q E _ ho' hq=>next_text hbt hd hf ho' hq),⟨Heap.get?_push_size _ rfl,Heap.get?_push_of_some _ ho⟩,fun b hb=>?_,Nat.le_refl _,fun b o e=>Heap.get?_push_of_some _ e,rfl,rfl⟩
  rcases List.mem_cons.mp hb with rfl|hb
  ·exact .inr (Nat.le_refl _)
  ·exact .inl (List.mem_singleton.mp hb)
 | false=>
  rw[hbt] at hled
  subst hled
  cases hdr:(!t.plain && decide (es.size > 1)) with
  | false=>
   rw[if_neg (by exact Bool.false_ne_true)]
   show wpAny _ _ (setEpoch a >>= _) _ _ s
   refine wpAny_bind (wpAny_setEpoch_of ho hd hf (wpAny_bind (wpAny_newObj_type (wpAny_pure ⟨_,rfl, "set_iterator",_,⟨_,Heap.get?_push_size _ rfl,rfl⟩,Ql.lookup,?_⟩))))
   refine h _ _ ⟨s.heap.objs.size,_,_,_,_,hlen.symm,rfl,.rfl,Db (slots:=slotAt t) hh (Nat.ne_of_lt hlt) hd hf hlen (fun i A s Q E hi ho' hq=>next_slot hbt hd hf ht hdr hi ho' hq),⟨Heap.get?_push_size _ rfl,Heap.get?_push_of_some _ ho⟩,fun b hb=>?_,Nat.le_refl _,fun b o e=>Heap.get?_push_of_some _ e,rfl,rfl⟩
   rcases List.mem_cons.mp hb with rfl|hb
   ·exact .inr (Nat.le_refl _)
   ·exact .inl (List.mem_singleton.mp hb)
  | true=>
   rw[if_pos (by rfl)]
   refine wpAny_bind (Ph es.size (List.range es.size) s _ (by simp) fun places d hp=>?_)
   have hpl:places.length=es.size:=by rw[hp.length_eq,List.length_range]
   refine wpAny_bind (wpAny_newTuple (items:=places.map fun (p:Nat)=>rawInt p) ?_ (by rw[List.length_map,hpl];exact fits_of_scanBound hb))
   have kp:∀ oI b o,s.heap.get? b=some o->((s.heap.push { cls:=.type "tuple",data:=.seq (places.map fun (p:Nat)=>rawInt p).toArray }).push oI).get? b=some o:=fun oI b o e=>Heap.get?_push_of_some _ (Heap.get?_push_of_some _ e)
   have hz:(s.heap.push { cls:=.type "tuple",data:=.seq (places.map fun (p:Nat)=>rawInt p).toArray }).objs.size=s.heap.objs.size+1:=Heap.size_push ..
   refine wpAny_bind (wpAny_setEpoch_of (Heap.get?_push_of_some _ ho) hd hf (wpAny_bind (wpAny_newObj_type (wpAny_pure ⟨_,rfl, "set_iterator",_,⟨_,Heap.get?_push_size _ rfl,rfl⟩,Ql.lookup,?_⟩))))
   have hpo:(places.filterMap fun p=>(es[p]?).map (·.2)).Perm (es.toList.map (·.2)):=by
    refine(hp.filterMap _).trans ?_
    have:(List.range es.size).filterMap (fun p=>(es[p]?).map (·.2))=((List.range es.size).filterMap fun p=>es[p]?).map (·.2):=by rw[List.map_filterMap]
    rw[this,filterMap_getElem?_range]
   have hord:∀ (l:List Nat),(∀ p∈l,p<es.size)->∀ (i p:Nat),l[i]?=some p->∃ e,es[p]?=some e∧(l.filterMap fun p=>(es[p]?).map (·.2))[i]?=some e.2:=fun l=>by
    induction l with
    | nil=>intro _ i p h;cases h
    | cons q l ih=>
     intro hl i p hi
     have hq:es[q]?=some (es[q]'(hl q (.head _))):=Array.getElem?_eq_getElem (hl q (.head _))
     rw[List.filterMap_cons,hq]
     dsimp only[Option.map_some]
     cases i with
     | zero=>cases hi;exact⟨_,hq,rfl⟩
     | succ i=>exact ih (fun p hp=>hl p (.tail _ hp)) i p hi
   have hpm:∀ p∈places,p<es.size:=fun p hm=>List.mem_range.mp (hp.mem_iff.mp hm)
   refine h _ _ ⟨(s.heap.push { cls:=.type "tuple",data:=.seq (places.map fun (p:Nat)=>rawInt p).toArray }).objs.size,_,_,_,_,hlen.symm,rfl,hpo,walk_drawn (tp:=s.heap.objs.size) hh (by rw[hz];exact Nat.ne_of_lt (Nat.lt_succ_of_lt hlt)) (by rw[hz];exact Nat.ne_of_lt (Nat.lt_succ_self _)) hd hf (by rw[hpo.length_eq,hlen]) hpl (hord places hpm),
    ⟨Heap.get?_push_size _ rfl,kp _ _ _ ho,Heap.get?_push_of_some _ (Heap.get?_push_size _ rfl)⟩,fun b hb=>?_,by rw[hz];exact Nat.le_succ _,fun b o e=>kp _ b o e,rfl,rfl⟩
   rcases List.mem_cons.mp hb with rfl|hb
   ·exact .inr (by rw[hz];exact Nat.le_succ _)
   ·rcases List.mem_cons.mp hb with rfl|hb
    ·exact .inl rfl
    ·exact .inr (by rw[List.mem_singleton.mp hb];exact Nat.le_refl _)
theorem set_hint {r:Addr}{Q:Bool->Shared->Prop}(hT:s.TypeIs (.ref r) "set") (h:Q false s):wpAny (model prog w) A (Builtin.List.listLengthHint (.ref r)) Q E s:=by
 unfold Builtin.List.listLengthHint
 refine wpAny_bind (wpAny_specialOf hT PySem.F.slot_set_len.lookup ?_)
 generalize hid:("set.__len__":String)=id0
 wp_delta
 rw[show splitId id0=some ("set", "__len__") from by subst hid;decide +kernel]
 subst hid
 refine wpAny_bind (wpAny_isInstance (T:="set") (b:=true) hT (by rw[isSubtype_type];kernel_rfl) ?_)
 refine wpAny_ite_split (fun hab=>absurd hab (by decide)) (fun _=>?_)
 refine wpAny_ite_split (fun _=>?_) (fun hab=>absurd (by decide +kernel) hab)
 refine wpAny_bind (wpAny_typeOf hT ?_)
 exact wpAny_pure h
end
end Mine
end
section
set_option maxRecDepth 100000
namespace Mine
open PySem PySem.Calls PyProof.Rows PySem.W
theorem Bx {K:Type} [DecidableEq K]:∀ {l m:List K},l.Nodup->(∀ k∈l,k∈m)->∃ r,m.Perm (l++r)
 | [],m=>fun _ _=>⟨m,.rfl⟩
 | x::l,m=>fun hn hs=>by
  obtain⟨h1,h2⟩:=List.nodup_cons.mp hn
  have hx:=hs x (.head _)
  obtain⟨r,hr⟩:=Bx (m:=m.erase x) h2 fun k hk=>(List.mem_erase_of_ne (fun (e:k=x)=>h1 (e▸hk))).mpr (hs k (.tail _ hk))
  exact⟨r,(List.perm_cons_erase hx).trans (hr.cons x)⟩
section
variable {prog:Program}{w:World}{K:Type} [DecidableEq K] {knd:PySem.KeyKind prog w K}
inductive KeyedBy (knd:PySem.KeyKind prog w K):List Value->List K->Prop
 | nil:KeyedBy knd [] []
 | cons {v:Value}{k:K}{vs:List Value}{ks:List K}:knd.is k v=true->KeyedBy knd vs ks->KeyedBy knd (v::vs) (k::ks)
theorem KeyedBy.length {vs:List Value}{ks:List K}(h:KeyedBy knd vs ks):vs.length=ks.length:=by
 induction h with
 | nil=>rfl
 | cons _ _ ih=>exact congrArg (·+1) ih
theorem KeyedBy.mem {vs:List Value}{ks:List K}(h:KeyedBy knd vs ks) {v:Value}{k:K}(hv:v∈vs) (hk:knd.is k v=true):k∈ks:=by
 induction h with
 | nil=>cases hv
 | cons hk' _ ih=>
  rcases List.mem_cons.mp hv with rfl|hv
  ·exact knd.inj _ _ _ hk hk'▸.head _
  ·exact .tail _ (ih hv)
theorem keyed_of {vs:List Value}:(∀ v∈vs,∃ k,knd.is k v=true)->∃ ks,KeyedBy knd vs ks:=by
 induction vs with
 | nil=>exact fun _=>⟨[],.nil⟩
 | cons v vs ih=>
  intro h
  obtain⟨k,hk⟩:=h v (.head _)
  obtain⟨ks,hks⟩:=ih fun v hv=>h v (.tail _ hv)
  exact⟨k::ks,.cons hk hks⟩
theorem KeyedBy.ints {vs:List Value}{ns:List Int}(h:KeyedBy (intKind prog w) vs ns):IntsAre vs ns:=by
 induction h with
 | nil=>exact .nil
 | cons hk _ ih=>obtain⟨t,rfl⟩:=Value.isInt_shape hk;exact .cons _ t ih
theorem areK_ints {vs:List Value}{ns:List Int}(h:IntsAre vs ns):AreK (intKind prog w) vs ns:=by
 induction h with
 | nil=>exact .nil
 | cons k t _ ih=>exact .cons (intKind_is _ _ _ _) rfl ih
theorem KeyedBy.strs {vs:List Value}{ss:List Str}(h:KeyedBy (PySem.strKind prog w) vs ss):StrsAre vs ss:=by
 induction h with
 | nil=>exact .nil
 | cons hk _ ih=>obtain⟨t,rfl⟩:=Value.isStrOf_shape hk;exact .cons _ t ih
theorem areK_strs {vs:List Value}{ss:List Str}(h:StrsAre vs ss):AreK (PySem.strKind prog w) vs ss:=by
 induction h with
 | nil=>exact .nil
 | cons k t _ ih=>exact .cons (strKind_is _ _ _ _) rfl ih
end
section
variable {prog:Program}{w:World}{A:Around}{E:Value->Shared->Prop}{s:Shared}
theorem set_extend {R:Result->Shared->Prop}{led:Bool}{a S:Addr}{o:Obj}{es:Array (Int×Value)}{ep:Nat}{t:SetTable}{res:Value}{cf:Nat}(hh:A.handled=none) (hled:led=!w.params.followText "set-order") (ho:s.heap.get? a=some o) (hcl:o.cls=.type "set") (hd:o.data=.set es ep t) (hf:t.fits es.size=true) (hb:es.size<scanBound) (ht:TabOk led t)
  (hSa:S≠a) (hS:s.heap.get? S=some { cls:=.type "list",data:=.seq #[] cf })
  (hR:∀ s' acc c order,(∀ b o,b≠S->s.heap.get? b=some o->s'.heap.get? b=some o)->s'.os=s.os->s'.gens=s.gens->s'.heap.get? S=some { cls:=.type "list",dict:=none,data:=.seq acc c,slots:=#[] }->order.Perm (es.toList.map (·.2))->acc.toList=order->R (.ok (.ret res)) s'):
  wpAny (model prog w) A.in1 (Builtin.List.listExtendWith (.ref S) (.ref a) res)
   (fun fin s'=>match fin with | .done f=>R (.ok f) s' | .again c'=>c'.quiet=true∧codeAny (model prog w) A c' R s') (fun e s'=>R (.error e) s') s:=by
 have hT:s.TypeIs (.ref a) "set":=⟨o,ho,hcl⟩
 unfold Builtin.List.listExtendWith
 refine wpAny_bind (wpAny_typeOf (T:="set") hT ?_)
 have h1:Builtin.List.listSameRef (.ref S) (.ref a)=false:=by simp[Builtin.List.listSameRef,hSa]
 have h2:(Value.type "set" == Value.type "list")=false:=by decide
 have h3:(Value.type "set" == Value.type "tuple")=false:=by decide
 simp only[h1,h2,h3,Bool.or_false,Bool.false_eq_true,if_false]
 refine wpAny_bind (set_iter (show A.in1.handled=none from hh) hled ho hcl hd hf hb ht fun it s1 hit=>?_)
 obtain⟨I,fp,order,St,n,hn,rfl,hp,W,st,hfp,hI,k,hos,hgens⟩:=hit
 have hSl:=Heap.lt_size hS
 have hSI:S≠I:=Nat.ne_of_lt (Nat.lt_of_lt_of_le hSl hI)
 have hSf:S∉fp:=fun m=>by
  rcases hfp S m with q|q
  ·exact hSa q
  ·exact absurd hSl (Nat.not_lt.mpr q)
 have hnl:n≤sizeLine:=by rw[hn,List.length_map,Array.length_toList];exact fits_of_scanBound hb
 have key:∀ (h:Heap) (ca tk:Nat),St 0 h->(∀ b o,b≠S->s.heap.get? b=some o->h.get? b=some o)->h.get? S=some { cls:=.type "list",data:=.seq #[] ca }->
   codeAny (model prog w) A (.builtin "list.extend.loop" ⟨[.ref S,.ref I,res],[]⟩) R { s1 with heap:=h,toks:=tk }:=by
  intro h ca tk hst hk hS1
  refine codeAny_extend_loopS W.toS hnl S hSf res n 0 _ #[] ca rfl (Nat.zero_le _) hst hS1 (ItemsOf.nil _) fun s' acc' c' hm hS' hacc=>?_
  refine hR s' acc' c' order (fun b o hb e=>hm.heap b o (fun hmem=>?_) (hk b o hb e)) (hm.os.trans hos) (hm.gens.trans hgens) hS' hp ?_
  ·rcases List.mem_cons.mp hmem with e'|hmem
   ·exact hb e'
   ·exact absurd (Heap.lt_size e) (by rw[List.mem_singleton.mp hmem];exact Nat.not_lt.mpr hI)
  ·have hol:order.length=n:=by rw[hp.length_eq,hn]
   refine List.ext_getElem? fun j=>?_
   by_cases hj:j<acc'.size
   ·have e:acc'.toList[j]?=some acc'[j]:=by rw[Array.getElem?_toList];exact Array.getElem?_eq_getElem hj
    rw[e]
    exact(hacc.2 j _ (Array.getElem?_eq_getElem hj)).symm
   ·rw[List.getElem?_eq_none (by simpa using hj),List.getElem?_eq_none (by rw[hol,← hacc.1];exact ar37 hj)]
 have hS1:=k _ _ hS
 have hT1:s1.TypeIs (.ref a) "set":=⟨o,k _ _ ho,hcl⟩
 refine wpAny_bind (wpAny_holding (set_hint hT1 ?_))
 refine wpAny_ite_split (fun _=>?_) (fun _=>wpAny_pure ⟨plainId_quiet PySem.F.plain_extend_loop _,?_⟩)
 ·refine wpAny_bind (wpAny_rule ?_)
  refine wpAny_bind ?_
  show wpAny _ _ (updateSeq S (·.push .none) >>= fun _=>updateSeq S (·.pop)) _ _ _
  refine wpAny_bind (wpAny_updateSeq hS1 rfl ?_)
  have hS2:=Heap.get?_update_self (Obj.mapSeq (·.push Value.none)) hS1 rfl
  refine wpAny_updateSeq (hz:=by seq_fits) hS2 rfl ?_
  have hS3:=Heap.get?_update_self (Obj.mapSeq (·.pop)) hS2 rfl
  refine wpAny_pure ⟨plainId_quiet PySem.F.plain_extend_loop _,key _ _ _ ?_ (fun b o hb e=>?_) hS3⟩
  ·refine W.frame 0 _ _ st fun b hb o e=>?_
   have hbS:b≠S:=fun h=>hSf (h▸hb)
   exact(Heap.get?_update_other _ _ (Ne.symm hbS)).trans ((Heap.get?_update_other _ _ (Ne.symm hbS)).trans e)
  ·exact(Heap.get?_update_other _ _ (Ne.symm hb)).trans ((Heap.get?_update_other _ _ (Ne.symm hb)).trans (k b o e))
 ·have:=key s1.heap cf s1.toks st (fun b o _ e=>k b o e) hS1
  cases s1;exact this
theorem Bz {K:Type} [DecidableEq K] {knd:PySem.KeyKind prog w K}{a:Addr}{ns:List K}{R:List Value->Shared->Prop}(hh:A.handled=none) (hS:SetL knd s.heap a (!w.params.followText "set-order") (ddup ns))
  (h:∀ vs ks s',KeyedBy knd vs ks->ks.Perm (ddup ns)->(∀ b o,s.heap.get? b=some o->s'.heap.get? b=some o)->s'.os=s.os->s'.gens=s.gens->R vs s'):wpAny (model prog w) A (collect (.ref a)) R E s:=by
 obtain⟨o,es,ep,t,ho,hx⟩:=hS
 have fin:∀ order:List Value,order.Perm (es.toList.map (·.2))->∃ ks,KeyedBy knd order ks∧ks.Perm (ddup ns):=fun order hp=>by
  obtain⟨ks,hk⟩:=keyed_of (knd:=knd) (vs:=order) fun v hv=>by
   obtain⟨e,he,rfl⟩:=List.mem_map.mp (hp.mem_iff.mp hv)
   obtain⟨⟨k,hk,_⟩,_⟩:=hx.el e he
   exact⟨k,hk⟩
  refine⟨ks,hk,?_⟩
  have hsub:∀ k∈ddup ns,k∈ks:=fun k hk'=>by
   obtain⟨e,he,hi⟩:=(hx.mem k).mp (decide_eq_true hk')
   exact hk.mem (hp.mem_iff.mpr (List.mem_map.mpr ⟨e,he,rfl⟩)) hi
  obtain⟨r,hr⟩:=Bx (ddup_nodup ns) hsub
  have hl:=hr.length_eq
  rw[← hk.length,hp.length_eq,List.length_map,Array.length_toList,hx.size,List.length_append] at hl
  obtain rfl:r=[]:=List.length_eq_zero_iff.mp (by exact ar38 hl)
  rw[List.append_nil] at hr
  exact hr
 have hlt:=Heap.lt_size ho
 unfold collect
 refine wpAny_bind (wpAny_runValue (codeAny_builtin entry_proto_collect' ?_))
 rw[Around.under_plainId PySem.F.plain_proto_collect _]
 show wpAny _ A.in1 (newList [] >>= fun l=>again (.builtin "list.__iadd__" ⟨[l,.ref a],[]⟩)) _ _ s
 refine wpAny_bind (wpAny_newObj_type ?_)
 refine wpAny_pure ⟨plainId_quiet PySem.F.plain_list_iadd _,codeAny_builtin entry_list_iadd' ?_⟩
 rw[Around.under_plainId PySem.F.plain_list_iadd _]
 have hS1:(s.heap.push { cls:=.type "list",data:=.seq ([]:List Value).toArray }).get? s.heap.objs.size=some { cls:=.type "list",data:=.seq #[] }:=Heap.get?_push_size _ rfl
 show wpAny _ A.in1 (Builtin.List.listExtendWith (.ref s.heap.objs.size) (.ref a) (.ref s.heap.objs.size)) _ _ _
 have key:=set_extend (prog:=prog) (A:=A) (s:={ s with heap:=s.heap.push { cls:=.type "list",data:=.seq ([]:List Value).toArray } }) (res:=.ref s.heap.objs.size)
  (R:=fun (q:Result) (s':Shared)=>q=.ok (.ret (.ref s.heap.objs.size))∧∃ acc c,s'.heap.get? s.heap.objs.size=some { cls:=.type "list",dict:=none,data:=.seq acc c,slots:=#[] }∧R acc.toList s')
  hh rfl (Heap.get?_push_of_some _ ho) hx.ex.1 hx.data hx.fits hx.bd hx.tab (Nat.ne_of_gt hlt) hS1 (fun s' acc c order k hos hg hS' hp e=>⟨rfl,acc,c,hS',by
   obtain⟨ks,q1,q2⟩:=fin order hp
   rw[e]
   exact h order ks s' q1 q2 (fun b o' e'=>k b o' (Nat.ne_of_lt (Heap.lt_size e')) (Heap.get?_push_of_some _ e')) hos hg⟩)
 refine wpAny_mono key (fun f s' x=>?_) fun e s' x=>?_
 ·cases f with
  | done f=>
   obtain⟨e,acc,c,hS',hr⟩:=x
   cases e
   show wpAny _ A (load s.heap.objs.size >>= _) _ _ _
   exact wpAny_bind (wpAny_load hS' (wpAny_pure hr))
  | again ca=>
   refine⟨x.1,codeAny_mono x.2 fun q sd y=>?_⟩
   obtain⟨rfl,acc,c,hS',hr⟩:=y
   show wpAny _ A (load s.heap.objs.size >>= _) _ _ _
   exact wpAny_bind (wpAny_load hS' (wpAny_pure hr))
 ·obtain⟨e',_⟩:=x
  cases e'
end
section
variable {prog:Program}{w:World}{fz:List Addr}{μ:MH}{s:Shared}{Q:MQ}{A:Around}{E:Value->Shared->Prop}
theorem Ix {a:Addr}{l:List MV}{ns:List Int}(r:RepH prog w μ s.heap) (f:FzIn fz s.heap) (e:lst μ a=some l) (hi:intsOf l=some ns) (hn:l.length<64) (hA:A.handled=none) (h:allocM fz μ (.list ((sortI (ddup ns)).map .int)) fun c μ'=>Q (.ref c) μ'):
  wpAny (model prog w) A (call (.type "set") [.ref a]) (fun y s1=>wpAny (model prog w) A (call (.builtin "sorted") [y]) (PostV prog w fz μ s Q) E s1) E s:=by
 obtain⟨vs,⟨n,ha⟩,hv,_⟩:=Ym r e
 have hI:=Uo hv hi
 have hnl:=O7 hi
 refine call_set (knd:=intKind prog w) hA ⟨_,ha,rfl,n,rfl⟩ (areK_ints hI) (by unfold scanBound;exact ar39 hn hnl) fun h' tk hS k=>?_
 refine Calls.call_function_entry kind_sorted plain_sorted entry_sorted (args_sorted1 _) ?_
 unfold Builtin.«sorted»
 refine wpAny_bind (m:=checkCount "sorted" 1 1 _) (wpAny_pure ?_)
 refine wpAny_bind (Bz (A:=A.in1) hA hS fun us ks s' hu hp k' hos hg=>?_)
 have hu:=hu.ints
 have hul:us.length<64:=by
  have h1:=hp.length_eq
  have h2:=hu.length
  have:=Av ns
  exact ar40 hn hnl h1 h2 this
 refine wpAny_bind (wpAny_newList ?_ (by have:=Qe (Nat.le_trans (Nat.le_of_lt hul) (by decide):fits us.length);assumption))
 have hoL:(s'.heap.push (seqObj "list" us.toArray 0)).get? s'.heap.objs.size=some (seqObj "list" us.toArray 0):=Heap.get?_push_size _ rfl
 refine wpAny_bind (wpAny_holding (wpAny_call_entry slot_list_sort ⟨_,hoL,rfl⟩ entry_list_sort (list_sort_tree hoL hu hul fun out ns' a1 a2 a3=>⟨_,rfl,?_⟩) (args_list_sort _)))
 refine wpAny_pure ⟨_,rfl,?_⟩
 have hns':ns'=sortI (ddup ns):=Zx (a2.trans hp) a3
 have kk:∀ b o,s.heap.get? b=some o->s'.heap.get? b=some o:=fun b o e=>k' b o (k b o e)
 have hnew:s.heap.get? s'.heap.objs.size=none:=by
  cases q:s.heap.get? s'.heap.objs.size with
  | none=>rfl
  | some o=>exact absurd (Heap.lt_size (kk _ _ q)) (Nat.lt_irrefl _)
 have k2:∀ b o,s.heap.get? b=some o->(sortedHeap (s'.heap.push (seqObj "list" us.toArray 0)) s'.heap.objs.size us out).get? b=some o:=fun b o e=>by
  have e':=kk b o e
  have hlt:=Heap.lt_size e'
  rw[sortedHeap_old (Nat.ne_of_lt hlt) (by rw[Heap.size_push];exact Nat.lt_succ_of_lt hlt)]
  exact Heap.get?_push_of_some _ e'
 obtain⟨ep,he⟩:=sortedHeap_at (h:=s'.heap.push (seqObj "list" us.toArray 0)) (a:=s'.heap.objs.size) (vs:=us) (n:=0) (out:=out) (Heap.get?_push_size _ rfl)
 have hm:=r.free hnew
 refine⟨.ref s'.heap.objs.size,upd μ s'.heap.objs.size (.list ((sortI (ddup ns)).map .int)),h _ hm (f.free hnew),rfl,r.alloc k2 ⟨out.toList,⟨ep,by simpa[seqObj] using he⟩,?_⟩,⟨fun b o _ e=>⟨.same (k2 b o e),?_⟩,hos,hg⟩⟩
 ·rw[← hns'];exact Ud a1
 ·unfold upd;rw[if_neg (fun q=>by subst q;rw[hnew] at e;cases e)]
end
end Mine
end
section
set_option maxRecDepth 100000
namespace Mine
open PySem PySem.Calls PyProof.Rows PySem.W
theorem Dr:typeLookup (.type "list") "keys" = pure none:=by rw[typeLookup_type,builtinLookup_eq_fast];kernel_rfl
theorem K4:entryFor table "dict.update.loop" = some Builtin.«dict.update.loop»:=entryFor_of_tree (by kernel_rfl)
theorem Xr:plainId "dict.update.loop" = true:=by decide +kernel
section
variable {prog:Program}{w:World}{A:Around}{E:Value->Shared->Prop}
theorem Vq {s:Shared}{a:Addr}{xs:Array Value}{k:Nat}{Q:Option Value->Shared->Prop}(hx:s.heap.get? a=some { cls:=.type "list",data:=.seq xs k }) (hA:A.handled=none)
  (h:∀ h' tk,(∀ b o,s.heap.get? b=some o->h'.get? b=some o)->Q none { s with heap:=h',toks:=tk }):
  wpAny (model prog w) A (getAttr? (.ref a) "keys") Q E s:=by
 obtain⟨hp,g,d,tk,os⟩:=s
 have hT:∀ tk',(⟨hp,g,d,tk',os⟩:Shared).TypeIs (.ref a) "list":=fun _=>⟨_,hx,rfl⟩
 have f1:=sub_AttributeError
 have f3:=F.slot_list_getattribute.lookup
 have f4:=F.slot_list_getattribute.bind (.ref a)
 have f5:=am_list_getattr_none
 unfold getAttr? getAttrBy? getAttrBy
 repeat (any_goals (first|assumption|exact hT _|((with_reducible show wpAny _ _ (call (Value.builtin "list.__getattribute__") _ _) _ _ _);refine call_meets F.slot_list_getattribute (hT _) am_entry_list_getattribute (F.args_list_getattribute_2 _ _) (meets_getattribute_miss_list a xs k #[] "keys" _ Dr (by decide +kernel) (by decide +kernel)) ⟨hx,hA,fun h₁ tk1 ed hxa=>?_⟩)|wp_step))
 obtain⟨t',u',he⟩:=hxa.there
 have hTe:∀ tk',(⟨h₁,g,d,tk',os⟩:Shared).TypeIs (.ref ed) "AttributeError":=fun _=>⟨_,he,rfl⟩
 show wpAny _ _ (getattributeRaised _ _ _ _ _ _ _) _ _ _
 unfold getattributeRaised
 refine wpAny_bind (wpAny_isInstance (hTe _) f1 ?_)
 simp only[if_true]
 show wpAny _ _ (hookBehind _ _ >>= _) _ _ _
 refine wpAny_bind (wpAny_of_eq (show hookBehind (.type "list") none=pure none from f5) ?_)
 show wpAny _ _ (throw _) _ _ _
 refine wpAny_throw ?_
 show wpAny _ _ (isInstance _ _ >>= _) _ _ _
 refine wpAny_bind (wpAny_isInstance (hTe _) f1 ?_)
 simp only[if_true]
 exact wpAny_pure (h h₁ _ hxa.keeps)
end
end Mine
end
section
set_option maxRecDepth 100000
namespace Mine
open PySem PySem.Calls PyProof.Rows PySem.W
section
variable {prog:Program}{w:World}{A:Around}{E:Value->Shared->Prop}{fz:List Addr}{μ:MH}{s:Shared}{Q:MQ}{d:Dp}
noncomputable def PairAt (h:Heap) (x:Value) (kv:Int×Value):Prop:=∃ a t n,x=.ref a∧h.get? a=some { cls:=.type "tuple",data:=.seq #[.int kv.1 t,kv.2] n }
noncomputable def storedAll (acc ps:List (Int×Value)):List (Int×Value):=ps.foldl (fun d kv=>stored d kv.1 kv.2) acc
theorem B3 {kvs:List (Int×Value)}{k:Int}{v:Value}:(stored kvs k v).length≤kvs.length+1:=by
 unfold stored;split <;> simp
theorem Bw {R:Result->Shared->Prop}{I l D:Addr}{items:Array Value}(hh:A.handled=none) (hDI:D≠I) (hDl:D≠l) (hIl:l≠I):
  ∀ (ps:List (Int×Value)) (i:Nat) (acc:List (Int×Value)) (s:Shared),items.size=i+ps.length->s.heap.IsListIter I l i->s.heap.IsList l items->(∀ (j:Nat) (kv:Int×Value),ps[j]?=some kv->∃ x,items[i+j]?=some x∧PairAt s.heap x kv)->
   s.heap.DictOf (intKind prog w) D acc->acc.length+ps.length≤sizeLine->
   (∀ h' tk,h'.DictOf (intKind prog w) D (storedAll acc ps)->(∀ b o,b≠D->b≠I->s.heap.get? b=some o->h'.get? b=some o)->R (.ok (.ret .none)) { s with heap:=h',toks:=tk })->
   codeAny (model prog w) A (.builtin "dict.update.loop" ⟨[.ref D,.ref I,.int i 0,.none],[]⟩) R s
 | [],i,acc,s,hn,hit,hl,hp,hd,hsz,hR=>by
  refine codeAny_builtin K4 ?_
  rw[Around.under_plainId Xr _]
  show wpAny _ A.in1 (pyNext (.ref I) >>= _) _ _ s
  have hnone:items[i]?=none:=by simp at hn;simp[hn]
  refine wpAny_bind (wpAny_pyNext_list_end (A:=A.in1) hh hit hl hnone fun h' he=>?_)
  show wpAny _ _ (Builtin.Dict.addKeywords D [] >>= _) _ _ _
  refine wpAny_bind (wpAny_pure (wpAny_pure ?_))
  have k:∀ b o,b≠I->s.heap.get? b=some o->h'.get? b=some o:=fun b o hb e=>he b o hb e
  refine hR h' s.toks ?_ (fun b o h1 h2 e=>k b o h2 e)
  obtain⟨o,es,ep,ho,r⟩:=hd
  exact⟨o,es,ep,k _ _ hDI ho,r⟩
 | kv::ps,i,acc,s,hn,hit,hl,hp,hd,hsz,hR=>by
  obtain⟨x,hx,a,t,n,rfl,ha⟩:=hp 0 kv rfl
  rw[Nat.add_zero] at hx
  refine codeAny_builtin K4 ?_
  rw[Around.under_plainId Xr _]
  show wpAny _ A.in1 (pyNext (.ref I) >>= _) _ _ s
  refine wpAny_bind (wpAny_pyNext_list_item (A:=A.in1) hit hl hx fun h₁ hit1 hs1=>?_)
  have aI:a≠I:=fun e=>by obtain⟨o,ho,hc,_⟩:=hit;rw[← e,ha] at ho;cases ho;contradiction
  have ha1:=(hs1.2 a aI).trans ha
  show wpAny _ _ (holding [.ref a] _ >>= _) _ _ _
  refine wpAny_bind (wpAny_holding ?_)
  refine wpAny_bind (m:=Sem.tryCatch (Builtin.Dict.pairItems (.ref a)) _) ?_
  refine wpAny_tryCatch ?_
  unfold Builtin.Dict.pairItems
  refine wpAny_bind (wpAny_typeOf (T:="tuple") ⟨_,ha1,rfl⟩ ?_)
  rw[if_pos (by decide)]
  refine wpAny_bind (wpAny_seqItems ha1 rfl (wpAny_pure ?_))
  show wpAny _ _ (holding [.int kv.1 t,kv.2] (dictSet D (.int kv.1 t) kv.2)) _ _ _
  have hda:h₁.DictOf (intKind prog w) D acc:=by
   obtain⟨o,es,ep,ho,r⟩:=hd
   exact⟨o,es,ep,(hs1.2 D hDI).trans ho,r⟩
  simp only[List.length_cons] at hsz hn
  refine wpAny_holding (wpAny_dictSet_pairs (intKind_is prog w kv.1 t) hda (fun h₂ hdb hsa=>?_) (by exact ar41 hsz))
  refine wpAny_pure ⟨plainId_quiet Xr _,?_⟩
  have k2:∀ b o,b≠D->b≠I->s.heap.get? b=some o->h₂.get? b=some o:=fun b o h1 h2 e=>(hsa.2 b h1).trans ((hs1.2 b h2).trans e)
  have hI2:h₂.IsListIter I l (i+1):=by
   obtain⟨o,ho,r⟩:=hit1
   exact⟨o,(hsa.2 I (Ne.symm hDI)).trans ho,r⟩
  have hl2:h₂.IsList l items:=by
   obtain⟨o,ho,r⟩:=hl
   exact⟨o,k2 l o (Ne.symm hDl) hIl ho,r⟩
  have key:=Bw (R:=R) (items:=items) hh hDI hDl hIl ps (i+1) (stored acc kv.1 kv.2) { s with heap:=h₂,toks:=s.toks+1 } (by exact ar42 hn) hI2 hl2 (fun j kv' hj=>?_) hdb
   (by have:=B3 (kvs:=acc) (k:=kv.1) (v:=kv.2);exact ar43 hsz this) (fun h' tk hd' hk'=>hR h' tk hd' fun b o h1 h2 e=>hk' b o h1 h2 (k2 b o h1 h2 e))
  ·simpa[rawInt] using key
  ·obtain⟨x',hx',a',t',n',rfl,ha'⟩:=hp (j+1) kv' (by simpa using hj)
   have aI':a'≠I:=fun e=>by obtain⟨o,ho,hc,_⟩:=hit;rw[← e,ha'] at ho;cases ho;contradiction
   have aD':a'≠D:=fun e=>by obtain⟨o,es,ep,ho,hc,_⟩:=hd;rw[← e,ha'] at ho;cases ho;exact absurd hc.1 (by simp)
   exact⟨_,by rw[← hx'];congr 1;exact ar44,a',t',n',rfl,k2 _ _ aD' aI' ha'⟩
theorem pair1_inv {m:MV}{p:Int×MV}(e:pair1 m=some p):∃ k x,m=.tup [.int k,x]∧p=(k,x):=by
 cases m with
 | tup l=>
  cases l with
  | nil=>cases e
  | cons a l=>
   cases a with
   | int k=>
    cases l with
    | nil=>cases e
    | cons x l=>
     cases l with
     | nil=>cases e;exact⟨k,x,rfl,rfl⟩
     | cons y l=>cases e
   | _=>cases e
 | _=>cases e
theorem pairs_at {h:Heap}:∀ {l:List MV}{vs:List Value}{ps:List (Int×MV)},RepVs h l vs->pairsI l=some ps->∃ kvs:List (Int×Value),RepKV h ps kvs∧kvs.length=l.length∧∀ (j:Nat) (kv:Int×Value),kvs[j]?=some kv->∃ x,vs[j]?=some x∧PairAt h x kv
 | [],[],ps=>fun _ e=>by cases e;exact⟨[],trivial,rfl,fun j kv e=>by contradiction⟩
 | m::l,v::vs,ps=>fun r e=>by
  unfold pairsI at e
  rw[List.mapM_cons] at e
  obtain⟨p,e1,e⟩:=Option.bind_eq_some_iff.mp e
  obtain⟨ps',e2,e⟩:=Option.bind_eq_some_iff.mp e
  obtain rfl:p::ps'=ps:=Option.some.inj e
  obtain⟨kvs,h1,h2,h3⟩:=pairs_at r.2 e2
  obtain⟨k,x,rfl,rfl⟩:=pair1_inv e1
  obtain⟨a,us,n,rfl,ha,hu⟩:=r.1
  match us,hu with
  | [u1,u2],hu=>
   obtain⟨⟨t,rfl⟩,hx,_⟩:=hu
   refine⟨(k,u2)::kvs,by exact⟨rfl,hx,h1⟩,by simp[h2],fun j kv hj=>?_⟩
   cases j with
   | zero=>simp at hj;subst hj;exact⟨_,rfl,a,t,n,rfl,ha⟩
   | succ j=>exact h3 j kv (by simpa using hj)
  | [],hu=>exact False.elim hu
  | [_],hu=>exact False.elim hu.2
  | _::_::_::_,hu=>exact False.elim hu.2.2
 | [],_::_,_=>fun r _=>False.elim r
 | _::_,[],_=>fun r _=>False.elim r
theorem V8 {h:Heap}:∀ {ps:List (Int×MV)}{kvs:List (Int×Value)}{acc:List (Int×MV)}{acc':List (Int×Value)},RepKV h ps kvs->RepKV h acc acc'->RepKV h (ps.foldl (fun d kv=>putI d kv.1 kv.2) acc) (storedAll acc' kvs)
 | [],[],_,_=>fun _ r=>r
 | p::ps,k::kvs,acc,acc'=>fun x r=>by
  show RepKV h (ps.foldl (fun d kv=>putI d kv.1 kv.2) (putI acc p.1 p.2)) (storedAll (stored acc' k.1 k.2) kvs)
  rw[x.1]
  exact V8 x.2.2 (Hd k.1 x.2.1 r)
 | [],_::_,_,_=>fun x _=>False.elim x
 | _::_,[],_,_=>fun x _=>False.elim x
theorem Gi {a:Addr}{l:List MV}{ps:List (Int×MV)}(r:RepH prog w μ s.heap) (f:FzIn fz s.heap) (q:μ a=some (.list l)) (e:pairsI l=some ps) (hn:fits l.length) (hA:A.handled=none) (hm:sysModules<s.heap.objs.size)
  (h:allocM fz μ (.idict (ps.foldl (fun d kv=>putI d kv.1 kv.2) [])) fun c μ'=>Q (.ref c) μ'):
  wpAny (model prog w) A (call (.type "dict") [.ref a]) (PostV prog w fz μ s Q) E s:=by
 obtain⟨vs,⟨n,ha⟩,hv⟩:=r a _ q
 obtain⟨kvs,hk,hkl,hp⟩:=pairs_at hv e
 have hvl:=hv.length
 have hfit:=Qe hn
 refine callType_codes (Q₁:=fun obj s1=>obj=.ref s.heap.objs.size∧s1={ s with heap:=s.heap.push { cls:=.type "dict",data:=.dict #[] } }) F.kt_called_dict (F.kt_typeCall_dict_1 _) F.entry_dict_init (kt_code_dict_new _ ⟨rfl,rfl⟩) ?_
 rintro obj s1 ⟨rfl,rfl⟩
 have hnew:(s.heap.push { cls:=.type "dict",data:=.dict #[] }).DictOf (intKind prog w) s.heap.objs.size []:=Heap.DictOf.new s.heap
 have push1:∀ b o,s.heap.get? b=some o->(s.heap.push { cls:=.type "dict",data:=.dict #[] }).get? b=some o:=fun b o e=>Heap.get?_push_of_some _ e
 refine⟨hnew.typeIs,F.args_dict_init_2 _ _,?_⟩
 unfold Builtin.«dict.__init__»
 refine wpAny_bind ?_
 unfold Builtin.Dict.selfAndRest
 refine wpAny_bind (wpAny_notOrdered_dict hnew.typeIs ?_)
 show wpAny _ _ (pure (s.heap.objs.size,[Value.ref a])) _ _ _
 refine wpAny_pure ?_
 show wpAny _ _ (Builtin.Dict.updateFrom "dict.__init__" s.heap.objs.size (.ref a) [] .none) _ _ _
 unfold Builtin.Dict.updateFrom
 refine wpAny_bind (wpAny_typeOf (T:="list") ⟨_,push1 _ _ ha,rfl⟩ ?_)
 rw[if_pos (by decide)]
 refine wpAny_bind (Vq (push1 _ _ ha) hA fun h₁ tk1 ke=>?_)
 simp only[Option.isNone_none,if_true]
 refine wpAny_bind (wpAny_rule ?_)
 have hla:h₁.IsList a vs.toArray:=⟨_,ke _ _ (push1 _ _ ha),rfl,n,rfl⟩
 refine wpAny_bind (wpAny_pyIter_list hla ?_)
 have push2:∀ b o,h₁.get? b=some o->(h₁.push { cls:=.type "list_iterator",data:=.fields #[.ref a,.int 0 0] }).get? b=some o:=fun b o e=>Heap.get?_push_of_some _ e
 have lt1:s.heap.objs.size<h₁.objs.size:=by
  obtain⟨o,es,ep,ho,_⟩:=hnew
  exact Heap.lt_size (ke _ _ ho)
 have lta:a<s.heap.objs.size:=Heap.lt_size ha
 refine wpAny_pure ⟨plainId_quiet Xr _,Bw (A:=A.in1) (items:=vs.toArray) (l:=a) hA (Nat.ne_of_lt lt1) (Nat.ne_of_gt lta) (Nat.ne_of_lt (Nat.lt_trans lta lt1)) kvs 0 [] _ (by simp;exact ar45 hkl hvl) ?_ ?_ ?_ ?_ (by simp;exact G9 hkl hfit) ?_⟩
 ·exact⟨_,Heap.get?_push_size _ rfl,rfl,rfl⟩
 ·exact⟨_,push2 _ _ (ke _ _ (push1 _ _ ha)),rfl,n,rfl⟩
 ·intro j kv hj
  obtain⟨x,hx,b,t,m,rfl,hb⟩:=hp j kv hj
  exact⟨_,by simpa using hx,b,t,m,rfl,push2 _ _ (ke _ _ (push1 _ _ hb))⟩
 ·obtain⟨o,es,ep,ho,r⟩:=hnew
  exact⟨o,es,ep,push2 _ _ (ke _ _ ho),r⟩
 ·intro h' tk hd' k'
  have kall:∀ b o,s.heap.get? b=some o->h'.get? b=some o:=fun b o e=>by
   have hlt:=Heap.lt_size e
   exact k' b o (Nat.ne_of_lt hlt) (Nat.ne_of_lt (Nat.lt_trans hlt lt1)) (push2 _ _ (ke _ _ (push1 _ _ e)))
  refine⟨rfl,Z3 h r f (Yn _) kall ⟨_,hd',V8 (hk.keepT (.of_all kall)) trivial,?_⟩⟩
  have:s.heap.objs.size≠sysModules:=Nat.ne_of_gt hm
  simpa using this
theorem Iz {a:Addr}{l:List (Int×MV)}(r:RepH prog w μ s.heap) (f:FzIn fz s.heap) (q:μ a=some (.idict l)) (hn:fits l.length) (hm:sysModules<s.heap.objs.size)
  (h:allocM fz μ (.idict l) fun c μ'=>Q (.ref c) μ'):wpAny (model prog w) A (call (.type "dict") [.ref a]) (PostV prog w fz μ s Q) E s:=by
 obtain⟨kvs,hd,hk,hs⟩:=r a _ q
 have hl:=hk.length
 refine kt_call_dict hs hd (by have:=Qe hn;exact G9 hl this) fun h' hd' hs'=>?_
 have kall:∀ b o,s.heap.get? b=some o->h'.get? b=some o:=fun b o e=>(hs'.2 b (Nat.ne_of_lt (Heap.lt_size e))).trans (Heap.get?_push_of_some _ e)
 refine Z3 (tk:=s.toks) h r f (Yn _) kall ⟨_,hd',hk.keepT (.of_all kall),?_⟩
 have:s.heap.objs.size≠sysModules:=Nat.ne_of_gt hm
 simpa using this
end
end Mine
end
section
set_option maxRecDepth 100000
namespace Mine
open PySem PySem.Calls PyProof.Rows PySem.W
section
variable {prog:Program}{w:World}{A:Around}{E:Value->Shared->Prop}{fz:List Addr}{μ:MH}{s:Shared}{Q:MQ}{d:Dp}
theorem op_isinst {t:TY}{v:MV}{x:Value}{b:Bool}(hv:RepV s.heap v x) (r:RepH prog w μ s.heap) (e:isTy μ t v=some b) {Q:Value->Shared->Prop}(h:∀ s',Still s s'->Q (.bool b) s'):
  wpAny (model prog w) A (call (.builtin "isinstance") [x,.type (tyName t)]) Q E s:=by
 cases v with
 | none=>
  obtain rfl:=Option.some.inj e;obtain rfl:x=.none:=hv
  cases t
  ·exact IsiPair.NoneType_int (h _ ⟨rfl,rfl,rfl⟩)
  ·exact IsiPair.NoneType_bool (h _ ⟨rfl,rfl,rfl⟩)
  ·exact IsiPair.NoneType_str (h _ ⟨rfl,rfl,rfl⟩)
  ·exact IsiPair.NoneType_tuple (h _ ⟨rfl,rfl,rfl⟩)
  ·exact IsiPair.NoneType_list (h _ ⟨rfl,rfl,rfl⟩)
  ·exact IsiPair.NoneType_dict (h _ ⟨rfl,rfl,rfl⟩)
 | bool bb=>
  obtain rfl:=Option.some.inj e;obtain rfl:x=.bool bb:=hv
  cases t
  ·exact IsiPair.bool_int (h _ ⟨rfl,rfl,rfl⟩)
  ·exact IsiPair.bool_bool (h _ ⟨rfl,rfl,rfl⟩)
  ·exact IsiPair.bool_str (h _ ⟨rfl,rfl,rfl⟩)
  ·exact IsiPair.bool_tuple (h _ ⟨rfl,rfl,rfl⟩)
  ·exact IsiPair.bool_list (h _ ⟨rfl,rfl,rfl⟩)
  ·exact IsiPair.bool_dict (h _ ⟨rfl,rfl,rfl⟩)
 | int ii=>
  obtain rfl:=Option.some.inj e;obtain⟨u,rfl⟩:=hv
  cases t
  ·exact IsiPair.int_int (h _ ⟨rfl,rfl,rfl⟩)
  ·exact IsiPair.int_bool (h _ ⟨rfl,rfl,rfl⟩)
  ·exact IsiPair.int_str (h _ ⟨rfl,rfl,rfl⟩)
  ·exact IsiPair.int_tuple (h _ ⟨rfl,rfl,rfl⟩)
  ·exact IsiPair.int_list (h _ ⟨rfl,rfl,rfl⟩)
  ·exact IsiPair.int_dict (h _ ⟨rfl,rfl,rfl⟩)
 | str ss=>
  obtain rfl:=Option.some.inj e;obtain⟨u,rfl⟩:=hv
  cases t
  ·exact IsiPair.str_int (h _ ⟨rfl,rfl,rfl⟩)
  ·exact IsiPair.str_bool (h _ ⟨rfl,rfl,rfl⟩)
  ·exact IsiPair.str_str (h _ ⟨rfl,rfl,rfl⟩)
  ·exact IsiPair.str_tuple (h _ ⟨rfl,rfl,rfl⟩)
  ·exact IsiPair.str_list (h _ ⟨rfl,rfl,rfl⟩)
  ·exact IsiPair.str_dict (h _ ⟨rfl,rfl,rfl⟩)
 | tup ll=>
  obtain rfl:=Option.some.inj e;obtain⟨a,vs,n,rfl,ho,_⟩:=hv
  cases t
  ·exact IsiPair.tuple_int ho rfl (h _ ⟨rfl,rfl,rfl⟩)
  ·exact IsiPair.tuple_bool ho rfl (h _ ⟨rfl,rfl,rfl⟩)
  ·exact IsiPair.tuple_str ho rfl (h _ ⟨rfl,rfl,rfl⟩)
  ·exact IsiPair.tuple_tuple ho rfl (h _ ⟨rfl,rfl,rfl⟩)
  ·exact IsiPair.tuple_list ho rfl (h _ ⟨rfl,rfl,rfl⟩)
  ·exact IsiPair.tuple_dict ho rfl (h _ ⟨rfl,rfl,rfl⟩)
 | ref a=>
  obtain rfl:x=.ref a:=hv
  have dicts:∀ o,s.heap.get? a=some o->o.cls=.type "dict"->b=decide (t=.dict)->wpAny (model prog w) A (call (.builtin "isinstance") [.ref a,.type (tyName t)]) Q E s:=by
   intro o ho hc hb
   subst hb
   cases t
   ·exact IsiPair.dict_int ho hc (h _ ⟨rfl,rfl,rfl⟩)
   ·exact IsiPair.dict_bool ho hc (h _ ⟨rfl,rfl,rfl⟩)
   ·exact IsiPair.dict_str ho hc (h _ ⟨rfl,rfl,rfl⟩)
   ·exact IsiPair.dict_tuple ho hc (h _ ⟨rfl,rfl,rfl⟩)
   ·exact IsiPair.dict_list ho hc (h _ ⟨rfl,rfl,rfl⟩)
   ·exact IsiPair.dict_dict ho hc (h _ ⟨rfl,rfl,rfl⟩)
  replace e:isTyO t (μ a)=some b:=e
  cases q:μ a with
  | none=>rw[q] at e;cases e
  | some mo=>
   rw[q] at e
   cases mo with
   | list l=>
    obtain rfl:=Option.some.inj e
    obtain⟨vs,⟨n,ho⟩,_⟩:=r a _ q
    cases t
    ·exact IsiPair.list_int ho rfl (h _ ⟨rfl,rfl,rfl⟩)
    ·exact IsiPair.list_bool ho rfl (h _ ⟨rfl,rfl,rfl⟩)
    ·exact IsiPair.list_str ho rfl (h _ ⟨rfl,rfl,rfl⟩)
    ·exact IsiPair.list_tuple ho rfl (h _ ⟨rfl,rfl,rfl⟩)
    ·exact IsiPair.list_list ho rfl (h _ ⟨rfl,rfl,rfl⟩)
    ·exact IsiPair.list_dict ho rfl (h _ ⟨rfl,rfl,rfl⟩)
   | idict l=>obtain⟨kvs,⟨o,es,ep,ho,hc,_⟩,_⟩:=r a _ q;exact dicts o ho hc.1 (Option.some.inj e).symm
   | _=>cases e
 | _=>cases e
theorem op_len {v:MV}{x:Value}(hv:RepV s.heap v x) (r:RepH prog w μ s.heap) (h:lenM v Q μ):wpAny (model prog w) A (call (.builtin "len") [x]) (PostV prog w fz μ s Q) E s:=by
 have f63:∀ {n:Nat},fits n->(n:Int)<2 ^ 63:=fun h=>by unfold fits at h;exact ar46 h
 cases v with
 | tup l=>
  obtain⟨a,vs,n,rfl,ho,hr⟩:=hv
  have hl:=hr.length
  refine P.len_tuple ho (by have:=f63 h.1;simp;exact ar47 hl this) ?_
  rw[show vs.toArray.size=l.length by trivial]
  exact Qd h.2 r (by exact⟨_,rfl⟩) rfl rfl rfl
 | str st=>
  obtain⟨t,rfl⟩:=hv
  exact P.len_str (by have:=f63 h.1;exact ar48 this) (Qd h.2 r (by exact⟨_,rfl⟩) rfl rfl rfl)
 | ref a=>
  obtain rfl:x=.ref a:=hv
  replace h:lenO (μ a) fun n=>Q (.int n) μ:=h
  cases q:μ a with
  | none=>rw[q] at h;exact False.elim h
  | some mo=>
   rw[q] at h
   cases mo with
   | list l=>
    obtain⟨vs,h1,hr⟩:=r a _ q
    have hl:=hr.length
    refine Calls.call_len_list h1.isList (by have:=f63 h.1;simp;lia) ?_
    rw[show vs.toArray.size=l.length by trivial]
    exact Qd h.2 r (by exact⟨_,rfl⟩) rfl rfl rfl
   | idict l=>
    obtain⟨kvs,hd,hk,hs⟩:=r a _ q
    have hl:=hk.length
    refine call_len_dict hs hd (by have:=f63 h.1;exact ar49 hl this) ?_
    rw[hl]
    exact Qd h.2 r (by exact⟨_,rfl⟩) rfl rfl rfl
   | _=>exact False.elim h
 | _=>exact False.elim h
theorem op_min2 {x y:Int}{t u:Tok}(hA:A.handled=none) (r:RepH prog w μ s.heap) (h:Q (.int (min x y)) μ):wpAny (model prog w) A (call (.builtin "min") [.int x t,.int y u]) (PostV prog w fz μ s Q) E s:=by
 refine min_two_ints hA fun h' tk k=>?_
 by_cases c:y<x
 ·rw[if_pos c];exact Jd h r k (by exact⟨u,by congr 1;exact ar50 c⟩)
 ·rw[if_neg c];exact Jd h r k (by exact⟨t,by congr 1;exact ar51 c⟩)
theorem op_max2 {x y:Int}{t u:Tok}(hA:A.handled=none) (r:RepH prog w μ s.heap) (h:Q (.int (max x y)) μ):wpAny (model prog w) A (call (.builtin "max") [.int x t,.int y u]) (PostV prog w fz μ s Q) E s:=by
 refine max_two_ints hA fun h' tk k=>?_
 by_cases c:y > x
 ·rw[if_pos c];exact Jd h r k (by exact⟨u,by congr 1;exact ar52 c⟩)
 ·rw[if_neg c];exact Jd h r k (by exact⟨t,by congr 1;exact ar53 c⟩)
theorem op_list {v:MV}{x:Value}{l:List MV}(hA:A.handled=none) (hv:RepV s.heap v x) (r:RepH prog w μ s.heap) (f:FzIn fz s.heap) (e:items μ v=some l) (hn:fits l.length) (hns:∀ st,v≠.str st)
  (h:allocM fz μ (.list l) fun c μ'=>Q (.ref c) μ'):wpAny (model prog w) A (call (.type "list") [x]) (PostV prog w fz μ s Q) E s:=by
 rcases Rq r hv e with ⟨a,vs,n,rfl,ho,hr⟩|⟨st,t,rfl⟩|⟨da,⟨T,p,n,P,OK,rfl,K,ok,rfl,hP⟩⟩
 ·have hl:=hr.length
  have fin:∀ h' c',(∀ b o',s.heap.get? b=some o'->h'.get? b=some o')->h'.get? s.heap.objs.size=some { cls:=.type "list",dict:=none,data:=.seq vs.toArray c',slots:=#[] }->PostV prog w fz μ s Q (.ref s.heap.objs.size) { s with heap:=h' }:=
   fun h' c' k hg=>Z3 (tk:=s.toks) h r f (Yn _) k ⟨vs,⟨c',hg⟩,hr.keepT (.of_all k)⟩
  rcases ho with ho|ho
  ·exact call_list_seq a (.inl rfl) ho rfl rfl fin (by have:=Qe hn;simp;exact G9 hl this)
  ·exact call_list_seq a (.inr rfl) ho rfl rfl fin (by have:=Qe hn;simp;exact G9 hl this)
 ·exact Dm hv hns
 ·refine kdl_call K hA ok (Qe hn) fun h' tk acc c k hg ha=>Z3 h r f (Yn _) k ⟨acc.toList,⟨c,by simpa using hg⟩,Uc (by rw[Array.length_toList];exact ha.1) fun j u hj=>?_⟩
  exact hP j u (ha.2 j u (by rw[← Array.getElem?_toList];exact hj)) h' (.of_all k)
noncomputable def maxFrom (f:Nat->Int) (j k:Nat) (b:Int):Int:=(List.range' j k).foldl (fun m i=>max m (f i)) b
theorem max_loop {R:Result->Shared->Prop}{I S:Addr}{fp wr:List Addr}{n:Nat}{P:Nat->Value->Prop}{St:Nat->Heap->Prop}{kw:List (Str×Value)}(W:Walks prog w A.in1 I fp wr n P St) (f:Nat->Int) (hP:∀ i v,P i v->∃ t,v=.int (f i) t) (hSf:S∉fp):
  ∀ (k j:Nat) (s:Shared) (b:Int) (t:Tok) (c:Nat),n=j+k->St j s.heap->s.heap.get? S=some { cls:=.type "list",dict:=none,data:=.seq #[.int b t,.int b t] c,slots:=#[] }->
   (∀ t' h' tk,(∀ b o,b∉wr->b≠S->s.heap.get? b=some o->h'.get? b=some o)->R (.ok (.ret (.int (maxFrom f j k b) t'))) { s with heap:=h',toks:=tk })->
   codeAny (model prog w) A (.builtin "max.loop" ⟨[.ref I,.none,.ref S],kw⟩) R s:=by
 have hSw:S∉wr:=fun h=>hSf (W.sub _ h)
 have hname:(toString "max" ++ toString ".loop":String) = "max.loop":=by decide
 intro k
 induction k with
 | zero=>
  intro j s b t c hn hst hS hR
  refine codeAny_builtin F.entry_max_loop ?_
  rw[Around.under_plainId F.plain_max_loop _]
  show wpAny _ A.in1 (seqItems? (.ref S) >>= _) _ _ s
  refine wpAny_bind (wpAny_seqItems hS rfl ?_)
  show wpAny _ A.in1 (tryCatch (pyNext (.ref I)) _ >>= _) _ _ s
  refine wpAny_bind (wpAny_tryCatch (W.done s _ _ (by rw[hn];exact hst) fun h' tk hk'=>?_))
  have hS':=hk' S _ hSw hS
  show wpAny _ A.in1 (updateSeq S (fun _=>#[]) >>= _) _ _ _
  refine wpAny_bind ?_
  refine wpAny_updateSeq hS' rfl (wpAny_bind (wpAny_letGo (wpAny_pure ?_)))
  exact hR t _ tk fun b o hbw hbS e=>(Heap.get?_update_other _ _ (Ne.symm hbS)).trans (hk' b o hbw e)
 | succ k ih=>
  intro j s b t c hn hst hS hR
  refine codeAny_builtin F.entry_max_loop ?_
  rw[Around.under_plainId F.plain_max_loop _]
  show wpAny _ A.in1 (seqItems? (.ref S) >>= _) _ _ s
  refine wpAny_bind (wpAny_seqItems hS rfl ?_)
  show wpAny _ A.in1 (tryCatch (pyNext (.ref I)) _ >>= _) _ _ s
  refine wpAny_bind (wpAny_tryCatch (W.item j s _ _ (by exact ar54 hn) hst fun v h' tk hPv hst' hk'=>?_))
  obtain⟨u,rfl⟩:=hP j v hPv
  have hS':=hk' S _ hSw hS
  show wpAny _ A.in1 (tryCatch (holding [.int (f j) u,.int (f j) u] (compareOp .Gt (.int (f j) u) (.int b t) >>= _)) _ >>= _) _ _ _
  refine wpAny_bind (wpAny_tryCatch (wpAny_holding (wpAny_bind (PyProof.Rows.gt_int ?_))))
  refine wpAny_bind (wpAny_holding (wpAny_truthy_bool ?_))
  refine wpAny_bind (wpAny_letGo (wpAny_pure ?_))
  have step:∀ b',b'=max b (f j)->maxFrom f (j+1) k b'=maxFrom f j (k+1) b:=fun b' e=>by
   unfold maxFrom;rw[List.range'_succ,List.foldl_cons,e]
  by_cases hb:b<f j
  ·rw[decide_eq_true hb]
   simp only[if_true]
   refine wpAny_bind ?_
   refine wpAny_updateSeq hS' rfl (wpAny_bind (wpAny_letGo ?_))
   rw[hname]
   refine wpAny_pure ⟨plainId_quiet F.plain_max_loop _,ih (j+1) _ (f j) u _ (by exact ar42 hn) (W.frame _ _ _ hst' fun b hbf o e=>?_) (Heap.get?_update_self _ hS' rfl) fun t' h'' tk'' hk''=>?_⟩
   ·exact(Heap.get?_update_other _ _ (fun h:S=b=>hSf (by rw[h];exact hbf))).trans e
   ·rw[step _ (by exact ar55 hb)]
    exact hR t' h'' tk'' fun b o hbw hbS e=>hk'' b o hbw hbS ((Heap.get?_update_other _ _ (Ne.symm hbS)).trans (hk' b o hbw e))
  ·rw[decide_eq_false hb]
   simp only[Bool.false_eq_true,if_false]
   refine wpAny_bind (wpAny_letGo ?_)
   rw[hname]
   refine wpAny_pure ⟨plainId_quiet F.plain_max_loop _,ih (j+1) _ b t c (by lia) hst' hS' fun t' h'' tk'' hk''=>?_⟩
   rw[step _ (by exact ar56 hb)]
   exact hR t' h'' tk'' fun b o hbw hbS e=>hk'' b o hbw hbS (hk' b o hbw e)
theorem int_src {v:MV}{x:Value}{l:List MV}{ns:List Int}(hA:A.handled=none) (hv:RepV s.heap v x) (r:RepH prog w μ s.heap) (e:items μ v=some l) (hi:intsOf l=some ns) (hns:∀ st,v≠.str st):
  ∃ oI fp P St,(∀ (E:Value->Shared->Prop) (Q:Value->Shared->Prop),Q (.ref s.heap.objs.size) { s with heap:=s.heap.push oI }->wpAny (model prog w) A (pyIter x) Q E s)∧Walks prog w A s.heap.objs.size fp [s.heap.objs.size] ns.length P St∧St 0 (s.heap.push oI) ∧
   (∀ b∈fp,b<(s.heap.push oI).objs.size)∧∀ (i:Nat) u,P i u->∃ t,u=.int (ns.getD i 0) t:=by
 have hnl:=O7 hi
 have get:∀ (i:Nat) (m:MV),l[i]?=some m->m=.int (ns.getD i 0):=by
  intro i m hm
  have:∀ (l:List MV) (ns:List Int),intsOf l=some ns->∀ (i:Nat) (m:MV),l[i]?=some m->m=.int (ns.getD i 0):=by
   intro l
   induction l with
   | nil=>intro ns e i m hm;contradiction
   | cons y l ih=>
    intro ns e i m hm
    unfold intsOf at e
    rw[List.mapM_cons] at e
    obtain⟨z,e1,e⟩:=Option.bind_eq_some_iff.mp e
    obtain⟨ns',e2,e⟩:=Option.bind_eq_some_iff.mp e
    obtain rfl:z::ns'=ns:=Option.some.inj e
    cases i with
    | zero=>cases hm;cases y <;> first|(cases e1;rfl)|cases e1
    | succ i=>exact ih ns' e2 i m hm
  exact this l ns hi i m hm
 rcases Rq r hv e with ⟨a,vs,n,rfl,ho,hr⟩|⟨st,t,rfl⟩|⟨da,⟨T,p,n,P,OK,rfl,K,ok,rfl,hP⟩⟩
 ·have hl:=hr.length
  have lta:a<s.heap.objs.size:=by rcases ho with ho|ho <;> exact Heap.lt_size ho
  have hgt:∀ (i:Nat) u,vs.toArray[i]?=some u->∃ t,u=.int (ns.getD i 0) t:=by
   intro i u hu
   rw[List.getElem?_toArray] at hu
   have hlt:=(List.getElem?_eq_some_iff.mp hu).1
   have hlt2:i<l.length:=by exact ar57 hl hlt
   have hli:l[i]?=some l[i]:=List.getElem?_eq_getElem hlt2
   obtain⟨y,h1,h2⟩:=hr.get hli
   rw[hu] at h1;cases h1
   rw[get i _ hli] at h2
   exact h2
  have sz:vs.toArray.size=ns.length:=by simp;exact ar45 hnl hl
  rcases ho with ho|ho
  ·have hL:s.heap.IsList a vs.toArray:=⟨_,ho,rfl,n,rfl⟩
   refine⟨_,_,_,_,fun E Q hq=>wpAny_pyIter_list hL hq,sz▸Walks.list hA s.heap.objs.size a (Nat.ne_of_lt lta) vs.toArray,⟨⟨_,Heap.get?_push_size _ rfl,rfl,rfl⟩,hL.push _⟩,?_,hgt⟩
   intro b hb;rw[Heap.size_push];simp at hb;rcases hb with rfl|rfl
   ·exact Nat.lt_succ_self _
   ·exact Nat.lt_succ_of_lt lta
  ·have hL:s.heap.IsTuple a vs.toArray:=⟨_,ho,rfl,n,rfl⟩
   refine⟨_,_,_,_,fun E Q hq=>wpAny_pyIter_tuple hL hq,sz▸Walks.tuple hA s.heap.objs.size a (Nat.ne_of_lt lta) vs.toArray,⟨⟨_,Heap.get?_push_size _ rfl,rfl,rfl⟩,hL.push _⟩,?_,hgt⟩
   intro b hb;rw[Heap.size_push];simp at hb;rcases hb with rfl|rfl
   ·exact Nat.lt_succ_self _
   ·exact Nat.lt_succ_of_lt lta
 ·exact Dm hv hns
 ·obtain⟨oI,St,h1,h2,h3⟩:=K.iter A s hA ok
  refine⟨oI,_,P,St,h1,hnl▸h2,h3,?_,fun i u hu=>?_⟩
  ·have:=(K.there _ ok).2
   intro b hb;rw[Heap.size_push];simp at hb;rcases hb with rfl|rfl
   ·exact Nat.lt_succ_self _
   ·exact Nat.lt_succ_of_lt this
  ·obtain⟨m,hm,hr⟩:=hP i u hu s.heap (.of_all fun _ _ e=>e)
   rw[get i m hm] at hr
   exact hr
theorem R4 (ns:List Int):∀ (k j:Nat) (b:Int),ns.length=j+k->maxFrom (fun i=>ns.getD i 0) j k b=(ns.drop j).foldl max b:=by
 intro k
 induction k with
 | zero=>intro j b h;simp[maxFrom,List.drop_eq_nil_of_le (by simp[*]:ns.length≤j)]
 | succ k ih=>
  intro j b h
  have hlt:j<ns.length:=by exact ar54 h
  rw[List.drop_eq_getElem_cons hlt,List.foldl_cons]
  unfold maxFrom
  rw[List.range'_succ,List.foldl_cons]
  have:=ih (j+1) (max b ns[j]) (by exact ar42 h)
  unfold maxFrom at this
  dsimp only at this ⊢
  rw[show ns.getD j 0=ns[j] by simp[List.getD,hlt]]
  exact this
theorem check_max1 (x:Value):checkBuiltinCall "max" ⟨[x],[]⟩=pure ():=by kernel_rfl
theorem op_max {v:MV}{x:Value}{l:List MV}{ns:List Int}{m:Int}(hA:A.handled=none) (hv:RepV s.heap v x) (r:RepH prog w μ s.heap) (e:items μ v=some l) (hi:intsOf l=some ns) (hns:∀ st,v≠.str st)
  (hm:maxI ns=some m) (h:Q (.int m) μ):
  wpAny (model prog w) A (call (.builtin "max") [x] []) (PostV prog w fz μ s Q) E s:=by
 have hname:(toString "max" ++ toString ".loop":String) = "max.loop":=by decide
 obtain⟨oI,fp,P,St,hit,W,hst,hfp,hP⟩:=int_src (A:=A.in1) (w:=w) (prog:=prog) hA hv r e hi hns
 refine wpAny_call (codeAny_call_builtin F.plain_max F.entry_max (wpAny_of_eq (check_max1 x) ?_))
 show wpAny _ A.in1 (Builtin.Builtins.bindParams "max" ["key", "default"] 0 ⟨[],[]⟩ >>= _) _ _ s
 refine wpAny_bind (wpAny_of_eq (a:=[none,none]) rfl ?_)
 refine wpAny_bind (wpAny_pure ?_)
 refine wpAny_bind (hit _ _ ?_)
 refine wpAny_bind (wpAny_newObj_type ?_)
 rw[hname]
 refine wpAny_pure ⟨plainId_quiet F.plain_max_loop _,?_⟩
 have hSf:(s.heap.push oI).objs.size∉fp:=fun hm=>Nat.lt_irrefl _ (hfp _ hm)
 have hSw:(s.heap.push oI).objs.size∉[s.heap.objs.size]:=fun h=>hSf (W.sub _ h)
 have hS:((s.heap.push oI).push { cls:=.type "list",data:=.seq ([]:List Value).toArray }).get? (s.heap.push oI).objs.size=some { cls:=.type "list",dict:=none,data:=.seq ([]:List Value).toArray 0,slots:=#[] }:=Heap.get?_push_size _ rfl
 have hst2:St 0 ((s.heap.push oI).push { cls:=.type "list",data:=.seq ([]:List Value).toArray }):=W.frame _ _ _ hst fun b _ o e=>Heap.get?_push_of_some _ e
 have kall:∀ h':Heap,(∀ b o,b∉[s.heap.objs.size]->b≠(s.heap.push oI).objs.size->((s.heap.push oI).push { cls:=.type "list",data:=.seq ([]:List Value).toArray }).get? b=some o->h'.get? b=some o)->∀ b o,s.heap.get? b=some o->h'.get? b=some o:=
  fun h' k b o e=>k b o (by simp;exact Nat.ne_of_lt (Heap.lt_size e)) (by rw[Heap.size_push];exact Nat.ne_of_lt (Nat.lt_succ_of_lt (Heap.lt_size e))) (Heap.get?_push_of_some _ (Heap.get?_push_of_some _ e))
 refine codeAny_builtin F.entry_max_loop ?_
 rw[Around.under_plainId F.plain_max_loop _]
 show wpAny _ A.in1 (seqItems? (.ref _) >>= _) _ _ _
 refine wpAny_bind (wpAny_seqItems hS rfl ?_)
 show wpAny _ A.in1 (tryCatch (pyNext (.ref _)) _ >>= _) _ _ _
 cases ns with
 | nil=>cases hm
 | cons n0 nr=>
  refine wpAny_bind (wpAny_tryCatch (W.item 0 _ _ _ (by exact Nat.succ_pos _) hst2 fun v' h' tk hPv hst' hk'=>?_))
  obtain⟨t0,rfl⟩:=hP 0 v' hPv
  have hS':=hk' _ _ hSw hS
  show wpAny _ A.in1 (updateSeq _ (fun _=>#[.int n0 t0,.int n0 t0]) >>= _) _ _ _
  refine wpAny_bind ?_
  refine wpAny_updateSeq hS' rfl ?_
  rw[hname]
  refine wpAny_pure ⟨plainId_quiet F.plain_max_loop _,max_loop W (fun i=>(n0::nr).getD i 0) hP hSf nr.length 1 _ n0 t0 _ (by simp;exact ar58) (W.frame _ _ _ hst' fun b hbf o e=>?_) (Heap.get?_update_self _ hS' rfl) fun t' h'' tk'' hk''=>?_⟩
  ·exact(Heap.get?_update_other _ _ (fun q=>hSf (by rw[q];exact hbf))).trans e
  ·rw[R4 (n0::nr) nr.length 1 n0 (by simp;lia)]
   have hm':m=(List.drop 1 (n0::nr)).foldl max n0:=(Option.some.inj hm).symm
   rw[← hm']
   refine Jd h r (kall h'' fun b o h1 h2 e=>hk'' b o h1 h2 ((Heap.get?_update_other _ _ (Ne.symm h2)).trans (hk' b o h1 e))) (by exact⟨_,rfl⟩)
end
end Mine
end
section
set_option maxRecDepth 100000
namespace Mine
open PySem PySem.Calls PyProof.Rows PySem.W
section
variable {prog:Program}{w:World}{A:Around}{E:Value->Shared->Prop}{fz:List Addr}{μ:MH}{s:Shared}{Q:MQ}{d:Dp}
theorem No {v:MV}(h:isStrV v=false):∀ st,v≠.str st:=fun st e=>by subst e;cases h
theorem Ov {h:Heap}:∀ {l:List MV}{vs:List Value}{ns:List Str},RepVs h l vs->strsOf l=some ns->StrsAre vs ns
 | [],[],ns=>fun _ e=>by cases e;exact .nil
 | m::l,v::vs,ns=>fun r e=>by
  unfold strsOf at e
  rw[List.mapM_cons] at e
  obtain⟨i,e1,e⟩:=Option.bind_eq_some_iff.mp e
  obtain⟨ns',e2,e⟩:=Option.bind_eq_some_iff.mp e
  obtain rfl:i::ns'=ns:=Option.some.inj e
  cases m <;> first|cases e1|skip
  obtain⟨⟨t,rfl⟩,hr⟩:=r
  exact .cons _ t (Ov hr e2)
 | [],_::_,_=>fun r _=>False.elim r
 | _::_,[],_=>fun r _=>False.elim r
noncomputable def MethOk (prog:Program) (w:World) (s:Shared) (name:Str) (ov:Value) (id:String):Prop:=
 ∃ T,PlainAttrs T∧Slot T name id∧typeOf (.builtin id)=pure (.type "method_descriptor")∧s.TypeIs ov T∧(∀ a,ov=.ref a->∃ ob,s.heap.get? a=some ob∧ob.dict=none)
theorem ty_append:typeOf (.builtin "list.append")=pure (.type "method_descriptor"):=by show builtinType _=_;rw[builtinType_eq_fast];kernel_rfl
theorem ty_extend:typeOf (.builtin "list.extend")=pure (.type "method_descriptor"):=by show builtinType _=_;rw[builtinType_eq_fast];kernel_rfl
theorem ty_keys:typeOf (.builtin "dict.keys")=pure (.type "method_descriptor"):=by show builtinType _=_;rw[builtinType_eq_fast];kernel_rfl
theorem ty_clear:typeOf (.builtin "dict.clear")=pure (.type "method_descriptor"):=by show builtinType _=_;rw[builtinType_eq_fast];kernel_rfl
theorem ty_count:typeOf (.builtin "list.count")=pure (.type "method_descriptor"):=by show builtinType _=_;rw[builtinType_eq_fast];kernel_rfl
theorem ty_index:typeOf (.builtin "list.index")=pure (.type "method_descriptor"):=by show builtinType _=_;rw[builtinType_eq_fast];kernel_rfl
theorem ty_join:typeOf (.builtin "str.join")=pure (.type "method_descriptor"):=by show builtinType _=_;rw[builtinType_eq_fast];kernel_rfl
noncomputable def methId:MM->String
 | .append=>"list.append" | .extend=>"list.extend" | .keys=>"dict.keys" | .clear=>"dict.clear" | .count=>"list.count" | .index=>"list.index" | .join=>"str.join"
theorem meth_ok {m:MM}{o:MV}{x:Value}(hv:RepV s.heap o x) (r:RepH prog w μ s.heap) (e:mmKind m μ o=true):MethOk prog w s (Str.ofString (mmName m)) x (methId m):=by
 have lists:∀ a,isListO (μ a)=true->s.TypeIs (.ref a) "list"∧(∀ b,Value.ref a=.ref b->∃ ob,s.heap.get? b=some ob∧ob.dict=none):=by
  intro a q
  obtain⟨l,q⟩:=isListO_inv q
  obtain⟨vs,⟨n,ho⟩,_⟩:=r a _ q
  exact⟨⟨_,ho,rfl⟩,fun b e=>by cases e;exact⟨_,ho,rfl⟩⟩
 have dicts:∀ a,isDictO (μ a)=true->s.TypeIs (.ref a) "dict"∧(∀ b,Value.ref a=.ref b->∃ ob,s.heap.get? b=some ob∧ob.dict=none):=by
  intro a q
  obtain⟨l,hq⟩:=C5 q
  obtain⟨kvs,⟨o,es,ep,ho,hc,_⟩,_⟩:=r a _ hq
  exact⟨⟨_,ho,hc.1⟩,fun b e=>by cases e;exact⟨_,ho,hc.2.1⟩⟩
 cases m with
 | append=>replace e:=Km e;obtain⟨a,rfl,e⟩:=e;obtain rfl:x=.ref a:=hv;exact⟨_,F.plainAttrs_list,F.slot_list_append,ty_append,lists a e⟩
 | extend=>replace e:=Km e;obtain⟨a,rfl,e⟩:=e;obtain rfl:x=.ref a:=hv;exact⟨_,F.plainAttrs_list,F.slot_list_extend,ty_extend,lists a e⟩
 | keys=>replace e:=Km e;obtain⟨a,rfl,e⟩:=e;obtain rfl:x=.ref a:=hv;exact⟨_,F.plainAttrs_dict,F.slot_dict_keys,ty_keys,dicts a e⟩
 | clear=>replace e:=Km e;obtain⟨a,rfl,e⟩:=e;obtain rfl:x=.ref a:=hv;exact⟨_,F.plainAttrs_dict,F.slot_dict_clear,ty_clear,dicts a e⟩
 | count=>replace e:=Km e;obtain⟨a,rfl,e⟩:=e;obtain rfl:x=.ref a:=hv;exact⟨_,F.plainAttrs_list,F.slot_list_count,ty_count,lists a e⟩
 | index=>replace e:=Km e;obtain⟨a,rfl,e⟩:=e;obtain rfl:x=.ref a:=hv;exact⟨_,F.plainAttrs_list,F.slot_list_index,ty_index,lists a e⟩
 | join=>replace e:=isStrV_inv e;obtain⟨y,rfl⟩:=e;obtain⟨t,rfl⟩:=hv;exact⟨_,F.plainAttrs_str,F.slot_str_join,ty_join,typeIs_str _ _ _,fun b e=>by cases e⟩
theorem RepVs.none {h:Heap}{vs:List Value}(r:RepVs h [] vs):vs=[]:=by
 cases vs with
 | nil=>rfl
 | cons _ _=>exact False.elim r
theorem RepVs.one {h:Heap}{m:MV}{vs:List Value}(r:RepVs h [m] vs):∃ v,vs=[v]∧RepV h m v:=by
 cases vs with
 | nil=>exact False.elim r
 | cons v vs=>obtain rfl:=RepVs.none r.2;exact⟨v,rfl,r.1⟩
theorem RepVs.two {h:Heap}{m n:MV}{vs:List Value}(r:RepVs h [m,n] vs):∃ v u,vs=[v,u]∧RepV h m v∧RepV h n u:=by
 cases vs with
 | nil=>exact False.elim r
 | cons v vs=>obtain⟨u,rfl,ru⟩:=RepVs.one r.2;exact⟨v,u,rfl,r.1,ru⟩
theorem op_clear {o:MV}{x:Value}{args:List MV}{vals:List Value}(hv:RepV s.heap o x) (ha:RepVs s.heap args vals) (r:RepH prog w μ s.heap) (h:methM fz .clear o args Q μ):wpAny (model prog w) A (call (.builtin "dict.clear") (x::vals)) (PostV prog w fz μ s Q) E s:=by
 replace h:=X5 h;obtain⟨a,rfl,h⟩:=h
 replace h:=a0_inv h;obtain⟨rfl,l,q,hf,hn,h⟩:=h
 obtain rfl:x=.ref a:=hv
 obtain rfl:=ha.none
 obtain⟨kvs,hd,hk,hs⟩:=r a _ q
 refine call_meetsIn F.slot_dict_clear hd.typeIs F.entry_dict_clear (F.args_dict_clear_1 _) (meets_dict_clear (intKind prog w) a) ⟨kvs,hd,by rw[hk.length];exact Qe hn,fun h' hd' hs'=>?_⟩
 have k:∀ b o,b≠a->s.heap.get? b=some o->h'.get? b=some o:=fun b o hb e=>(hs'.2 b hb).trans e
 exact⟨.none,_,h,rfl,r.update q k fun kt=>⟨[],hd',trivial,hs⟩,Grow.update (tk:=s.toks) q hf k⟩
theorem Pf {h:Heap}:∀ {l:List MV}{vs:List Value}{bs:List Bool},RepVs h l vs->boolsOf l=some bs->vs=bs.map .bool
 | [],[],bs=>fun _ e=>by obtain rfl:[]=bs:=Option.some.inj e;rfl
 | m::l,v::vs,bs=>fun r e=>by
  unfold boolsOf at e
  rw[List.mapM_cons] at e
  obtain⟨i,e1,e⟩:=Option.bind_eq_some_iff.mp e
  obtain⟨ns,e2,e⟩:=Option.bind_eq_some_iff.mp e
  obtain rfl:i::ns=bs:=Option.some.inj e
  cases m <;> first|(cases e1;done)|skip
  obtain rfl:=Option.some.inj e1
  obtain rfl:v=.bool _:=r.1
  rw[Pf r.2 e2];rfl
 | [],_::_,_=>fun r _=>False.elim r
 | _::_,[],_=>fun r _=>False.elim r
noncomputable def isTrueV (v:Value):Bool:=v == .bool true
theorem Nn (b:Bool):isTrueV (.bool b)=b:=by cases b <;> decide
theorem I2 (hA:OkA d A) (b:Bool):SeqAt.EqAt A.in1 s (.bool b) (.bool true) (isTrueV (.bool b)):=by
 have:=SeqAt.eqAt_reads (.bool b) (.bool true) A.in1 s (.bool b) (.bool true) _ _ (.bool b) (.bool true) rfl rfl (by have:=hA.units;show A.units+1+min 0 0<cLine;exact ar59 this)
 rw[Nn]
 cases b <;> exact this
theorem op_count {o:MV}{x:Value}{args:List MV}{vals:List Value}(hA:OkA d A) (hv:RepV s.heap o x) (ha:RepVs s.heap args vals) (r:RepH prog w μ s.heap) (h:methM fz .count o args Q μ):wpAny (model prog w) A (call (.builtin "list.count") (x::vals)) (PostV prog w fz μ s Q) E s:=by
 replace h:=X5 h;obtain⟨a,rfl,h⟩:=h
 replace h:=Z1 h;obtain⟨v,rfl,l,bs,hl,hb,hn,rfl,h⟩:=h
 obtain rfl:x=.ref a:=hv
 replace ha:=ha.one;obtain⟨y,rfl,ha⟩:=ha
 obtain rfl:y=.bool true:=ha
 obtain⟨vs,⟨n,h1⟩,hr,_⟩:=Ym r hl
 obtain rfl:=Pf hr hb
 refine call_meets F.slot_list_count ⟨_,h1,rfl⟩ F.entry_list_count (F.args_list_count_2 _ _) (SeqAt.list_countAt a (bs.map Value.bool).toArray n none #[] (.bool true) isTrueV) ⟨h1,fun y hy=>?_,?_⟩
 ·obtain⟨b,_,rfl⟩:=List.mem_map.mp (List.mem_toArray.mp hy)
  exact I2 hA b
 ·have e:((bs.map Value.bool).toArray.toList.countP isTrueV)=bs.countP id:=by
   show (bs.map Value.bool).countP isTrueV=_
   rw[List.countP_map];exact List.countP_congr fun b _=>by rw[Function.comp,Nn];rfl
  rw[e]
  exact Qd h r ⟨_,rfl⟩ rfl rfl rfl
theorem op_index {o:MV}{x:Value}{args:List MV}{vals:List Value}(hA:OkA d A) (hv:RepV s.heap o x) (ha:RepVs s.heap args vals) (r:RepH prog w μ s.heap) (h:methM fz .index o args Q μ):wpAny (model prog w) A (call (.builtin "list.index") (x::vals)) (PostV prog w fz μ s Q) E s:=by
 replace h:=X5 h;obtain⟨a,rfl,h⟩:=h
 replace h:=Z1 h;obtain⟨v,rfl,l,bs,hl,hb,hn,rfl,hin,h⟩:=h
 obtain rfl:x=.ref a:=hv
 replace ha:=ha.one;obtain⟨y,rfl,ha⟩:=ha
 obtain rfl:y=.bool true:=ha
 obtain⟨vs,⟨n,h1⟩,hr,_⟩:=Ym r hl
 have hlen:=hr.length
 obtain rfl:=Pf hr hb
 have hex:∃ b∈bs,id b=true:=List.any_eq_true.mp hin
 have hj:bs.findIdx id<bs.length:=List.findIdx_lt_length_of_exists hex
 unfold fits at hn
 refine call_meets F.slot_list_index ⟨_,h1,rfl⟩ F.entry_list_index (F.args_list_index_2 _ _) (SeqAt.list_indexAt a (bs.map Value.bool).toArray n none #[] (.bool true) isTrueV (bs.findIdx id) (by simpa using hj) (by rw[List.length_map] at hlen;exact ar60 hn hlen hj) ?_ fun m hm hlt=>?_) ⟨h1,fun y hy=>?_,?_⟩
 ·rw[List.getElem_toArray,List.getElem_map,Nn];exact List.findIdx_getElem (w:=hj)
 ·rw[List.getElem_toArray,List.getElem_map,Nn];exact List.not_of_lt_findIdx hlt
 ·obtain⟨b,_,rfl⟩:=List.mem_map.mp (List.mem_toArray.mp hy)
  exact I2 hA b
 ·exact Qd h r ⟨_,rfl⟩ rfl rfl rfl
theorem op_meth {m:MM}{o:MV}{x:Value}{args:List MV}{vals:List Value}(hA:OkA d A) (hv:RepV s.heap o x) (ha:RepVs s.heap args vals) (r:RepH prog w μ s.heap) (f:FzIn fz s.heap) (h:methM fz m o args Q μ):
  wpAny (model prog w) A (call (.builtin (methId m)) (x::vals)) (PostV prog w fz μ s Q) E s:=by
 cases m with
 | append=>
  replace h:=X5 h;obtain⟨a,rfl,h⟩:=h
  replace h:=Z1 h;obtain⟨v,rfl,l,q,hf,hn,h⟩:=h
  obtain rfl:x=.ref a:=hv
  replace ha:=ha.one;obtain⟨y,rfl,ha⟩:=ha
  obtain⟨vs,h1,hr⟩:=r a _ q
  have hl:=hr.length
  refine wpAny_list_append_plain h1 (fun h' hp hs=>?_) (by have:=Qe hn;rw[List.size_toArray,hl];assumption)
  have k:∀ b o,b≠a->s.heap.get? b=some o->h'.get? b=some o:=fun b o hb e=>(hs.2 b hb).trans e
  refine⟨.none,_,h,rfl,r.update q k fun kt=>⟨vs++[y],by simpa using hp,(hr.append (m':=[v]) (v':=[y]) ⟨ha,trivial⟩).keepT kt⟩,?_⟩
  exact Grow.update (tk:=s.toks) q hf k
 | extend=>
  replace h:=X5 h;obtain⟨a,rfl,h⟩:=h
  replace h:=Z1 h;obtain⟨v,rfl,h⟩:=h
  replace h:=X5 h;obtain⟨b,rfl,l,y,q,hf,hy,hab,hn,h⟩:=h
  obtain rfl:x=.ref a:=hv
  replace ha:=ha.one;obtain⟨z,rfl,ha⟩:=ha
  obtain rfl:z=.ref b:=ha
  obtain⟨vs,⟨n1,h1⟩,hr⟩:=r a _ q
  obtain⟨ws,⟨n2,h2⟩,hw,_⟩:=Ym r hy
  have hl:=hr.length
  have hl2:=hw.length
  have hfit:=Qe hn
  have hsz:vs.toArray.size+ws.toArray.size≤sizeLine:=by simp only[List.size_toArray];exact ar5 hl hl2 hfit
  refine call_meets F.slot_list_extend ⟨_,h1,rfl⟩ F.entry_list_extend (F.args_list_extend_2 _ _) (AutoSeq1.list_extend_list_list_0 a vs.toArray n1 b ws.toArray n2 ?_ (by exact ar61 hsz) (by exact Nat.le_succ_of_le (by assumption))) ⟨h1,h2,?_⟩
  ·simp only[Builtin.List.listTooLong]
   have:¬ (vs.toArray.size+ws.toArray.size > sizeLine):=by exact ar62 hsz
   simp only[decide_eq_false this,Bool.and_false,Bool.false_eq_true,not_false_eq_true]
  ·have k:∀ b o,b≠a->s.heap.get? b=some o->(s.heap.update a (Obj.mapSeq fun x=>x++ws.toArray)).get? b=some o:=fun b o hb e=>(Heap.get?_update_other _ _ (Ne.symm hb)).trans e
   refine⟨.none,_,h,rfl,r.update q k fun kt=>⟨vs++ws,?_,(hr.append hw).keepT kt⟩,?_⟩
   ·have:=Heap.get?_update_self (Obj.mapSeq fun x=>x++ws.toArray) h1 rfl
    refine⟨if (vs.toArray++ws.toArray).size == vs.toArray.size then n1 else n1+1,?_⟩
    rw[this]
    simp[Obj.mapSeq]
   ·exact Grow.update (tk:=s.toks) q hf k
 | keys=>
  replace h:=X5 h;obtain⟨a,rfl,h⟩:=h
  replace h:=a0_inv h;obtain⟨rfl,hk,h⟩:=h
  obtain rfl:x=.ref a:=hv
  obtain rfl:=ha.none
  obtain⟨l,q⟩:=C5 hk
  obtain⟨kvs,hd,hk,hs⟩:=r a _ q
  exact call_meetsIn F.slot_dict_keys hd.typeIs F.entry_dict_keys (F.args_dict_keys_1 _) (kdl_meets_keys (intKind prog w) a hs) ⟨⟨_,hd⟩,Jd h r (fun b o e=>Heap.get?_push_of_some _ e) ⟨_,rfl,_,Heap.get?_push_size _ rfl,rfl,rfl⟩⟩
 | clear=>exact op_clear hv ha r h
 | count=>exact op_count hA hv ha r h
 | index=>exact op_index hA hv ha r h
 | join=>
  replace h:=strV_inv h;obtain⟨x',rfl,h⟩:=h
  replace h:=Z1 h;obtain⟨v,rfl,h⟩:=h
  replace h:=X5 h;obtain⟨a,rfl,l,ss,hl,hss,hx,hw,h⟩:=h
  obtain⟨t,rfl⟩:=hv
  replace ha:=ha.one;obtain⟨y,rfl,ha⟩:=ha
  obtain rfl:y=.ref a:=ha
  obtain⟨vs,h1,hr,_⟩:=Ym r hl
  exact join_listW h1.isList (by simpa using Ov hr hss) hx hw fun t' k=>Qd h r ⟨t',rfl⟩ rfl rfl rfl
end
section
open PyProof.Rows
theorem repVs_strs {h:Heap}{vs:List Value}{ss:List Str}(x:StrsAre vs ss):RepVs h (ss.map .str) vs:=by
 induction x with
 | nil=>trivial
 | cons y t _ ih=>exact⟨⟨t,rfl⟩,ih⟩
variable {prog:Program}{w:World}{fz:List Addr}{μ:MH}{s:Shared}{Q:MQ}{A:Around}{E:Value->Shared->Prop}
theorem Gg {a:Addr}{l:List MV}{ns:List Str}(r:RepH prog w μ s.heap) (f:FzIn fz s.heap) (e:lst μ a=some l) (hi:strsOf l=some ns) (hn:l.length<64) (hA:A.handled=none) (h:∀ ts:List Str,ts.Perm (ddup ns)->allocM fz μ (.list (ts.map .str)) fun c μ'=>Q (.ref c) μ'):
  wpAny (model prog w) A (call (.type "set") [.ref a]) (fun y s1=>wpAny (model prog w) A (call (.builtin "sorted") [y]) (PostV prog w fz μ s Q) E s1) E s:=by
 obtain⟨vs,⟨n,ha⟩,hv,_⟩:=Ym r e
 have hI:=Ov hv hi
 have hnl:ns.length=l.length:=by rw[← hI.strs,List.length_map,hv.length]
 refine call_set (knd:=PySem.strKind prog w) hA ⟨_,ha,rfl,n,rfl⟩ (areK_strs hI) (by unfold scanBound;exact ar39 hn hnl) fun h' tk hS k=>?_
 refine Calls.call_function_entry kind_sorted plain_sorted entry_sorted (args_sorted1 _) ?_
 unfold Builtin.«sorted»
 refine wpAny_bind (m:=checkCount "sorted" 1 1 _) (wpAny_pure ?_)
 refine wpAny_bind (Bz (A:=A.in1) hA hS fun us ks s' hu hp k' hos hg=>?_)
 have hu:=hu.strs
 have hul:us.length<64:=by
  have h1:=hp.length_eq
  have h2:us.length=ks.length:=by rw[← hu.strs,List.length_map]
  have:=Av ns
  exact ar40 hn hnl h1 h2 this
 refine wpAny_bind (wpAny_newList ?_ (by have:=Qe (Nat.le_trans (Nat.le_of_lt hul) (by decide):fits us.length);assumption))
 have hoL:(s'.heap.push (seqObj "list" us.toArray 0)).get? s'.heap.objs.size=some (seqObj "list" us.toArray 0):=Heap.get?_push_size _ rfl
 refine wpAny_bind (wpAny_holding (wpAny_call_entry slot_list_sort ⟨_,hoL,rfl⟩ entry_list_sort (list_sort_treeK strKind_oneLt hoL hu.keysOf (fun vc vd rest e=>keyKind_strs (by rw[← e];exact hu)) hul fun st' z1 z2=>⟨_,rfl,?_⟩) (args_list_sort _)))
 refine wpAny_pure ⟨_,rfl,?_⟩
 obtain⟨ns',a1,a2,_⟩:=sorted_out_str hu z1 z2
 generalize (arrOf st').map (·.2)=out at a1
 have kk:∀ b o,s.heap.get? b=some o->s'.heap.get? b=some o:=fun b o e=>k' b o (k b o e)
 have hnew:s.heap.get? s'.heap.objs.size=none:=by
  cases q:s.heap.get? s'.heap.objs.size with
  | none=>rfl
  | some o=>exact absurd (Heap.lt_size (kk _ _ q)) (Nat.lt_irrefl _)
 have k2:∀ b o,s.heap.get? b=some o->(sortedHeap (s'.heap.push (seqObj "list" us.toArray 0)) s'.heap.objs.size us out).get? b=some o:=fun b o e=>by
  have e':=kk b o e
  have hlt:=Heap.lt_size e'
  rw[sortedHeap_old (Nat.ne_of_lt hlt) (by rw[Heap.size_push];exact Nat.lt_succ_of_lt hlt)]
  exact Heap.get?_push_of_some _ e'
 obtain⟨ep,he⟩:=sortedHeap_at (h:=s'.heap.push (seqObj "list" us.toArray 0)) (a:=s'.heap.objs.size) (vs:=us) (n:=0) (out:=out) (Heap.get?_push_size _ rfl)
 have hm:=r.free hnew
 refine⟨.ref s'.heap.objs.size,upd μ s'.heap.objs.size (.list (ns'.map .str)),h ns' (a2.trans hp) _ hm (f.free hnew),rfl,r.alloc k2 ⟨out.toList,⟨ep,by simpa[seqObj] using he⟩,?_⟩,⟨fun b o _ e=>⟨.same (k2 b o e),?_⟩,hos,hg⟩⟩
 ·exact repVs_strs a1
 ·unfold upd;rw[if_neg (fun q=>by subst q;rw[hnew] at e;cases e)]
end
end Mine
end
section
set_option maxRecDepth 100000
namespace Mine
open PySem PySem.Calls PyProof.Rows PySem.W
section
variable {prog:Program}{w:World}{A:Around}{E:Value->Shared->Prop}{fz:List Addr}{μ:MH}{s:Shared}{d:Dp}
inductive PostS (prog:Program) (w:World) (fz:List Addr) (μ:MH) (s:Shared) (Q:MH->Prop) (s':Shared):Prop
 | mk (μ':MH) (q:Q μ') (r:RepH prog w μ' s'.heap) (g:Grow fz μ s μ' s')
theorem store_list {l:Addr}{items:Array Value}{n:Nat}{k:Int}{t:Tok}{v:Value}{j:Nat}{Q:Unit->Shared->Prop}(hl:s.heap.get? l=some { cls:=.type "list",data:=.seq items n })
  (hk:-(2 ^ 63)≤k∧k<2 ^ 63) (hj:j<items.size) (hkj:k=j∨(k<0∧k+items.size=j))
  (hQ:Q () { s with heap:=s.heap.update l (Obj.mapSeq (·.setIfInBounds j v)) }):wpAny (model prog w) A (setItem (.ref l) (.int k t) v) Q E s:=by
 have hL:s.heap.IsList l items:=⟨_,hl,rfl,n,rfl⟩
 unfold setItem
 try with_reducible refine wpAny_holding ?_
 first|refine wpAny_bind (wpAny_pure ?_)|skip
 refine wpAny_bind (wpAny_sequenceKey hL.typeIs (by decide) ?_)
 refine wpAny_bind (wpAny_callSpecial?_slot (name:=Str.ofString "__setitem__") hL.typeIs slot_list_setitem
  (wpAny_call_entry slot_list_setitem hL.typeIs entry_list_setitem ?_ (args_list_setitem _ _ _)))
 show wpAny _ _ (Builtin.List.listSubscript? (.int k t) >>= _) _ _ s
 refine wpAny_bind (wpAny_listSubscript_int (by unfold Builtin.List.listFitsIndex;simp;assumption) ?_)
 have hx':items[j]?=some items[j]:=Array.getElem?_eq_getElem hj
 have fin:wpAny (model prog w) A.in1 (setSeqItemAt l j v) (fun _ s'=>Q () s') E s:=wpAny_setSeqItemAt hl rfl hQ
 cases k with
 | ofNat i=>
  have:i=j:=by rcases hkj with h|h <;> simp at h <;> (first|exact ar63 h|exact ar64 h)
  subst this
  show wpAny _ _ ((seqItemAt l i >>= fun r=>pure (r.map (i,·))) >>= _) _ _ s
  refine wpAny_bind (wpAny_bind (wpAny_seqItemAt hl rfl (wpAny_pure ?_)))
  rw[hx']
  show wpAny _ _ (setSeqItemAt l i v >>= _) _ _ s
  refine wpAny_bind (wpAny_mono fin (fun _ s' hq=>?_) fun _ _ e=>e)
  first
   | exact wpAny_bind (wpAny_pure (wpAny_pure ⟨.none,rfl,wpAny_pure hq⟩))
   | exact wpAny_pure ⟨.none,rfl,wpAny_pure hq⟩
 | negSucc i=>
  have hidx:seqIndex? (Int.negSucc i) items.size=some j:=by
   unfold seqIndex?
   have h1:Int.negSucc i<0:=Int.negSucc_lt_zero i
   have h2:Int.negSucc i+items.size=j:=by rcases hkj with h|h;lia;exact h.2
   simp only[h1,if_true,h2]
   simp;assumption
  show wpAny _ _ ((Builtin.List.listItems (.ref l) >>= fun xs=>pure ((seqIndex? (Int.negSucc i) xs.size).bind fun i=>xs[i]?.map (i,·))) >>= _) _ _ s
  refine wpAny_bind (wpAny_bind ?_)
  show wpAny _ _ (seqItems? (.ref l) >>= _) _ _ s
  refine wpAny_bind (wpAny_seqItems hl rfl (wpAny_pure (wpAny_pure ?_)))
  rw[hidx]
  simp only[Option.bind_some,hx',Option.map_some]
  show wpAny _ _ (setSeqItemAt l j v >>= _) _ _ s
  refine wpAny_bind (wpAny_mono fin (fun _ s' hq=>?_) fun _ _ e=>e)
  first
   | exact wpAny_bind (wpAny_pure (wpAny_pure ⟨.none,rfl,wpAny_pure hq⟩))
   | exact wpAny_pure ⟨.none,rfl,wpAny_pure hq⟩
theorem Hc {h:Heap}{m:MV}{v:Value}(hv:RepV h m v):∀ {l:List MV}{vs:List Value}(i:Nat),RepVs h l vs->RepVs h (l.set i m) (vs.set i v)
 | [],[],i=>fun _=>trivial
 | _::_,_::_,0=>fun x=>⟨hv,x.2⟩
 | _::_,_::_,i+1=>fun x=>⟨x.1,Hc hv i x.2⟩
 | [],_::_,_=>fun x=>False.elim x
 | _::_,[],_=>fun x=>False.elim x
theorem op_set {o i v:MV}{x y z:Value}{Q:MH->Prop}(ho:RepV s.heap o x) (hi:RepV s.heap i y) (hv:RepV s.heap v z) (r:RepH prog w μ s.heap) (h:setM fz o i v Q μ):
  wpAny (model prog w) A (setItem x y z) (fun _ s'=>PostS prog w fz μ s Q s') E s:=by
 replace h:=X5 h;obtain⟨a,rfl,hf,h⟩:=h
 obtain rfl:x=.ref a:=ho
 cases q:μ a with
 | none=>rw[q] at h;exact False.elim h
 | some mo=>
  rw[q] at h
  cases mo with
  | list l=>
   replace h:=intV_inv h;obtain⟨k,rfl,h⟩:=h
   obtain⟨hn,l',hs,h⟩:=h
   obtain⟨t,rfl⟩:=hi
   obtain⟨vs,⟨n,h1⟩,hr⟩:=r a _ q
   have hl:=hr.length
   have hfit:=Qe hn
   have key:∃ j,j<vs.length∧l'=l.set j v∧(k=j∨(k<0∧k+vs.length=j)):=by
    unfold setAt at hs
    split at hs
    ·split at hs
     ·cases hs;exact⟨k.toNat,by simp[*],rfl,.inl (by exact ar65 (by assumption))⟩
     ·cases hs
    ·split at hs
     ·cases hs;exact⟨(k+l.length).toNat,by exact ar66 hl (by assumption) (by assumption),rfl,.inr ⟨by exact ar13 (by assumption),by exact ar67 hl (by assumption)⟩⟩
     ·cases hs
   obtain⟨j,hj,rfl,hkj⟩:=key
   unfold fits at hn
   refine store_list h1 (by exact ar68 hn hl hj hkj) (j:=j) (by simpa using hj) (by simpa using hkj) ?_
   have kk:∀ b o,b≠a->s.heap.get? b=some o->(s.heap.update a (Obj.mapSeq (·.setIfInBounds j z))).get? b=some o:=fun b o hb e=>(Heap.get?_update_other _ _ (Ne.symm hb)).trans e
   refine⟨_,h,r.update q kk fun kt=>⟨vs.set j z,?_,(Hc hv j hr).keepT kt⟩,Grow.update (tk:=s.toks) q hf kk⟩
   have:=Heap.get?_update_self (Obj.mapSeq (·.setIfInBounds j z)) h1 rfl
   refine⟨n,?_⟩
   rw[this]
   simp[Obj.mapSeq]
  | idict l=>
   replace h:=intV_inv h;obtain⟨k,rfl,h⟩:=h
   obtain⟨hn,h⟩:=h
   obtain⟨t,rfl⟩:=hi
   obtain⟨kvs,hd,hk,hs⟩:=r a _ q
   have hl:=hk.length
   refine wpAny_setItem_pairs (intKind_is prog w k t) hd (fun h' hd' hs'=>?_) (by have:=Qe hn;exact G9 hl this)
   have kk:∀ b o,b≠a->s.heap.get? b=some o->h'.get? b=some o:=fun b o hb e=>(hs'.2 b hb).trans e
   exact⟨_,h,r.update q kk fun kt=>⟨_,hd',(Hd k hv hk).keepT kt,hs⟩,Grow.update q hf kk⟩
  | _=>exact False.elim h
theorem eqAt_of {a b:MV}{x y:Value}{r':Bool}(hA:OkA d A) (ha:RepV s.heap a x) (hb:RepV s.heap b y) (r:RepH prog w μ s.heap) (e:eqD μ a b=some r'):SeqAt.EqAt A.in1 s x y r':=by
 obtain⟨d1,e1,e⟩:=Option.bind_eq_some_iff.mp e
 obtain⟨d2,e2,rfl⟩:=Option.map_eq_some_iff.mp e
 obtain⟨as,a1,a2,a3⟩:=Y0 r 9 a x d1 e1 ha
 obtain⟨bs,b1,b2,b3⟩:=Y0 r 9 b y d2 e2 hb
 exact SeqAt.eqAt_reads d1 d2 A.in1 s x y as bs a1 b1 a2 b2 (by have:=hA.units;simp;exact ar8 b3 this)
theorem hits_of {K:Type} [DecidableEq K] (hA:OkA d A) (r:RepH prog w μ s.heap) {y:List (K×MV)}{kb:List (K×Value)}(hy:RepKV s.heap y kb):
  ∀ {x:List (K×MV)}{ka:List (K×Value)}{bs:List Bool},RepKV s.heap x ka->(x.mapM fun (kv:K×MV)=>match lookI y kv.1 with|some v=>eqD μ kv.2 v|none=>some false)=some bs->KeqHits A.in1 s kb ka (bs.all id)
 | [],[],bs=>fun _ e=>by simp at e;subst e;exact .nil
 | m::ms,v::vs,bs=>fun h e=>by
  rw[List.mapM_cons] at e
  obtain⟨b,e1,e⟩:=Option.bind_eq_some_iff.mp e
  obtain⟨bs',e2,e⟩:=Option.bind_eq_some_iff.mp e
  obtain rfl:b::bs'=bs:=Option.some.inj e
  have ih:=hits_of hA r hy h.2.2 e2
  rcases Uf v.1 hy with ⟨q1,q2⟩|⟨m',u,q1,q2,hu⟩
  ·rw[h.1,q1] at e1
   cases e1
   simp only[List.all_cons,id,Bool.false_and]
   exact .miss (k:=v.1) (v:=v.2) q2
  ·rw[h.1,q1] at e1
   simp only[List.all_cons,id]
   exact .hit (k:=v.1) (v:=v.2) q2 (eqAt_of hA h.2.1 hu r e1) ih
 | [],_::_,_=>fun h _=>False.elim h
 | _::_,[],_=>fun h _=>False.elim h
theorem eqM_inv {μ:MH}{a b:MV}{r:Bool}(e:eqM μ a b=some r):(∃ p q x y,a=.ref p∧b=.ref q∧μ p=some (.idict x)∧μ q=some (.idict y)∧eqDicts μ x y=some r)∨eqD μ a b=some r:=by
 cases a with
 | ref p=>
  cases b with
  | ref q=>
   replace e:eqO μ (μ p) (μ q) (eqD μ (.ref p) (.ref q))=some r:=e
   cases h1:μ p with
   | none=>rw[h1] at e;exact .inr e
   | some o=>
    rw[h1] at e
    cases o with
    | idict x=>
     cases h2:μ q with
     | none=>rw[h2] at e;exact .inr e
     | some o'=>
      rw[h2] at e
      cases o' with
      | idict y=>exact .inl ⟨p,q,x,y,rfl,rfl,h1,h2,e⟩
      | _=>exact .inr e
    | _=>exact .inr e
  | _=>exact .inr e
 | _=>exact .inr e
theorem op_eqM {neg:Bool}{a b:MV}{x y:Value}{r':Bool}(ha:RepV s.heap a x) (hb:RepV s.heap b y) (r:RepH prog w μ s.heap) (hA:OkA d A) (e:eqM μ a b=some r')
  {Q:Value->Shared->Prop}(h:Q (.bool (if neg then !r' else r')) s):wpAny (model prog w) A (compareOp (if neg then .NotEq else .Eq) x y) Q E s:=by
 have dicts:∀ {K:Type} [DecidableEq K] (knd:PySem.KeyKind prog w K) (p q:Addr) (lx ly:List (K×MV)) (ka kb:List (K×Value)),x=.ref p->y=.ref q->s.heap.DictOf knd p ka->s.heap.DictOf knd q kb->RepKV s.heap lx ka->RepKV s.heap ly kb->
   (p == sysModules)=false->(q == sysModules)=false->eqDicts μ lx ly=some r'->wpAny (model prog w) A (compareOp (if neg then .NotEq else .Eq) x y) Q E s:=by
  intro K _ knd p q lx ly ka kb hx hy da db ra rb sa sb e
  subst hx;subst hy
  have hu:A.units<cLine:=by have:=hA.units;exact ar69 this
  have la:=ra.length;have lb:=rb.length
  replace e:(if lx.length=ly.length then _ else some false)=some r':=e
  by_cases hl:lx.length=ly.length
  ·rw[if_pos hl] at e
   obtain⟨bs,hbs,rfl⟩:=Option.map_eq_some_iff.mp e
   have hits:=hits_of hA r rb ra hbs
   have hr:(ka.length == kb.length && bs.all id)=bs.all id:=by
    have:(ka.length == kb.length)=true:=by simp;simp[*]
    rw[this,Bool.true_and]
   cases neg
   ·exact keq_eq sa sb da db hu (fun _=>hits) (by rw[hr];exact h)
   ·exact keq_ne sa sb da db hu (fun _=>hits) (by rw[hr];exact h)
  ·rw[if_neg hl] at e
   cases e
   have hne:ka.length≠kb.length:=by exact ar70 la lb hl
   have hr:(ka.length == kb.length && false)=false:=by simp
   cases neg
   ·exact keq_eq (r:=false) sa sb da db hu (fun q=>absurd q hne) (by rw[hr];exact h)
   ·exact keq_ne (r:=false) sa sb da db hu (fun q=>absurd q hne) (by rw[hr];exact h)
 cases eqM_inv e with
 | inl z=>
  obtain⟨p,q,lx,ly,rfl,rfl,h1,h2,e⟩:=z
  obtain⟨ka,da,ra,sa⟩:=r p _ h1
  obtain⟨kb,db,rb,sb⟩:=r q _ h2
  exact dicts _ p q lx ly ka kb ha hb da db ra rb sa sb e
 | inr e=>exact op_eq ha hb r hA e h
theorem isNoneO_inv {a b:MV}{r:Bool}(e:isNoneO a b=some r):b=.none∧isNoneO a .none=some r:=by
 cases b <;> first|(cases e;done)|exact⟨rfl,e⟩
theorem noneV {h:Heap}{a:MV}{x:Value}{r:Bool}(ha:RepV h a x) (e:isNoneO a .none=some r):(x == Value.none)=r:=by
 cases a with
 | none=>obtain rfl:x=.none:=ha;exact Option.some.inj e
 | bool b=>obtain rfl:x=.bool b:=ha;exact Option.some.inj e
 | int i=>obtain⟨t,rfl⟩:=ha;exact Option.some.inj e
 | str i=>obtain⟨t,rfl⟩:=ha;exact Option.some.inj e
 | tup l=>obtain⟨p,_,_,rfl,_⟩:=ha;exact Option.some.inj e
 | ref p=>obtain rfl:x=.ref p:=ha;exact Option.some.inj e
 | keys p=>cases e
theorem R1 {op:COp}{o:CmpOp}{a b:MV}{x y:Value}{r':Bool}(ho:copIs op o=true) (ha:RepV s.heap a x) (hb:RepV s.heap b y) (r:RepH prog w μ s.heap) (hA:OkA d A) (e:cmpM op μ a b=some r')
  {Q:Value->Shared->Prop}(h:∀ s',Still s s'->Q (.bool r') s'):wpAny (model prog w) A (compareOp o x y) Q E s:=by
 obtain rfl:=of_decide_eq_true ho
 cases op with
 | eq=>exact op_eqM (neg:=false) ha hb r hA e (h s .refl)
 | ne=>
  obtain⟨r'',e',rfl⟩:=Option.map_eq_some_iff.mp e
  exact op_eqM (neg:=true) ha hb r hA e' (h s .refl)
 | isin=>exact op_in (neg:=false) ha hb r hA e h
 | notin=>
  obtain⟨r'',e',rfl⟩:=Option.map_eq_some_iff.mp e
  exact op_in (neg:=true) ha hb r hA e' h
 | lt=>
  obtain⟨_,_,rfl,rfl,rfl⟩:=Nq e
  obtain⟨t,rfl⟩:=ha;obtain⟨u,rfl⟩:=hb
  exact PyProof.Rows.lt_int (h s .refl)
 | le=>
  obtain⟨_,_,rfl,rfl,rfl⟩:=Nq e
  obtain⟨t,rfl⟩:=ha;obtain⟨u,rfl⟩:=hb
  exact PyProof.Rows.le_int (h s .refl)
 | gt=>
  obtain⟨_,_,rfl,rfl,rfl⟩:=Nq e
  obtain⟨t,rfl⟩:=ha;obtain⟨u,rfl⟩:=hb
  exact PyProof.Rows.gt_int (h s .refl)
 | ge=>
  obtain⟨_,_,rfl,rfl,rfl⟩:=Nq e
  obtain⟨t,rfl⟩:=ha;obtain⟨u,rfl⟩:=hb
  exact PyProof.Rows.ge_int (h s .refl)
 | isnot=>
  obtain⟨r'',e',rfl⟩:=Option.map_eq_some_iff.mp e
  obtain⟨rfl,e2⟩:=isNoneO_inv e'
  obtain rfl:y=.none:=hb
  exact isnot_none_gen (by rw[noneV ha e2];exact h s .refl)
end
end Mine
end
section
set_option maxRecDepth 100000
namespace Mine
open PySem PySem.Calls PyProof.Rows PySem.W
inductive ClsAt (h:Heap) (C:Addr) (own:List Addr):Prop
 | mk (N:_) (nm:_) (q:_) (bs:_) (hdct:_) (sn:_) (sub:_) (ab:_) (col:_) (dd:_) (k0:_) (k1:_) (k2:_) (k3:_) (k5:_) (mN:_) (h1:h.get? C=some (excClassObj nm q C N bs (own.map .ref++bmV) hdct sn sub ab col dd k0 k1 k2 k3 k5 "ValueError.__new__")) (h2:h.Ns N mN) (h3:∀ n∈qn,mN n=none)
theorem ClsAt.keeps {h h':Heap}{C:Addr}{own:List Addr}(x:ClsAt h C own) (k:∀ b o,h.get? b=some o->h'.get? b=some o):ClsAt h' C own:=by
 obtain⟨N,nm,q,bs,hdct,sn,sub,ab,col,dd,k0,k1,k2,k3,k5,mN,h1,h2,h3⟩:=x
 exact⟨N,nm,q,bs,hdct,sn,sub,ab,col,dd,k0,k1,k2,k3,k5,mN,k _ _ h1,h2.keeps k,h3⟩
section
variable {M:Model}{prog:Program}{w:World}{A:Around}{E:Value->Shared->Prop}{h:Heap}{g:Array GenState}{d:Drawn}{t:Nat}{os:OsState}{a C D:Addr}{o:Obj}
theorem Oz {n:Str}{y:Option Value}{Q:Option Value->Shared->Prop}(K:ClsAt h C [D]) (K':ClsAt h D []) (hn:n∈qn) (hB:typeLookup (.type "ValueError") n=pure y) (hq:Q y ⟨h,g,d,t,os⟩):wpAny M A (typeLookup (.ref C) n) Q E ⟨h,g,d,t,os⟩:=by
 obtain⟨N,nm,q,bs,hdct,sn,sub,ab,col,dd,k0,k1,k2,k3,k5,mN,h1,h2,h3⟩:=K
 obtain⟨N',nm',q',bs',hdct',sn',sub',ab',col',dd',k0',k1',k2',k3',k5',mN',h1',h2',h3'⟩:=K'
 have hrest:lookupAlong bmV n=pure y:=by rw[typeLookup_eq,F.attrBase_ValueError.mro] at hB;exact hB
 rw[typeLookup_eq]
 refine wpAny_bind (wpAny_mroOf_exc h1 ?_)
 show wpAny M A (lookupAlong (.ref C::.ref D::bmV) n) Q E _
 rw[lookupAlong_cons]
 refine wpAny_bind (wpAny_classOwn_exc h1 h2 ?_)
 rw[h3 n hn]
 show wpAny M A (lookupAlong (.ref D::bmV) n) Q E _
 rw[lookupAlong_cons]
 refine wpAny_bind (wpAny_classOwn_exc h1' h2' ?_)
 rw[h3' n hn]
 show wpAny M A (lookupAlong bmV n) Q E _
 rw[hrest]
 exact wpAny_pure hq
theorem Ii {base:Value}{Q:Bool->Shared->Prop}(K:ClsAt h C [D]) (hq:Q ((Value.ref C::.ref D::bmV).contains base) ⟨h,g,d,t,os⟩):wpAny M A (isSubtype (.ref C) base) Q E ⟨h,g,d,t,os⟩:=by
 obtain⟨N,nm,q,bs,hdct,sn,sub,ab,col,dd,k0,k1,k2,k3,k5,mN,h1,h2,h3⟩:=K
 exact wpAny_isSubtype_exc h1 hq
theorem ve_class:typeLookup (.type "ValueError") "__class__" = pure (some (.builtin "object.__class__")):=by rw[typeLookup_type,builtinLookup_eq_fast];kernel_rfl
theorem H1 {R:Result->Shared->Prop}(K:ClsAt h C [D]) (hx:h.get? a=some o) (hc:o.cls=.ref C) (hq:R (.ok (.ret (.ref C))) ⟨h,g,d,t,os⟩):
  codeAny (model prog w) A (.call (.builtin "getset_descriptor.__get__") ⟨[.builtin "object.__class__",.ref a,.ref C],[]⟩) R ⟨h,g,d,t,os⟩:=by
 have hT5:(⟨h,g,d,t,os⟩:Shared).TypeIs (.builtin "object.__class__") "getset_descriptor":=F.typeOf_object_class
 have hcB:(Value.ref C::.ref D::bmV).contains (.type (".".intercalate ("object.__class__".cutAt '.').dropLast))=true:=by
  rw[F.owner_object_class,List.contains_cons,List.contains_cons]
  have:bmV.contains (.type "object")=true:=by decide +kernel
  rw[this];assumption
 refine codeAny_call_builtin F.slot_gs_get.plain F.entry_gs_get (F.slot_gs_get.check _ _ _ _ _ _ _ _ hT5 (F.args_gs_get _ _ _) ?_)
 repeat (any_goals (first|assumption|(with_reducible refine wpAny_loadPart_at hx ?_;rw[hc])|(with_reducible refine Ii K ?_;rw[hcB])|wp_step))
 refine⟨Code.quiet_builtin _ (by decide +kernel),codeAny_builtin F.entry_object_class ?_⟩
 repeat (any_goals (first|assumption|(with_reducible refine wpAny_loadPart_at hx ?_;rw[hc])|wp_step))
theorem Cy {tk:Tok}{Q:Fin->Shared->Prop}(K:ClsAt h C [D]) (K':ClsAt h D []) (hx:h.get? a=some o) (hc:o.cls=.ref C) (hq:Q (.done (.ret (.ref C))) ⟨h,g,d,t,os⟩):
  wpAny (model prog w) A (Builtin.«object.__getattribute__» ⟨[.ref a,.str "__class__" tk],[]⟩) Q E ⟨h,g,d,t,os⟩:=by
 have hT5:(⟨h,g,d,t,os⟩:Shared).TypeIs (.builtin "object.__class__") "getset_descriptor":=F.typeOf_object_class
 have f5:=F.typeOf_object_class
 have f6:=F.slot_gs_get.lookup
 have f7:=F.slot_gs_set.lookup
 have hmA:("__class__":Str)∈qn:=.tail _ (.tail _ (.tail _ (.head _)))
 repeat (any_goals (first|assumption|(with_reducible refine wpAny_loadPart_at hx ?_;rw[hc])|with_reducible refine Oz K K' hmA ve_class ?_|wp_step))
 refine H1 K hx hc ?_
 repeat (any_goals (first|assumption|wp_step))
theorem Rt {nameV:Value}{Q:Unit->Shared->Prop}(K:ClsAt h C [D]) (hx:h.get? a=some o) (hc:o.cls=.ref C) (hq:Q () ⟨h,g,d,t,os⟩):wpAny M A (checkBuiltinCall "BaseException.__getattribute__" ⟨[.ref a,nameV],[]⟩) Q E ⟨h,g,d,t,os⟩:=by
 have hk:builtinKind "BaseException.__getattribute__" = some .slot:=by decide +kernel
 have hsplit:splitId "BaseException.__getattribute__" = some ("BaseException", "__getattribute__"):=by decide +kernel
 have hcB:(Value.ref C::.ref D::bmV).contains (.type "BaseException")=true:=by
  rw[List.contains_cons,List.contains_cons]
  have:bmV.contains (.type "BaseException")=true:=by decide +kernel
  rw[this];assumption
 have ha:=F.args_bexc_ga (.ref a) nameV
 simp only[checkBuiltinCall,hk,hsplit]
 refine wpAny_bind ?_
 ·unfold isInstance
  repeat (first|(with_reducible refine wpAny_loadPart_at hx ?_;rw[hc])|(with_reducible refine Ii K ?_;rw[hcB])|wp_step)
  exact hq
theorem G4 {tk:Tok}{R:Result->Shared->Prop}(K:ClsAt h C [D]) (K':ClsAt h D []) (hx:h.get? a=some o) (hc:o.cls=.ref C) (hq:R (.ok (.ret (.ref C))) ⟨h,g,d,t,os⟩):
  codeAny (model prog w) A (.call (.builtin "BaseException.__getattribute__") ⟨[.ref a,.str "__class__" tk],[]⟩) R ⟨h,g,d,t,os⟩:=
 codeAny_call_builtin F.attrBase_ValueError.ga.plain F.entry_bexc_ga (Rt K hx hc (Cy K K' hx hc hq))
theorem Rr {tk:Tok}{fill expr:Bool}{Q:Value->Shared->Prop}(K:ClsAt h C [D]) (K':ClsAt h D []) (hx:h.get? a=some o) (hc:o.cls=.ref C) (hq:Q (.ref C) ⟨h,g,d,t,os⟩):
  wpAny (model prog w) A (getAttrBy (.ref a) (.str "__class__" tk) fill expr) Q E ⟨h,g,d,t,os⟩:=by
 have f3:=F.attrBase_ValueError.ga.bind (.ref a)
 have hx0:(expr && onTheHeap (Value.builtin "BaseException.__getattribute__"))=false:=by cases expr <;> rfl
 have hx2:(Value.builtin "BaseException.__getattribute__" == Value.builtin "object.__getattribute__")=false:=by decide +kernel
 have hx1:(onTheHeap (Value.ref C) && Value.builtin "BaseException.__getattribute__" == Value.builtin "object.__getattribute__")=false:=by rw[hx2];rfl
 have hm1:("__getattribute__":Str)∈qn:=.tail _ (.head _)
 have hm2:("__getattr__":Str)∈qn:=.tail _ (.tail _ (.head _))
 repeat (any_goals (first|assumption|(with_reducible refine wpAny_loadPart_at hx ?_;rw[hc])|with_reducible refine Oz K K' hm1 F.attrBase_ValueError.ga.lookup ?_|with_reducible refine Oz K K' hm2 F.attrBase_ValueError.noGetattr ?_|wp_step))
 refine G4 K K' hx hc ?_
 repeat (any_goals (first|assumption|wp_step))
theorem G5 {Q:Option Value->Shared->Prop}(K:ClsAt h C [D]) (K':ClsAt h D []) (hx:h.get? a=some o) (hc:o.cls=.ref C) (hq:Q (some (.ref C)) ⟨h,g,d,t+1,os⟩):wpAny (model prog w) A (getAttr? (.ref a) "__class__") Q E ⟨h,g,d,t,os⟩:=by
 unfold getAttr? getAttrBy?
 repeat (any_goals (first|assumption|with_reducible apply Rr K K' hx hc|wp_step))
theorem Pu {own:List Addr}(K:ClsAt h C own):Looks M h (isType (.ref C)) true:=by
 obtain⟨N,nm,q,bs,hdct,sn,sub,ab,col,dd,k0,k1,k2,k3,k5,mN,h1,h2,h3⟩:=K
 intro A' Q' E' s' k q
 unfold isType loadHead
 exact wpAny_bind (wpAny_loadPart (k _ _ h1) (wpAny_pure q))
theorem Pt {v:Value}(hx:h.get? a=some o) (hc:o.cls=v):Looks M h (typeOf (.ref a)) v:=by
 intro A' Q' E' s' k q
 obtain⟨h',g',d',t',os'⟩:=s'
 have hx':=k _ _ hx
 repeat (first|assumption|(with_reducible refine wpAny_loadPart_at hx' ?_;rw[hc])|wp_step)
theorem looks_meta {own:List Addr}(K:ClsAt h C own):Looks M h (typeOf (.ref C)) (.type "type"):=by
 obtain⟨N,nm,q,bs,hdct,sn,sub,ab,col,dd,k0,k1,k2,k3,k5,mN,h1,h2,h3⟩:=K
 exact Pt h1 rfl
theorem looks_sub {c:Value}(K:ClsAt h C [D]):Looks M h (isSubtype (.ref C) c) ((Value.ref C::.ref D::bmV).contains c):=by
 intro A' Q' E' s' k q
 obtain⟨h',g',d',t',os'⟩:=s'
 exact Ii (K.keeps k) q
theorem isi_own {c:Value}{v:Bool}{Q:Value->Shared->Prop}(K:ClsAt h C [D]) (K':ClsAt h D []) (hx:h.get? a=some o) (hc:o.cls=.ref C) (hty:∀ M,Looks M h (typeOf c) (.type "type")) (his:∀ M,Looks M h (isType c) true) (hv:(Value.ref C::.ref D::bmV).contains c=v)
  (hq:∀ tk,Q (.bool v) ⟨h,g,d,tk,os⟩):wpAny (model prog w) A (call (.builtin "isinstance") [.ref a,c]) Q E ⟨h,g,d,t,os⟩:=by
 refine call_isinstance_of ?_ (by intro e;cases e)
 unfold Builtin.«isinstance.nested»
 have LT:Looks (model prog w) h (typeOf (.ref a)) (.ref C):=Pt hx hc
 refine wpAny_bind (LT.at ?_)
 by_cases q:((Value.ref C:Value) == c)=true
 ·rw[if_pos q]
  have hv':v=true:=by rw[← hv,List.contains_cons];rw[beq_iff_eq] at q;subst q;simp
  subst hv'
  first
   | ((repeat lk);exact hq t)
   | exact wpAny_bind (wpAny_rule (hq t))
   | exact wpAny_bind (wpAny_rule (wpAny_pure (hq t)))
 ·rw[if_neg q]
  have hsub:Looks (model prog w) h (isSubtype (.ref C) c) v:=hv▸looks_sub K
  have LI:Looks (model prog w) h (isInstance (.ref a) c) v:=LT.andThen hsub
  refine wpAny_bind ((hty _).at ?_)
  rw[if_pos (by decide)]
  k_delta "plainIsInstance"
  refine wpAny_bind (wpAny_bind ((his _).at ?_))
  simp only[Bool.not_true,Bool.false_eq_true,if_false]
  refine wpAny_bind (LI.at ?_)
  cases v with
  | true=>
   first
    | exact wpAny_pure (wpAny_pure (hq t))
    | (simp only[if_true];first|exact wpAny_pure (wpAny_pure (hq t))|exact wpAny_pure (hq t)|exact wpAny_bind (wpAny_pure (wpAny_pure (hq t))))
  | false=>
   simp only[Bool.false_eq_true,if_false]
   refine wpAny_bind (G5 K K' hx hc ?_)
   refine wpAny_bind ((Pu K).at ?_)
   simp only[Bool.not_true,Bool.false_eq_true,if_false]
   refine wpAny_bind (wpAny_rule ?_)
   refine hsub.at ?_
   first
    | exact wpAny_pure (hq _)
    | exact wpAny_pure (wpAny_pure (hq _))
    | exact wpAny_bind (wpAny_pure (wpAny_pure (hq _)))
end
end Mine
end
section
namespace Mine
open PySem PySem.Calls PyProof.Rows PySem.W
noncomputable def biTab:List (String×Value):=[("len",.builtin "len"),("min",.builtin "min"),("max",.builtin "max"),("sorted",.builtin "sorted"),("isinstance",.builtin "isinstance"),
 ("list",.type "list"),("dict",.type "dict"),("int",.type "int"),("bool",.type "bool"),("str",.type "str"),("tuple",.type "tuple"),("range",.type "range"),("reversed",.type "reversed"),("set",.type "set"),("ValueError",.type "ValueError")]
structure FnIs (F:FuncData) (params:Arguments) (body:List PySem.Stmt) (scope:Scope):Prop where
 params:F.params=params
 body:F.body=.stmts body
 scope:F.scope=scope
 glob:F.globals=mainGlobals
 clo:F.closure=[]
 dfl:F.defaults=.none
 kdf:F.kwdefaults=.none
 bui:F.builtins=builtinsNs
noncomputable def res (h:Heap) (m:Str->Option Value) (f:String):Option Value:=match methTab.lookup f with
 | none=>m (Str.ofString f)
 | some n=>(h.clsAt mainGlobals (Str.ofString "Keeper")).bind fun p=>h.nsMap p.2.2.ns (Str.ofString n)
inductive FnRec (h₀:Heap) (mg:Str->Option Value) (Γ:String->Option MFun) (f:String) (fd:MFun):Prop
 | mk (a:_) (o:_) (F:_) (params:_) (body:_) (scope:_) (tab:_) (funs:_) (e1:res h₀ mg f=some (.ref a)) (e2:h₀.get? a=some o) (e3:o.data=.func F) (e4:FnIs F params body scope) (e5:h₀.CodeRec F.code F.qualname) (e6:isFun fd tab funs params body scope=true) (e7:∀ g∈funs,∃ fd',Γ g=some fd')
inductive KCls (h:Heap) (C:Addr):Prop
 | mk (N:_) (nm:_) (q:_) (bs:_) (sn:_) (sub:_) (col:_) (dd:_) (k0:_) (k1:_) (k2:_) (k3:_) (k5:_) (mN:_) (h1:h.get? C=some (excClassObj nm q C N bs [.type "object"] true sn sub false col dd k0 k1 k2 k3 k5 "object.__new__")) (h2:h.Ns N mN) (h3:mN "__getattribute__" = none∧mN "__getattr__" = none∧mN "__setattr__" = none) (h4:∀ n∈attrNames,mN (Str.ofString n)=none)
  (h5:∀ f n m,methTab.lookup f=some n->res h m f=mN (Str.ofString n)) (h6:∀ f n a,methTab.lookup f=some n->mN (Str.ofString n)=some (.ref a)->∃ o,h.get? a=some o∧o.cls=.type "function")
structure PG (prog:Program) (w:World) (G:String->Option MV) (Γ:String->Option MFun) (h₀:Heap) (mg mb:Str->Option Value):Prop where
 g:h₀.Ns mainGlobals mg
 b:h₀.Ns builtinsNs mb
 nolimit:h₀.NoLimit
 bi:∀ p∈biTab,mg (Str.ofString p.1)=none∧mb (Str.ofString p.1)=some p.2
 fn:∀ f fd,Γ f=some fd->FnRec h₀ mg Γ f fd
 const:∀ g v,G g=some v->∃ val,mg (Str.ofString g)=some val∧((∃ i t,v=.int i∧val=.int i t)∨(∃ x t,v=.str x∧val=.str x t)∨∃ C,v=.ref C∧val=.ref C)
 kc:∀ C,G "Keeper" = some (.ref C)->KCls h₀ C
 xc:∃ D,mg (Str.ofString "BookError")=some (.ref D)∧ClsAt h₀ D []∧∀ g∈xNames,∀ C,G g=some (.ref C)->ClsAt h₀ C [D]∧C≠D
inductive VarAt (env:Env) (m:Str->Option Value) (h:Heap) (x:Str) (v:Value):Prop
 | loc (k:env.kindOf x=some .local) (e:m x=some v)
 | cel (k:env.kindOf x=some .cell∨env.kindOf x=some .free) (c:Addr) (e:env.cells.lookup x=some c) (hc:h.IsCell c (some v))
structure RepF (S:Sc) (env:Env) (vars:MVars) (μ:MH) (h:Heap):Prop where
 names:env.scope.names=S.names
 inj:∀ i j x,S.tab.lookup i=some x->S.tab.lookup j=some x->i=j
 nk:(S.tab.map (·.1)).Nodup
 nv:(S.tab.map (·.2)).Nodup
 kind:env.scope.kind=.function
 glob:env.globals=mainGlobals
 bui:env.builtins=builtinsNs
 ns:∃ m,h.Ns env.locals m∧∀ i x mv,S.tab.lookup i=some x->kindVar (S.names.lookup x)=true->vars i=some mv->∃ v,RepV h mv v∧VarAt env m h x v
 cells:∀ x,(env.kindOf x=some .cell∨env.kindOf x=some .free)->∃ c,env.cells.lookup x=some c
 apart:env.cells.Pairwise fun x y=>x.2≠y.2
 fixl:μ env.locals=none
 fixc:∀ x c,(x,c)∈env.cells->μ c=none∧c≠env.locals∧∃ v,h.IsCell c v
theorem RepF.keep {S:Sc}{env:Env}{vars:MVars}{μ μ':MH}{h h':Heap}(F:RepF S env vars μ h) (kt:KeepsT h h') (kl:∀ o,h.get? env.locals=some o->(∀ vs,o.data≠.fields vs)->(∃ sl,h'.get? env.locals=some { o with slots:=sl })∧μ' env.locals=none) (kc:∀ x c,(x,c)∈env.cells->∀ o,h.get? c=some o->(∀ vs,o.data≠.fields vs)->(∃ sl,h'.get? c=some { o with slots:=sl })∧μ' c=none):RepF S env vars μ' h' where
 names:=F.names
 inj:=F.inj
 nk:=F.nk
 nv:=F.nv
 kind:=F.kind
 glob:=F.glob
 bui:=F.bui
 ns:=by
  obtain⟨m,⟨o,es,ep,ho,hd,hr⟩,hv⟩:=F.ns
  obtain⟨⟨sl,e⟩,_⟩:=kl o ho fun vs q=>by rw[hd] at q;cases q
  refine⟨m,⟨_,es,ep,e,hd,hr⟩,fun i x mv h1 h2 h3=>?_⟩
  obtain⟨v,r,va⟩:=hv i x mv h1 h2 h3
  refine⟨v,r.keepT kt,?_⟩
  have cell:∀ {c:Addr},env.cells.lookup x=some c->h.IsCell c (some v)->h'.IsCell c (some v):=fun {c} e ⟨o,ho,hd⟩=>by
   obtain⟨⟨sl,e'⟩,_⟩:=kc _ _ (mem_of_lookup e) o ho fun vs q=>by rw[hd] at q;cases q
   exact⟨_,e',hd⟩
  cases va with
  | loc k e=>exact .loc k e
  | cel k c e hc=>exact .cel k c e (cell e hc)
 cells:=F.cells
 apart:=F.apart
 fixl:=by obtain⟨m,⟨o,es,ep,ho,hd,_⟩,_⟩:=F.ns;exact(kl o ho fun vs q=>by rw[hd] at q;cases q).2
 fixc:=fun x c hm=>by
  obtain⟨h1,h2,v,o,ho,hd⟩:=F.fixc x c hm
  obtain⟨⟨sl,e⟩,q⟩:=kc x c hm o ho fun vs q=>by rw[hd] at q;cases q
  exact⟨q,h2,v,_,e,hd⟩
noncomputable def Base (h₀:Heap) (fz:List Addr) (μ:MH) (s:Shared):Prop:=∀ b o,h₀.get? b=some o->s.heap.get? b=some o∧(μ b=none∨b∈fz)∧b<bot fz
theorem Base.grow {h₀:Heap}{fz:List Addr}{μ μ':MH}{s s':Shared}(B:Base h₀ fz μ s) (g:Grow fz μ s μ' s'):Base h₀ fz μ' s':=fun b o e=>by
 obtain⟨e1,f,l⟩:=B b o e
 obtain⟨e2,q⟩:=g.keep b o f e1
 exact⟨e2.low l,f.imp (fun z=>q.trans z) id,l⟩
noncomputable def FnAt (h₀:Heap) (f:String) (fa:Addr):Prop:=∃ m,h₀.Ns mainGlobals m∧res h₀ m f=some (.ref fa)∧∃ o fd,h₀.get? fa=some o∧o.data=.func fd
noncomputable def frs (l:List Env):List Addr:=l.filterMap (·.frame)
structure Frs (h₀ h:Heap) (μ:MH) (fz:List Addr) (l:List Env):Prop where
 ff:h.FunFrames h₀ l
 nt:∀ b∈frs l,μ b=none
 lo:∀ b∈frs l,bot fz≤b
 fd:∀ b∈frs l,∃ o es ep,h.get? b=some o∧o.data=.dict es ep
theorem D6 {l:List Env}{e:Env}{L:Addr}(he:e∈l) (hL:e.frame=some L):L∈frs l:=List.mem_filterMap.mpr ⟨e,he,hL⟩
theorem frs_cons {l:List Env}{env:Env}{b L:Addr}(hL:env.frame=some L) (hb:b∈frs (env::l)):b=L∨b∈frs l:=by
 obtain⟨e,he,q⟩:=List.mem_filterMap.mp hb
 rcases List.mem_cons.mp he with rfl|he
 ·rw[hL] at q;cases q;exact .inl rfl
 ·exact .inr (D6 he q)
theorem Frs.map {h₀ h h':Heap}{μ μ':MH}{fz fz':List Addr}{l:List Env}(f:Frs h₀ h μ fz l) (k:∀ b o es ep,b∈frs l->h.get? b=some o->o.data=.dict es ep->(∃ o' es' ep',h'.get? b=some o'∧o'.data=.dict es' ep')∧μ' b=none) (kb:∀ b∈frs l,bot fz'≤b):Frs h₀ h' μ' fz' l:=by
 refine⟨?_,fun b hb=>?_,kb,fun b hb=>?_⟩
 ·have:∀ (l':List Env),(∀ b∈frs l',b∈frs l)->h.FunFrames h₀ l'->h'.FunFrames h₀ l':=by
   intro l'
   induction l' with
   | nil=>exact fun _ _=>trivial
   | cons env rest ih=>
    rintro hs ⟨hk,⟨L,o,hf,hn,ho,hd⟩,hr⟩
    have hL:L∈frs l:=hs L (D6 (.head _) hf)
    obtain⟨o',es,ep,ho',hd'⟩:=f.fd L hL
    obtain⟨⟨o2,es2,ep2,e,hd2⟩,_⟩:=k L o' es ep hL ho' hd'
    refine⟨hk,⟨L,_,hf,hn,e,fun vs q=>by rw[hd2] at q;cases q⟩,ih (fun b hb=>hs b ?_) hr⟩
    obtain⟨e',he',q⟩:=List.mem_filterMap.mp hb
    exact D6 (.tail _ he') q
  exact this l (fun b hb=>hb) f.ff
 ·obtain⟨o,es,ep,ho,hd⟩:=f.fd b hb
  exact(k b o es ep hb ho hd).2
 ·obtain⟨o,es,ep,ho,hd⟩:=f.fd b hb
  exact(k b o es ep hb ho hd).1
structure FrsA (h₀:Heap) (A:Around) (fz:List Addr) (μ:MH) (h:Heap):Prop where
 ex:∃ l,A.frames=some l∧Frs h₀ h μ fz l
 pos:0<bot fz
theorem FrsA.map {h₀ h h':Heap}{A:Around}{μ μ':MH}{fz:List Addr}(f:FrsA h₀ A fz μ h) (k:∀ b o es ep,μ b=none->h.get? b=some o->o.data=.dict es ep->(∃ o' es' ep',h'.get? b=some o'∧o'.data=.dict es' ep')∧μ' b=none):FrsA h₀ A fz μ' h':=by
 obtain⟨⟨l,e,f⟩,p⟩:=f
 exact⟨⟨l,e,f.map (fun b o es ep hb=>k b o es ep (f.nt b hb)) f.lo⟩,p⟩
theorem FrsA.ext {h₀ h h':Heap}{A:Around}{μ:MH}{fz:List Addr}(f:FrsA h₀ A fz μ h) (k:∀ b o,h.get? b=some o->h'.get? b=some o):FrsA h₀ A fz μ h':=
 f.map fun b o es ep m e hd=>⟨⟨o,es,ep,k b o e,hd⟩,m⟩
theorem FrsA.grow {h₀:Heap}{A:Around}{fz:List Addr}{μ μ':MH}{s s':Shared}(f:FrsA h₀ A fz μ s.heap) (g:Grow fz μ s μ' s'):FrsA h₀ A fz μ' s'.heap:=
 f.map fun b o es ep m e hd=>(g.keep b o (.inl m) e).imp (fun h=>let ⟨_,q⟩:=h.data fun vs q=>(by rw[hd] at q;cases q);⟨_,es,ep,q,hd⟩) fun q=>q.trans m
theorem FrsA.weak {h₀ h:Heap}{A:Around}{fz cs:List Addr}{μ:MH}(f:FrsA h₀ A fz μ h):FrsA h₀ A (cs++fz) μ h:=by
 obtain⟨⟨l,e,f⟩,p⟩:=f
 have q:bot (cs++fz)=bot fz:=Ru p
 exact⟨⟨l,e,f.map (fun b o es ep hb ho hd=>⟨⟨o,es,ep,ho,hd⟩,f.nt b hb⟩) (fun b hb=>by rw[q];exact f.lo b hb)⟩,by rw[q];exact p⟩
theorem FrsA.new {h₀ h:Heap}{A:Around}{fz:List Addr}{μ:MH}(f:FrsA h₀ A fz μ h) {b:Addr}(n:h.get? b=none):∀ l,A.frames=some l->b∉frs l:=fun l el hm=>by
 obtain⟨⟨l',el',f⟩,_⟩:=f
 obtain rfl:l'=l:=Option.some.inj (el'.symm.trans el)
 obtain⟨o,es,ep,ho,_⟩:=f.fd b hm
 rw[n] at ho;cases ho
structure Cur (prog:Program) (w:World) (h₀:Heap) (A:Around) (S:Sc) (env:Env) (vars:MVars) (fz:List Addr) (μ:MH) (s:Shared):Prop where
 base:Base h₀ fz μ s
 heap:RepH prog w μ s.heap
 fzin:FzIn fz s.heap
 fr:RepF S env vars μ s.heap
 newl:h₀.get? env.locals=none
 newc:∀ x c,(x,c)∈env.cells->h₀.get? c=none
 known:∀ f∈S.funs,∃ fa,FnAt h₀ f fa
 frs:FrsA h₀ A fz μ s.heap
theorem Cur.grow {prog:Program}{w:World}{h₀:Heap}{A:Around}{S:Sc}{env:Env}{vars:MVars}{fz:List Addr}{μ μ':MH}{s s':Shared}(C:Cur prog w h₀ A S env vars fz μ s) (g:Grow fz μ s μ' s') (r:RepH prog w μ' s'.heap):
  Cur prog w h₀ A S env vars fz μ' s' where
 base:=C.base.grow g
 heap:=r
 fzin:=C.fzin.grow g
 fr:=C.fr.keep (g.keepT C.heap) (fun o e n=>(g.keep _ o (.inl C.fr.fixl) e).imp (fun h=>h.data n) fun q=>q.trans C.fr.fixl) fun x c hm o e n=>(g.keep c o (.inl (C.fr.fixc x c hm).1) e).imp (fun h=>h.data n) fun q=>q.trans (C.fr.fixc x c hm).1
 newl:=C.newl
 newc:=C.newc
 known:=C.known
 frs:=C.frs.grow g
structure GrowS (env:Env) (fz:List Addr) (μ:MH) (s:Shared) (μ':MH) (s':Shared):Prop where
 keep:∀ b o,(μ b=none∨b∈fz)->b≠env.locals->(∀ x c,(x,c)∈env.cells->b≠c)->s.heap.get? b=some o->Held fz μ b o (s'.heap.get? b)∧μ' b=μ b
 os:s'.os=s.os
 gens:s'.gens=s.gens
theorem GrowS.refl {env:Env}{fz:List Addr}{μ:MH}{s:Shared}:GrowS env fz μ s μ s:=⟨fun _ _ _ _ _ e=>⟨.same e,rfl⟩,rfl,rfl⟩
theorem GrowS.trans {env:Env}{fz:List Addr}{μ μa μb:MH}{s s1 sd:Shared}(x:GrowS env fz μ s μa s1) (y:GrowS env fz μa s1 μb sd):GrowS env fz μ s μb sd:=
 ⟨fun b o f l c e=>by
  obtain⟨e1,q1⟩:=x.keep b o f l c e
  have f':=f.imp (fun z=>q1.trans z) id
  obtain⟨o',e'⟩:=e1.there
  exact⟨e1.trans q1 fun o' e'=>(y.keep b o' f' l c e').1,(y.keep b o' f' l c e').2.trans q1⟩,y.os.trans x.os,y.gens.trans x.gens⟩
theorem Grow.toS {env:Env}{fz:List Addr}{μ μ':MH}{s s':Shared}(x:Grow fz μ s μ' s'):GrowS env fz μ s μ' s':=⟨fun b o f _ _ e=>x.keep b o f e,x.os,x.gens⟩
theorem GrowS.weak {env:Env}{fz cs:List Addr}{μ μ':MH}{s s':Shared}(x:GrowS env (cs++fz) μ s μ' s'):GrowS env fz μ s μ' s':=
 ⟨fun b o f l c e=>(x.keep b o (f.imp id fun m=>List.mem_append_right _ m) l c e).imp Held.weak id,x.os,x.gens⟩
section
variable {prog:Program}{w:World}{h₀:Heap}{S:Sc}{env:Env}{vars:MVars}{fz:List Addr}{μ:MH}{s:Shared}{A:Around}{E:Value->Shared->Prop}
theorem Ds {l:List (Str×Addr)}(h:l.Pairwise fun x y=>x.2≠y.2) {x y:Str}{c:Addr}(h1:l.lookup x=some c) (h2:l.lookup y=some c):x=y:=name_of_addr h (mem_of_lookup h1) (mem_of_lookup h2)
theorem load_var {M:Model}{i:Nat}{x:Str}{mv:MV}{Q:Value->Shared->Prop}(C:Cur prog w h₀ A S env vars fz μ s) (ht:S.isVar i x=true) (hv:vars i=some mv)
  (h:∀ v,RepV s.heap mv v->Q v s):wpAny M A (loadName env x) Q E s:=by
 unfold Sc.isVar notDebug at ht
 simp only[Bool.and_eq_true,beq_iff_eq,Bool.not_eq_true'] at ht
 obtain⟨⟨ht,hk⟩,hd,hcd⟩:=ht
 obtain⟨m,hn,hm⟩:=C.fr.ns
 obtain⟨v,r,va⟩:=hm i x mv ht hk hv
 cases va with
 | loc k e=>exact wpAny_loadName_local C.fr.kind k hn e (h v r)
 | cel k c e hc=>exact k.elim (fun q=>wpAny_loadName_cell C.fr.kind q e hc (h v r)) fun q=>wpAny_loadName_free C.fr.kind q e hc (h v r) hcd
theorem Kk {M:Model}{i:Nat}{x:Str}{mv:MV}{v:Value}{Q:Unit->Shared->Prop}(C:Cur prog w h₀ A S env vars fz μ s) (ht:S.isSt i x=true) (hv:RepV s.heap mv v)
  (h:∀ s',Cur prog w h₀ A S env (setv vars i mv) fz μ s'->GrowS env fz μ s μ s'->KeepsT s.heap s'.heap->(S.names.lookup x=some .local->∀ b o,b≠env.locals->s.heap.get? b=some o->s'.heap.get? b=some o)->Q () s'):wpAny M A (storeName env x v) Q E s:=by
 unfold Sc.isSt at ht
 simp only[Bool.and_eq_true,beq_iff_eq] at ht
 obtain⟨ht,hk⟩:=ht
 have hko:env.kindOf x=S.names.lookup x:=by unfold Env.kindOf;rw[C.fr.names]
 obtain⟨m,hn,hm⟩:=C.fr.ns
 have fin:∀ (c:Addr) (h':Heap) (tk:Nat),(c=env.locals∨∃ y,(y,c)∈env.cells)->(∃ o,s.heap.get? c=some o∧¬ ImmCls o)->(∀ b,b≠c->h'.get? b=s.heap.get? b)->(S.names.lookup x=some .local->c=env.locals)->h'.get? c≠none->(∀ o es ep,s.heap.get? c=some o->o.data=.dict es ep->∃ o' es' ep',h'.get? c=some o'∧o'.data=.dict es' ep')->
   (KeepsT s.heap h'->RepF S env (setv vars i mv) μ h')->Q () { s with heap:=h',toks:=tk }:=by
  intro c h' tk hc hobj hs hloc hnew hslot hF
  obtain⟨oc,hoc,hni⟩:=hobj
  have mc:μ c=none:=by rcases hc with rfl|⟨y,hy⟩;exact C.fr.fixl;exact(C.fr.fixc y c hy).1
  have kt:KeepsT s.heap h':=fun b o e hi=>by
   by_cases q:b=c
   ·subst q;rw[hoc] at e;cases e;exact absurd hi hni
   ·rw[hs b q];exact e
  have h0:h₀.get? c=none:=by rcases hc with rfl|⟨y,hy⟩;exact C.newl;exact C.newc y c hy
  refine h _ ⟨fun b o e=>?_,fun a o e=>?_,fun b hb=>?_,hF kt,C.newl,C.newc,C.known,C.frs.map fun b o es ep m e hd=>⟨?_,m⟩⟩ ⟨fun b o f l hcs e=>?_,rfl,rfl⟩ kt fun hl b o hb e=>by show h'.get? b=some o;rw[hs b (fun q=>hb (q.trans (hloc hl)))];exact e
  ·have:=C.base b o e
   refine⟨?_,this.2⟩
   show h'.get? b=some o
   rw[hs b (fun q=>by rw[q,h0] at e;cases e)];exact this.1
  ·have hac:a≠c:=fun q=>by rw[q,mc] at e;cases e
   exact(C.heap a o e).keeps kt fun y hy=>by show h'.get? a=some y;rw[hs a hac];exact hy
  ·show h'.get? b≠none
   by_cases q:b=c
   ·rw[q];exact hnew
   ·rw[hs b q];exact C.fzin b hb
  ·by_cases q:b=c
   ·subst q;exact hslot o es ep e hd
   ·exact⟨o,es,ep,(hs b q).trans e,hd⟩
  ·refine⟨.same ?_,rfl⟩
   show h'.get? b=some o
   rw[hs b (fun q=>by subst q;rcases hc with q|⟨y,hy⟩;exact l q;exact hcs y b hy rfl)];exact e
 have base:=C.fr
 have hk:S.names.lookup x=some .local∨S.names.lookup x=some .cell:=by simpa only[kindSt,Bool.or_eq_true,decide_eq_true_eq] using hk
 rcases hk with q|q
 ·skip
  have hl:env.kindOf x=some .local:=hko.trans q
  obtain⟨ol,es,ep,hol,hdl,_⟩:=id hn
  refine wpAny_storeName_local hl hn (fun h' hn' hs'=>fin env.locals h' _ (.inl rfl) ⟨ol,hol,by rintro (⟨_,_,_,q⟩|⟨_,_,q⟩) <;> rw[hdl] at q <;> cases q⟩ hs'.2 (fun _=>rfl) (by obtain⟨o,_,_,ho,_⟩:=hn';rw[ho];intro q;cases q) (fun _ _ _ _ _=>by obtain⟨o,es,ep,ho,hd,_⟩:=hn';exact⟨o,es,ep,ho,hd⟩) fun kt=>?_) (by rw[C.fr.kind];rfl)
  refine { names:=base.names,inj:=base.inj,nk:=base.nk,nv:=base.nv,kind:=base.kind,glob:=base.glob,bui:=base.bui,cells:=base.cells,apart:=base.apart,fixl:=base.fixl,fixc:=?fx,ns:=⟨_,hn',fun j y mv' h1 h2 h3=>?nn⟩ }
  case fx=>
   intro y c hm'
   obtain⟨a1,a2,u,o,ho,hd⟩:=base.fixc y c hm'
   exact⟨a1,a2,u,o,by rw[hs'.2 c a2];exact ho,hd⟩
  case nn=>
   by_cases hji:j=i
   ·subst hji
    rw[ht] at h1;cases h1
    simp only[setv,if_true,Option.some.injEq] at h3
    subst h3
    refine⟨v,hv.keepT kt,?_⟩
    exact .loc hl (if_pos rfl)
   ·simp only[setv,if_neg hji] at h3
    obtain⟨u,r,va⟩:=hm j y mv' h1 h2 h3
    refine⟨u,r.keepT kt,?_⟩
    have hyx:y≠x:=fun e=>hji (base.inj j i x (e▸h1) ht)
    cases va with
    | loc k e=>exact .loc k ((if_neg hyx).trans e)
    | cel k c e hc=>exact .cel k c e (hc.imp fun o z=>⟨(hs'.2 c (base.fixc _ _ (mem_of_lookup e)).2.1).trans z.1,z.2⟩)
 ·skip
  have hl:env.kindOf x=some .cell:=hko.trans q
  obtain⟨c,hc⟩:=base.cells x (.inl hl)
  obtain⟨a1,a2,u0,hu0⟩:=base.fixc x c (mem_of_lookup hc)
  obtain⟨oc,hoc,hdc⟩:=id hu0
  refine wpAny_storeName_cell C.fr.kind hl hc hu0 fun h' hc' hs'=>fin c h' s.toks (.inr ⟨x,mem_of_lookup hc⟩) ⟨oc,hoc,fun i=>i.elim (fun ⟨_,_,_,q⟩=>nomatch hdc.symm.trans q) fun ⟨_,_,q⟩=>nomatch hdc.symm.trans q⟩ hs'.2 (fun q'=>by rw[q] at q';cases q') (by obtain⟨o,ho,_⟩:=hc';rw[ho];intro q;cases q) (fun o es ep e q=>by rw[hoc] at e;cases e;rw[hdc] at q;cases q) fun kt=>?_
  refine { names:=base.names,inj:=base.inj,nk:=base.nk,nv:=base.nv,kind:=base.kind,glob:=base.glob,bui:=base.bui,cells:=base.cells,apart:=base.apart,fixl:=base.fixl,fixc:=?fx,ns:=⟨m,hn.at' fun o e=>by rw[hs'.2 _ (Ne.symm a2)];exact e,fun j y mv' h1 h2 h3=>?nn⟩ }
  case fx=>
   intro y c' hm'
   obtain⟨b1,b2,u,o,ho,hd⟩:=base.fixc y c' hm'
   by_cases hcc:c'=c
   ·subst hcc;obtain⟨o',ho',hd'⟩:=hc';exact⟨b1,b2,_,o',ho',hd'⟩
   ·exact⟨b1,b2,u,o,by rw[hs'.2 c' hcc];exact ho,hd⟩
  case nn=>
   by_cases hji:j=i
   ·subst hji
    rw[ht] at h1;cases h1
    simp only[setv,if_true,Option.some.injEq] at h3
    subst h3
    refine⟨v,hv.keepT kt,?_⟩
    exact .cel (.inl hl) c hc hc'
   ·simp only[setv,if_neg hji] at h3
    obtain⟨u,r,va⟩:=hm j y mv' h1 h2 h3
    refine⟨u,r.keepT kt,?_⟩
    have hyx:y≠x:=fun e=>hji (base.inj j i x (e▸h1) ht)
    cases va with
    | loc k e=>exact .loc k e
    | cel k c' e z=>exact .cel k c' e (z.imp fun o z=>⟨(hs'.2 c' fun q=>hyx (Ds base.apart e (q▸hc))).trans z.1,z.2⟩)
end
end Mine
end
section
namespace Mine
open PySem PySem.Calls PyProof.Rows PySem.W
noncomputable def X0:MX:=fun _ _=>False
section
variable (prog:Program) (w:World) (G:String->Option MV) (h₀:Heap) (Φ:CallSpec) (d:Dp)
inductive PostB (fz:List Addr) (μ:MH) (s:Shared) (F:Bool->MH->Prop) (b:Bool) (s':Shared):Prop
 | mk (μ':MH) (q:F b μ') (r:RepH prog w μ' s'.heap) (g:Grow fz μ s μ' s')
inductive PostL (fz:List Addr) (μ:MH) (s:Shared) (Q:List MV->MH->Prop) (vs:List Value) (s':Shared):Prop
 | mk (ms:List MV) (μ':MH) (q:Q ms μ') (rv:RepVs s'.heap ms vs) (r:RepH prog w μ' s'.heap) (g:Grow fz μ s μ' s')
noncomputable def SC:Prop:=∀ (f:String) (vs:List MV) (vals:List Value) (fz:List Addr) (μ:MH) (s:Shared) (Q:MQ) (A:Around) (E:Value->Shared->Prop) (fa:Addr),OkC d A->Base h₀ fz μ s->RepH prog w μ s.heap->FzIn fz s.heap->FrsA h₀ A fz μ s.heap->
 RepVs s.heap vs vals->FnAt h₀ f fa->Φ f vs fz Q X0 μ->wpAny (model prog w) A (call (.ref fa) vals) (PostV prog w fz μ s Q) E s
noncomputable def SE (e:ME):Prop:=∀ (S:Sc) (x:PySem.Expr) (env:Env) (vars:MVars) (fz:List Addr) (μ:MH) (s:Shared) (Q:MQ) (A:Around) (E:Value->Shared->Prop),isE S e x=true->OkA d A->Cur prog w h₀ A S env vars fz μ s->
 ev G Φ X0 e fz vars Q μ->wpAny (model prog w) A (eval x env) (PostV prog w fz μ s Q) E s
noncomputable def ST (e:ME):Prop:=∀ (S:Sc) (x:PySem.Expr) (env:Env) (vars:MVars) (fz:List Addr) (μ:MH) (s:Shared) (F:Bool->MH->Prop) (A:Around) (E:Value->Shared->Prop),isE S e x=true->OkA d A->Cur prog w h₀ A S env vars fz μ s->
 ev G Φ X0 e fz vars (fun v μ'=>∃ b,truthy μ' v=some b∧F b μ') μ->wpAny (model prog w) A (isTrue x env (eval x env)) (PostB prog w fz μ s F) E s
noncomputable def SS (e:ME):Prop:=SE prog w G h₀ Φ d e∧ST prog w G h₀ Φ d e
end
section
variable {prog:Program}{w:World}{G:String->Option MV}{Γ:String->Option MFun}{h₀:Heap}{mg mb:Str->Option Value}{Φ:CallSpec}{d:Dp}
 {S:Sc}{env:Env}{vars:MVars}{fz:List Addr}{μ:MH}{s:Shared}{A:Around}{E:Value->Shared->Prop}
theorem PostV.trans {Q:MQ}{μa:MH}{s1:Shared}(g:Grow fz μ s μa s1) {v:Value}{s':Shared}(h:PostV prog w fz μa s1 Q v s'):PostV prog w fz μ s Q v s':=
 let ⟨mv,μ',q,r,hr,g'⟩:=h;⟨mv,μ',q,r,hr,g.trans g'⟩
theorem PostB.trans {F:Bool->MH->Prop}{μa:MH}{s1:Shared}(g:Grow fz μ s μa s1) {b:Bool}{s':Shared}(h:PostB prog w fz μa s1 F b s'):PostB prog w fz μ s F b s':=
 let ⟨μ',q,hr,g'⟩:=h;⟨μ',q,hr,g.trans g'⟩
theorem PostL.trans {Q:List MV->MH->Prop}{μa:MH}{s1:Shared}(g:Grow fz μ s μa s1) {v:List Value}{s':Shared}(h:PostL prog w fz μa s1 Q v s'):PostL prog w fz μ s Q v s':=
 let ⟨mv,μ',q,r,hr,g'⟩:=h;⟨mv,μ',q,r,hr,g.trans g'⟩
theorem Still.grow {s':Shared}(st:Still s s'):Grow fz μ s μ s':=⟨fun b o _ e=>⟨.same (by rw[st.1];exact e),rfl⟩,st.2.1,st.2.2⟩
theorem isE_starred (e:ME) (v:PySem.Expr) (p:Pos):isE S e (.Starred v p)=false:=by
 cases e <;> (try rfl)
 rename_i f args;cases f <;> rfl
theorem isE_slice (e:ME) (l u t:Option PySem.Expr) (p:Pos):isE S e (.Slice l u t p)=false:=by
 cases e <;> (try rfl)
 rename_i f args;cases f <;> rfl
theorem isE_set (e:ME) (l:List PySem.Expr) (k:Nat) (p:Pos):isE S e (.Set l k p)=false:=by
 cases e <;> (try rfl)
 rename_i f args;cases f <;> rfl
theorem sub_plain {e:ME}{x:PySem.Expr}(h:isE S e x=true) (o i:Value):subscripted x false o i=operate [o,i] (getItem o i):=by
 cases x <;> first
  | rfl
  | (rw[isE_slice] at h;cases h)
theorem Pl {e:ME}{x:PySem.Expr}(h:isE S e x=true) (rest:List PySem.Expr) (env:Env):starEach (x::rest) env=(false,eval x env)::starEach rest env:=by
 cases x <;> first
  | rfl
  | (rw[isE_starred] at h;cases h)
theorem marks_none {e:ME}{x:PySem.Expr}(h:isE S e x=true) (op:CmpOp):behindInMarks op x=false:=by
 cases x <;> first
  | rfl
  | (rw[isE_set] at h;cases h)
theorem folded_none {e:ME}{x:PySem.Expr}(h:isE S e x=true) (env:Env) (v:Value):foldedSetIterable x env v=pure v:=by
 cases x <;> first
  | rfl
  | (rw[isE_set] at h;cases h)
theorem X4:∀ {l:List ME}{xs:List PySem.Expr}(pos:Pos),isEs S l xs=true->backTo pos (starEach xs env)=xs.map fun x=>(false,eval x env)
 | [],[]=>fun _ _=>rfl
 | e::l,x::xs=>fun pos h=>by
  replace h:=Qv h
  rw[Pl h.1]
  show (false,_)::backTo pos (starEach xs env)=_
  rw[X4 pos h.2];rfl
 | [],_::_=>fun _ h=>(Bool.false_ne_true h).elim
 | _::_,[]=>fun _ h=>(Bool.false_ne_true h).elim
theorem Vp:∀ {l:List ME}{xs:List PySem.Expr},isEs S l xs=true->xs.length=l.length
 | [],[]=>fun _=>rfl
 | e::l,x::xs=>fun h=>by replace h:=Qv h;simp[Vp h.2]
 | [],_::_=>fun h=>(Bool.false_ne_true h).elim
 | _::_,[]=>fun h=>(Bool.false_ne_true h).elim
theorem Xd:∀ {l:List ME}(hl:∀ e∈l,SS prog w G h₀ Φ d e) {xs:List PySem.Expr}{μ:MH}{s:Shared}{Q:List MV->MH->Prop},isEs S l xs=true->OkA d A->Cur prog w h₀ A S env vars fz μ s->evs G Φ X0 l fz vars Q μ->
  wpAny (model prog w) A (spliced (xs.map fun x=>(false,eval x env))) (PostL prog w fz μ s Q) E s
 | [],_,[],μ,s,Q=>fun h hA C hq=>by
  have hq:=hq
  exact Calls.spliced_nil ⟨[],μ,hq,trivial,C.heap,.refl⟩
 | e::l,hl,x::xs,μ,s,Q=>fun h hA C hq=>by
  replace h:=Qv h
  have hq:=hq
  refine Calls.spliced_cons (wpAny_mono ((hl e (.head _)).1 S x env vars fz μ s _ A E h.1 hA C hq) (fun v s1 h₁=>?_) fun _ _ e=>e)
  obtain⟨mv,μa,hq1,rv,rc,gb⟩:=h₁
  refine wpAny_mono (Xd (fun e' he'=>hl e' (.tail _ he')) h.2 hA (C.grow gb rc) hq1) (fun vs sd h₂=>?_) fun _ _ e=>e
  obtain⟨ms,μb,hq2,rs,rd,gc⟩:=h₂
  exact⟨mv::ms,μb,hq2,by exact⟨rv.keepT (gc.keepT rc),rs⟩,rd,gb.trans gc⟩
 | [],_,_::_,_,_,_=>fun h _ _ _=>(Bool.false_ne_true h).elim
 | _::_,_,[],_,_,_=>fun h _ _ _=>(Bool.false_ne_true h).elim
theorem Qj {M:Model}{f:Value}{trees:List (Bool×Sem Value)}{Q:Args->Shared->Prop}(hp:trees.any (·.1)=false) (h:wpAny M A (spliced trees) (fun vs s'=>Q ⟨vs,[]⟩ s') E s):wpAny M A (evalArgs f true trees []) Q E s:=by
 cases trees with
 | nil=>
  unfold evalArgs
  show wpAny M A (spliced [] >>= _) Q E s
  refine wpAny_bind (wpAny_mono h (fun vs s' h'=>?_) fun _ _ e=>e)
  refine wpAny_bind (wpAny_pure (wpAny_holding ?_))
  exact wpAny_bind (wpAny_pure (wpAny_bind (wpAny_pure (wpAny_pure h'))))
 | cons t rest=>
  obtain⟨b,x⟩:=t
  simp only[List.any_cons,Bool.or_eq_false_iff] at hp
  obtain rfl:b=false:=hp.1
  exact evalArgs_plain h
theorem Qg (xs:List PySem.Expr):(xs.map fun x=>(false,eval x env)).any (·.1)=false:=by induction xs with|nil=>rfl|cons x xs ih=>simpa using ih
theorem truthyT {x:PySem.Expr}{e:ME}(hE:SE prog w G h₀ Φ d e) (hT:∀ whole,isTrue x env whole=(do let v ← whole;standAt x.pos;holding [v] (PySem.truthy v))) {F:Bool->MH->Prop}(h:isE S e x=true) (hA:OkA d A) (C:Cur prog w h₀ A S env vars fz μ s)
  (hq:ev G Φ X0 e fz vars (fun v μ'=>∃ b,truthy μ' v=some b∧F b μ') μ):wpAny (model prog w) A (isTrue x env (eval x env)) (PostB prog w fz μ s F) E s:=by
 rw[hT]
 refine wpAny_bind (wpAny_mono (hE S x env vars fz μ s _ A E h hA C hq) (fun v s1 h₁=>?_) fun _ _ e=>e)
 obtain⟨mv,μa,⟨b,hb,hF⟩,rv,rc,gb⟩:=h₁
 refine wpAny_bind (wpAny_standAt (wpAny_holding (wpAny_mono (B5 rv rc hb) (fun b' sd h₂=>?_) fun _ _ e=>e)))
 obtain⟨rfl,st⟩:=h₂
 exact⟨μa,hF,by rw[st.1];exact rc,gb.trans st.grow⟩
end
end Mine
end
section
namespace Mine
open PySem PySem.Calls PyProof.Rows PySem.W
section
variable {prog:Program}{w:World}{G:String->Option MV}{Γ:String->Option MFun}{h₀:Heap}{mg mb:Str->Option Value}{Φ:CallSpec}{d:Dp}
theorem isVar_debug {S:Sc}{i:Nat}{x:Str}(h:S.isVar i x=true):(x == ("__debug__":Str))=false:=by
 unfold Sc.isVar notDebug at h
 simp only[Bool.and_eq_true,beq_iff_eq,Bool.not_eq_true'] at h
 exact h.2.1
theorem Np {S:Sc}{g:String}{x:Str}(h:S.isGlob g x=true):x=Str.ofString g∧S.names.lookup x=some .globalImplicit∧(x == ("__debug__":Str))=false:=by
 unfold Sc.isGlob notDebug isGlobK at h
 simp only[Bool.and_eq_true,beq_iff_eq,Bool.not_eq_true'] at h
 refine⟨h.1.1,?_,h.2.1⟩
 exact of_decide_eq_true h.1.2
theorem Ko {M:Model}{S:Sc}{env:Env}{vars:MVars}{fz:List Addr}{μ:MH}{s:Shared}{A:Around}{E:Value->Shared->Prop}{g:String}{x:Str}{p:Pos}{v:Value}{Q:Value->Shared->Prop}(pg:PG prog w G Γ h₀ mg mb) (C:Cur prog w h₀ A S env vars fz μ s) (h:S.isGlob g x=true)
  (hv:mg (Str.ofString g)=some v) (hq:Q v s):wpAny M A (eval (.Name x p) env) Q E s:=by
 obtain⟨rfl,hk,hd⟩:=Np h
 refine Name_function_global C.fr.kind (by unfold Env.kindOf;rw[C.fr.names];exact hk) (loadGlobal_global (mg:=mg) ?_ hv hq) hd
 rw[C.fr.glob]
 exact pg.g.keeps fun b o e=>(C.base b o e).1
theorem Y8 {M:Model}{S:Sc}{env:Env}{vars:MVars}{fz:List Addr}{μ:MH}{s:Shared}{A:Around}{E:Value->Shared->Prop}{g:String}{x:Str}{p:Pos}{v:Value}{Q:Value->Shared->Prop}(pg:PG prog w G Γ h₀ mg mb) (C:Cur prog w h₀ A S env vars fz μ s) (h:S.isGlob g x=true)
  (hv:(g,v)∈biTab) (hq:Q v s):wpAny M A (eval (.Name x p) env) Q E s:=by
 obtain⟨rfl,hk,hd⟩:=Np h
 refine Name_function_global C.fr.kind (by unfold Env.kindOf;rw[C.fr.names];exact hk) (loadGlobal_builtin (mg:=mg) (mb:=mb) ?_ (pg.bi _ hv).1 ?_ (pg.bi _ hv).2 hq) hd
 ·rw[C.fr.glob];exact pg.g.keeps fun b o e=>(C.base b o e).1
 ·rw[C.fr.bui];exact pg.b.keeps fun b o e=>(C.base b o e).1
theorem Io (i:Nat):SE prog w G h₀ Φ d (.var i):=fun S x env vars fz μ s Q A E h hA C hq=>by
 replace h:=inv_var h
 obtain⟨y,p,rfl,h⟩:=h
 obtain⟨v,hv,hq⟩:=hq
 exact wpAny_Name (load_var C h hv fun u r=>Qd hq C.heap r rfl rfl rfl) (isVar_debug h)
theorem se_glob (pg:PG prog w G Γ h₀ mg mb) (g:String):SE prog w G h₀ Φ d (.glob g):=fun S x env vars fz μ s Q A E h hA C hq=>by
 replace h:=inv_glob h
 obtain⟨y,p,rfl,h⟩:=h
 obtain⟨v,hv,hq⟩:=hq
 obtain⟨val,hval,hr⟩:=pg.const g v hv
 refine Ko pg C h hval (Qd hq C.heap ?_ rfl rfl rfl)
 rcases hr with ⟨i,t,rfl,rfl⟩|⟨y,t,rfl,rfl⟩|⟨C,rfl,rfl⟩ <;> first|exact⟨_,rfl⟩|rfl
theorem se_cint (i:Int):SE prog w G h₀ Φ d (.cint i):=fun S x env vars fz μ s Q A E h hA C hq=>by
 replace h:=inv_cint h
 obtain⟨k,p,rfl⟩:=h
 exact wpAny_Constant_int (Qd hq C.heap (by exact⟨_,rfl⟩) rfl rfl rfl)
theorem se_cstr (t:String):SE prog w G h₀ Φ d (.cstr t):=fun S x env vars fz μ s Q A E h hA C hq=>by
 replace h:=inv_cstr h
 obtain⟨k,p,rfl⟩:=h
 exact Calls.Constant_str (Qd hq C.heap (by exact⟨_,rfl⟩) rfl rfl rfl)
theorem se_cbool (b:Bool):SE prog w G h₀ Φ d (.cbool b):=fun S x env vars fz μ s Q A E h hA C hq=>by
 replace h:=inv_cbool h
 obtain⟨k,p,rfl⟩:=h
 exact wpAny_pure (Qd hq C.heap (by first|exact⟨_,rfl⟩|rfl) rfl rfl rfl)
theorem se_cnone:SE prog w G h₀ Φ d .cnone:=fun S x env vars fz μ s Q A E h hA C hq=>by
 replace h:=inv_cnone h
 obtain⟨k,p,rfl⟩:=h
 exact wpAny_pure (Qd hq C.heap (by first|exact⟨_,rfl⟩|rfl) rfl rfl rfl)
theorem se_bin {op:BOp}{a b:ME}(ha:SE prog w G h₀ Φ d a) (hb:SE prog w G h₀ Φ d b):SE prog w G h₀ Φ d (.bin op a b):=fun S x env vars fz μ s Q A E h hA C hq=>by
 replace h:=inv_bin h
 obtain⟨l,o,r,p,rfl,h⟩:=h
 simp only[Bool.and_eq_true] at h
 refine wpAny_BinOp (wpAny_mono (ha S _ env vars fz μ s _ A E h.1.2 hA C hq) (fun v s1 h₁=>?_) fun _ _ e=>e)
 obtain⟨mv,μa,hq1,rv,rc,gb⟩:=h₁
 have C₁:=C.grow gb rc
 refine wpAny_mono (hb S _ env vars fz μa s1 _ A E h.2 hA C₁ hq1) (fun u sd h₂=>?_) fun _ _ e=>e
 obtain⟨mu,μb,hq2,ru,rd,gc⟩:=h₂
 refine wpAny_mono (op_bin h.1.1 (rv.keepT (gc.keepT rc)) ru rd (C₁.grow gc rd).fzin hA hq2) (fun v' s3 h₃=>(h₃.trans gc).trans gb) fun _ _ e=>e
theorem se_neg {a:ME}(ha:SE prog w G h₀ Φ d a):SE prog w G h₀ Φ d (.neg a):=fun S x env vars fz μ s Q A E h hA C hq=>by
 replace h:=inv_neg h
 obtain⟨y,p,rfl,h⟩:=h
 refine wpAny_UnaryOp (wpAny_mono (ha S _ env vars fz μ s _ A E h hA C hq) (fun v s1 h₁=>?_) fun _ _ e=>e)
 obtain⟨mv,μa,⟨i,rfl,hq1⟩,rv,rc,gb⟩:=h₁
 obtain⟨t,rfl⟩:=rv
 exact PyProof.Rows.neg_int (PostV.trans gb (Qd (mv:=.int (-i)) hq1 rc (by exact⟨_,rfl⟩) rfl rfl rfl))
theorem se_not {a:ME}(ha:SE prog w G h₀ Φ d a):SE prog w G h₀ Φ d (.not a):=fun S x env vars fz μ s Q A E h hA C hq=>by
 replace h:=inv_not h
 obtain⟨y,p,rfl,h⟩:=h
 refine wpAny_UnaryOp (wpAny_mono (ha S _ env vars fz μ s _ A E h hA C hq) (fun v s1 h₁=>?_) fun _ _ e=>e)
 obtain⟨mv,μa,⟨b,hb,hq1⟩,rv,rc,gb⟩:=h₁
 refine not_of (wpAny_mono (B5 rv rc hb) (fun b' sd h₂=>?_) fun _ _ e=>e)
 obtain⟨rfl,st⟩:=h₂
 exact(Z2 hq1 rc (by first|exact⟨_,rfl⟩|rfl) st:PostV prog w fz μa s1 Q _ _).trans gb
theorem bool_list {op:BoolOp}(isOr:Bool) (ho:op=if isOr then .Or else .And):∀ {l:List ME}(hl:∀ e∈l,SE prog w G h₀ Φ d e) {S:Sc}{env:Env}{vars:MVars}{fz:List Addr}{xs:List PySem.Expr}{μ:MH}{s:Shared}{Q:MQ}{A:Around}{E:Value->Shared->Prop}{pos:Pos},isEs S l xs=true->OkA d A->Cur prog w h₀ A S env vars fz μ s->
  (if isOr then evOr G Φ X0 l fz vars Q μ else evAnd G Φ X0 l fz vars Q μ)->wpAny (model prog w) A (boolOp pos op (evalEach xs env)) (PostV prog w fz μ s Q) E s
 | [],_,S,env,vars,fz,[],μ,s,Q,A,E,pos=>fun h hA C hq=>by cases isOr <;> exact False.elim hq
 | [e],hl,S,env,vars,fz,[x],μ,s,Q,A,E,pos=>fun h hA C hq=>by
  replace h:=(Qv h).1
  have hq':ev G Φ X0 e fz vars Q μ:=by cases isOr <;> exact hq
  exact hl e (.head _) S x env vars fz μ s Q A E h hA C hq'
 | e::e'::l,hl,S,env,vars,fz,x::x'::xs,μ,s,Q,A,E,pos=>fun h hA C hq=>by
  have h':isE S e x=true∧isEs S (e'::l) (x'::xs)=true:=Qv h
  show wpAny _ A (eval x env >>= _) _ _ s
  have key:ev G Φ X0 e fz vars (fun v μ'=>∃ b,truthy μ' v=some b∧if b=isOr then Q v μ' else (if isOr then evOr G Φ X0 (e'::l) fz vars Q μ' else evAnd G Φ X0 (e'::l) fz vars Q μ')) μ:=by
   cases isOr
   ·simp only[Bool.false_eq_true,if_false] at hq ⊢
    have q:(fun (v:MV) (μ':MH)=>∃ b,truthy μ' v=some b∧if b=false then Q v μ' else evAnd G Φ X0 (e'::l) fz vars Q μ')=(fun v μ'=>∃ b,truthy μ' v=some b∧if b=true then evAnd G Φ X0 (e'::l) fz vars Q μ' else Q v μ'):=by
     funext v μ'
     apply propext
     constructor <;> rintro⟨b,hb,hh⟩ <;> refine⟨b,hb,?_⟩ <;> cases b <;> simpa using hh
    rw[q];exact hq
   ·simp only[if_true] at hq ⊢
    exact hq
  refine wpAny_bind (wpAny_mono (hl e (.head _) S x env vars fz μ s _ A E h'.1 hA C key) (fun v s1 h₁=>?_) fun _ _ e=>e)
  obtain⟨mv,μa,⟨b,hb,hq1⟩,rv,rc,gb⟩:=h₁
  refine wpAny_bind (wpAny_standAt (wpAny_bind (wpAny_holding (wpAny_mono (B5 rv rc hb) (fun b' sd h₂=>?_) fun _ _ e=>e))))
  obtain⟨rfl,st⟩:=h₂
  have rd:RepH prog w μa sd.heap:=by rw[st.1];exact rc
  have C₂:=C.grow (gb.trans st.grow) rd
  subst ho
  by_cases hbo:b'=isOr
  ·subst hbo
   simp only[if_true] at hq1
   cases b' <;> exact wpAny_pure ((Z2 hq1 rc rv st:PostV prog w fz μa s1 Q _ _).trans gb)
  ·rw[if_neg hbo] at hq1
   have rest:=bool_list (op:=if isOr then .Or else .And) isOr rfl (fun e'' he=>hl e'' (.tail _ he)) (pos:=pos) (E:=E) h'.2 hA C₂ hq1
   cases b' <;> cases isOr <;> first
    | exact absurd rfl hbo
    | exact wpAny_mono rest (fun v' s3 h₃=>h₃.trans (gb.trans st.grow)) fun _ _ e=>e
 | [],_,S,env,vars,fz,_::_,μ,s,Q,A,E,pos=>fun h hA C hq=>(Bool.false_ne_true h).elim
 | _::_,_,S,env,vars,fz,[],μ,s,Q,A,E,pos=>fun h hA C hq=>(Bool.false_ne_true h).elim
 | [_],_,S,env,vars,fz,_::_::_,μ,s,Q,A,E,pos=>fun h hA C hq=>(Bool.false_ne_true (Qv h).2).elim
 | _::_::_,_,S,env,vars,fz,[_],μ,s,Q,A,E,pos=>fun h hA C hq=>(Bool.false_ne_true (Qv h).2).elim
end
end Mine
end
section
namespace Mine
open PySem PySem.Calls PyProof.Rows PySem.W
section
variable {prog:Program}{w:World}{G:String->Option MV}{Γ:String->Option MFun}{h₀:Heap}{mg mb:Str->Option Value}{Φ:CallSpec}{d:Dp}
theorem se_and {l:List ME}(hl:∀ e∈l,SE prog w G h₀ Φ d e):SE prog w G h₀ Φ d (.and l):=fun S x env vars fz μ s Q A E h hA C hq=>by
 replace h:=inv_and h
 obtain⟨xs,p,rfl,h⟩:=h
 exact bool_list false rfl hl h hA C hq
theorem se_or {l:List ME}(hl:∀ e∈l,SE prog w G h₀ Φ d e):SE prog w G h₀ Φ d (.or l):=fun S x env vars fz μ s Q A E h hA C hq=>by
 replace h:=inv_or h
 obtain⟨xs,p,rfl,h⟩:=h
 exact bool_list true rfl hl h hA C hq
theorem Je {S:Sc}:∀ {es:List ME}{xs:List PySem.Expr}(os:List CmpOp),isEs S es xs=true->lastMarks os xs=false
 | [],[],os=>fun _=>by cases os <;> simp[lastMarks]
 | e::es,x::xs,[]=>fun _=>by simp[lastMarks]
 | e::es,x::xs,o::os=>fun h=>by
  replace h:=Qv h
  have ih:=Je os h.2
  have hm:=marks_none h.1 o
  cases os <;> cases xs <;> simp_all [lastMarks]
 | [],_::_,_=>fun h=>(Bool.false_ne_true h).elim
 | _::_,[],_=>fun h=>(Bool.false_ne_true h).elim
theorem I8 {a:COp}{r:List COp}{b:CmpOp}{s:List CmpOp}(h:copsIs (a::r) (b::s)=true):copIs a b=true∧copsIs r s=true:=and2 h
theorem cmp_list:∀ {es:List ME}(hl:∀ e∈es,SE prog w G h₀ Φ d e) {S:Sc}{env:Env}{vars:MVars}{fz:List Addr}{ops:List COp}{os:List CmpOp}{xs:List PySem.Expr}{a:MV}{va:Value}{μ:MH}{s:Shared}{Q:MQ}{A:Around}{E:Value->Shared->Prop}{pos:Pos},copsIs ops os=true->isEs S es xs=true->OkA d A->Cur prog w h₀ A S env vars fz μ s->
  RepV s.heap a va->evCmp G Φ X0 es ops a fz vars Q μ->wpAny (model prog w) A (compareChain pos va os (evalEach xs env)) (PostV prog w fz μ s Q) E s
 | e::es,hl,S,env,vars,fz,op::ops,o::os,x::xs,a,va,μ,s,Q,A,E,pos=>fun ho h hA C ra hq=>by
  replace ho:=I8 ho
  replace h:=Qv h
  have step:=hl e (.head _) S x env vars fz μ s _ A E h.1 hA C hq
  cases es with
  | nil=>
   cases xs with
   | cons _ _=>exact(Bool.false_ne_true h.2).elim
   | nil=>
   cases ops with
   | cons _ _=>
    cases os with
    | nil=>exact(Bool.false_ne_true ho.2).elim
    | cons o' os=>
     show wpAny _ A (holding [va] (eval x env) >>= _) _ _ s
     refine wpAny_bind (wpAny_holding (wpAny_mono step (fun v s1 h₁=>?_) fun _ _ e=>e))
     obtain⟨_,_,⟨b,_,f⟩,_⟩:=h₁
     exact f.elim
   | nil=>
    cases os with
    | cons _ _=>exact(Bool.false_ne_true ho.2).elim
    | nil=>
     refine chain_last (wpAny_mono step (fun v s1 h₁=>?_) fun _ _ e=>e)
     obtain⟨mv,μa,⟨b,hb,hq1⟩,rv,rc,gb⟩:=h₁
     exact R1 ho.1 (ra.keepT (gb.keepT C.heap)) rv rc hA hb fun s' st=>PostV.trans gb (Z2 hq1 rc (by first|exact⟨_,rfl⟩|rfl) st)
  | cons e' es=>
   cases xs with
   | nil=>exact(Bool.false_ne_true h.2).elim
   | cons x' xs=>
   cases ops with
   | nil=>
    cases os with
    | cons _ _=>exact(Bool.false_ne_true ho.2).elim
    | nil=>
     show wpAny _ A (holding [va] (eval x env) >>= _) _ _ s
     refine wpAny_bind (wpAny_holding (wpAny_mono step (fun v s1 h₁=>?_) fun _ _ e=>e))
     obtain⟨_,_,⟨b,_,f⟩,_⟩:=h₁
     exact f.elim
   | cons op' ops=>
    cases os with
    | nil=>exact(Bool.false_ne_true ho.2).elim
    | cons o' os=>
     refine chain_link (wpAny_mono step (fun v s1 h₁=>?_) fun _ _ e=>e)
     obtain⟨mv,μa,⟨b,hb,hq1⟩,rv,rc,gb⟩:=h₁
     refine R1 ho.1 (ra.keepT (gb.keepT C.heap)) rv rc hA hb fun s' st=>wpAny_truthy_bool ?_
     have rd:RepH prog w μa s'.heap:=by rw[st.1];exact rc
     cases b with
     | false=>exact PostV.trans gb (Z2 hq1 rc (by first|exact⟨_,rfl⟩|rfl) st)
     | true=>
      refine wpAny_mono (cmp_list (fun e'' he=>hl e'' (.tail _ he)) ho.2 h.2 hA (C.grow (gb.trans st.grow) rd) (by rw[st.1];exact rv) hq1) (fun v' s3 h₃=>h₃.trans (gb.trans st.grow)) fun _ _ e=>e
 | [],_,_,_,_,_,_,_,_,_,_,_,_,_,_,_,_=>fun _ _ _ _ _ hq=>False.elim hq
 | _::_,_,_,_,_,_,[],_,_,_,_,_,_,_,_,_,_=>fun _ _ _ _ _ hq=>False.elim hq
 | _::_,_,_,_,_,_,_::_,[],_,_,_,_,_,_,_,_,_=>fun ho _ _ _ _ hq=>by exact(Bool.false_ne_true ho).elim
 | _::_,_,_,_,_,_,_::_,_::_,[],_,_,_,_,_,_,_,_=>fun _ h _ _ _ hq=>(Bool.false_ne_true h).elim
theorem se_cmp {a:ME}{ops:List COp}{es:List ME}(ha:SE prog w G h₀ Φ d a) (hl:∀ e∈es,SE prog w G h₀ Φ d e):SE prog w G h₀ Φ d (.cmp a ops es):=fun S x env vars fz μ s Q A E h hA C hq=>by
 replace h:=inv_cmp h
 obtain⟨l,os,cs,p,rfl,h⟩:=h
 simp only[Bool.and_eq_true] at h
 show wpAny _ A (eval l env >>= fun v=>compareChain p v os (markedEach os cs (evalEach cs env))) _ _ s
 rw[markedEach_of_false _ _ _ (Je os h.2)]
 refine wpAny_bind (wpAny_mono (ha S _ env vars fz μ s _ A E h.1.1 hA C hq) (fun v s1 h₁=>?_) fun _ _ e=>e)
 obtain⟨mv,μa,hq1,rv,rc,gb⟩:=h₁
 exact wpAny_mono (cmp_list hl h.1.2 h.2 hA (C.grow gb rc) rv hq1) (fun v' s3 h₃=>h₃.trans gb) fun _ _ e=>e
theorem se_idx {a i:ME}(ha:SE prog w G h₀ Φ d a) (hi:SE prog w G h₀ Φ d i):SE prog w G h₀ Φ d (.idx a i):=fun S x env vars fz μ s Q A E h hA C hq=>by
 replace h:=inv_idx h
 obtain⟨v,y,p,rfl,h⟩:=h
 simp only[Bool.and_eq_true] at h
 refine Subscript_ (wpAny_mono (ha S _ env vars fz μ s _ A E h.1 hA C hq) (fun v s1 h₁=>?_) fun _ _ e=>e)
 obtain⟨mv,μa,hq1,rv,rc,gb⟩:=h₁
 have C₁:=C.grow gb rc
 refine wpAny_mono (hi S _ env vars fz μa s1 _ A E h.2 hA C₁ hq1) (fun u sd h₂=>?_) fun _ _ e=>e
 obtain⟨mu,μb,⟨z,hz,hq2⟩,ru,rd,gc⟩:=h₂
 exact op_item (rv.keepT (gc.keepT rc)) ru rd hz (sub_plain h.2) fun zv s' rz st=>PostV.trans (gb.trans gc) (Z2 hq2 rd rz st)
theorem isNone_eq {e:ME}(h:e.isNone=true):e=.cnone:=by
 cases e <;> first|rfl|exact(Bool.false_ne_true h).elim
theorem Iq {e:ME}(he:SE prog w G h₀ Φ d e) {S:Sc}{o:Option PySem.Expr}{env:Env}{vars:MVars}{fz:List Addr}{μ:MH}{s:Shared}{Q:MQ}{A:Around}{E:Value->Shared->Prop}
  (h:optOk o e.isNone (isE S e)=true) (hA:OkA d A) (C:Cur prog w h₀ A S env vars fz μ s) (hq:ev G Φ X0 e fz vars Q μ):wpAny (model prog w) A (evalPart o env) (PostV prog w fz μ s Q) E s:=by
 cases o with
 | none=>
  obtain rfl:=isNone_eq h
  exact wpAny_evalPart_none (Qd hq C.heap (by first|exact⟨_,rfl⟩|rfl) rfl rfl rfl)
 | some x=>exact wpAny_evalPart_some (he S x env vars fz μ s Q A E h hA C hq)
theorem se_slice {a lo hi st:ME}(ha:SE prog w G h₀ Φ d a) (hlo:SE prog w G h₀ Φ d lo) (hhi:SE prog w G h₀ Φ d hi) (hst:SE prog w G h₀ Φ d st):SE prog w G h₀ Φ d (.slice a lo hi st):=fun S x env vars fz μ s Q A E h hA C hq=>by
 replace h:=inv_slice h
 obtain⟨v,l,u,tt,sp,p,rfl,h⟩:=h
 simp only[Bool.and_eq_true] at h
 refine Subscript_ (wpAny_mono (ha S _ env vars fz μ s _ A E h.1.1.1 hA C hq) (fun v s1 h₁=>?_) fun _ _ e=>e)
 obtain⟨mv,μa,hq1,rv,rc,gb⟩:=h₁
 have C₁:=C.grow gb rc
 refine wpAny_Slice (wpAny_mono (Iq hlo h.1.1.2 hA C₁ hq1) (fun vl sd h₂=>?_) fun _ _ e=>e)
 obtain⟨ml,μb,hq2,rl,rd,gc⟩:=h₂
 have C₂:=C₁.grow gc rd
 refine wpAny_mono (Iq hhi h.1.2 hA C₂ hq2) (fun vh s3 h₃=>?_) fun _ _ e=>e
 obtain⟨mh,μ3,hq3,rh,re,g3⟩:=h₃
 have C₃:=C₂.grow g3 re
 refine wpAny_mono (Iq hst h.2 hA C₃ hq3) (fun vs s4 h₄=>?_) fun _ _ e=>e
 obtain⟨ms,μ4,hq4,rs,rf,g4⟩:=h₄
 have C₄:=C₃.grow g4 rf
 have kp:∀ b o,s4.heap.get? b=some o->(s4.heap.push { cls:=.type "slice",data:=.fields #[vl,vh,vs] }).get? b=some o:=fun b o e=>Heap.get?_push_of_some _ e
 have kt:=KeepsT.of_all kp
 refine wpAny_mono (op_slice (sl:=s4.heap.objs.size) (μc:=μ) (s0:=s) (s:={ s4 with heap:=s4.heap.push { cls:=.type "slice",data:=.fields #[vl,vh,vs] } }) (((rv.keepT (gc.keepT rc)).keepT (g3.keepT rd)).keepT (g4.keepT re) |>.keepT kt) (((rl.keepT (g3.keepT rd)).keepT (g4.keepT re)).keepT kt) ((rh.keepT (g4.keepT re)).keepT kt) (rs.keepT kt) (rf.ext kp) (C₄.fzin.ext kp) hq4 (Heap.get?_push_size _ rfl)) (fun v' s5 h₅=>PostV.trans (((gb.trans gc).trans g3).trans g4) (PostV.trans (.ext (tk:=s4.toks) kp) h₅)) fun _ _ e=>e
theorem D2 {l:List ME}(hl:∀ e∈l,SS prog w G h₀ Φ d e):SE prog w G h₀ Φ d (.list l):=fun S x env vars fz μ s Q A E h hA C hq=>by
 replace h:=inv_list h
 obtain⟨es,p,rfl,h⟩:=h
 refine wpAny_List_spliced ?_
 rw[X4 p h]
 refine wpAny_mono (Xd hl h hA C hq) (fun vs s1 h₁=>?_) fun _ _ e=>e
 obtain⟨ms,μa,⟨hf,hq1⟩,rv,rc,gb⟩:=h₁
 refine⟨by rw[rv.length];exact Qe hf,PostV.trans gb ?_⟩
 exact Nh (tk:=s1.toks) hq1 rc (C.grow gb rc).fzin (Ue rv)
theorem Dj {l:List ME}(hl:∀ e∈l,SS prog w G h₀ Φ d e):SE prog w G h₀ Φ d (.tuple l):=fun S x env vars fz μ s Q A E h hA C hq=>by
 replace h:=inv_tuple h
 obtain⟨es,kk,p,rfl,h⟩:=h
 refine wpAny_Tuple_spliced ?_
 rw[X4 p h]
 refine wpAny_mono (Xd hl h hA C hq) (fun vs s1 h₁=>?_) fun _ _ e=>e
 obtain⟨ms,μa,⟨hf,hq1⟩,rv,rc,gb⟩:=h₁
 refine⟨by rw[rv.length];exact Qe hf,PostV.trans gb ?_⟩
 exact Jd (tk:=s1.toks) hq1 rc (fun b o e=>Heap.get?_push_of_some _ e) (repTup_push rv)
theorem mods_lt (pg:PG prog w G Γ h₀ mg mb) {A:Around}{S:Sc}{env:Env}{vars:MVars}{fz:List Addr}{μ:MH}{s:Shared}(C:Cur prog w h₀ A S env vars fz μ s):sysModules<s.heap.objs.size:=by
 obtain⟨o,es,ep,ho,_⟩:=pg.g
 have:=Heap.lt_size (C.base _ _ ho).1
 exact Nat.lt_trans (by decide) this
theorem se_dict0 (pg:PG prog w G Γ h₀ mg mb):SE prog w G h₀ Φ d .dict0:=fun S x env vars fz μ s Q A E h hA C hq=>by
 replace h:=inv_dict0 h
 obtain⟨p,rfl⟩:=h
 have hm:=mods_lt pg C
 refine wpAny_Dict_empty (Nh (tk:=s.toks) hq C.heap C.fzin ?_)
 have ne:(s.heap.objs.size == sysModules)=false:=by
  rw[beq_eq_false_iff_ne];exact Nat.ne_of_gt hm
 exact⟨[],Heap.DictOf.new _,trivial,ne⟩
theorem st_not {a:ME}(ha:ST prog w G h₀ Φ d a):ST prog w G h₀ Φ d (.not a):=fun S x env vars fz μ s F A E h hA C hq=>by
 replace h:=inv_not h
 obtain⟨y,p,rfl,h⟩:=h
 show wpAny _ A (isTrue y env (eval y env) >>= fun b=>pure (!b)) _ _ s
 have q:(fun (x:MV) (μ':MH)=>∃ b,truthy μ' x=some b∧∃ b_1,truthy μ' (MV.bool !b)=some b_1∧F b_1 μ')=(fun x μ'=>∃ b,truthy μ' x=some b∧F (!b) μ'):=by
  funext v μ'
  exact propext ⟨fun ⟨b,h,t,e,f⟩=>⟨b,h,by cases e;exact f⟩,fun ⟨b,h,f⟩=>⟨b,h,_,rfl,f⟩⟩
 replace hq:ev G Φ X0 a fz vars (fun x μ'=>∃ b,truthy μ' x=some b∧∃ b_1,truthy μ' (MV.bool !b)=some b_1∧F b_1 μ') μ:=hq
 rw[q] at hq
 refine wpAny_bind (wpAny_mono (ha S y env vars fz μ s (fun b μ'=>F (!b) μ') A E h hA C hq) (fun v s1 h₁=>?_) fun _ _ e=>e)
 obtain⟨μa,qb,rc,gb⟩:=h₁
 exact wpAny_pure ⟨μa,qb,rc,gb⟩
theorem Ga (isOr:Bool):∀ {l:List ME}(hl:∀ e∈l,ST prog w G h₀ Φ d e) {S:Sc}{env:Env}{vars:MVars}{fz:List Addr}{xs:List PySem.Expr}{μ:MH}{s:Shared}{F:Bool->MH->Prop}{A:Around}{E:Value->Shared->Prop},isEs S l xs=true->OkA d A->Cur prog w h₀ A S env vars fz μ s->
  (if isOr then evOr G Φ X0 l fz vars (fun v μ'=>∃ b,truthy μ' v=some b∧F b μ') μ else evAnd G Φ X0 l fz vars (fun v μ'=>∃ b,truthy μ' v=some b∧F b μ') μ)->wpAny (model prog w) A (allTrue (if isOr then .Or else .And) xs env) (PostB prog w fz μ s F) E s
 | [],_,S,env,vars,fz,[],μ,s,F,A,E=>fun h hA C hq=>by cases isOr <;> exact False.elim hq
 | e::l,hl,S,env,vars,fz,x::xs,μ,s,F,A,E=>fun h hA C hq=>by
  have h':isE S e x=true∧isEs S l xs=true:=Qv h
  have key:ev G Φ X0 e fz vars (fun v μ'=>∃ b,truthy μ' v=some b∧if l=[]∨b=isOr then F b μ' else (if isOr then evOr G Φ X0 l fz vars (fun v μ'=>∃ b,truthy μ' v=some b∧F b μ') μ' else evAnd G Φ X0 l fz vars (fun v μ'=>∃ b,truthy μ' v=some b∧F b μ') μ')) μ:=by
   cases l with
   | nil=>
    have hq':ev G Φ X0 e fz vars (fun v μ'=>∃ b,truthy μ' v=some b∧F b μ') μ:=by cases isOr <;> exact hq
    simpa using hq'
   | cons e' l=>
    cases isOr
    ·simp only[Bool.false_eq_true,if_false] at hq ⊢
     have q:(fun (v:MV) (μ':MH)=>∃ b,truthy μ' v=some b∧if e'::l=[]∨b=false then F b μ' else evAnd G Φ X0 (e'::l) fz vars (fun v μ'=>∃ b,truthy μ' v=some b∧F b μ') μ') =
       (fun v μ'=>∃ b,truthy μ' v=some b∧if b=true then evAnd G Φ X0 (e'::l) fz vars (fun v μ'=>∃ b,truthy μ' v=some b∧F b μ') μ' else ∃ b,truthy μ' v=some b∧F b μ'):=by
      funext v μ'
      apply propext
      constructor
      ·rintro⟨b,hb,hh⟩
       refine⟨b,hb,?_⟩
       cases b
       ·rw[if_pos (.inr rfl)] at hh;rw[if_neg (by exact Bool.false_ne_true)];exact⟨_,hb,hh⟩
       ·simpa using hh
      ·rintro⟨b,hb,hh⟩
       refine⟨b,hb,?_⟩
       cases b
       ·rw[if_neg (by exact Bool.false_ne_true)] at hh;rw[if_pos (.inr rfl)];obtain⟨b',hb',hh⟩:=hh;rw[hb] at hb';cases hb';exact hh
       ·simpa using hh
     rw[q];exact hq
    ·simp only[if_true] at hq ⊢
     have q:(fun (v:MV) (μ':MH)=>∃ b,truthy μ' v=some b∧if e'::l=[]∨b=true then F b μ' else evOr G Φ X0 (e'::l) fz vars (fun v μ'=>∃ b,truthy μ' v=some b∧F b μ') μ') =
       (fun v μ'=>∃ b,truthy μ' v=some b∧if b=true then (∃ b,truthy μ' v=some b∧F b μ') else evOr G Φ X0 (e'::l) fz vars (fun v μ'=>∃ b,truthy μ' v=some b∧F b μ') μ'):=by
      funext v μ'
      apply propext
      constructor
      ·rintro⟨b,hb,hh⟩
       refine⟨b,hb,?_⟩
       cases b
       ·simpa using hh
       ·rw[if_pos (.inr rfl)] at hh;rw[if_pos rfl];exact⟨_,hb,hh⟩
      ·rintro⟨b,hb,hh⟩
       refine⟨b,hb,?_⟩
       cases b
       ·simpa using hh
       ·rw[if_pos rfl] at hh;rw[if_pos (.inr rfl)];obtain⟨b',hb',hh⟩:=hh;rw[hb] at hb';cases hb';exact hh
     rw[q];exact hq
  show wpAny _ A (isTrue x env (eval x env) >>= _) _ _ s
  refine wpAny_bind (wpAny_mono (hl e (.head _) S x env vars fz μ s (fun b μ'=>if l=[]∨b=isOr then F b μ' else (if isOr then evOr G Φ X0 l fz vars (fun v μ'=>∃ b,truthy μ' v=some b∧F b μ') μ' else evAnd G Φ X0 l fz vars (fun v μ'=>∃ b,truthy μ' v=some b∧F b μ') μ')) A E h'.1 hA C key) (fun b s1 h₁=>?_) fun _ _ e=>e)
  obtain⟨μa,hq1,rc,gb⟩:=h₁
  by_cases hbo:b=isOr
  ·subst hbo
   rw[if_pos (.inr rfl)] at hq1
   cases b <;> exact wpAny_pure ⟨μa,hq1,rc,gb⟩
  ·by_cases hn:l=[]
   ·rw[if_pos (.inl hn)] at hq1
    subst hn
    cases xs with
    | cons _ _=>exact(Bool.false_ne_true h'.2).elim
    | nil=>
     cases b <;> cases isOr <;> first
      | exact absurd rfl hbo
      | exact wpAny_pure ⟨μa,hq1,rc,gb⟩
   ·rw[if_neg (by simp[hn,hbo])] at hq1
    have rest:=Ga isOr (fun e'' he=>hl e'' (.tail _ he)) (E:=E) h'.2 hA (C.grow gb rc) hq1
    cases b <;> cases isOr <;> first
     | exact absurd rfl hbo
     | exact wpAny_mono rest (fun v' s3 h₃=>h₃.trans gb) fun _ _ e=>e
 | [],_,S,env,vars,fz,_::_,μ,s,F,A,E=>fun h hA C hq=>(Bool.false_ne_true h).elim
 | _::_,_,S,env,vars,fz,[],μ,s,F,A,E=>fun h hA C hq=>(Bool.false_ne_true h).elim
theorem st_and {l:List ME}(hl:∀ e∈l,ST prog w G h₀ Φ d e):ST prog w G h₀ Φ d (.and l):=fun S x env vars fz μ s F A E h hA C hq=>by
 replace h:=inv_and h
 obtain⟨xs,p,rfl,h⟩:=h
 exact Ga false hl h hA C hq
theorem st_or {l:List ME}(hl:∀ e∈l,ST prog w G h₀ Φ d e):ST prog w G h₀ Φ d (.or l):=fun S x env vars fz μ s F A E h hA C hq=>by
 replace h:=inv_or h
 obtain⟨xs,p,rfl,h⟩:=h
 exact Ga true hl h hA C hq
theorem H5:∀ {es:List ME}(hl:∀ e∈es,SE prog w G h₀ Φ d e) {S:Sc}{env:Env}{vars:MVars}{fz:List Addr}{ops:List COp}{os:List CmpOp}{xs:List PySem.Expr}{a:MV}{va:Value}{μ:MH}{s:Shared}{F:Bool->MH->Prop}{A:Around}{E:Value->Shared->Prop}{pos:Pos},copsIs ops os=true->isEs S es xs=true->OkA d A->Cur prog w h₀ A S env vars fz μ s->
  RepV s.heap a va->evCmp G Φ X0 es ops a fz vars (fun v μ'=>∃ b,truthy μ' v=some b∧F b μ') μ->wpAny (model prog w) A (testChain pos va os (evalEach xs env)) (PostB prog w fz μ s F) E s
 | e::es,hl,S,env,vars,fz,op::ops,o::os,x::xs,a,va,μ,s,F,A,E,pos=>fun ho h hA C ra hq=>by
  replace ho:=I8 ho
  replace h:=Qv h
  have step:=hl e (.head _) S x env vars fz μ s _ A E h.1 hA C hq
  cases es with
  | nil=>
   cases xs with
   | cons _ _=>exact(Bool.false_ne_true h.2).elim
   | nil=>
   cases ops with
   | cons _ _=>
    cases os with
    | nil=>exact(Bool.false_ne_true ho.2).elim
    | cons o' os=>
     show wpAny _ A (holding [va] (eval x env) >>= _) _ _ s
     refine wpAny_bind (wpAny_holding (wpAny_mono step (fun v s1 h₁=>?_) fun _ _ e=>e))
     obtain⟨_,_,⟨b,_,f⟩,_⟩:=h₁
     exact f.elim
   | nil=>
    cases os with
    | cons _ _=>exact(Bool.false_ne_true ho.2).elim
    | nil=>
     refine test_last (wpAny_mono step (fun v s1 h₁=>?_) fun _ _ e=>e)
     obtain⟨mv,μa,⟨b,hb,b',hb',hq1⟩,rv,rc,gb⟩:=h₁
     cases hb'
     exact R1 ho.1 (ra.keepT (gb.keepT C.heap)) rv rc hA hb fun s' st=>wpAny_truthy_bool (PostB.trans (gb.trans st.grow) ⟨μa,hq1,by rw[st.1];exact rc,.refl⟩)
  | cons e' es=>
   cases xs with
   | nil=>exact(Bool.false_ne_true h.2).elim
   | cons x' xs=>
   cases ops with
   | nil=>
    cases os with
    | cons _ _=>exact(Bool.false_ne_true ho.2).elim
    | nil=>
     show wpAny _ A (holding [va] (eval x env) >>= _) _ _ s
     refine wpAny_bind (wpAny_holding (wpAny_mono step (fun v s1 h₁=>?_) fun _ _ e=>e))
     obtain⟨_,_,⟨b,_,f⟩,_⟩:=h₁
     exact f.elim
   | cons op' ops=>
    cases os with
    | nil=>exact(Bool.false_ne_true ho.2).elim
    | cons o' os=>
     refine test_link (wpAny_mono step (fun v s1 h₁=>?_) fun _ _ e=>e)
     obtain⟨mv,μa,⟨b,hb,hq1⟩,rv,rc,gb⟩:=h₁
     refine R1 ho.1 (ra.keepT (gb.keepT C.heap)) rv rc hA hb fun s' st=>wpAny_truthy_bool ?_
     have rd:RepH prog w μa s'.heap:=by rw[st.1];exact rc
     cases b with
     | false=>
      obtain⟨b',hb',hq1⟩:=hq1
      cases hb'
      exact PostB.trans (gb.trans st.grow) ⟨μa,hq1,rd,.refl⟩
     | true=>
      refine wpAny_mono (H5 (fun e'' he=>hl e'' (.tail _ he)) ho.2 h.2 hA (C.grow (gb.trans st.grow) rd) (by rw[st.1];exact rv) hq1) (fun v' s3 h₃=>h₃.trans (gb.trans st.grow)) fun _ _ e=>e
 | [],_,_,_,_,_,_,_,_,_,_,_,_,_,_,_,_=>fun _ _ _ _ _ hq=>False.elim hq
 | _::_,_,_,_,_,_,[],_,_,_,_,_,_,_,_,_,_=>fun _ _ _ _ _ hq=>False.elim hq
 | _::_,_,_,_,_,_,_::_,[],_,_,_,_,_,_,_,_,_=>fun ho _ _ _ _ hq=>by exact(Bool.false_ne_true ho).elim
 | _::_,_,_,_,_,_,_::_,_::_,[],_,_,_,_,_,_,_,_=>fun _ h _ _ _ hq=>(Bool.false_ne_true h).elim
theorem st_cmp {a:ME}{ops:List COp}{es:List ME}(ha:SE prog w G h₀ Φ d a) (hl:∀ e∈es,SE prog w G h₀ Φ d e):ST prog w G h₀ Φ d (.cmp a ops es):=fun S x env vars fz μ s Q A E h hA C hq=>by
 replace h:=inv_cmp h
 obtain⟨l,os,cs,p,rfl,h⟩:=h
 simp only[Bool.and_eq_true] at h
 show wpAny _ A (eval l env >>= fun v=>testChain p v os (markedEach os cs (evalEach cs env))) _ _ s
 rw[markedEach_of_false _ _ _ (Je os h.2)]
 refine wpAny_bind (wpAny_mono (ha S _ env vars fz μ s _ A E h.1.1 hA C hq) (fun v s1 h₁=>?_) fun _ _ e=>e)
 obtain⟨mv,μa,hq1,rv,rc,gb⟩:=h₁
 exact wpAny_mono (H5 hl h.1.2 h.2 hA (C.grow gb rc) rv hq1) (fun v' s3 h₃=>h₃.trans gb) fun _ _ e=>e
end
end Mine
end
section
namespace Mine
open PySem PySem.Calls PyProof.Rows PySem.W
section
variable {prog:Program}{w:World}{G:String->Option MV}{Γ:String->Option MFun}{h₀:Heap}{mg mb:Str->Option Value}{Φ:CallSpec}{d:Dp}
theorem Nf {h:Heap}{m:Str->Option Value}{f:String}(n:(!isMeth f)=true):res h m f=m (Str.ofString f):=by
 unfold isMeth at n
 unfold res
 cases q:methTab.lookup f with
 | none=>rfl
 | some x=>rw[q] at n;cases n
theorem se_call (hc:SC prog w h₀ Φ d) {f:String}{l:List ME}(hl:∀ e∈l,SS prog w G h₀ Φ d e):SE prog w G h₀ Φ d (.call f l):=fun S x env vars fz μ s Q A E h hA C hq=>by
 replace h:=inv_call h
 obtain⟨g,np,as,p,rfl,hg,h⟩:=h
 simp only[Bool.and_eq_true,decide_eq_true_eq,List.contains_iff_mem] at h
 obtain⟨⟨⟨hf,hme⟩,ha⟩,hn⟩:=h
 obtain⟨fa,m,hm,hmf',o,fd,ho,hfd⟩:=C.known f hf
 have hmf:=(Nf hme).symm.trans hmf'
 obtain⟨rfl,hk,hd⟩:=Np hg
 refine wpAny_Call_ofName (Name_function_global C.fr.kind (by unfold Env.kindOf;rw[C.fr.names];exact hk) (loadGlobal_global (mg:=m) ?_ hmf ?_) hd)
 ·rw[C.fr.glob]
  exact hm.keeps fun b o e=>(C.base b o e).1
 rw[X4 p ha]
 show wpAny _ A (callWith p (.ref fa) [] _ []) _ _ s
 refine callWith_function (o:=o) (fd:=fd) (Qj (Qg as) (wpAny_mono (Xd hl ha hA C hq) (fun vs s1 h₁=>?_) fun _ _ e=>e))
 obtain⟨ms,μa,hq1,rv,rc,gb⟩:=h₁
 have C₁:=C.grow gb rc
 refine⟨⟨(C₁.base _ _ ho).1,hfd⟩,?_⟩
 refine wpAny_mono (hc f ms vs fz μa s1 Q A E fa hA.toC C₁.base rc C₁.fzin C₁.frs rv ⟨m,hm,hmf',o,fd,ho,hfd⟩ hq1) (fun v' s3 h₃=>h₃.trans gb) fun _ _ e=>e
theorem se_isinst (pg:PG prog w G Γ h₀ mg mb) {a:ME}{t:TY}(ha:SS prog w G h₀ Φ d a):SE prog w G h₀ Φ d (.isinst a t):=fun S x env vars fz μ s Q A E h hA C hq=>by
 replace h:=inv_isinst h
 obtain⟨g,np,y,ty,tp,p,rfl,h1,h2,h3⟩:=h
 refine wpAny_Call_ofName (Y8 pg C h1 (v:=.builtin "isinstance") (by decide) ?_)
 show wpAny _ A (callWith p (.builtin "isinstance") [] (backTo p (starEach [y,.Name ty tp] env)) []) _ _ s
 have e1:backTo p (starEach [y,.Name ty tp] env)=[(false,eval y env),(false,eval (.Name ty tp) env)]:=by
  rw[Pl h3];rfl
 rw[e1]
 refine callWith_builtin rfl (Qj rfl ?_)
 refine Calls.spliced_cons (wpAny_mono (ha.1 S y env vars fz μ s _ A E h3 hA C hq) (fun v s1 h₁=>?_) fun _ _ e=>e)
 obtain⟨mv,μa,⟨b,hb,hq1⟩,rv,rc,gb⟩:=h₁
 refine Calls.spliced_cons (Y8 pg (C.grow gb rc) h2 (v:=.type (tyName t)) (by cases t <;> decide) ?_)
 refine Calls.spliced_nil ?_
 exact op_isinst rv rc hb fun s' st=>PostV.trans gb (Z2 hq1 rc (by first|exact⟨_,rfl⟩|rfl) st)
theorem Bt {ov:PySem.Expr}(h:notCall0 ov=true) (attr:Str) (env:Env) (whole:Sem Value):attributeBase ov attr env whole=whole:=by
 cases ov <;> try rfl
 rename_i f as kw p
 cases f <;> try rfl
 cases as <;> try rfl
 cases kw <;> first|rfl|exact(Bool.false_ne_true h).elim
theorem Ir {m:MM}{o:ME}{l:List ME}(ho:SE prog w G h₀ Φ d o) (hl:∀ e∈l,SS prog w G h₀ Φ d e):SE prog w G h₀ Φ d (.meth m o l):=fun S x env vars fz μ s Q A E h hA C hq=>by
 replace h:=inv_meth h
 obtain⟨ov,ap,as,p,rfl,hline,hc0,hov,has,hlen⟩:=h
 refine wpAny_Call_method_late ?_ ?_ (by simpa using hline) (X4 p has) (wpAny_mono (ho S ov env vars fz μ s _ A E hov hA C hq) (fun v s1 h₁=>?_) fun _ _ e=>e)
 ·exact Bt hc0 _ _ _
 ·rw[X4 p has]
  have:as.length=l.length:=Vp has
  simp only[List.all_map,Bool.and_eq_true,decide_eq_true_eq]
  refine⟨⟨by simp,rfl⟩,?_⟩
  simp only[List.length_nil,List.isEmpty_nil,if_true];exact ar71 hlen this
 ·obtain⟨mv,μa,⟨hk,hq1⟩,rv,rc,gb⟩:=h₁
  obtain⟨T,pa,slot,hty,hT,hd⟩:=meth_ok rv rc hk
  refine⟨T,methId m,pa,slot,hty,hT,hd,?_⟩
  refine callWith_builtin (Qg as) (Qj (Qg as) (wpAny_mono (Xd hl has hA (C.grow gb rc) hq1) (fun vs sd h₂=>?_) fun _ _ e=>e))
  obtain⟨ms,μb,hq2,rs,rd,gc⟩:=h₂
  exact wpAny_mono (op_meth hA (rv.keepT (gc.keepT rc)) rs rd ((C.grow gb rc).grow gc rd).fzin hq2) (fun v' s3 h₃=>h₃.trans (gb.trans gc)) fun _ _ e=>e
noncomputable def biVal (f:BI):Value:=match f with
 | .len=>.builtin "len" | .min2=>.builtin "min" | .max2=>.builtin "max" | .max1=>.builtin "max" | .sorted=>.builtin "sorted" | .sortedR=>.builtin "sorted" | .sortedSet=>.builtin "sorted"
 | .sortedSetS=>.builtin "sorted"
 | .list=>.type "list" | .dict=>.type "dict" | .int=>.type "int"
theorem op_bi {f:BI}{ms:List MV}{vs:List Value}{fz:List Addr}{μ:MH}{s:Shared}{Q:MQ}{A:Around}{E:Value->Shared->Prop}(hp:plainBI f=true) (hA:A.handled=none) (r:RepH prog w μ s.heap) (fi:FzIn fz s.heap) (hv:RepVs s.heap ms vs) (hm:sysModules<s.heap.objs.size) (h:biM fz f ms Q μ):
  wpAny (model prog w) A (call (biVal f) vs) (PostV prog w fz μ s Q) E s:=by
 cases f with
 | len=>
  replace h:=Z1 h;obtain⟨m,rfl,h⟩:=h
  replace hv:=hv.one;obtain⟨v,rfl,hv⟩:=hv
  exact op_len hv r h
 | min2=>
  replace h:=a2_inv h;obtain⟨m,n,rfl,h⟩:=h
  replace h:=J8 h;obtain⟨x,y,rfl,rfl,h⟩:=h
  replace hv:=hv.two;obtain⟨v,u,rfl,⟨t,rfl⟩,⟨t',rfl⟩⟩:=hv
  exact op_min2 hA r h
 | max2=>
  replace h:=a2_inv h;obtain⟨m,n,rfl,h⟩:=h
  replace h:=J8 h;obtain⟨x,y,rfl,rfl,h⟩:=h
  replace hv:=hv.two;obtain⟨v,u,rfl,⟨t,rfl⟩,⟨t',rfl⟩⟩:=hv
  exact op_max2 hA r h
 | max1=>
  replace h:=Z1 h;obtain⟨mm,rfl,l,ns,m,hs,hi,hn,hf,hmm,h⟩:=h
  replace hv:=hv.one;obtain⟨v,rfl,hv⟩:=hv
  exact op_max (m:=m) hA hv r hi hn (No hs) hmm h
 | sorted=>
  replace h:=Z1 h;obtain⟨mm,rfl,l,ns,hs,hi,hn,hf,h⟩:=h
  replace hv:=hv.one;obtain⟨v,rfl,hv⟩:=hv
  exact(Hf (b:=false) r fi hv hi hn hf hA (No hs) h).1 rfl
 | list=>
  replace h:=Z1 h;obtain⟨mm,rfl,l,hs,hi,hf,h⟩:=h
  replace hv:=hv.one;obtain⟨v,rfl,hv⟩:=hv
  exact op_list hA hv r fi hi hf (No hs) h
 | dict=>
  replace h:=Z1 h;obtain⟨mm,rfl,h⟩:=h
  replace hv:=hv.one;obtain⟨v,rfl,hv⟩:=hv
  replace h:=X5 h;obtain⟨a,rfl,h⟩:=h
  obtain rfl:v=.ref a:=hv
  cases q:μ a with
  | none=>rw[q] at h;exact False.elim h
  | some mo=>
   rw[q] at h
   cases mo with
   | list l=>obtain⟨ps,e,hf,h⟩:=h;exact Gi r fi q e hf hA hm h
   | idict l=>exact Iz r fi q h.1 hm h.2
   | _=>exact False.elim h
 | int=>
  replace h:=Z1 h;obtain⟨mm,rfl,h⟩:=h
  replace h:=boolV_inv h;obtain⟨b,rfl,h⟩:=h
  replace hv:=hv.one;obtain⟨v,rfl,hv⟩:=hv
  obtain rfl:v=.bool b:=hv
  exact call_int_bool (Qd h r ⟨_,rfl⟩ rfl rfl rfl)
 | sortedR=>cases hp
 | sortedSet=>cases hp
 | sortedSetS=>cases hp
theorem biVal_mem (f:BI):(biName f,biVal f)∈biTab:=by cases f <;> decide
theorem C0 (pg:PG prog w G Γ h₀ mg mb) (hd:d.h=true) {f:BI}{l:List ME}(hl:∀ e∈l,SS prog w G h₀ Φ d e) (hp:plainBI f=true):SE prog w G h₀ Φ d (.bi f l):=fun S x env vars fz μ s Q A E h hA C hq=>by
 obtain⟨g,np,as,p,rfl,hg,has⟩:=inv_bi hp h
 refine wpAny_Call_ofName (Y8 pg C hg (biVal_mem f) ?_)
 rw[X4 p has]
 have fin:wpAny (model prog w) A (spliced (as.map fun x=>(false,eval x env))) (fun vs s'=>wpAny (model prog w) A (call (biVal f) vs) (PostV prog w fz μ s Q) E s') E s:=by
  refine wpAny_mono (Xd hl has hA C hq) (fun vs s1 h₁=>?_) fun _ _ e=>e
  obtain⟨ms,μa,hq1,rv,rc,gb⟩:=h₁
  have C₁:=C.grow gb rc
  exact wpAny_mono (op_bi hp (hA.hand hd) rc C₁.fzin rv (mods_lt pg C₁) hq1) (fun v' s3 h₃=>h₃.trans gb) fun _ _ e=>e
 cases f <;> first
  | exact(Bool.false_ne_true hp).elim
  | exact callWith_builtin (Qg as) (Qj (Qg as) fin)
  | exact PySem.callWith_type (Qg as) (Qj (Qg as) fin)
theorem se_sortedR (pg:PG prog w G Γ h₀ mg mb) (hd:d.h=true) {l:List ME}(hl:∀ e∈l,SS prog w G h₀ Φ d e):SE prog w G h₀ Φ d (.bi .sortedR l):=fun S x env vars fz μ s Q A E h hA C hq=>by
 replace h:=inv_sortedR h
 obtain⟨g,np,as,k2,p1,kp,p,rfl,hg,has⟩:=h
 refine wpAny_Call_ofName (Y8 pg C hg (v:=.builtin "sorted") (by decide) ?_)
 cases as with
 | nil=>
  cases l with
  | cons _ _=>exact(Bool.false_ne_true has).elim
  | nil=>exact False.elim hq
 | cons a as=>
 have ha:isE S (l.headD .cnone) a=true:=by cases l with
  | nil=>exact(Bool.false_ne_true has).elim
  | cons e l=>exact(and2 has).1
 refine callWith_kw ?_ (by rw[Pl ha];rfl) (by rw[X4 p has];exact Qg _) rfl rfl
 rw[X4 p has]
 refine wpAny_mono (Xd hl has hA C hq) (fun vs s1 h₁=>?_) fun _ _ e=>e
 obtain⟨ms,μa,hq1,rv,rc,gb⟩:=h₁
 have C₁:=C.grow gb rc
 refine evalAll_cons (wpAny_bind (wpAny_pure (wpAny_bind (wpAny_standAt (wpAny_pure (evalAll_nil ?_))))))
 replace hq1:=Z1 hq1;obtain⟨v,rfl,l',ns,hs,hi,hn,hf,hq1⟩:=hq1
 obtain⟨u,hvs,rw'⟩:=rv.one;subst hvs;replace rv:=rw'
 exact wpAny_mono (Hf (b:=true) rc C₁.fzin rv hi hn hf (hA.hand hd) (No hs) (by simpa using hq1)).2 (fun v' s3 h₃=>h₃.trans gb) fun _ _ e=>e
theorem Ip (pg:PG prog w G Γ h₀ mg mb) (hd:d.h=true) {l:List ME}(hl:∀ e∈l,SS prog w G h₀ Φ d e):SE prog w G h₀ Φ d (.bi .sortedSet l):=fun S x env vars fz μ s Q A E h hA C hq=>by
 replace h:=O6 h
 obtain⟨g,np,g2,np2,as,p2,p,rfl,hg,hg2,has⟩:=h
 refine wpAny_Call_ofName (Y8 pg C hg (v:=.builtin "sorted") (by decide) ?_)
 refine callWith_builtin rfl (Qj rfl ?_)
 refine Calls.spliced_cons (wpAny_Call_ofName (Y8 pg C hg2 (v:=.type "set") (by decide) ?_))
 rw[X4 p2 has]
 refine PySem.callWith_type (Qg as) (Qj (Qg as) (wpAny_mono (Xd hl has hA C hq) (fun vs s1 h₁=>?_) fun _ _ e=>e))
 obtain⟨ms,μa,hq1,rv,rc,gb⟩:=h₁
 have C₁:=C.grow gb rc
 replace hq1:=Z1 hq1;obtain⟨v,rfl,hq1⟩:=hq1
 replace hq1:=X5 hq1;obtain⟨a,rfl,l',ns,hl',hi,hn,hq1⟩:=hq1
 obtain⟨u,hvs,rw'⟩:=rv.one;subst hvs
 obtain rfl:u=.ref a:=rw'
 exact wpAny_mono (Ix rc C₁.fzin hl' hi hn (hA.hand hd) hq1) (fun y sd h₂=>Calls.spliced_nil (wpAny_mono h₂ (fun v' s3 h₃=>h₃.trans gb) fun _ _ e=>e)) fun _ _ e=>e
theorem Ge (pg:PG prog w G Γ h₀ mg mb) (hd:d.h=true) {l:List ME}(hl:∀ e∈l,SS prog w G h₀ Φ d e):SE prog w G h₀ Φ d (.bi .sortedSetS l):=fun S x env vars fz μ s Q A E h hA C hq=>by
 replace h:=O6 (l:=l) (show isE S (.bi .sortedSet l) x=true from h)
 obtain⟨g,np,g2,np2,as,p2,p,rfl,hg,hg2,has⟩:=h
 refine wpAny_Call_ofName (Y8 pg C hg (v:=.builtin "sorted") (by decide) ?_)
 refine callWith_builtin rfl (Qj rfl ?_)
 refine Calls.spliced_cons (wpAny_Call_ofName (Y8 pg C hg2 (v:=.type "set") (by decide) ?_))
 rw[X4 p2 has]
 refine PySem.callWith_type (Qg as) (Qj (Qg as) (wpAny_mono (Xd hl has hA C hq) (fun vs s1 h₁=>?_) fun _ _ e=>e))
 obtain⟨ms,μa,hq1,rv,rc,gb⟩:=h₁
 have C₁:=C.grow gb rc
 replace hq1:=Z1 hq1;obtain⟨v,rfl,hq1⟩:=hq1
 replace hq1:=X5 hq1;obtain⟨a,rfl,l',ns,hl',hi,hn,hq1⟩:=hq1
 obtain⟨u,hvs,rw'⟩:=rv.one;subst hvs
 obtain rfl:u=.ref a:=rw'
 exact wpAny_mono (Gg rc C₁.fzin hl' hi hn (hA.hand hd) hq1) (fun y sd h₂=>Calls.spliced_nil (wpAny_mono h₂ (fun v' s3 h₃=>h₃.trans gb) fun _ _ e=>e)) fun _ _ e=>e
end
end Mine
end
section
namespace Mine
open PySem PySem.Calls PyProof.Rows PySem.W
structure MWalk (prog:Program) (w:World) (A:Around) (I:Addr) (fp wr:List Addr) (all:List MV) (St:Nat->Heap->Prop):Prop where
 sub:∀ b∈wr,b∈fp
 alive:∀ i h,St i h->∀ b∈wr,∃ o,h.get? b=some o∧Firm o
 frame:∀ i h h',St i h->KeepsT h h'->(∀ b∈fp,∀ o,h.get? b=some o->h'.get? b=some o)->St i h'
 item:∀ i m (s:Shared) (Q:Option Value->Shared->Prop) (E:Value->Shared->Prop),all[i]?=some m->St i s.heap->
  (∀ v h' tk,RepV h' m v->St (i+1) h'->KeepsT s.heap h'->(∀ b o,b∉wr->s.heap.get? b=some o->h'.get? b=some o)->Q (some v) { s with heap:=h',toks:=tk })->wpAny (model prog w) A (pyNext (.ref I)) Q E s
 done:∀ (s:Shared) (Q:Option Value->Shared->Prop) (E:Value->Shared->Prop),St all.length s.heap->
  (∀ h' tk,KeepsT s.heap h'->(∀ b o,b∉wr->s.heap.get? b=some o->h'.get? b=some o)->Q none { s with heap:=h',toks:=tk })->wpAny (model prog w) A (pyNext (.ref I)) Q E s
 self:∀ i (s:Shared) (Q:Value->Shared->Prop) (E:Value->Shared->Prop),St i s.heap->Q (.ref I) s->wpAny (model prog w) A (pyIter (.ref I)) Q E s
 go:∀ target i v (s:Shared) (Q:Unit->Shared->Prop) (E:Value->Shared->Prop),St (i+1) s.heap->Q () s->wpAny (model prog w) A (letOwnedTupleGo target (.ref I) v) Q E s
noncomputable def iterCls:List String:=["list_iterator", "tuple_iterator", "dict_keyiterator", "str_ascii_iterator", "str_iterator", "range_iterator", "list_reverseiterator"]
noncomputable def ItObj (h:Heap) (I:Addr):Prop:=∃ o T,h.get? I=some o∧o.cls=.type T∧T∈iterCls∧∃ vs,o.data=.fields vs
section
variable {prog:Program}{w:World}{A:Around}
theorem ItObj.notImm {h:Heap}{I:Addr}(x:ItObj h I):∀ o,h.get? I=some o->¬ ImmCls o:=by
 obtain⟨o,T,ho,hc,hT,_⟩:=x
 intro o' ho'
 rw[ho] at ho';cases ho'
 have k:∀ T∈iterCls,T ≠ "tuple"∧T ≠ "dict_keys":=by decide
 exact F2 hc (k T hT).1 (k T hT).2
theorem firm_it {o:Obj}{T:String}{vs:Array Value}(hc:o.cls=.type T) (hT:T∈iterCls) (hd:o.data=.fields vs):Firm o:=by
 refine⟨fun es ep q=>(by rw[hd] at q;cases q),fun q=>?_⟩
 rw[hc] at q
 cases q
 exact absurd hT (by decide)
theorem ItObj.go {s:Shared}{I:Addr}(x:ItObj s.heap I) {target:PySem.Expr}{v:Value}{Q:Unit->Shared->Prop}{E:Value->Shared->Prop}(h:Q () s):wpAny (model prog w) A (letOwnedTupleGo target (.ref I) v) Q E s:=by
 obtain⟨o,T,ho,hc,hT,vs,hd⟩:=x
 have hn:(["enumerate", "zip", "dict_itemiterator", "dict_reverseitemiterator", "odict_iterator", "itertools.zip_longest", "itertools.pairwise"].contains T)=false:=by
  have k:∀ T∈iterCls,(["enumerate", "zip", "dict_itemiterator", "dict_reverseitemiterator", "odict_iterator", "itertools.zip_longest", "itertools.pairwise"].contains T)=false:=by decide
  exact k T hT
 cases target <;> first
  | exact wpAny_pure h
  | (cases v <;> first
    | exact wpAny_pure h
    | (refine wpAny_bind (wpAny_load ho ?_)
       rw[hc,hd]
       simp only[hn,Bool.false_and]
       exact wpAny_pure h))
theorem MWalk.of {I:Addr}{fp:List Addr}{n:Nat}{P:Nat->Value->Prop}{St:Nat->Heap->Prop}{hc:Heap}{all:List MV}(W:Walks prog w A I fp [I] n P St) (hn:n=all.length) (ni:∀ i h,St i h->ItObj h I)
  (hP:∀ i v h',P i v->KeepsT hc h'->∃ m,all[i]?=some m∧RepV h' m v):MWalk prog w A I fp [I] all (fun i h=>St i h∧KeepsT hc h) where
 sub:=W.sub
 alive:=fun i h st b hb=>by cases List.mem_singleton.mp hb;obtain⟨o,T,ho,hc,hT,vs,hd⟩:=ni i h st.1;exact⟨o,ho,firm_it hc hT hd⟩
 frame:=fun i h h' st k hk=>⟨W.frame i h h' st.1 hk,fun b o e hi=>k b o (st.2 b o e hi) hi⟩
 item:=fun i m s Q E hm st hQ=>by
  have hi:i<n:=by rw[hn];exact(List.getElem?_eq_some_iff.mp hm).1
  refine W.item i s Q E hi st.1 fun v h' tk hv st' hk=>?_
  have kt:KeepsT s.heap h':=fun b o e hi=>hk b o (fun q=>by cases List.mem_singleton.mp q;exact(ni i _ st.1).notImm o e hi) e
  have kc:KeepsT hc h':=fun b o e hi=>kt b o (st.2 b o e hi) hi
  obtain⟨m',hm',r⟩:=hP i v h' hv kc
  rw[hm] at hm';cases hm'
  exact hQ v h' tk r ⟨st',kc⟩ kt hk
 done:=fun s Q E st hQ=>by
  refine W.done s Q E (hn▸st.1) fun h' tk hk=>?_
  have kt:KeepsT s.heap h':=fun b o e hi=>hk b o (fun q=>by cases List.mem_singleton.mp q;exact(ni _ _ st.1).notImm o e hi) e
  exact hQ h' tk kt hk
 self:=fun i s Q E st hQ=>W.self i s Q E st.1 hQ
 go:=fun target i v s Q E st hQ=>(ni _ _ st.1).go hQ
end
section
variable {prog:Program}{w:World}{A:Around}{E:Value->Shared->Prop}{fz:List Addr}{μ:MH}{s:Shared}
inductive SrcAt (prog:Program) (w:World) (A:Around) (μ:MH) (held:List Addr) (all:List MV) (s0:Shared) (it:Value) (s:Shared):Prop
 | mk (I:Addr) (fp wr:List Addr) (St:Nat->Heap->Prop) (e:it=.ref I) (W:MWalk prog w A I fp wr all St) (st:St 0 s.heap) (hfp:∀ b∈fp,(μ b=none∨b∈held)∧∃ o,s.heap.get? b=some o∧(∀ v,o.data≠.cell v)∧(b∈held∨Firm o)) (hwr:∀ b∈wr,s0.heap.get? b=none∧μ b=none)
  (keep:∀ b o,s0.heap.get? b=some o->s.heap.get? b=some o) (os:s.os=s0.os) (gens:s.gens=s0.gens)
theorem Ja {oI:Obj}{fp:List Addr}{n:Nat}{P:Nat->Value->Prop}{St:Nat->Heap->Prop}{held:List Addr}{all:List MV}(r:RepH prog w μ s.heap)
  (W:Walks prog w A s.heap.objs.size fp [s.heap.objs.size] n P St) (hn:n=all.length) (hst:St 0 (s.heap.push oI)) (ni:∀ i h,St i h->ItObj h s.heap.objs.size)
  (hP:∀ i v h',P i v->KeepsT s.heap h'->∃ m,all[i]?=some m∧RepV h' m v) (hfp:∀ b∈fp,b=s.heap.objs.size∨((μ b=none∨b∈held)∧∃ o,s.heap.get? b=some o∧(∀ v,o.data≠.cell v)∧(b∈held∨Firm o))):
  SrcAt prog w A μ held all s (.ref s.heap.objs.size) { s with heap:=s.heap.push oI }:=by
 have kp:∀ b o,s.heap.get? b=some o->(s.heap.push oI).get? b=some o:=fun b o e=>Heap.get?_push_of_some _ e
 refine⟨_,fp,[s.heap.objs.size],_,rfl,MWalk.of (hc:=s.heap) W hn ni hP,⟨hst,.of_all kp⟩,fun b hb=>?_,fun b hb=>?_,kp,rfl,rfl⟩
 ·rcases hfp b hb with rfl|⟨h1,o,h2⟩
  ·obtain⟨o,T,ho,hc,hT,_,hd⟩:=ni _ _ hst;exact⟨.inl (r.free (Yn _)),o,ho,(fun v e=>by rw[hd] at e;cases e),.inr (firm_it hc hT hd)⟩
  ·exact⟨h1,o,kp b o h2.1,h2.2⟩
 ·simp at hb;subst hb;exact⟨Yn _,r.free (Yn _)⟩
theorem tupNone {a:Addr}{o:Obj}(r:RepH prog w μ s.heap) (ho:s.heap.get? a=some o) (hi:ImmCls o):μ a=none:=by
 cases q:μ a with
 | none=>rfl
 | some m=>obtain⟨y,hy,hn⟩:=(r a m q).obj;rw[ho] at hy;cases hy;exact absurd hi hn
theorem op_iter {v:MV}{x:Value}{all:List MV}(hA:A.handled=none) (hv:RepV s.heap v x) (r:RepH prog w μ s.heap) (e:items μ v=some all) {Q:Value->Shared->Prop}
  (h:∀ it s',SrcAt prog w A μ (Src.val v).held all s it s'->Q it s'):wpAny (model prog w) A (pyIter x) Q E s:=by
 have lists:∀ (a:Addr) (vs:List Value) (n:Nat),s.heap.get? a=some { cls:=.type "list",data:=.seq vs.toArray n }->x=.ref a->RepVs s.heap all vs->a∈(Src.val v).held->wpAny (model prog w) A (pyIter x) Q E s:=by
  intro a vs n ho hx hr hh
  subst hx
  have lta:=Heap.lt_size ho
  have hL:s.heap.IsList a vs.toArray:=⟨_,ho,rfl,n,rfl⟩
  refine wpAny_pyIter_list hL (h _ _ (Ja r (Walks.list hA s.heap.objs.size a (Nat.ne_of_lt lta) vs.toArray) (by simp[hr.length]) ⟨⟨_,Heap.get?_push_size _ rfl,rfl,rfl⟩,hL.push _⟩ ?_ ?_ ?_))
  ·rintro i h ⟨⟨o,h1,h2,h3⟩,_⟩;exact⟨o,_,h1,h2,by decide,_,h3⟩
  ·intro i v h' hv' kt
   rw[List.getElem?_toArray] at hv'
   have hlt:=(List.getElem?_eq_some_iff.mp hv').1
   have hlt2:i<all.length:=by rw[← hr.length];exact hlt
   obtain⟨y,h1,h2⟩:=hr.get (List.getElem?_eq_getElem hlt2)
   rw[hv'] at h1;cases h1
   exact⟨_,List.getElem?_eq_getElem hlt2,h2.keepT kt⟩
  ·intro b hb;simp at hb;rcases hb with rfl|rfl
   ·exact .inl rfl
   ·exact .inr ⟨.inr hh,_,ho,(fun v e=>by cases e),.inl hh⟩
 have dicts:∀ {K:Type} [DecidableEq K] (knd:PySem.KeyKind prog w K) (enc:K->MV) (he:∀ k u h',knd.is k u=true->RepV h' (enc k) u) (a:Addr) (kv:List (K×MV)) (kvs:List (K×Value)),s.heap.DictOf knd a kvs->RepKV s.heap kv kvs->(a == sysModules)=false->
   all=kv.map (fun p=>enc p.1)->a∈(Src.val v).held->(x=.ref a∨∃ r,x=.ref r∧KeysView s.heap r a)->wpAny (model prog w) A (pyIter x) Q E s:=by
  intro K _ knd enc he a kv kvs hD hk hs hal hh hx
  obtain⟨ep,hat⟩:=hD.dictAt
  have lta:=hat.lt_size
  have fin:∀ hst,SrcAt prog w A μ (Src.val v).held all s (.ref s.heap.objs.size) { s with heap:=s.heap.push hst }∨True:=fun _=>.inr trivial
  have mk:∀ oI,(s.heap.push oI).IsKeyIter s.heap.objs.size a 0 kvs.length ep->SrcAt prog w A μ (Src.val v).held all s (.ref s.heap.objs.size) { s with heap:=s.heap.push oI }:=by
   intro oI hI
   refine Ja r (Walks.dictKeys hA s.heap.objs.size a (Nat.ne_of_lt lta) kvs ep) (by simp[hal,hk.length]) ⟨hI,hat.push _⟩ ?_ ?_ ?_
   ·rintro i h ⟨⟨o,h1,h2,h3⟩,_⟩;exact⟨o,_,h1,h2,by decide,_,h3⟩
   ·rintro i u h' ⟨k,y,h1,h2⟩ kt
    obtain⟨m,h3,h4⟩:=Ng hk h1
    exact⟨enc k,by simp[hal,h3],he k u h' h2⟩
   ·intro b hb;simp at hb;rcases hb with rfl|rfl
    ·exact .inl rfl
    ·obtain⟨o,ho,hd⟩:∃ o,s.heap.get? b=some o∧∀ v,o.data≠.cell v:=by
      obtain⟨o,es,ep,ho,hd⟩:=hD
      refine⟨o,ho,fun v e=>?_⟩
      have:=hd.2.1
      rw[this] at e;cases e
     exact .inr ⟨.inr hh,o,ho,hd,.inl hh⟩
  rcases hx with rfl|⟨r',rfl,hr'⟩
  ·exact wpAny_pyIter_dict hs hat (h _ _ (mk _ ⟨_,Heap.get?_push_size _ rfl,rfl,rfl⟩))
  ·exact kdl_pyIter_keys hr' hat (h _ _ (mk _ ⟨_,Heap.get?_push_size _ rfl,rfl,rfl⟩))
 cases v with
 | none=>cases e
 | bool b=>cases e
 | int i=>cases e
 | str st=>
  obtain⟨t,rfl⟩:=hv
  obtain rfl:chars st=all:=Option.some.inj e
  have hP:∀ (i:Nat) v h',SignAt st i v->KeepsT s.heap h'->∃ m,(chars st)[i]?=some m∧RepV h' m v:=by
   rintro i v h' ⟨c,u,hc,rfl⟩ kt
   refine⟨.str ⟨#[c]⟩,?_,by exact⟨u,rfl⟩⟩
   unfold chars
   rw[List.getElem?_map,Array.getElem?_toList,hc];rfl
  refine wpAny_pyIter_strU ?_
  unfold strIterType
  split
  ·refine h _ _ (Ja r (Walks.strAscii hA s.heap.objs.size st t) (by simp[chars]) ⟨_,Heap.get?_push_size _ rfl,rfl,rfl⟩ ?_ hP ?_)
   ·rintro i h ⟨o,h1,h2,h3⟩;exact⟨o,_,h1,h2,by decide,_,h3⟩
   ·intro b hb;simp at hb;exact .inl hb
  ·refine h _ _ (Ja r (Walks.strWide hA s.heap.objs.size st t) (by simp[chars]) ⟨_,Heap.get?_push_size _ rfl,rfl,rfl⟩ ?_ hP ?_)
   ·rintro i h ⟨o,h1,h2,h3⟩;exact⟨o,_,h1,h2,by decide,_,h3⟩
   ·intro b hb;simp at hb;exact .inl hb
 | tup l=>
  obtain rfl:l=all:=Option.some.inj e
  obtain⟨a,vs,n,rfl,ho,hr⟩:=hv
  have lta:=Heap.lt_size ho
  have hL:s.heap.IsTuple a vs.toArray:=⟨_,ho,rfl,n,rfl⟩
  refine wpAny_pyIter_tuple hL (h _ _ (Ja r (Walks.tuple hA s.heap.objs.size a (Nat.ne_of_lt lta) vs.toArray) (by simp[hr.length]) ⟨⟨_,Heap.get?_push_size _ rfl,rfl,rfl⟩,hL.push _⟩ ?_ ?_ ?_))
  ·rintro i h ⟨⟨o,h1,h2,h3⟩,_⟩;exact⟨o,_,h1,h2,by decide,_,h3⟩
  ·intro i v h' hv' kt
   rw[List.getElem?_toArray] at hv'
   have hlt:=(List.getElem?_eq_some_iff.mp hv').1
   have hlt2:i<l.length:=by rw[← hr.length];exact hlt
   obtain⟨y,h1,h2⟩:=hr.get (List.getElem?_eq_getElem hlt2)
   rw[hv'] at h1;cases h1
   exact⟨_,List.getElem?_eq_getElem hlt2,h2.keepT kt⟩
  ·intro b hb;simp at hb;rcases hb with rfl|rfl
   ·exact .inl rfl
   ·exact .inr ⟨.inl (tupNone r ho (.inl ⟨rfl,_,_,rfl⟩)),_,ho,(fun v e=>by cases e),.inr ⟨(fun es ep e=>by cases e),by simp⟩⟩
 | ref a=>
  obtain rfl:x=.ref a:=hv
  replace e:itemsO (μ a)=some all:=e
  cases q:μ a with
  | none=>rw[q] at e;cases e
  | some mo=>
   rw[q] at e
   cases mo with
   | list l=>obtain rfl:=Option.some.inj e;obtain⟨vs,⟨n,h1⟩,h2⟩:=r a _ q;exact lists a vs n h1 rfl h2 (.head _)
   | idict l=>obtain rfl:=Option.some.inj e;obtain⟨kvs,h1,h2,h3⟩:=r a _ q;exact dicts (intKind prog w) MV.int encI a l kvs h1 h2 h3 rfl (.head _) (.inl rfl)
   | _=>cases e
 | keys a=>
  obtain⟨r',rfl,hr'⟩:=hv
  replace e:keysO (μ a)=some all:=e
  cases q:μ a with
  | none=>rw[q] at e;cases e
  | some mo=>
   rw[q] at e
   cases mo with
   | list l=>cases e
   | idict l=>obtain rfl:=Option.some.inj e;obtain⟨kvs,h1,h2,h3⟩:=r a _ q;exact dicts (intKind prog w) MV.int encI a l kvs h1 h2 h3 rfl (.head _) (.inr ⟨r',rfl,hr'⟩)
   | _=>cases e
theorem rangeL_get {a b c:Int}{i:Nat}(h:i<((b-a+c-1) / c).toNat):(rangeL a b c)[i]?=some (a+c*i):=by
 unfold rangeL
 rw[List.getElem?_map,List.getElem?_range h];rfl
theorem Z9 {a b c:Int}:(rangeL a b c).length=((b-a+c-1) / c).toNat:=by simp[rangeL]
theorem O3 {a b:Int}:Builtin.Range.rangeSize a b 1=(((b-a+1-1) / 1).toNat:Int):=by
 show (if a<b then (b-a-1) / 1+1 else 0)=_
 rw[Int.ediv_one,Int.ediv_one,Int.add_sub_cancel,Int.sub_add_cancel]
 by_cases h:a<b
 ·rw[if_pos h];exact(Int.toNat_of_nonneg (Int.sub_nonneg_of_le (Int.le_of_lt h))).symm
 ·rw[if_neg h,Int.toNat_of_nonpos (Int.sub_nonpos_of_le (Int.not_lt.mp h))];rfl
theorem fits63 {a:Int}(h:in62 a=true):Builtin.Range.rangeFitsLong a=true:=
 have h:=Bool.and_eq_true_iff.mp h
 Bool.and_eq_true_iff.mpr ⟨decide_eq_true (Int.le_trans (by decide) (of_decide_eq_true h.1)),decide_eq_true (Int.lt_trans (of_decide_eq_true h.2) (by decide))⟩
theorem gap63 {a b:Int}(ha:in62 a=true) (hb:in62 b=true):Builtin.Range.rangeFitsLong (b-a).toNat=true:=by
 have ha:=of_decide_eq_true (Bool.and_eq_true_iff.mp ha).1
 have hb:=of_decide_eq_true (Bool.and_eq_true_iff.mp hb).2
 refine Bool.and_eq_true_iff.mpr ⟨decide_eq_true (Int.le_trans (by decide) (Int.natCast_nonneg _)),decide_eq_true ?_⟩
 have h:b-a<2 ^ 63:=Int.sub_right_lt_of_lt_add (Int.lt_of_lt_of_le hb (Int.le_trans (by decide) (Int.add_le_add_left ha (2 ^ 63))))
 cases q:b-a with
 | ofNat n=>rw[q] at h;exact h
 | negSucc n=>exact(by decide:(0:Int)<2 ^ 63)
theorem small_one {a b:Int}(ha:in62 a=true) (hb:in62 b=true):Builtin.Range.small a b 1=true:=by
 unfold Builtin.Range.small
 rw[O3,Int.ediv_one,Int.add_sub_cancel,fits63 ha,fits63 hb,gap63 ha hb,if_pos (by decide),show b+(1-1)=b from Int.add_zero b,fits63 hb,Bool.or_true]
 rfl
theorem one_of {c:Int}(hc:0<c) (hc':c≤1):c=1:=Int.le_antisymm hc' hc
theorem Gf {a b c:Int}(hc:0<c) (hc':c≤1):Builtin.Range.rangeSize a b c=(((b-a+c-1) / c).toNat:Int):=by
 obtain rfl:=one_of hc hc'
 exact O3
theorem small_pos {a b c:Int}(ha:in62 a=true) (hb:in62 b=true) (hc:0<c) (hc':c≤1):Builtin.Range.small a b c=true:=by
 obtain rfl:=one_of hc hc'
 exact small_one ha hb
theorem Gh {r':Addr}{a b c:Int}{t u v:Tok}(hA:A.handled=none) (r:RepH prog w μ s.heap) (hr:IsRange s.heap r' a b c t u v) (ha:in62 a=true) (hb:in62 b=true) (hc:0<c) (hc':c≤1) {Q:Value->Shared->Prop}
  (h:∀ it s',SrcAt prog w A μ [] ((rangeL a b c).map .int) s it s'->Q it s'):wpAny (model prog w) A (pyIter (.ref r')) Q E s:=by
 refine wpAny_pyIter_range hr (small_pos ha hb hc hc') (h _ _ ?_)
 refine Ja r (Walks.range hA s.heap.objs.size a c ((b-a+c-1) / c).toNat).bound (by simp[Z9]) ?_ ?_ ?_ ?_
 ·show Heap.get? _ _=_
  rw[Heap.get?_push_size _ rfl,Gf hc hc'];simp
 ·intro i h hh;exact⟨_,_,hh,rfl,by decide,_,rfl⟩
 ·rintro i v h' ⟨hi,t,rfl⟩ kt
  refine⟨.int (a+c*i),by rw[List.getElem?_map,rangeL_get hi];rfl,?_⟩
  exact⟨t,by rw[Int.mul_comm]⟩
 ·intro b hb;simp at hb;exact .inl hb
theorem SrcAt.from {held:List Addr}{all:List MV}{it:Value}{s1 s':Shared}(k:∀ b o,s.heap.get? b=some o->s1.heap.get? b=some o) (ho:s1.os=s.os) (hg:s1.gens=s.gens) (x:SrcAt prog w A μ held all s1 it s'):SrcAt prog w A μ held all s it s':=by
 obtain⟨I,fp,wr,St,e,W,st,h1,h2,h3,h4,h5⟩:=x
 refine⟨I,fp,wr,St,e,W,st,h1,fun b hb=>⟨?_,(h2 b hb).2⟩,fun b o e=>h3 b o (k b o e),h4.trans ho,h5.trans hg⟩
 cases q:s.heap.get? b with
 | none=>rfl
 | some o=>have:=k b o q;rw[(h2 b hb).1] at this;cases this
theorem src_rev {a:Addr}{l:List MV}(hA:A.handled=none) (r:RepH prog w μ s.heap) (q:lst μ a=some l) {Q:Value->Shared->Prop}
  (h:∀ x s',(∀ (Q':Value->Shared->Prop),(∀ it s'',SrcAt prog w A μ [a] l.reverse s it s''->Q' it s'')->wpAny (model prog w) A (pyIter x) Q' E s')->Q x s'):wpAny (model prog w) A (call (.type "reversed") [.ref a]) Q E s:=by
 obtain⟨vs,⟨n,ho⟩,hr,qa⟩:=Ym r q
 have lta:=Heap.lt_size ho
 have hL:s.heap.IsList a vs.toArray:=⟨_,ho,rfl,n,rfl⟩
 refine call_reversed_list hL (h _ _ fun Q' hQ'=>?_)
 have hI:(s.heap.push (revObj a ((vs.toArray.size:Int)-1))).IsRevIter s.heap.objs.size a ((vs.toArray.size:Int)-1):=⟨_,Heap.get?_push_size _ rfl,rfl,rfl⟩
 refine wpAny_pyIter_revIter (s:={ s with heap:=_ }) hI (hQ' _ _ (Ja r (Walks.listRev hA s.heap.objs.size a (Nat.ne_of_lt lta) vs.toArray).bound (by simp[hr.length]) ⟨Nat.zero_le _,by simpa using hI,hL.push _⟩ ?_ ?_ ?_))
 ·rintro i h ⟨_,⟨o,h1,h2,h3⟩,_⟩;exact⟨o,_,h1,h2,by decide,_,h3⟩
 ·rintro i v h' ⟨hi,hv'⟩ kt
  rw[List.getElem?_toArray] at hv'
  have hlt:=(List.getElem?_eq_some_iff.mp hv').1
  have hl:=hr.length
  simp only[List.size_toArray] at hv' hlt hi
  have hlt2:vs.length-1-i<l.length:=by exact ar72 hl hlt
  obtain⟨y,h1,h2⟩:=hr.get (List.getElem?_eq_getElem hlt2)
  rw[hv'] at h1;cases h1
  refine⟨_,?_,h2.keepT kt⟩
  rw[List.getElem?_reverse (by exact ar57 hl hi)]
  rw[show l.length-1-i=vs.length-1-i by exact ar73 hl]
  exact List.getElem?_eq_getElem hlt2
 ·intro b hb;simp at hb;rcases hb with rfl|rfl
  ·exact .inl rfl
  ·exact .inr ⟨.inr (by exact .head _),_,ho,(fun v e=>by cases e),.inr ⟨(fun es ep e=>by cases e),by simp⟩⟩
end
section
variable {prog:Program}{w:World}{G:String->Option MV}{Γ:String->Option MFun}{h₀:Heap}{mg mb:Str->Option Value}{Φ:CallSpec}{d:Dp}
 {S:Sc}{env:Env}{vars:MVars}{fz:List Addr}{μ:MH}{s:Shared}{A:Around}{E:Value->Shared->Prop}
inductive PostI (prog:Program) (w:World) (A:Around) (fz:List Addr) (μ:MH) (s:Shared) (K:Src->List MV->MH->Prop) (it:Value) (sd:Shared):Prop
 | mk (src:Src) (all:List MV) (μa:MH) (s1:Shared) (k:K src all μa) (hi:src.items μa=some all) (r:RepH prog w μa s1.heap) (g:Grow fz μ s μa s1) (hat:SrcAt prog w A μa src.held all s1 it sd)
theorem rangeM_of {vs:List MV}{l:List Int}{h:Heap}{vals:List Value}(e:rangeM vs=some l) (r:RepVs h vs vals):∃ b u,vals=[.int b u]∧in62 b=true∧l=rangeL 0 b 1:=by
 cases vs with
 | nil=>cases e
 | cons v vs=>
  cases vs with
  | nil=>
   cases v with
   | int b=>
    obtain⟨q,e⟩:=Px (show (if in62 b=true then some (rangeL 0 b 1) else none)=some l from e)
    replace r:=r.one;obtain⟨y,rfl,t,rfl⟩:=r
    exact⟨b,t,rfl,q,(Option.some.inj e).symm⟩
   | _=>cases e
  | cons _ _=>cases e
theorem H7 (pg:PG prog w G Γ h₀ mg mb) (hd:d.h=true) {k:SK}{its:List ME}(hl:∀ e∈its,SS prog w G h₀ Φ d e) {iter:PySem.Expr}{as:List PySem.Expr}(hs:srcArgs S k iter=some as) (h:isEs S its as=true) (hA:OkA d A) (C:Cur prog w h₀ A S env vars fz μ s)
  {K:Src->List MV->MH->Prop}(hq:evs G Φ X0 its fz vars (fun vs μ'=>∃ src all,mkSrc k vs=some src∧src.items μ'=some all∧K src all μ') μ):
  (∀ x,foldedSetIterable iter env x=pure x)∧wpAny (model prog w) A (eval iter env) (fun x s1=>wpAny (model prog w) A (pyIter x) (PostI prog w A fz μ s K) E s1) E s:=by
 have one62:in62 0=true:=by decide
 cases k with
 | plain=>
  obtain rfl:[iter]=as:=Option.some.inj hs
  match its,h,hl,hq with
  | [],h,_,_=>exact(Bool.false_ne_true h).elim
  | e::_::_,h,_,_=>exact(Bool.false_ne_true (Qv h).2).elim
  | [e],h,hl,hq=>
   replace h:=(Qv h).1
   refine⟨fun x=>folded_none h env x,?_⟩
   refine wpAny_mono ((hl e (.head _)).1 S iter env vars fz μ s _ A E h hA C hq) (fun v s1 h₁=>?_) fun _ _ e=>e
   obtain⟨mv,μa,⟨src,all,hm,hi,hK⟩,rv,rc,gb⟩:=h₁
   obtain rfl:Src.val mv=src:=Option.some.inj hm
   exact op_iter (hA.hand hd) rv rc hi fun it s' hat=>⟨.val mv,all,μa,s1,hK,hi,rc,gb,hat⟩
 | range=>
  replace hs:=ifcall hs;obtain⟨g,np,p,rfl,hg⟩:=hs
  refine⟨fun x=>rfl,?_⟩
  refine wpAny_Call_ofName (Y8 pg C hg (v:=.type "range") (by decide) ?_)
  rw[X4 p h]
  refine PySem.callWith_type (Qg as) (Qj (Qg as) ?_)
  refine wpAny_mono (Xd hl h hA C hq) (fun vs s1 h₁=>?_) fun _ _ e=>e
  obtain⟨ms,μa,⟨src,all,hm,hi,hK⟩,rv,rc,gb⟩:=h₁
  obtain⟨l,hl',rfl⟩:=Option.map_eq_some_iff.mp hm
  obtain rfl:=Option.some.inj hi
  have kp:∀ (oI:Obj) b o,s1.heap.get? b=some o->(s1.heap.push oI).get? b=some o:=fun oI b o e=>Heap.get?_push_of_some _ e
  obtain⟨b,u,rfl,hb,rfl⟩:=rangeM_of hl' rv
  refine call_range_1 (Gh (s:={ s1 with heap:=_,toks:=_ }) (hA.hand hd) (rc.ext (kp _)) (IsRange.new s1.heap 0 b 1 _ _ _) one62 hb (by decide) (by decide) fun it s' hat=>?_)
  exact⟨.ints _,_,μa,s1,hK,rfl,rc,gb,SrcAt.from (s1:={ s1 with heap:=_,toks:=_ }) (kp _) rfl rfl hat⟩
 | rev=>
  replace hs:=ifcall hs;obtain⟨g,np,p,rfl,hg⟩:=hs
  refine⟨fun x=>rfl,?_⟩
  refine wpAny_Call_ofName (Y8 pg C hg (v:=.type "reversed") (by decide) ?_)
  rw[X4 p h]
  refine PySem.callWith_type (Qg as) (Qj (Qg as) ?_)
  refine wpAny_mono (Xd hl h hA C hq) (fun vs s1 h₁=>?_) fun _ _ e=>e
  obtain⟨ms,μa,⟨src,all,hm,hi,hK⟩,rv,rc,gb⟩:=h₁
  match ms,hm,rv with
  | [],hm,_=>cases hm
  | _::_::_,hm,_=>cases hm
  | [m],hm,rv=>
   obtain rfl:=Option.some.inj hm
   obtain⟨v,hvs,hv⟩:=rv.one;subst hvs
   cases m with
   | ref a=>
    obtain rfl:v=.ref a:=hv
    obtain⟨l,q,rfl⟩:=Option.map_eq_some_iff.mp hi
    exact src_rev (hA.hand hd) rc q fun x s' hx=>hx _ fun it s'' hat=>⟨.rev (.ref a),_,μa,s1,hK,congrArg (Option.map List.reverse) q,rc,gb,hat⟩
   | _=>cases hi
end
end Mine
end
section
namespace Mine
open PySem PySem.Calls PyProof.Rows PySem.W
section
variable {prog:Program}{w:World}{h₀:Heap}{S:Sc}{env:Env}{vars:MVars}{fz:List Addr}{μ:MH}{s:Shared}{A:Around}{E:Value->Shared->Prop}{d:Dp}
theorem Cur.skip {wr:List Addr}{s':Shared}(C:Cur prog w h₀ A S env vars fz μ s) (kt:KeepsT s.heap s'.heap) (k:∀ b o,b∉wr->s.heap.get? b=some o->s'.heap.get? b=some o) (hm:∀ b∈wr,μ b=none) (hb:∀ b∈wr,h₀.get? b=none) (hl:env.locals∉wr) (hc:∀ x c,(x,c)∈env.cells->c∉wr) (hwz:∀ b∈wr,b∉fz) (hwf:∀ b∈wr,∀ l,A.frames=some l->b∉Mine.frs l):
  Cur prog w h₀ A S env vars fz μ s' where
 base:=fun b o e=>⟨k b o (fun q=>by rw[hb b q] at e;cases e) (C.base b o e).1,(C.base b o e).2⟩
 heap:=fun a o e=>(C.heap a o e).keeps kt fun y hy=>k a y (fun q=>by rw[hm a q] at e;cases e) hy
 fzin:=fun b hb=>by
  by_cases q:b∈wr
  ·exact absurd hb (hwz b q)
  ·cases e:s.heap.get? b with
   | none=>exact absurd e (C.fzin b hb)
   | some o=>rw[k b o q e];intro z;cases z
 fr:=C.fr.keep kt (fun o e _=>⟨⟨o.slots,k _ o hl e⟩,C.fr.fixl⟩) fun x c hx o e _=>⟨⟨o.slots,k c o (hc x c hx) e⟩,(C.fr.fixc x c hx).1⟩
 newl:=C.newl
 newc:=C.newc
 known:=C.known
 frs:=by
  obtain⟨⟨l,el,f⟩,p⟩:=C.frs
  exact⟨⟨l,el,f.map (fun b o es ep hb ho hd=>⟨⟨o,es,ep,k b o (fun q=>hwf b q l el hb) ho,hd⟩,f.nt b hb⟩) f.lo⟩,p⟩
theorem Cur.ext {s':Shared}(C:Cur prog w h₀ A S env vars fz μ s) (k:∀ b o,s.heap.get? b=some o->s'.heap.get? b=some o):Cur prog w h₀ A S env vars fz μ s':=
 C.skip (wr:=[]) (.of_all k) (fun b o _ e=>k b o e) (by exact fun _ h=>(List.not_mem_nil h).elim) (by exact fun _ h=>(List.not_mem_nil h).elim) (by exact List.not_mem_nil) (by simp) (by exact fun _ h=>(List.not_mem_nil h).elim) (by exact fun _ h=>(List.not_mem_nil h).elim)
theorem Base.weak {cs:List Addr}(B:Base h₀ fz μ s):Base h₀ (cs++fz) μ s:=fun b o e=>by
 obtain⟨h1,h2,h3⟩:=B b o e
 exact⟨h1,h2.imp id fun m=>List.mem_append_right _ m,by rw[Ru h3];exact h3⟩
theorem FzIn.left {cs:List Addr}{h:Heap}(f:FzIn (cs++fz) h):FzIn fz h:=fun b hb=>f b (List.mem_append_right _ hb)
theorem RepH.there {h:Heap}(r:RepH prog w μ h) {b:Addr}(e:μ b≠none):h.get? b≠none:=by
 cases q:μ b with
 | none=>exact absurd q e
 | some o=>obtain⟨x,hx,_⟩:=(r b o q).obj;rw[hx];intro z;cases z
theorem Cur.weak {cs:List Addr}(C:Cur prog w h₀ A S env vars fz μ s) (hcs:∀ b∈cs,μ b≠none):Cur prog w h₀ A S env vars (cs++fz) μ s:=
 { C with frs:=C.frs.weak,base:=C.base.weak,fzin:=fun b hb=>(List.mem_append.mp hb).elim (fun m=>C.heap.there (hcs b m)) (C.fzin b) }
theorem Up {src:Src}{all:List MV}(e:src.items μ=some all):∀ b∈src.held,μ b≠none:=by
 intro b hb q
 cases src with
 | val v=>
  cases v with
  | ref a=>obtain rfl:=List.mem_singleton.mp hb;replace e:itemsO (μ b)=some all:=e;rw[q] at e;cases e
  | keys a=>obtain rfl:=List.mem_singleton.mp hb;replace e:keysO (μ b)=some all:=e;rw[q] at e;cases e
  | _=>cases hb
 | «ints» l=>cases hb
 | rev v=>
  cases v with
  | ref a=>obtain rfl:=List.mem_singleton.mp hb;replace e:(lstO (μ b)).map List.reverse=some all:=e;rw[q] at e;cases e
  | _=>cases hb
theorem Grow.skip {wr:List Addr}{μ':MH}{s' s'':Shared}(g:Grow fz μ s μ' s') (k:∀ b o,b∉wr->s'.heap.get? b=some o->s''.heap.get? b=some o) (hw:∀ b∈wr,s.heap.get? b=none) (ho:s''.os=s'.os) (hg:s''.gens=s'.gens):Grow fz μ s μ' s'':=
 ⟨fun b o f e=>by
  obtain⟨e1,q⟩:=g.keep b o f e
  exact⟨e1.skip fun o' e'=>k b o' (fun m=>by rw[hw b m] at e;cases e) e',q⟩,ho.trans g.os,hg.trans g.gens⟩
theorem GrowS.skip {wr:List Addr}{μ':MH}{s' s'':Shared}(g:GrowS env fz μ s μ' s') (k:∀ b o,b∉wr->s'.heap.get? b=some o->s''.heap.get? b=some o) (hw:∀ b∈wr,s.heap.get? b=none) (ho:s''.os=s'.os) (hg:s''.gens=s'.gens):GrowS env fz μ s μ' s'':=
 ⟨fun b o f l c e=>by
  obtain⟨e1,q⟩:=g.keep b o f l c e
  exact⟨e1.skip fun o' e'=>k b o' (fun m=>by rw[hw b m] at e;cases e) e',q⟩,ho.trans g.os,hg.trans g.gens⟩
theorem H4 {t:MT}{tg:PySem.Expr}{mv:MV}{v:Value}{vars':MVars}{Q:Unit->Shared->Prop}(C:Cur prog w h₀ A S env vars fz μ s) (ht:isTgt S t tg=true) (hv:RepV s.heap mv v) (hb:bindT t mv vars=some vars')
  (h:∀ s',Cur prog w h₀ A S env vars' fz μ s'->GrowS env fz μ s μ s'->KeepsT s.heap s'.heap->((∀ x∈tgtNames tg,S.names.lookup x=some .local)->∀ b o,b≠env.locals->s.heap.get? b=some o->s'.heap.get? b=some o)->Q () s'):wpAny (model prog w) A (assign tg env v) Q E s:=by
 cases t with
 | tup is=>exact(Bool.false_ne_true ht).elim
 | one i=>
  obtain⟨h1,h2⟩:=and2 ht
  have e:tg=.Name (node tg).s (node tg).p:=inv h1
  have e2:tgtNames tg=[(node tg).s]:=if_pos h1
  obtain rfl:setv vars i mv=vars':=Option.some.inj hb
  rw[e]
  exact PySem.wpAny_assign_Name (Kk C h2 hv fun s' C' g' k' l'=>h s' C' g' k' fun hx=>l' (hx _ (by rw[e2];exact .head _)))
end
end Mine
end
section
namespace Mine
open PySem PySem.Calls PyProof.Rows PySem.W
noncomputable def closL (env:Env):List (Str×NameKind)->List (Str×Addr)->List (Str×Addr)
 | [],acc=>acc
 | (n,k)::r,acc=>if k == .free then closL env r ((n,(env.cells.lookup n).getD 0)::acc) else closL env r acc
theorem Ay {env:Env}{n:Str}{k:NameKind}{r:List (Str×NameKind)}{acc:List (Str×Addr)}:closL env ((n,k)::r) acc=if k == .free then closL env r ((n,(env.cells.lookup n).getD 0)::acc) else closL env r acc:=rfl
theorem clos_eq {env:Env}{sc:Scope}(h:∀ p∈sc.names,p.2=.free->∃ c,env.cells.lookup p.1=some c):closureFor sc env=pure (closL env sc.names []):=by
 simp only[closureFor]
 generalize ([]:List (Str×Addr))=acc
 revert h acc
 generalize sc.names=names
 intro h acc
 induction names generalizing acc with
 | nil=>rfl
 | cons p r ih=>
  obtain⟨n,k⟩:=p
  simp only[List.forIn_cons,Ay]
  by_cases hk:k == .free
  ·simp only[hk,if_true]
   obtain⟨c,hc⟩:=h (n,k) (.head _) (by simpa using hk)
   have:cellOf env n=pure c:=by unfold cellOf;simp only at hc;rw[hc]
   rw[this]
   simp only at hc
   rw[hc]
   exact ih (fun q hq=>h q (.tail _ hq)) _
  ·simp only[hk,Bool.false_eq_true,if_false]
   exact ih (fun q hq=>h q (.tail _ hq)) _
theorem J9 {env:Env}{n:Str}{c:Addr}:∀ {names:List (Str×NameKind)}{acc:List (Str×Addr)},(n,c)∈closL env names acc->(n,c)∈acc∨((n,NameKind.free)∈names∧c=(env.cells.lookup n).getD 0)
 | [],acc=>fun h=>.inl h
 | (x,k)::r,acc=>fun h=>by
  rw[Ay] at h
  split at h
  ·rename_i hk
   have hk:k=.free:=by simpa using hk
   subst hk
   rcases J9 h with h1|⟨h1,h2⟩
   ·rcases List.mem_cons.mp h1 with h1|h1
    ·cases h1;exact .inr ⟨.head _,rfl⟩
    ·exact .inl h1
   ·exact .inr ⟨.tail _ h1,h2⟩
  ·rcases J9 h with h1|⟨h1,h2⟩
   ·exact .inl h1
   ·exact .inr ⟨.tail _ h1,h2⟩
theorem Bq {env:Env}{p:Str×Addr}:∀ {names:List (Str×NameKind)}{acc:List (Str×Addr)},p∈acc->p∈closL env names acc
 | [],acc=>fun h=>h
 | (x,k)::r,acc=>fun h=>by
  rw[Ay]
  split
  ·exact Bq (.tail _ h)
  ·exact Bq h
theorem G3 {env:Env}{n:Str}:∀ {names:List (Str×NameKind)}{acc:List (Str×Addr)},(n,NameKind.free)∈names->(n,(env.cells.lookup n).getD 0)∈closL env names acc
 | (x,k)::r,acc,h=>by
  rw[Ay]
  rcases List.mem_cons.mp h with h1|h1
  ·cases h1
   rw[if_pos (by rfl)]
   exact Bq (.head _)
  ·split
   ·exact G3 h1
   ·exact G3 h1
theorem Dt {n:Str}{c:Addr}:∀ {l:List (Str×Addr)},(n,c)∈l->(∀ c',(n,c')∈l->c'=c)->l.lookup n=some c
 | (x,y)::l,h,ha=>by
  rw[List.lookup_cons]
  cases hx:n == x with
  | true=>
   have:n=x:=by simpa using hx
   subst this;simp only;rw[ha y (.head _)]
  | false=>
   rcases List.mem_cons.mp h with h1|h1
   ·cases h1;simp at hx
   ·exact Dt h1 fun c' hc'=>ha c' (.tail _ hc')
theorem Ax {env:Env}{n:Str}{c:Addr}{names:List (Str×NameKind)}(h:(n,NameKind.free)∈names) (hc:env.cells.lookup n=some c):(closL env names []).lookup n=some c:=by
 refine Dt (by have:=G3 (env:=env) (acc:=[]) h;rw[hc] at this;exact this) fun c' hc'=>?_
 rcases J9 hc' with h1|⟨_,h2⟩
 ·cases h1
 ·rw[h2,hc];rfl
theorem Nb {env:Env}(ha:env.cells.Pairwise fun x y=>x.2≠y.2):∀ {names:List (Str×NameKind)}{acc:List (Str×Addr)},(names.map (·.1)).Nodup->(∀ p∈names,p.2=.free->∃ c,env.cells.lookup p.1=some c)->
  acc.Pairwise (fun x y=>x.2≠y.2)->(∀ p∈acc,env.cells.lookup p.1=some p.2∧p.1∉names.map (·.1))->(closL env names acc).Pairwise fun x y=>x.2≠y.2
 | [],acc=>fun _ _ h _=>h
 | (n,k)::r,acc=>fun hn hf h hacc=>by
  simp only[List.map_cons,List.nodup_cons] at hn
  rw[Ay]
  split
  ·rename_i hk
   obtain⟨c,hc⟩:=hf (n,k) (.head _) (by simpa using hk)
   simp only at hc
   refine Nb ha hn.2 (fun p hp=>hf p (.tail _ hp)) (List.pairwise_cons.mpr ⟨fun p hp e=>?_,h⟩) fun p hp=>?_
   ·have h1:=(hacc p hp).1
    simp only[hc,Option.getD_some] at e
    subst e
    have:=Ds ha hc h1
    exact(hacc p hp).2 (by rw[← this];exact .head _)
   ·rcases List.mem_cons.mp hp with rfl|hp
    ·exact⟨by simp[hc],hn.1⟩
    ·exact⟨(hacc p hp).1,fun m=>(hacc p hp).2 (by simp at m ⊢;exact .inr m)⟩
  ·refine Nb ha hn.2 (fun p hp=>hf p (.tail _ hp)) h fun p hp=>⟨(hacc p hp).1,fun m=>(hacc p hp).2 (by simp at m ⊢;exact .inr m)⟩
theorem Yj {S:Sc}{x:Str}:∀ {names:List (Str×NameKind)},(relab S names).lookup x=(names.lookup x).map fun k=>if isFree k && isCell (S.names.lookup x) then .cell else k
 | []=>rfl
 | (n,k)::r=>by
  have ih:=Yj (S:=S) (x:=x) (names:=r)
  unfold relab at ih ⊢
  rw[List.map_cons]
  have key:∀ k',List.lookup x ((n,k')::List.map (fun p=>if (isFree p.snd && isCell (List.lookup p.fst S.names))=true then (p.fst,NameKind.cell) else p) r)=match x == n with|true=>some k'|false=>List.lookup x (List.map (fun p=>if (isFree p.snd && isCell (List.lookup p.fst S.names))=true then (p.fst,NameKind.cell) else p) r):=fun k'=>by
   rw[List.lookup_cons];cases x == n <;> rfl
  have hcond:(if (isFree (n,k).snd && isCell (List.lookup (n,k).fst S.names))=true then ((n,k).fst,NameKind.cell) else (n,k))=(n,if (isFree k && isCell (List.lookup n S.names))=true then NameKind.cell else k):=by
   simp only;split <;> rfl
  rw[hcond,key,List.lookup_cons]
  cases hx:x == n with
  | true=>
   have:x=n:=by simpa using hx
   subst this;rfl
  | false=>exact ih
theorem relab_eq {S:Sc}{env:Env}{sc:Scope}(hn:env.scope.names=S.names) (hk:env.scope.kind=.function):(relabel sc env).names=relab S sc.names:=by
 unfold relabel relab
 refine List.map_congr_left fun p hp=>?_
 obtain⟨n,k⟩:=p
 have h1:isFree k=(k == .free):=by cases k <;> rfl
 have h2:isCell (S.names.lookup n)=(env.kindOf n == some .cell):=by
  unfold Env.kindOf;rw[hn]
  cases S.names.lookup n with
  | none=>rfl
  | some k=>cases k <;> rfl
 simp only[hk,h1,h2]
 simp
structure InOk (S:Sc) (t:MT) (tg:PySem.Expr) (sc:Scope):Prop where
 kind:sc.kind=.function
 nodup:(sc.names.map (·.1)).Nodup
 names:∀ p∈sc.names,p.2=.local∨p.2=.free∨p.2=.globalImplicit
 look:∀ p∈sc.names,sc.names.lookup p.1=some p.2
 free:∀ p∈sc.names,p.2=.free->S.names.lookup p.1=some .cell∨S.names.lookup p.1=some .free
 vnd:t.vars.Nodup
 nnd:(tgtNames tg).Nodup
 len:t.vars.length=(tgtNames tg).length
 loc:∀ x∈tgtNames tg,sc.names.lookup x=some .local
theorem Du:∀ {l:List (Str×NameKind)},(l.map (·.1)).Nodup->∀ p∈l,l.lookup p.1=some p.2
 | (n,k)::r,h,p,hp=>by
  simp only[List.map_cons,List.nodup_cons] at h
  rcases List.mem_cons.mp hp with rfl|hp'
  ·simp[List.lookup_cons]
  ·rw[List.lookup_cons]
   have:(p.1 == n)=false:=by
    rw[beq_eq_false_iff_ne];rintro rfl
    exact h.1 (List.mem_map_of_mem (f:=(·.1)) hp')
   rw[this];exact Du h.2 p hp'
theorem C3 {β:Type}:∀ {l:List (Nat×β)},(l.map (·.1)).Nodup->∀ p∈l,l.lookup p.1=some p.2
 | (n,k)::r,h,p,hp=>by
  simp only[List.map_cons,List.nodup_cons] at h
  rcases List.mem_cons.mp hp with rfl|hp'
  ·simp[List.lookup_cons]
  ·rw[List.lookup_cons]
   have:(p.1 == n)=false:=by
    rw[beq_eq_false_iff_ne];rintro rfl
    exact h.1 (List.mem_map_of_mem (f:=(·.1)) hp')
   rw[this];exact C3 h.2 p hp'
theorem Nl {β:Type}:∀ {l:List (Nat×β)}{i:Nat}{x:β},l.lookup i=some x->(i,x)∈l
 | (n,k)::r,i,x,h=>by
  rw[List.lookup_cons] at h
  cases hx:i == n with
  | true=>rw[hx] at h;simp at h hx;subst h hx;exact .head _
  | false=>rw[hx] at h;exact .tail _ (Nl h)
theorem inj_of {l:List (Nat×Str)}(nv:(l.map (·.2)).Nodup):∀ i j x,l.lookup i=some x->l.lookup j=some x->i=j:=by
 intro i j x h1 h2
 have m1:=Nl h1
 have m2:=Nl h2
 clear h1 h2
 induction l with
 | nil=>cases m1
 | cons p l ih=>
  simp only[List.map_cons,List.nodup_cons] at nv
  rcases List.mem_cons.mp m1 with rfl|m1'
  ·rcases List.mem_cons.mp m2 with e|m2'
   ·cases e;rfl
   ·exact absurd (List.mem_map_of_mem (f:=(·.2)) m2') nv.1
  ·rcases List.mem_cons.mp m2 with rfl|m2'
   ·exact absurd (List.mem_map_of_mem (f:=(·.2)) m1') nv.1
   ·exact ih nv.2 m1' m2'
theorem tgt_len {S:Sc}{t:MT}{tg:PySem.Expr}(h:isTgt S t tg=true):t.vars.length=(tgtNames tg).length:=by
 cases t with
 | tup _=>exact(Bool.false_ne_true h).elim
 | one i=>rw[tgtNames,if_pos (and2 h).1];rfl
theorem inOk_of {S:Sc}{t:MT}{tg:PySem.Expr}{sc:Scope}(h1:innerOk S sc=true) (h2:t.vars.Nodup) (h3:(tgtNames tg).Nodup) (h4:t.vars.length=(tgtNames tg).length) (h5:∀ x∈tgtNames tg,sc.names.lookup x=some .local):InOk S t tg sc:=by
 obtain⟨h0,h1⟩:=and2 h1
 obtain⟨hk,hn⟩:=and2 h0
 have key:∀ p∈sc.names,(p.2=.local∨p.2=.globalImplicit)∨(p.2=.free∧(S.names.lookup p.1=some .cell∨S.names.lookup p.1=some .free)):=fun p hp=>by
  simpa only[Bool.or_eq_true,Bool.and_eq_true,decide_eq_true_eq] using List.all_eq_true.mp h1 p hp
 refine⟨of_decide_eq_true hk,of_decide_eq_true hn,fun p hp=>?_,fun p hp=>Du (of_decide_eq_true hn) p hp,fun p hp hf=>?_,h2,h3,h4,h5⟩
 ·rcases key p hp with (q|q)|q
  ·exact .inl q
  ·exact .inr (.inr q)
  ·exact .inr (.inl q.1)
 ·rcases key p hp with (q|q)|q
  ·rw[hf] at q;cases q
  ·rw[hf] at q;cases q
  ·exact q.2
noncomputable def without (t:MT) (vars:MVars):MVars:=fun j=>if j∈t.vars then none else vars j
section
variable {prog:Program}{w:World}{h₀:Heap}{S:Sc}{env:Env}{vars:MVars}{fz:List Addr}{μ:MH}{s:Shared}{t:MT}{tg:PySem.Expr}{sc:Scope}
theorem inner_nk (I:InOk S t tg sc) (hk:(S.tab.map (·.1)).Nodup):((S.inner t tg sc.names).tab.map (·.1)).Nodup:=by
 unfold Sc.inner
 rw[List.map_append,List.nodup_append]
 refine⟨?_,?_,?_⟩
 ·rw[List.map_fst_zip (by rw[I.len];exact Nat.le_refl _)];exact I.vnd
 ·exact hk.sublist ((List.filter_sublist ..).map _)
 ·intro a ha b hb e
  subst e
  rw[List.map_fst_zip (by rw[I.len];exact Nat.le_refl _)] at ha
  obtain⟨p,hp,rfl⟩:=List.mem_map.mp hb
  have:=(List.mem_filter.mp hp).2
  simp[ha] at this
theorem inner_nv (I:InOk S t tg sc) (hk:(S.tab.map (·.2)).Nodup):((S.inner t tg sc.names).tab.map (·.2)).Nodup:=by
 unfold Sc.inner
 rw[List.map_append,List.nodup_append]
 refine⟨?_,?_,?_⟩
 ·rw[List.map_snd_zip (by rw[I.len];exact Nat.le_refl _)];exact I.nnd
 ·exact hk.sublist ((List.filter_sublist ..).map _)
 ·intro a ha b hb e
  subst e
  rw[List.map_snd_zip (by rw[I.len];exact Nat.le_refl _)] at ha
  obtain⟨p,hp,rfl⟩:=List.mem_map.mp hb
  have:=(List.mem_filter.mp hp).2
  rw[I.loc _ ha] at this
  exact(Bool.false_ne_true this).elim
theorem inner_cur {A:Around}{varsX:MVars}(C:Cur prog w h₀ A S env vars fz μ s) (I:InOk S t tg sc) {L:Addr}{s':Shared}{m:Str->Option Value}(hn:s'.heap.Ns L m) (hL:s.heap.get? L=none) (k:∀ b o,s.heap.get? b=some o->s'.heap.get? b=some o)
  (hag:∀ j,j∉t.vars->varsX j=vars j) (hin:∀ i x mv,(i,x)∈t.vars.zip (tgtNames tg)->varsX i=some mv->∃ v,RepV s'.heap mv v∧m x=some v):
  Cur prog w h₀ A (S.inner t tg sc.names) (compEnvC sc (closL env sc.names []) L env) varsX fz μ s':=by
 have kt:=KeepsT.of_all k
 have hcell:∀ p∈sc.names,p.2=.free->∃ c,env.cells.lookup p.1=some c:=fun p hp hf=>C.fr.cells p.1 (by
  have:env.kindOf p.1=S.names.lookup p.1:=by unfold Env.kindOf;rw[C.fr.names]
  rw[this];exact I.free p hp hf)
 have hko:∀ x,(compEnvC sc (closL env sc.names []) L env).kindOf x=(relab S sc.names).lookup x:=fun x=>by
  show (relabel sc env).names.lookup x=_
  rw[relab_eq C.fr.names C.fr.kind]
 have frees:∀ x,isFreeO (sc.names.lookup x)=true->(x,NameKind.free)∈sc.names:=by
  intro x hx
  exact mem_of_lookup (of_decide_eq_true hx)
 have nk:=inner_nk I C.fr.nk
 have nv:=inner_nv I C.fr.nv
 refine { base:=fun b o e=>⟨k b o (C.base b o e).1,(C.base b o e).2⟩,heap:=C.heap.ext k,fzin:=C.fzin.ext k,newl:=?nl,newc:=?nc,known:=C.known,frs:=C.frs.ext k,fr:=?fr }
 case nl=>
  cases q:h₀.get? L with
  | none=>exact q
  | some o=>have:=(C.base L o q).1;rw[hL] at this;cases this
 case nc=>
  intro x c hc
  rcases J9 hc with h1|⟨h1,h2⟩
  ·cases h1
  ·obtain⟨c',hc'⟩:=hcell _ h1 rfl
   simp only at hc'
   rw[hc'] at h2;simp at h2;subst h2
   exact C.newc x c (mem_of_lookup hc')
 case fr=>
  refine { names:=?nm,inj:=inj_of nv,nk:=nk,nv:=nv,kind:=I.kind,glob:=C.fr.glob,bui:=C.fr.bui,ns:=⟨m,hn,?ns⟩,cells:=?cs,apart:=?ap,fixl:=C.heap.free hL,fixc:=?fx }
  case nm=>exact relab_eq C.fr.names C.fr.kind
  case ns=>
   intro i x mv hi hkv hv
   have hm:=Nl hi
   unfold Sc.inner at hm
   rcases List.mem_append.mp hm with h1|h1
   ·obtain⟨v,hr,hmx⟩:=hin i x mv h1 hv
    refine⟨v,hr,?_⟩
    exact .loc (by rw[hko,Yj,I.loc x (List.of_mem_zip h1).2];rfl) hmx
   ·obtain⟨h2,h3⟩:=List.mem_filter.mp h1
    simp only[Bool.and_eq_true,Bool.not_eq_true',List.contains_eq_mem,decide_eq_false_iff_not] at h3
    have hvi:vars i=some mv:=(hag i h3.2).symm.trans hv
    have hfr:=frees x h3.1
    have hSl:S.tab.lookup i=some x:=C3 C.fr.nk _ h2
    have hS:=I.free _ hfr rfl
    simp only at hS
    obtain⟨mm,hmm,hvv⟩:=C.fr.ns
    obtain⟨v,hr,va⟩:=hvv i x mv hSl (by rcases hS with q|q <;> rw[q] <;> rfl) hvi
    refine⟨v,hr.keepT kt,?_⟩
    have hko':env.kindOf x=S.names.lookup x:=by unfold Env.kindOf;rw[C.fr.names]
    have hc:∃ c,env.cells.lookup x=some c∧s.heap.IsCell c (some v):=by
     cases va with
     | loc k e=>rw[hko'] at k;rcases hS with q|q <;> rw[q] at k <;> cases k
     | cel k c e hc=>exact⟨c,e,hc⟩
    obtain⟨c,h4,h5⟩:=hc
    have h6:(closL env sc.names []).lookup x=some c:=Ax hfr h4
    have h7:s'.heap.IsCell c (some v):=by obtain⟨o,ho,hd⟩:=h5;exact⟨o,k c o ho,hd⟩
    refine .cel ?_ c h6 h7
    rw[hko,Yj,I.look _ hfr]
    rcases hS with q|q
    ·exact .inl (congrArg some (if_pos (by rw[q];rfl)))
    ·exact .inr (congrArg some (if_neg (by rw[q];exact Bool.false_ne_true)))
  case cs=>
   intro x hx
   rw[hko,Yj] at hx
   have:(x,NameKind.free)∈sc.names:=by
    cases q:sc.names.lookup x with
    | none=>rw[q] at hx;rcases hx with z|z <;> cases z
    | some kk=>
     rw[q] at hx
     have hmem:=mem_of_lookup q
     rcases I.names _ hmem with h1|h1|h1 <;> simp only at h1 <;> subst h1
     ·rcases hx with z|z <;> cases z
     ·exact hmem
     ·rcases hx with z|z <;> cases z
   obtain⟨c,hc⟩:=hcell _ this rfl
   exact⟨c,Ax this hc⟩
  case ap=>exact Nb C.fr.apart I.nodup hcell List.Pairwise.nil (by exact fun _ h=>(List.not_mem_nil h).elim)
  case fx=>
   intro x c hc
   rcases J9 hc with h1|⟨h1,h2⟩
   ·cases h1
   ·obtain⟨c',hc'⟩:=hcell _ h1 rfl
    simp only at hc'
    rw[hc'] at h2;simp at h2;subst h2
    obtain⟨f1,f2,v,o,ho,hd⟩:=C.fr.fixc x c (mem_of_lookup hc')
    have ne:c≠L:=fun e=>by subst e;rw[hL] at ho;cases ho
    exact⟨f1,ne,v,o,k c o ho,hd⟩
theorem bind_agree {v:MV}{a b:MVars}{c:MVars}(h1:isOne t=true) (hb:bindT t v b=some c) (h:∀ j,j∉t.vars->a j=b j):bindT t v a=some c:=by
 cases t with
 | tup _=>exact(Bool.false_ne_true h1).elim
 | one i=>
  rw[← hb]
  refine congrArg some (funext fun j=>?_)
  unfold setv
  split
  ·rfl
  ·rename_i q;exact h j (fun m=>q (List.mem_singleton.mp m))
theorem bind_out {v:MV}{a c:MVars}(h1:isOne t=true) (hb:bindT t v a=some c):∀ j,j∉t.vars->c j=a j:=by
 intro j hj
 cases t with
 | tup _=>exact(Bool.false_ne_true h1).elim
 | one i=>
  obtain rfl:setv a i v=c:=Option.some.inj hb
  exact if_neg fun q=>hj (List.mem_singleton.mpr q)
end
end Mine
end
section
namespace Mine
open PySem PySem.Calls PyProof.Rows PySem.W
section
variable {prog:Program}{w:World}{G:String->Option MV}{Γ:String->Option MFun}{h₀:Heap}{mg mb:Str->Option Value}{Φ:CallSpec}{d:Dp}
theorem Hs {M:Model}{A:Around}{E:Value->Shared->Prop}{s:Shared}{env:Env}{Q:Bool->Shared->Prop}(h:Q false s):∀ (xs:List PySem.Expr),
  wpAny M A (forIn xs false fun c r=>if r=true then do let ok ← isTrue c env (eval c env);pure (ForInStep.yield ok) else pure (ForInStep.yield r)) Q E s
 | []=>wpAny_pure h
 | x::xs=>by
  simp only[List.forIn_cons,Bool.false_eq_true,if_false]
  exact wpAny_bind (wpAny_pure (Hs h xs))
theorem H8 {S:Sc}{env:Env}{vars:MVars}{fz:List Addr}{A:Around}{E:Value->Shared->Prop}:∀ {l:List ME}(hl:∀ e∈l,ST prog w G h₀ Φ d e) {xs:List PySem.Expr}{μ:MH}{s:Shared}{F:Bool->MH->Prop},isEs S l xs=true->OkA d A->Cur prog w h₀ A S env vars fz μ s->evIfs G Φ X0 l fz vars F μ->
  wpAny (model prog w) A (forIn xs true fun c r=>if r=true then do let ok ← isTrue c env (eval c env);pure (ForInStep.yield ok) else pure (ForInStep.yield r)) (PostB prog w fz μ s F) E s
 | [],_,[],μ,s,F=>fun h hA C hq=>by
  exact wpAny_pure ⟨μ,hq,C.heap,.refl⟩
 | e::l,hl,x::xs,μ,s,F=>fun h hA C hq=>by
  replace h:=Qv h
  have hq':ev G Φ X0 e fz vars (fun v μ'=>∃ b,truthy μ' v=some b∧if b then evIfs G Φ X0 l fz vars F μ' else F false μ') μ:=by
   cases l with
   | nil=>
    have q:(fun (v:MV) (μ':MH)=>∃ b,truthy μ' v=some b∧F b μ')=(fun v μ'=>∃ b,truthy μ' v=some b∧if b=true then F true μ' else F false μ'):=by
     funext v μ'
     apply propext
     constructor <;> rintro⟨b,hb,hh⟩ <;> refine⟨b,hb,?_⟩ <;> cases b <;> simpa using hh
    have hq:ev G Φ X0 e fz vars (fun v μ'=>∃ b,truthy μ' v=some b∧F b μ') μ:=hq
    rw[q] at hq;exact hq
   | cons e' l=>exact hq
  simp only[List.forIn_cons,if_true]
  refine wpAny_bind (wpAny_bind (wpAny_mono (hl e (.head _) S x env vars fz μ s (fun b μ'=>if b then evIfs G Φ X0 l fz vars F μ' else F false μ') A E h.1 hA C hq') (fun b s1 h₁=>wpAny_pure ?_) fun _ _ e=>e))
  obtain⟨μa,hq1,rc,gb⟩:=h₁
  cases b with
  | false=>exact Hs (PostB.trans gb ⟨μa,hq1,rc,.refl⟩) xs
  | true=>exact wpAny_mono (H8 (fun e' he'=>hl e' (.tail _ he')) h.2 hA (C.grow gb rc) hq1) (fun v' s3 h₃=>h₃.trans gb) fun _ _ e=>e
 | [],_,_::_,_,_,_=>fun h _ _ _=>by exact(Bool.false_ne_true h).elim
 | _::_,_,[],_,_,_=>fun h _ _ _=>by exact(Bool.false_ne_true h).elim
theorem firmD {h:Heap}{D:Addr}{ys:Array Value}{o:Obj}(p:h.PlainList D ys) (e:h.get? D=some o):Firm o:=by
 obtain⟨n,hn⟩:=p
 rw[hn] at e;cases e
 exact⟨(fun es ep q=>by cases q),by simp⟩
theorem firmAt {h:Heap}{b:Addr}{o:Obj}{P:Prop}(x:∃ o,h.get? b=some o∧(P∨Firm o)) (e:h.get? b=some o):P∨Firm o:=by
 obtain⟨o',e',f⟩:=x
 rw[e] at e';cases e';exact f
structure CompEnd (prog:Program) (w:World) (fz:List Addr) (μ:MH) (s:Shared) (Q:MQ) (D L:Addr) (s':Shared):Prop where
 out:∃ μ',Q (.ref D) μ'∧RepH prog w μ' s'.heap∧Grow fz μ s μ' s'∧μ' L=none
 fresh:∀ o,(μ L=none∨L∈fz)->s.heap.get? L=some o->False
 ns:∃ m,s'.heap.Ns L m
structure CompOk (S:Sc) (elt:ME) (t:MT) (k:SK) (its ifs:List ME) (el tg iter:PySem.Expr) (ifs':List PySem.Expr) (sc:Scope):Prop where
 src:∃ as,srcArgs S k iter=some as∧isEs S its as=true
 one:isOne t=true
 inn:InOk S t tg sc
 tgt:isTgt (S.inner t tg sc.names) t tg=true
 ifs:isEs (S.inner t tg sc.names) ifs ifs'=true
 elt:isE (S.inner t tg sc.names) elt el=true
theorem Ib {S:Sc}{elt:ME}{t:MT}{k:SK}{its ifs:List ME}{x:PySem.Expr}(h:isE S (.comp elt t k its ifs) x=true):∃ el tg iter ifs' sc p,x=.ListComp el [⟨tg,iter,ifs',0⟩] sc p∧CompOk S elt t k its ifs el tg iter ifs' sc:=by
 obtain⟨el,tg,iter,ifs',sc,p,e,h1,h2,h3,h4,h5,h6,h7,h8,h9⟩:=inv_comp h
 exact⟨el,tg,iter,ifs',sc,p,e,h1,h2,inOk_of h3 h4 h5 (tgt_len h6) h7,h6,h8,h9⟩
theorem isTgt_name {S:Sc}{t:MT}{tg:PySem.Expr}(h:isTgt S t tg=true):∃ x p,tg=.Name x p:=by
 cases t with
 | tup _=>exact(Bool.false_ne_true h).elim
 | one i=>exact⟨_,_,inv (and2 h).1⟩
inductive CompAt (prog:Program) (w:World) (h₀:Heap) (A:Around) (S:Sc) (env:Env) (G:String->Option MV) (Φ:CallSpec) (t:MT) (vars:MVars) (elt:ME) (ifs:List ME) (Q:MQ) (fz held fp wr:List Addr) (D:Addr) (St:Nat->Heap->Prop) (all:List MV) (μa:MH) (sa:Shared) (n:Nat) (s':Shared):Prop
 | mk (i:Nat) (acc:List MV) (ys:List Value) (varsX:MVars) (μ':MH) (e:n=all.length+1-i) (le:i≤all.length) (st:St i s'.heap) (pl:s'.heap.PlainList D (List.toArray ys)) (rs:RepVs s'.heap acc ys) (ai:acc.length≤i) (cur:Cur prog w h₀ A S env varsX (held++fz) μ' s') (ag:∀ j,j∉t.vars->varsX j=vars j) (gr:Grow fz μa sa μ' s') (dm:μ' D=none) (fp:∀ b∈fp,(μ' b=none∨b∈held++fz)∧∃ o,s'.heap.get? b=some o∧(μ' b≠none∨Firm o)) (wr:∀ b∈wr,μ' b=none) (run:compM fz t vars (fun vs F μ=>evIfs G Φ X0 ifs (held++fz) vs F μ) (fun vs F μ=>ev G Φ X0 elt (held++fz) vs F μ) Q (all.drop i) acc μ')
theorem I9 (pg:PG prog w G Γ h₀ mg mb) (hd:d.h=true) {elt:ME}{t:MT}{k:SK}{its ifs:List ME}(hits:∀ e∈its,SS prog w G h₀ Φ d e) (hifs:∀ e∈ifs,SS prog w G h₀ Φ d e) (helt:SE prog w G h₀ Φ d elt)
  {S:Sc}{el tg iter:PySem.Expr}{ifs':List PySem.Expr}{sc:Scope}{p:Pos}{env:Env}{vars:MVars}{fz:List Addr}{μ:MH}{s:Shared}{Q:MQ}{A:Around}{E:Value->Shared->Prop}
  (h:CompOk S elt t k its ifs el tg iter ifs' sc) (hA:OkA d A) (C:Cur prog w h₀ A S env vars fz μ s) (hq:ev G Φ X0 (.comp elt t k its ifs) fz vars Q μ) {RR:Value->Addr->Result->Shared->Prop}
  (hR:∀ D L s',CompEnd prog w fz μ s Q D L s'->RR (.ref D) L (.ok .next) s'):
  (∀ x,foldedSetIterable iter env x=pure x)∧closureFor sc env=pure (closL env sc.names []) ∧
  wpAny (model prog w) A (eval iter env) (fun x s1=>wpAny (model prog w) A (pyIter x) (fun it sd=>wpAny (model prog w) A (newList []) (fun acc s3=>
   wpAny (model prog w) A (newFunctionEnv sc env.globals (closL env sc.names []) [] env.qual none .none (some env)) (fun cenv s4=>
    codeAny (model prog w) A (.compStart (.ListComp el [⟨tg,iter,ifs',0⟩] sc p) 0 it acc { cenv with scope:=relabel sc env }) (RR acc cenv.locals) s4) E s3) E sd) E s1) E s:=by
 obtain⟨⟨as,has,hsrc⟩,h1,I,htg,hifs',hel⟩:=h
 have hcell:∀ p∈sc.names,p.2=.free->∃ c,env.cells.lookup p.1=some c:=fun p hp hf=>C.fr.cells p.1 (by
  have:env.kindOf p.1=S.names.lookup p.1:=by unfold Env.kindOf;rw[C.fr.names]
  rw[this];exact I.free p hp hf)
 obtain⟨hfold,hsource⟩:=H7 (E:=E) pg hd hits has hsrc hA C hq
 refine⟨hfold,clos_eq hcell,wpAny_mono hsource (fun x s1 h₁=>wpAny_mono h₁ (fun it sd h₂=>?_) fun _ _ e=>e) fun _ _ e=>e⟩
 obtain⟨src,all,μa,sa,⟨hfit,hK⟩,hit,ra,ga,hat⟩:=h₂
 obtain⟨Ia,fp,wr,St,rfl,W,hst,hfp,hwr,hkeep,hos,hgens⟩:=hat
 have Ca:=C.grow ga ra
 have C₂:Cur prog w h₀ A S env vars fz μa sd:=Ca.ext hkeep
 have hnc:∀ b∈fp,∀ x c,(x,c)∈env.cells->b≠c:=by
  intro b hb x c hc e
  subst e
  obtain⟨_,_,v,o,ho,hd⟩:=C₂.fr.fixc x b hc
  obtain⟨_,o',ho',hd'⟩:=hfp b hb
  rw[ho] at ho';cases ho';exact hd'.1 v hd
 have hnocell:∀ y∈sc.names,y.2≠.cell:=fun y hy e=>by rcases I.names y hy with q|q|q <;> rw[q] at e <;> cases e
 refine wpAny_newObj_type (wpAny_newFunctionEnv hnocell (by intro y hy;exact(List.not_mem_nil hy).elim) (fun h₁ hns1 hsb1=>?_) I.kind)
 dsimp only at hns1 hsb1 ⊢
 generalize hH2:sd.heap.push { cls:=.type "list",dict:=none,data:=.seq ([]:List Value).toArray }=H2 at hns1 hsb1 ⊢
 generalize hDe:sd.heap.objs.size=D at hns1 hsb1 ⊢
 have hC:H2.objs.size=D+1:=by rw[← hH2,Heap.size_push,hDe]
 generalize hLe:H2.objs.size=L at hC hns1 hsb1 ⊢
 have hDC:D≠L:=by rw[hC];exact Nat.ne_of_lt (Nat.lt_succ_self _)
 have below:∀ b o,sd.heap.get? b=some o->b≠L∧b≠D:=fun b o e=>by
  have:=Heap.lt_size e
  rw[hDe] at this
  exact⟨by rw[hC];exact Nat.ne_of_lt (Nat.lt_succ_of_lt this),Nat.ne_of_lt this⟩
 have old:∀ b o,sd.heap.get? b=some o->h₁.get? b=some o:=fun b o e=>hsb1.extBut b o (below b o e).1 (Heap.get?_push_of_some _ (hH2▸Heap.get?_push_of_some _ e))
 have hD2:sd.heap.get? D=none:=by rw[← hDe];exact Yn _
 have hL2:sd.heap.get? L=none:=by
  cases e:sd.heap.get? L with
  | none=>rfl
  | some o=>exact absurd rfl (below L o e).1
 have hDa:sa.heap.get? D=none:=by
  cases e:sa.heap.get? D with
  | none=>rfl
  | some o=>have:=hkeep D o e;rw[hD2] at this;cases this
 have hLa:sa.heap.get? L=none:=by
  cases e:sa.heap.get? L with
  | none=>rfl
  | some o=>have:=hkeep L o e;rw[hL2] at this;cases this
 have hacc:h₁.PlainList D #[]:=⟨_,hsb1.extBut _ _ hDC (Heap.get?_push_of_some _ (hH2▸hDe▸Heap.get?_push_size _ rfl))⟩
 have hDm:μa D=none:=C₂.heap.free hD2
 have hLm:μa L=none:=C₂.heap.free hL2
 have hDfp:D∉fp:=fun m=>by obtain⟨_,o,ho,_⟩:=hfp D m;rw[hD2] at ho;cases ho
 have hLfp:L∉fp:=fun m=>by obtain⟨_,o,ho,_⟩:=hfp L m;rw[hL2] at ho;cases ho
 have Cw:=C₂.weak (cs:=src.held) (Up hit)
 have hwz:∀ b∈wr,b∉src.held++fz:=fun b hb m=>(Ca.weak (cs:=src.held) (Up hit)).fzin b m (hwr b hb).1
 have hwf:∀ b∈wr,∀ l,A.frames=some l->b∉frs l:=fun b hb=>Ca.frs.new (hwr b hb).1
 have hDf:∀ l,A.frames=some l->D∉frs l:=C₂.frs.new hD2
 have hDz:D∉src.held++fz:=fun m=>Cw.fzin D m hD2
 let cenv:=compEnvC sc (closL env sc.names []) L env
 have hcenvc:∀ x c,(x,c)∈cenv.cells->(x,c)∈env.cells:=by
  intro x c hc
  rcases J9 hc with q|⟨q1,q2⟩
  ·cases q
  ·obtain⟨c',hc'⟩:=hcell _ q1 rfl
   simp only at hc'
   rw[hc'] at q2;simp at q2;subst q2
   exact mem_of_lookup hc'
 have hh0:∀ b,sd.heap.get? b=none->h₀.get? b=none:=fun b e=>by
  cases q:h₀.get? b with
  | none=>rfl
  | some o=>have:=(C₂.base b o q).1;rw[e] at this;cases this
 have hwr0:∀ b∈wr,h₀.get? b=none:=fun b hb=>by
  cases q:h₀.get? b with
  | none=>rfl
  | some o=>have:=(Ca.base b o q).1;rw[(hwr b hb).1] at this;cases this
 have hcwr:∀ x c,(x,c)∈cenv.cells->c∉wr:=fun x c hc hm=>hnc c (W.sub c hm) x c (hcenvc x c hc) rfl
 have hD0:h₀.get? D=none:=hh0 D hD2
 have hcD:∀ x c,(x,c)∈cenv.cells->c∉[D]:=fun x c hc hm=>by
  simp at hm;subst hm
  obtain⟨_,_,v,o,ho,_⟩:=C₂.fr.fixc x c (hcenvc x c hc)
  rw[hD2] at ho;cases ho
 let S':=S.inner t tg sc.names
 have tloc:∀ x∈tgtNames tg,S'.names.lookup x=some .local:=fun x hx=>by
  show (relab S sc.names).lookup x=_
  rw[Yj,I.loc x hx];rfl
 let Inv:Nat->Shared->Prop:=CompAt prog w h₀ A S' cenv G Φ t vars elt ifs Q fz src.held fp wr D St all μa sa
 have notD:∀ (hh:Heap) ys o,hh.PlainList D ys->hh.get? D=some o->¬ ImmCls o:=by
  rintro hh ys o ⟨n,hn⟩ ho
  rw[hn] at ho;cases ho
  exact F2 rfl (by decide) (by decide)
 have loop:∀ s4:Shared,s4={ sd with heap:=h₁,toks:=sd.toks+([]:List (Str×Value)).length }->codeAny (model prog w) A (.compLoop (.ListComp el [⟨tg,iter,ifs',0⟩] sc p) 0 (.ref Ia) (.ref D) cenv) (RR (.ref D) L) s4:=by
  rintro s4 rfl
  refine codeAny_compLoop_tests Inv ?_ (all.length+1) ?_ ?_
  ·rintro n s' ⟨i,acc,ys,varsX,μ',rfl,hi,hst',hpl,hrs,hai,C',hag,g',hDm',hfp',hwr',hM⟩
   by_cases hlt:i<all.length
   ·have hm:all[i]?=some all[i]:=List.getElem?_eq_getElem hlt
    rw[List.drop_eq_getElem_cons hlt] at hM
    obtain⟨vars',hb,hM⟩:=hM
    refine W.item i all[i] s' _ _ hm hst' fun v h' tk rv st' kt hk=>?_
    have C1:Cur prog w h₀ A S' cenv varsX (src.held++fz) μ' { s' with heap:=h',toks:=tk }:=C'.skip kt hk hwr' hwr0 (fun m=>hLfp (W.sub _ m)) hcwr hwz hwf
    have g1:Grow fz μa sa μ' { s' with heap:=h',toks:=tk }:=g'.skip hk (fun b hb=>(hwr b hb).1) rfl rfl
    refine H4 C1 htg rv (bind_agree h1 hb hag) fun s5 C2 gs2 kt2 kl2=>?_
    have kl:∀ b o,b≠L->h'.get? b=some o->s5.heap.get? b=some o:=kl2 tloc
    have g2:Grow fz μa sa μ' s5:=g1.skip (wr:=[L]) (fun b o hb e=>kl b o (by simpa using hb) e) (by simp[hLa]) gs2.os gs2.gens
    have hDw:D∉wr:=fun m=>hDfp (W.sub _ m)
    have keepD:∀ o,s'.heap.get? D=some o->s5.heap.get? D=some o:=fun o e=>kl D o hDC (hk D o hDw e)
    have hst5:St (i+1) s5.heap:=W.frame _ _ _ st' kt2 fun b hb o e=>kl b o (fun q=>hLfp (q▸hb)) e
    have hpl5:s5.heap.PlainList D ys.toArray:=by obtain⟨n,hn⟩:=hpl;exact⟨n,keepD _ hn⟩
    have hrs5:RepVs s5.heap acc ys:=(hrs.keepT kt).keepT kt2
    have hfp5:∀ b∈fp,(μ' b=none∨b∈src.held++fz)∧∃ o,s5.heap.get? b=some o∧(μ' b≠none∨Firm o):=by
     intro b hb
     refine⟨(hfp' b hb).1,?_⟩
     have hbL:b≠L:=fun q=>hLfp (q▸hb)
     by_cases hw:b∈wr
     ·obtain⟨o,ho,hfm⟩:=W.alive _ _ st' b hw
      exact⟨o,kl b o hbL ho,.inr hfm⟩
     ·obtain⟨o,ho,hfm⟩:=(hfp' b hb).2
      exact⟨o,kl b o hbL (hk b o hw ho),hfm⟩
    refine wpAny_mono (H8 (fun e he=>(hifs e he).2) hifs' hA C2 hM) (fun ok s6 h₆=>?_) fun _ _ e=>e
    obtain⟨μ6,hq6,r6,gf⟩:=h₆
    have C6:=C2.grow gf r6
    have kD6:∀ o,s5.heap.get? D=some o->s6.heap.get? D=some o∧μ6 D=none:=fun o e=>(gf.keep D o (.inl hDm') e).imp (fun h=>h.firm (.inr (firmD (hpl5) e))) fun q=>q.trans hDm'
    have kfp6:∀ b∈fp,∀ o,s5.heap.get? b=some o->s6.heap.get? b=some o:=fun b hb o e=>(gf.keep b o (hfp5 b hb).1 e).1.firm (firmAt (hfp5 b hb).2 e)
    have hst6:St (i+1) s6.heap:=W.frame _ _ _ hst5 (gf.keepT C2.heap) kfp6
    have hfp6:∀ b∈fp,(μ6 b=none∨b∈src.held++fz)∧∃ o,s6.heap.get? b=some o∧(μ6 b≠none∨Firm o):=fun b hb=>by
     obtain⟨q,o,ho,hfm⟩:=hfp5 b hb
     obtain⟨e1,e2⟩:=gf.keep b o q ho
     exact⟨q.imp (fun z=>e2.trans z) id,o,e1.firm hfm,hfm.imp (fun z y=>z (e2.symm.trans y)) id⟩
    have hwr6:∀ b∈wr,μ6 b=none:=fun b hb=>by
     obtain⟨q,o,ho,_⟩:=hfp5 b (W.sub b hb)
     exact(gf.keep b o q ho).2.trans (hwr' b hb)
    obtain⟨nD,hnD⟩:=id hpl5
    have hpl6:s6.heap.PlainList D ys.toArray:=⟨nD,(kD6 _ hnD).1⟩
    have hrs6:RepVs s6.heap acc ys:=hrs5.keepT (gf.keepT C2.heap)
    have hag':∀ j,j∉t.vars->vars' j=vars j:=bind_out h1 hb
    have g6:Grow fz μa sa μ6 s6:=g2.trans gf.weak
    cases ok with
    | false=>
     exact⟨all.length+1-(i+1),by exact ar74 hlt,i+1,acc,ys,vars',μ6,rfl,hlt,hst6,hpl6,hrs6,by exact Nat.le_succ_of_le (by assumption),C6,hag',g6,(kD6 _ hnD).2,hfp6,hwr6,hq6⟩
    | true=>
     refine wpAny_mono (helt S' el cenv vars' _ μ6 s6 _ A _ hel hA C6 hq6) (fun r se h₇=>?_) fun _ _ e=>e
     obtain⟨mr,μ7,hq7,rr,r7,g7⟩:=h₇
     have C7:=C6.grow g7 r7
     have kD7:=g7.keep D _ (.inl (kD6 _ hnD).2) (kD6 _ hnD).1
     have hD7:μ7 D=none:=kD7.2.trans (kD6 _ hnD).2
     have hst7:St (i+1) se.heap:=W.frame _ _ _ hst6 (g7.keepT r6) fun b hb o e=>(g7.keep b o (hfp6 b hb).1 e).1.firm (firmAt (hfp6 b hb).2 e)
     have hpl7:se.heap.PlainList D ys.toArray:=⟨nD,kD7.1.firm (.inr (firmD hpl6 (kD6 _ hnD).1))⟩
     have hlen:ys.length=acc.length:=hrs.length
     refine wpAny_list_append_plain hpl7 (fun h' hpl8 hs8=>?_) (by
      have:all.length≤sizeLine:=Qe hfit
      simp only[List.size_toArray];exact ar75 hai hlt hlen this)
     have kall:∀ b o,b∉[D]->se.heap.get? b=some o->h'.get? b=some o:=fun b o hb e=>hs8.extBut b o (by simpa using hb) e
     have kt8:KeepsT se.heap h':=fun b o e hi=>kall b o (fun q=>by cases List.mem_singleton.mp q;exact notD _ _ o hpl7 e hi) e
     refine⟨all.length+1-(i+1),by lia,i+1,acc++[mr],ys++[r],vars',μ7,rfl,hlt,?_,?_,?_,by simp;assumption,?_,hag',?_,hD7,?_,?_,hq7⟩
     ·exact W.frame _ _ _ hst7 kt8 fun b hb o e=>kall b o (fun q=>by cases List.mem_singleton.mp q;exact hDfp hb) e
     ·simpa using hpl8
     ·exact((hrs6.keepT (g7.keepT r6)).keepT kt8).append ⟨rr.keepT kt8,trivial⟩
     ·exact C7.skip (s':={ se with heap:=h' }) kt8 kall (by simp[hD7]) (by simp[hD0]) (fun q=>by simp at q;exact hDC q.symm) hcD (fun b hb=>by rw[List.mem_singleton.mp hb];exact hDz) (fun b hb=>by rw[List.mem_singleton.mp hb];exact hDf)
     ·exact(g6.trans g7.weak).skip (wr:=[D]) (s'':={ se with heap:=h' }) kall (by simp[hDa]) rfl rfl
     ·intro b hb
      obtain⟨q,o,ho,hfm⟩:=hfp6 b hb
      obtain⟨e1,e2⟩:=g7.keep b o q ho
      exact⟨q.imp (fun z=>e2.trans z) id,o,kall b o (fun q=>by cases List.mem_singleton.mp q;exact hDfp hb) (e1.firm hfm),hfm.imp (fun z y=>z (e2.symm.trans y)) id⟩
     ·intro b hb
      obtain⟨q,o,ho,_⟩:=hfp6 b (W.sub b hb)
      exact(g7.keep b o q ho).2.trans (hwr6 b hb)
   ·have hie:i=all.length:=by exact ar76 hi hlt
    subst hie
    rw[List.drop_length] at hM
    refine W.done s' _ _ hst' fun h' tk kt hk=>?_
    have hDw:D∉wr:=fun m=>hDfp (W.sub _ m)
    refine hR D L _ ⟨⟨upd μ' D (.list acc),?_,?_,?_,?_⟩,?_,?_⟩
    ·exact hM D hDm' (fun m=>hDz (List.mem_append_right _ m))
    ·have C1:Cur prog w h₀ A S' cenv varsX (src.held++fz) μ' { s' with heap:=h',toks:=tk }:=C'.skip kt hk hwr' hwr0 (fun m=>hLfp (W.sub _ m)) hcwr hwz hwf
     refine C1.heap.alloc (fun b o e=>e) ⟨ys,?_,hrs.keepT kt⟩
     obtain⟨n,hn⟩:=hpl;exact⟨n,hk D _ hDw hn⟩
    ·refine ga.trans ⟨fun b o f e=>?_,g'.os,g'.gens⟩
     obtain⟨e1,e2⟩:=g'.keep b o f e
     have hbD:b≠D:=fun q=>by subst q;rw[hDa] at e;cases e
     exact⟨e1.skip fun o' e'=>hk b o' (fun m=>by rw[(hwr b m).1] at e;cases e) e',by unfold upd;rw[if_neg hbD];exact e2⟩
    ·unfold upd;rw[if_neg (Ne.symm hDC)];exact C'.fr.fixl
    ·intro o f e
     obtain⟨o',e'⟩:=(ga.keep L o f e).1.there
     rw[hLa] at e';cases e'
    ·obtain⟨m,hm,_⟩:=C'.fr.ns
     exact⟨m,hm.at' fun o e=>hk _ o (fun m=>hLfp (W.sub _ m)) e⟩
  ·have ke:∀ b o,sd.heap.get? b=some o->h₁.get? b=some o:=old
   refine⟨0,[],[],without t vars,μa,rfl,Nat.zero_le _,W.frame _ _ _ hst (.of_all ke) (fun b _ o e=>ke b o e),hacc,trivial,Nat.le_refl _,?_,?_,?_,hDm,?_,fun b hb=>(hwr b hb).2,?_⟩
   ·exact inner_cur (s':={ sd with heap:=h₁,toks:=_ }) Cw I hns1 hL2 ke (fun j hj=>if_neg hj) fun i x mv hi hv=>by
     rw[show without t vars i=none from if_pos (List.of_mem_zip hi).1] at hv;cases hv
   ·intro j hj;simp[without,hj]
   ·exact⟨fun b o _ e=>⟨.same (ke b o (hkeep b o e)),rfl⟩,hos,hgens⟩
   ·intro b hb
    obtain⟨q,o,ho,_,hfm⟩:=hfp b hb
    exact⟨q.imp id fun m=>List.mem_append_left _ m,o,ke b o ho,hfm.imp (Up hit b) id⟩
   ·rw[List.drop_zero];exact hK
  ·obtain⟨x,px,rfl⟩:=isTgt_name htg
   intro v;rfl
 exact codeAny_compStart_list (loop _ rfl) (W.self 0 _ _ _ (W.frame _ _ _ hst (.of_all old) (fun b _ o e=>old b o e)) (loop _ rfl))
theorem SameBut.keep {L:Addr}{h h':Heap}(hs:Heap.SameBut L h h'):∀ b o,b∉[L]->h.get? b=some o->h'.get? b=some o:=fun b o hb e=>hs.extBut b o (by simpa using hb) e
theorem Kn {h:Heap}{L:Addr}{m:Str->Option Value}(hn:h.Ns L m):∀ o,h.get? L=some o->¬ ImmCls o:=by
 obtain⟨o,es,ep,ho,hd,_⟩:=hn
 intro o' ho'
 rw[ho] at ho';cases ho'
 exact F3 hd
theorem end_post {fz:List Addr}{μ:MH}{s s':Shared}{Q:MQ}{A:Around}{E:Value->Shared->Prop}{D L:Addr}(e:CompEnd prog w fz μ s Q D L s'):compPost (model prog w) A E none (PostV prog w fz μ s Q) (.ref D) L (.ok .next) s':=by
 obtain⟨⟨μ',hq',r',g',hL⟩,hf,m,hn⟩:=e
 refine⟨m,hn,fun h'' hs''=>⟨.ref D,μ',hq',rfl,?_,?_⟩⟩
 ·have kt:KeepsT s'.heap h'':=fun b o e hi=>SameBut.keep hs'' b o (fun q=>by cases List.mem_singleton.mp q;exact Kn hn o e hi) e
  exact fun a o e=>(r' a o e).keeps kt fun y hy=>SameBut.keep hs'' a y (fun q=>by cases List.mem_singleton.mp q;rw[hL] at e;cases e) hy
 ·exact⟨fun b o f e=>by
   obtain⟨e1,e2⟩:=g'.keep b o f e
   exact⟨e1.skip fun o' e'=>SameBut.keep hs'' b o' (fun q=>by cases List.mem_singleton.mp q;exact hf o f e) e',e2⟩,g'.os,g'.gens⟩
theorem se_comp (pg:PG prog w G Γ h₀ mg mb) (hd:d.h=true) {elt:ME}{t:MT}{k:SK}{its ifs:List ME}(hits:∀ e∈its,SS prog w G h₀ Φ d e) (hifs:∀ e∈ifs,SS prog w G h₀ Φ d e) (helt:SE prog w G h₀ Φ d elt):SE prog w G h₀ Φ d (.comp elt t k its ifs):=fun S x env vars fz μ s Q A E h hA C hq=>by
 obtain⟨el,tg,iter,ifs',sc,p,rfl,hok⟩:=Ib h
 obtain⟨hs,hclos,hw⟩:=I9 (E:=E) (RR:=fun acc L=>compPost (model prog w) A E none (PostV prog w fz μ s Q) acc L) pg hd hits hifs helt hok hA C hq (fun _ _ _ e=>end_post e)
 rw[eval_ListComp]
 exact wpAny_comprehension_free (use:=none) rfl hs hclos hok.inn.kind (fun x hx hl=>by rw[hok.inn.look x hx,hl]) hw
noncomputable def ME.tag:ME->Tg
 | .var _ | .glob _=>.name
 | .cint _=>.cint
 | .cstr _=>.cstr
 | .cbool _=>.cbool
 | .cnone=>.cnone
 | .bin _ _ _=>.bin
 | .neg _=>.neg
 | .not _=>.not
 | .and _=>.and
 | .or _=>.or
 | .cmp _ _ _=>.cmp
 | .attr _ _=>.attr
 | .mcall _ _ _=>.callA
 | .idx _ _=>.sub
 | .slice _ _ _ _=>.slc
 | .list _=>.list
 | .tuple _=>.tup
 | .dict0=>.dict0
 | .call _ _ | .bi _ _ | .isinst _ _ | .new _ | .isx _ _=>.callN
 | .meth _ _ _=>.callA
 | .comp _ _ _ _ _=>.lc
theorem Pz {S:Sc}{e:ME}{x:PySem.Expr}(h:isE S e x=true):(node x).t=e.tag:=by
 cases e with
 | cnone=>exact of_decide_eq_true h
 | dict0=>exact of_decide_eq_true h
 | call _ _=>exact of_decide_eq_true (and2 (and2 (and2 h).1).1).1
 | isinst _ _=>exact of_decide_eq_true (and2 (and2 (and2 h).1).1).1
 | isx _ _=>exact of_decide_eq_true (and2 (and2 (and2 h).1).1).1
 | new _=>exact of_decide_eq_true (and2 (and2 (and2 (and2 h).1).1).1).1
 | bi f _=>cases f <;> first|exact of_decide_eq_true (and2 (and2 (and2 h).1).1).1|exact of_decide_eq_true (and2 h).1|exact(Bool.false_ne_true h).elim
 | _=>exact of_decide_eq_true (and2 h).1
noncomputable def Tg.plain:Tg->Bool
 | .not | .and | .or | .cmp | .other _=>false
 | _=>true
theorem isTrue_tag {x:PySem.Expr}{env:Env}(h:(node x).t.plain=true):∀ whole,isTrue x env whole=(do let v ← whole;standAt x.pos;holding [v] (PySem.truthy v)):=by
 intro whole
 cases x <;> first
  | rfl
  | exact(Bool.false_ne_true h).elim
  | (rename_i op _ _;cases op <;> first|rfl|exact(Bool.false_ne_true h).elim)
theorem SS.of_plain {e:ME}(he:e.tag.plain=true) (h:SE prog w G h₀ Φ d e):SS prog w G h₀ Φ d e:=
 ⟨h,fun S x env vars fz μ s F A E hx hA C hq=>truthyT h (isTrue_tag (by rw[Pz hx];exact he)) hx hA C hq⟩
end
end Mine
end
section
set_option maxRecDepth 100000
namespace Mine
open PySem PySem.Calls PyProof.Rows PySem.W
theorem KCls.keeps {h h':Heap}{C:Addr}(x:KCls h C) (k:∀ b o,h.get? b=some o->h'.get? b=some o):∃ N nm q bs sn sub col dd k0 k1 k2 k3 k5 mN,h'.get? C=some (excClassObj nm q C N bs [.type "object"] true sn sub false col dd k0 k1 k2 k3 k5 "object.__new__")∧h'.Ns N mN∧(mN "__getattribute__" = none∧mN "__getattr__" = none∧mN "__setattr__" = none)∧(∀ n∈attrNames,mN (Str.ofString n)=none) ∧
  ∀ f n m fa,methTab.lookup f=some n->res h m f=some (.ref fa)->mN (Str.ofString n)=some (.ref fa)∧∃ o,h'.get? fa=some o∧o.cls=.type "function":=by
 obtain⟨N,nm,q,bs,sn,sub,col,dd,k0,k1,k2,k3,k5,mN,h1,h2,h3,h4,h5,h6⟩:=x
 refine⟨N,nm,q,bs,sn,sub,col,dd,k0,k1,k2,k3,k5,mN,k _ _ h1,h2.keeps k,h3,h4,fun f n m fa e1 e2=>?_⟩
 have e3:=(h5 f n m e1).symm.trans e2
 obtain⟨o,e4,e5⟩:=h6 f n fa e1 e3
 exact⟨e3,o,k _ _ e4,e5⟩
theorem obj_attr {n:String}(h:attrName n=true):typeLookup (.type "object") (Str.ofString n)=pure none:=by
 have h:n∈attrNames:=List.contains_iff_mem.mp h
 simp only[attrNames,List.mem_cons,List.not_mem_nil,or_false] at h
 rcases h with rfl|rfl|rfl <;> (rw[typeLookup_type,builtinLookup_eq_fast];kernel_rfl)
theorem obj_meth (n:Str):∃ y,typeLookup (.type "object") n=pure y:=by
 rw[typeLookup_type]
 cases q:builtinLookup "object" n with
 | some r=>exact⟨r,rfl⟩
 | none=>
  unfold builtinLookup at q
  rw[Option.map_eq_none_iff] at q
  have:(builtinMro "object").isSome=true:=by rw[builtinMro_eq_fast];decide +kernel
  rw[q] at this;cases this
theorem handed {h:Heap}{mv:MV}{v:Value}(r:RepV h mv v):handedOut v=pure v:=by
 cases mv with
 | none=>obtain rfl:v=.none:=r;rfl
 | bool b=>obtain rfl:v=.bool b:=r;rfl
 | int i=>obtain⟨t,rfl⟩:=r;rfl
 | str x=>obtain⟨t,rfl⟩:=r;rfl
 | tup l=>obtain⟨a,_,_,rfl,_⟩:=r;rfl
 | ref a=>obtain rfl:v=.ref a:=r;rfl
 | keys a=>obtain⟨b,rfl,_⟩:=r;rfl
theorem B6 {K:Type} [DecidableEq K] {m:K×MV}{ms:List (K×MV)}{k:K}(h:m.1=k):lookI (m::ms) k=some m.2:=congrArg (Option.map fun (kv:K×MV)=>kv.2) (F7 (ms:=ms) h)
theorem Nm {K:Type} [DecidableEq K] {m:K×MV}{ms:List (K×MV)}{k:K}(h:m.1≠k):lookI (m::ms) k=lookI ms k:=congrArg (Option.map fun (kv:K×MV)=>kv.2) (F8 (ms:=ms) h)
theorem look_putI {K:Type} [DecidableEq K] (j k:K) (v:MV):∀ l:List (K×MV),lookI (putI l j v) k=if k=j then some v else lookI l k:=by
 have key:∀ l:List (K×MV),(l.any fun kv=>kv.1=j)=true->lookI (l.map fun kv=>if kv.1=j then (kv.1,v) else kv) k=if k=j then some v else lookI l k:=by
  intro l
  induction l with
  | nil=>intro h;cases h
  | cons p l ih=>
   intro h
   rw[List.map_cons]
   by_cases hp:p.1=j
   ·rw[if_pos hp]
    by_cases hk:k=j
    ·rw[if_pos hk];exact B6 (m:=(p.1,v)) (hp.trans hk.symm)
    ·rw[if_neg hk,Nm (m:=(p.1,v)) (fun e=>hk (e.symm.trans hp)),Nm (m:=p) (fun e=>hk (e.symm.trans hp))]
     by_cases ha:(l.any fun kv=>kv.1=j)=true
     ·rw[ih ha,if_neg hk]
     ·have:(l.map fun kv=>if kv.1=j then (kv.1,v) else kv)=l:=by
       have e:l.map (fun kv=>if kv.1=j then (kv.1,v) else kv)=l.map id:=List.map_congr_left fun kv hkv=>if_neg fun q=>ha (List.any_eq_true.mpr ⟨kv,hkv,decide_eq_true q⟩)
       rw[e,List.map_id]
      rw[this]
   ·have ha:(l.any fun kv=>kv.1=j)=true:=by rw[List.any_cons,decide_eq_false hp,Bool.false_or] at h;exact h
    rw[if_neg hp]
    by_cases hk:p.1=k
    ·rw[B6 hk,B6 hk,if_neg fun e=>hp (hk.trans e)]
    ·rw[Nm hk,Nm hk];exact ih ha
 intro l
 unfold putI
 split
 ·exact key l (by assumption)
 ·rename_i ha
  unfold lookI
  rw[List.find?_append]
  by_cases hk:k=j
  ·subst hk
   have:(l.find? fun kv=>kv.1=k)=none:=List.find?_eq_none.mpr fun x hx q=>ha (List.any_eq_true.mpr ⟨x,hx,q⟩)
   rw[this,if_pos rfl];simp
  ·rw[if_neg hk]
   have:([(j,v)].find? fun kv=>kv.1=k)=none:=List.find?_cons_of_neg (p:=fun kv:K×MV=>decide (kv.1=k)) fun z=>hk (of_decide_eq_true z).symm
   rw[this,Option.or_none]
theorem RepA.put {h:Heap}{l:List (Str×MV)}{m:Str->Option Value}{n:Str}{mv:MV}{v:Value}(r:RepA h l m) (rv:RepV h mv v):RepA h (putI l n mv) fun y=>if y=n then some v else m y:=fun y=>by
 rw[look_putI]
 by_cases q:y=n
 ·simp only[if_pos q];exact .inr ⟨mv,v,rfl,rfl,rv⟩
 ·simp only[if_neg q];exact r y
section
variable {prog:Program}{w:World}{G:String->Option MV}{Γ:String->Option MFun}{h₀:Heap}{mg mb:Str->Option Value}{Φ:CallSpec}{d:Dp}
structure InstAt (h:Heap) (a C d:Addr) (l:List (Str×MV)) (mA:Str->Option Value):Prop where
 inst:h.Inst a C mA
 rep:RepA h l mA
 ne:a≠C
 dict:∀ o,h.get? a=some o->o.dict=some d
 this:∃ o,h.get? a=some o
theorem R9 {μ:MH}{h:Heap}{a C d:Addr}{l:List (Str×MV)}(r:RepH prog w μ h) (e1:μ a=some (.inst C d)) (e2:μ d=some (.attrs l)):∃ mA,InstAt h a C d l mA:=by
 obtain⟨o,ho,hc,hd,hdi,hne,hne'⟩:=r a _ e1
 obtain⟨mA,hn,hr⟩:=r d _ e2
 exact⟨mA,⟨o,ho,hc,hd,.inr ⟨d,hdi,hne,hn⟩⟩,hr,Ne.symm hne',fun o' e=>by rw[ho] at e;cases e;exact hdi,o,ho⟩
theorem InstAt.within {h:Heap}{a C d:Addr}{l:List (Str×MV)}{mA:Str->Option Value}(I:InstAt h a C d l mA):Within mA (l.map (·.1)):=fun y hy=>by
 rcases I.rep y with ⟨_,q⟩|⟨mv,v,q,_⟩
 ·exact absurd q hy
 ·unfold lookI at q
  obtain⟨p,hp,_⟩:=Option.map_eq_some_iff.mp q
  have h1:=List.mem_of_find?_eq_some hp
  have h2:p.1=y:=by simpa using List.find?_some hp
  exact List.mem_map.mpr ⟨p,h1,h2⟩
theorem se_attr (pg:PG prog w G Γ h₀ mg mb) {o:ME}{n:String}(ho:SE prog w G h₀ Φ d o):SE prog w G h₀ Φ d (.attr o n):=fun S x env vars fz μ s Q A E h hA C hq=>by
 replace h:=inv_attr h
 obtain⟨v,p,rfl,hc0,h⟩:=h
 refine Attribute_any_ (wpAny_mono (ho S v env vars fz μ s _ A E h hA C hq) (fun x s1 h₁=>?_) fun _ _ e=>e) (by rw[arm_eval_Attribute,Bt hc0])
 obtain⟨mv,μa,hq1,rv,rc,gb⟩:=h₁
 replace hq1:=X5 hq1
 obtain⟨a,rfl,K,dd,l,hG,e1,e2,hn,u,e3,hq1⟩:=hq1
 obtain rfl:x=.ref a:=rv
 obtain⟨mA,I⟩:=R9 rc e1 e2
 have C₁:=C.grow gb rc
 obtain⟨N,nm,q,bs,sn,sub,col,dd',k0,k1,k2,k3,k5,mN,h1,h2,h3,h4,h5⟩:=(pg.kc K hG).keeps fun b o e=>(C₁.base b o e).1
 obtain⟨val,hm,hr⟩:∃ val,mA (Str.ofString n)=some val∧RepV s1.heap u val:=by
  rcases I.rep (Str.ofString n) with ⟨q1,_⟩|⟨mv,v,q1,q2,hr⟩
  ·rw[e3] at q1;cases q1
  ·rw[e3] at q1;cases q1;exact⟨v,q2,hr⟩
 obtain⟨hp,gs,dr,tk,os⟩:=s1
 refine load_attr h1 h2 h3.1 (h4 n (List.contains_iff_mem.mp hn)) (obj_attr hn) I.inst hm (handed hr) ?_
 exact PostV.trans gb (Qd hq1 rc hr rfl rfl rfl)
theorem Hj (pg:PG prog w G Γ h₀ mg mb) {n:String}{o:ME}{l:List ME}{S:Sc}{x:PySem.Expr}{env:Env}{vars:MVars}{fz:List Addr}{μ:MH}{s:Shared}{A:Around}{E:Value->Shared->Prop}{Q:Value->Shared->Prop}{P:MV->MH->Prop}(ho:SE prog w G h₀ Φ d o)
  (h:isE S (.mcall n o l) x=true) (hA:OkA d A) (C:Cur prog w h₀ A S env vars fz μ s) (hq:ev G Φ X0 o fz vars (fun x μ'=>refV x fun a=>(instM G μ' a fun _ l=>lookI l (Str.ofString n)=none)∧P x μ') μ)
  (k:∀ (fa a:Addr) (as:List PySem.Expr) (s1:Shared) (μa:MH),True->Grow fz μ s μa s1->RepH prog w μa s1.heap->isEs S l as=true->FnAt h₀ ("Keeper." ++ n) fa->∀ (o:Obj) (fd:FuncData),h₀.get? fa=some o->o.data=.func fd->P (.ref a) μa->
   wpAny (model prog w) A (spliced (as.map fun x=>(false,eval x env))) (fun vs sd=>(sd.heap.get? fa=some o∧o.data=.func fd)∧wpAny (model prog w) A (call (.ref fa) (.ref a::vs)) Q E sd) E s1):wpAny (model prog w) A (eval x env) Q E s:=by
 replace h:=inv_mcall h
 obtain⟨ov,ap,as,p,rfl,hline,hc0,hov,has,hlen,hfun,hmt⟩:=h
 rw[arm_eval_Call,Bt hc0]
 refine wpAny_bind (wpAny_mono (ho S ov env vars fz μ s _ A E hov hA C hq) (fun x s1 h₁=>?_) fun _ _ e=>e)
 refine wpAny_bind (wpAny_standAt ?_)
 obtain⟨mv,μa,hq1,rv,rc,gb⟩:=h₁
 replace hq1:=X5 hq1
 obtain⟨a,rfl,⟨K,dd,la,hG,e1,e2,e3⟩,hq1⟩:=hq1
 obtain rfl:x=.ref a:=rv
 obtain⟨mA,I⟩:=R9 rc e1 e2
 have C₁:=C.grow gb rc
 obtain⟨N,nm,q,bs,sn,sub,col,dd',k0,k1,k2,k3,k5,mN,h1,h2,h3,h4,h5⟩:=(pg.kc K hG).keeps fun b o e=>(C₁.base b o e).1
 obtain⟨fa,m,hm,hmf,o,fd,hfo,hfd⟩:=C.known _ hfun
 obtain⟨hmN,of,hof,hofc⟩:=h5 ("Keeper." ++ n) n m fa (of_decide_eq_true hmt) hmf
 obtain⟨y,hy⟩:=obj_meth (Str.ofString n)
 have hsh:mA (Str.ofString n)=none:=by
  rcases I.rep (Str.ofString n) with ⟨_,q2⟩|⟨_,_,q1,_⟩
  ·exact q2
  ·rw[e3] at q1;cases q1
 have hfew:((backTo p (starEach as env)).all (fun x=>!x.1) && (backToKw p (keywordEach [] env)).all (fun x=>x.1.isSome) && decide (as.length+([]:List Keyword).length+(if ([]:List Keyword).isEmpty then 0 else 1)<30))=true:=by
  rw[X4 p has]
  have:as.length=l.length:=Vp has
  simp only[List.all_map,Bool.and_eq_true,decide_eq_true_eq]
  refine⟨⟨by simp,rfl⟩,?_⟩
  simp only[List.length_nil,List.isEmpty_nil,if_true];exact ar71 hlen this
 have hform:methodCallForm (as.length+([]:List Keyword).length) (backTo p (starEach as env)) (backToKw p (keywordEach [] env))=true:=hfew
 have hpos:methodCallPos true ov env ap p=pure p:=by unfold methodCallPos;simp[hline]
 unfold methodCall
 rw[hform]
 obtain⟨hp,gs,dr,tk,os⟩:=s1
 refine wpAny_bind (wpAny_holding (method_of h1 h2 h3.1 h3.2.1 hmN hof hofc hy I.inst hsh ?_))
 refine wpAny_bind (wpAny_of_eq hpos ?_)
 rw[X4 p has]
 exact callWith_function (o:=o) (fd:=fd) (Qj (Qg as) (k fa a as _ μa trivial gb rc has ⟨m,hm,hmf,o,fd,hfo,hfd⟩ o fd hfo hfd hq1))
theorem se_mcall (pg:PG prog w G Γ h₀ mg mb) (hc:SC prog w h₀ Φ d) {n:String}{o:ME}{l:List ME}(ho:SE prog w G h₀ Φ d o) (hl:∀ e∈l,SS prog w G h₀ Φ d e):SE prog w G h₀ Φ d (.mcall n o l):=fun S x env vars fz μ s Q A E h hA C hq=>by
 refine Hj pg ho (P:=fun x μ'=>evs G Φ X0 l fz vars (fun vs μ''=>Φ ("Keeper." ++ n) (x::vs) fz Q X0 μ'') μ') h hA C hq fun fa a as s1 μa _ gb rc has hfa o fd hfo hfd h₁=>?_
 have C₁:=C.grow gb rc
 refine wpAny_mono (Xd hl has hA C₁ h₁) (fun vs sd h₂=>?_) fun _ _ e=>e
 obtain⟨ms,μb,hq2,rs,rd,gc⟩:=h₂
 have C₂:=C₁.grow gc rd
 refine⟨⟨(C₂.base _ _ hfo).1,hfd⟩,?_⟩
 exact wpAny_mono (hc ("Keeper." ++ n) (.ref a::ms) (.ref a::vs) fz μb sd Q A E fa hA.toC C₂.base rd C₂.fzin C₂.frs ⟨rfl,rs⟩ hfa hq2) (fun v' s3 h₃=>h₃.trans (gb.trans gc)) fun _ _ e=>e
theorem Hw {A A':Around}{fz:List Addr}{μ:MH}{h:Heap}(f:FrsA h₀ A fz μ h) (e:A'.frames=A.frames):FrsA h₀ A' fz μ h:=by
 obtain⟨⟨l,el,f⟩,p⟩:=f
 exact⟨⟨l,e.trans el,f⟩,p⟩
theorem Iu (f:Option (List Env)):pushEnvs [] f=f:=by cases f <;> rfl
theorem se_new (pg:PG prog w G Γ h₀ mg mb) (hc:SC prog w h₀ Φ d) (c:String):SE prog w G h₀ Φ d (.new c):=fun S x env vars fz μ s Q A E h hA C hq=>by
 replace h:=inv_new h
 obtain⟨y,np,p,rfl,hg,hfun⟩:=h
 obtain⟨K,hG,rfl,hq⟩:=hq
 obtain⟨val,hval,hr⟩:=pg.const _ _ hG
 obtain rfl:val=.ref K:=by
  rcases hr with ⟨i,t,q,_⟩|⟨y,t,q,_⟩|⟨C,q,rfl⟩
  ·cases q
  ·cases q
  ·cases q;rfl
 obtain⟨N,nm,q,bs,sn,sub,col,dd',k0,k1,k2,k3,k5,mN,h1,h2,h3,h4,h5⟩:=(pg.kc K hG).keeps fun b o e=>(C.base b o e).1
 obtain⟨fa,m,hm,hmf,o,fd,hfo,hfd⟩:=C.known _ hfun
 obtain⟨hmN,of,hof,hofc⟩:=h5 "Keeper.__init__" "__init__" m fa rfl hmf
 refine wpAny_Call_ofName (Ko pg C hg hval ?_)
 unfold callWith
 refine wpAny_bind (wpAny_holding (Qj (trees:=[]) rfl (Calls.spliced_nil ?_)))
 refine wpAny_bind (wpAny_standAt ?_)
 obtain⟨hp,gs,dr,tk,os⟩:=s
 refine wpAny_bind (wpAny_keeperOf_exc h1 ?_)
 refine wpAny_bind (wpAny_call_obj_init F.objNew h1 h2 hmN hof hofc fun h' x dx hmo=>?_)
 have hneK:K≠x:=fun e=>by have:=hmo.newX;rw[← e,h1] at this;cases this
 obtain⟨oi,hoi,hci,hdi,hdd⟩:=hmo.inst
 have hdx:=hmo.dict oi hoi
 rcases hdd with ⟨hnone,_⟩|⟨dx',hdx',hnedx,hns⟩
 ·rw[hdx] at hnone;cases hnone
 rw[hdx] at hdx';cases hdx'
 have mx:μ x=none:=C.heap.free hmo.newX
 have md:μ dx=none:=C.heap.free hmo.newD
 have hcall:=hq x dx mx (C.fzin.free hmo.newX) md (C.fzin.free hmo.newD) (Ne.symm hnedx)
 have rc:RepH prog w (upd (upd μ dx (.attrs [])) x (.inst K dx)) h':=fun a o e=>by
  unfold upd at e
  split at e
  ·rename_i q;cases e;subst q
   exact⟨oi,hoi,hci,hdi,hdx,hnedx,hneK⟩
  ·split at e
   ·rename_i q;cases e;subst q
    exact⟨_,hns,fun n=>.inl ⟨rfl,rfl⟩⟩
   ·exact(C.heap a o e).keeps (.of_all hmo.keeps) (hmo.keeps a)
 have gb:Grow fz μ ⟨hp,gs,dr,tk,os⟩ (upd (upd μ dx (.attrs [])) x (.inst K dx)) ⟨h',gs,dr,tk,os⟩:=⟨fun b o f e=>⟨.same (hmo.keeps b o e),by
  have n1:b≠x:=fun q=>by rw[q] at e;have:=hmo.newX;rw[this] at e;cases e
  have n2:b≠dx:=fun q=>by rw[q] at e;have:=hmo.newD;rw[this] at e;cases e
  unfold upd;rw[if_neg n1,if_neg n2]⟩,rfl,rfl⟩
 have hA':OkC d (A.under (.builtin "type.__call__" ⟨[.ref K],[]⟩)):=⟨hA.hand,by have:=hA.depth;show A.depth+1+2*d.n+1<_;exact ar77 this,by have:=hA.units;show A.units+1+4*d.n+99<_;exact ar78 this⟩
 have C₁:=C.grow gb rc
 refine wpAny_mono (hc "Keeper.__init__" [.ref x] [.ref x] fz _ ⟨h',gs,dr,tk,os⟩ _ _ E fa hA' C₁.base rc C₁.fzin (Hw C₁.frs (Iu _)) ⟨rfl,trivial⟩ ⟨m,hm,hmf,o,fd,hfo,hfd⟩ hcall) (fun v' s3 h₃=>?_) fun _ _ e=>e
 obtain⟨mv,μ3,⟨rfl,hq3⟩,rv,re,g3⟩:=h₃
 obtain rfl:v'=.none:=rv
 exact⟨rfl,wpAny_bind (wpAny_holding (wpAny_point (wpAny_pure ⟨.ref x,μ3,hq3,rfl,re,gb.trans g3⟩)))⟩
theorem se_isx (pg:PG prog w G Γ h₀ mg mb) {e:ME}{c:String}(ha:SE prog w G h₀ Φ d e):SE prog w G h₀ Φ d (.isx e c):=fun S x env vars fz μ s Q A E h hA C hq=>by
 replace h:=inv_isx h
 obtain⟨g,np,y,ty,tp,p,rfl,h1,h2,h3⟩:=h
 refine wpAny_Call_ofName (Y8 pg C h1 (v:=.builtin "isinstance") (by decide) ?_)
 show wpAny _ A (callWith p (.builtin "isinstance") [] (backTo p (starEach [y,.Name ty tp] env)) []) _ _ s
 have e1:backTo p (starEach [y,.Name ty tp] env)=[(false,eval y env),(false,eval (.Name ty tp) env)]:=by
  rw[Pl h3];rfl
 rw[e1]
 refine callWith_builtin rfl (Qj rfl ?_)
 refine Calls.spliced_cons (wpAny_mono (ha S y env vars fz μ s _ A E h3 hA C hq) (fun v s1 h₁=>?_) fun _ _ e=>e)
 obtain⟨mv,μa,hq1,rv,rc,gb⟩:=h₁
 replace hq1:=X5 hq1
 obtain⟨a,rfl,K,b,hma,⟨⟨gn,hgn,hG⟩,hb⟩,hq1⟩:=hq1
 have C₁:=C.grow gb rc
 have kp:∀ b o,h₀.get? b=some o->s1.heap.get? b=some o:=fun b o e=>(C₁.base b o e).1
 obtain⟨D,_,cD,cX⟩:=pg.xc
 obtain⟨cK,nKD⟩:=cX gn hgn K hG
 obtain rfl:v=.ref a:=rv
 obtain⟨oe,vs,hoe,hce,hde⟩:=rc a _ hma
 have cK1:=cK.keeps kp
 have cD1:=cD.keeps kp
 have fin:∀ tk,PostV prog w fz μ s Q (.bool b) { s1 with toks:=tk }:=fun tk=>PostV.trans gb (Qd hq1 rc rfl rfl rfl rfl)
 rcases hb with ⟨rfl,rfl⟩|⟨hcx,X,hX,rfl⟩
 ·refine Calls.spliced_cons (Y8 pg C₁ h2 (v:=.type "ValueError") (by decide) (Calls.spliced_nil ?_))
  obtain⟨hp,gs,dr,tk,os⟩:=s1
  exact isi_own cK1 cD1 hoe hce (fun M=>Looks.of_pure (kitMeta_of (by decide +kernel))) (fun M=>Looks.of_pure rfl) (by rw[List.contains_cons,List.contains_cons,show bmV.contains (.type "ValueError")=true by decide +kernel];rfl) fin
 ·obtain⟨val,hval,hr⟩:=pg.const _ _ hX
  obtain rfl:val=.ref X:=by
   rcases hr with ⟨i,t,q,_⟩|⟨y,t,q,_⟩|⟨C,q,rfl⟩
   ·cases q
   ·cases q
   ·cases q;rfl
  obtain⟨cX',nXD⟩:=cX c hcx X hX
  have cX1:=cX'.keeps kp
  refine Calls.spliced_cons (Ko pg C₁ h2 hval (Calls.spliced_nil ?_))
  obtain⟨hp,gs,dr,tk,os⟩:=s1
  refine isi_own cK1 cD1 hoe hce (fun M=>looks_meta cX1) (fun M=>Pu cX1) ?_ fin
  rw[List.contains_cons,List.contains_cons,show bmV.contains (.ref X)=false by rfl]
  have n2:((Value.ref X:Value) == .ref D)=false:=by rw[beq_eq_false_iff_ne];intro q;cases q;exact nXD rfl
  rw[n2]
  by_cases q:K=X
  ·subst q;simp
  ·have:((Value.ref X:Value) == .ref K)=false:=by rw[beq_eq_false_iff_ne];intro z;cases z;exact q rfl
   rw[this];simp[q]
end
end Mine
end
section
namespace Mine
open PySem PySem.Calls PyProof.Rows PySem.W
section
variable {prog:Program}{w:World}{G:String->Option MV}{Γ:String->Option MFun}{h₀:Heap}{mg mb:Str->Option Value}{Φ:CallSpec}{d:Dp}
mutual
theorem Qy (pg:PG prog w G Γ h₀ mg mb) (hd:d.h=true) (hc:SC prog w h₀ Φ d):∀ e:ME,SS prog w G h₀ Φ d e
 | .var i=>.of_plain rfl (Io i)
 | .glob g=>.of_plain rfl (se_glob pg g)
 | .cint i=>.of_plain rfl (se_cint i)
 | .cstr t=>.of_plain rfl (se_cstr t)
 | .cbool b=>.of_plain rfl (se_cbool b)
 | .cnone=>.of_plain rfl se_cnone
 | .bin op a b=>.of_plain rfl (se_bin (Qy pg hd hc a).1 (Qy pg hd hc b).1)
 | .neg a=>.of_plain rfl (se_neg (Qy pg hd hc a).1)
 | .not a=>⟨se_not (Qy pg hd hc a).1,st_not (Qy pg hd hc a).2⟩
 | .and l=>⟨se_and fun e he=>(Qs pg hd hc l e he).1,st_and fun e he=>(Qs pg hd hc l e he).2⟩
 | .or l=>⟨se_or fun e he=>(Qs pg hd hc l e he).1,st_or fun e he=>(Qs pg hd hc l e he).2⟩
 | .cmp a ops es=>⟨se_cmp (Qy pg hd hc a).1 fun e he=>(Qs pg hd hc es e he).1,st_cmp (Qy pg hd hc a).1 fun e he=>(Qs pg hd hc es e he).1⟩
 | .idx a i=>.of_plain rfl (se_idx (Qy pg hd hc a).1 (Qy pg hd hc i).1)
 | .slice a lo hi st=>.of_plain rfl (se_slice (Qy pg hd hc a).1 (Qy pg hd hc lo).1 (Qy pg hd hc hi).1 (Qy pg hd hc st).1)
 | .list l=>.of_plain rfl (D2 (Qs pg hd hc l))
 | .tuple l=>.of_plain rfl (Dj (Qs pg hd hc l))
 | .dict0=>.of_plain rfl (se_dict0 pg)
 | .call f l=>.of_plain rfl (se_call hc (Qs pg hd hc l))
 | .bi .sortedR l=>.of_plain rfl (se_sortedR pg hd (Qs pg hd hc l))
 | .bi .sortedSetS l=>.of_plain rfl (Ge pg hd (Qs pg hd hc l))
 | .bi .sortedSet l=>.of_plain rfl (Ip pg hd (Qs pg hd hc l))
 | .bi .len l=>.of_plain rfl (C0 pg hd (Qs pg hd hc l) rfl)
 | .bi .min2 l=>.of_plain rfl (C0 pg hd (Qs pg hd hc l) rfl)
 | .bi .max2 l=>.of_plain rfl (C0 pg hd (Qs pg hd hc l) rfl)
 | .bi .max1 l=>.of_plain rfl (C0 pg hd (Qs pg hd hc l) rfl)
 | .bi .sorted l=>.of_plain rfl (C0 pg hd (Qs pg hd hc l) rfl)
 | .bi .list l=>.of_plain rfl (C0 pg hd (Qs pg hd hc l) rfl)
 | .bi .dict l=>.of_plain rfl (C0 pg hd (Qs pg hd hc l) rfl)
 | .bi .int l=>.of_plain rfl (C0 pg hd (Qs pg hd hc l) rfl)
 | .attr o n=>.of_plain rfl (se_attr pg (Qy pg hd hc o).1)
 | .mcall n o l=>.of_plain rfl (se_mcall pg hc (Qy pg hd hc o).1 (Qs pg hd hc l))
 | .new c=>.of_plain rfl (se_new pg hc c)
 | .isx e c=>.of_plain rfl (se_isx pg (Qy pg hd hc e).1)
 | .isinst a t=>.of_plain rfl (se_isinst pg (Qy pg hd hc a))
 | .meth m o l=>.of_plain rfl (Ir (Qy pg hd hc o).1 (Qs pg hd hc l))
 | .comp elt t k its ifs=>.of_plain rfl (se_comp pg hd (Qs pg hd hc its) (Qs pg hd hc ifs) (Qy pg hd hc elt).1)
theorem Qs (pg:PG prog w G Γ h₀ mg mb) (hd:d.h=true) (hc:SC prog w h₀ Φ d):∀ l:List ME,∀ e∈l,SS prog w G h₀ Φ d e
 | []=>fun e h=>by cases h
 | a::l=>fun e h=>(List.mem_cons.mp h).elim (fun q=>q▸Qy pg hd hc a) (fun q=>Qs pg hd hc l e q)
end
end
end Mine
end
section
namespace Mine
open PySem PySem.Calls PyProof.Rows PySem.W
noncomputable def RepFl (h:Heap):MFlow->Flow->Prop
 | .next,f=>f=.next
 | .brk,f=>f=.brk
 | .cont,f=>f=.cont
 | .ret m,f=>∃ v,f=.ret v∧RepV h m v
inductive PostF (prog:Program) (w:World) (h₀:Heap) (A:Around) (S:Sc) (env:Env) (fz:List Addr) (μ:MH) (s:Shared) (R:MFlow->MVars->MH->Prop) (f:Flow) (s':Shared):Prop
 | mk (fl:MFlow) (vars':MVars) (μ':MH) (q:R fl vars' μ') (hf:RepFl s'.heap fl f) (cur:Cur prog w h₀ A S env vars' fz μ' s') (g:GrowS env fz μ s μ' s')
section
variable (prog:Program) (w:World) (G:String->Option MV) (h₀:Heap) (Φ:CallSpec) (d:Dp)
noncomputable def SX (st:MS):Prop:=∀ (S:Sc) (x:PySem.Stmt) (env:Env) (vars:MVars) (fz:List Addr) (μ:MH) (s:Shared) (R:MFlow->MVars->MH->Prop) (A:Around) (E:Value->Shared->Prop),isS S st x=true->OkA d A->Cur prog w h₀ A S env vars fz μ s->
 ex G Φ X0 st fz vars R μ->wpAny (model prog w) A (exec x env) (PostF prog w h₀ A S env fz μ s R) E s
noncomputable def SXs (l:List MS):Prop:=∀ (S:Sc) (xs:List PySem.Stmt) (env:Env) (vars:MVars) (fz:List Addr) (μ:MH) (s:Shared) (R:MFlow->MVars->MH->Prop) (A:Around) (E:Value->Shared->Prop),isSs S l xs=true->OkA d A->Cur prog w h₀ A S env vars fz μ s->
 exs G Φ X0 l fz vars R μ->wpAny (model prog w) A (execs xs env) (PostF prog w h₀ A S env fz μ s R) E s
end
section
variable {prog:Program}{w:World}{G:String->Option MV}{Γ:String->Option MFun}{h₀:Heap}{mg mb:Str->Option Value}{Φ:CallSpec}{d:Dp}
theorem PostF.trans {A:Around}{S:Sc}{env:Env}{fz:List Addr}{μ μa:MH}{s s1:Shared}{R:MFlow->MVars->MH->Prop}{f:Flow}{s':Shared}(g:GrowS env fz μ s μa s1) (x:PostF prog w h₀ A S env fz μa s1 R f s'):PostF prog w h₀ A S env fz μ s R f s':=by
 obtain⟨fl,vars',μ',h1,h2,h3,h4⟩:=x
 exact⟨fl,vars',μ',h1,h2,h3,g.trans h4⟩
theorem Dc:SXs prog w G h₀ Φ d []:=fun S xs env vars fz μ s R A E h hA C hq=>by
 cases xs with
 | cons _ _=>exact(Bool.false_ne_true h).elim
 | nil=>exact wpAny_execs_nil ⟨.next,vars,μ,hq,rfl,C,.refl⟩
theorem U9 {st:MS}{l:List MS}(h1:SX prog w G h₀ Φ d st) (h2:SXs prog w G h₀ Φ d l):SXs prog w G h₀ Φ d (st::l):=fun S xs env vars fz μ s R A E h hA C hq=>by
 cases xs with
 | nil=>exact(Bool.false_ne_true h).elim
 | cons x xs=>
  replace h:=Hq h
  refine wpAny_execs_cons (wpAny_mono (h1 S x env vars fz μ s _ A E h.1 hA C hq) (fun f s1 h₁=>?_) fun _ _ e=>e)
  obtain⟨fl,vars1,μa,hq1,hf,C₁,gb⟩:=h₁
  cases fl with
  | next=>
   obtain rfl:=hf
   exact wpAny_mono (h2 S xs env vars1 fz μa s1 R A E h.2 hA C₁ hq1) (fun f' sd h₂=>h₂.trans gb) fun _ _ e=>e
  | brk=>obtain rfl:=hf;exact⟨.brk,vars1,μa,hq1,rfl,C₁,gb⟩
  | cont=>obtain rfl:=hf;exact⟨.cont,vars1,μa,hq1,rfl,C₁,gb⟩
  | ret m=>obtain⟨v,rfl,rv⟩:=hf;exact⟨.ret m,vars1,μa,hq1,⟨v,rfl,rv⟩,C₁,gb⟩
theorem Ih {a:ME}(ha:SE prog w G h₀ Φ d a):SX prog w G h₀ Φ d (.ret a):=fun S x env vars fz μ s R A E h hA C hq=>by
 replace h:=invS_ret h;obtain⟨v,p,rfl,h⟩:=h
 refine wpAny_Return_some (wpAny_mono (ha S _ env vars fz μ s _ A E h hA C hq) (fun v s1 h₁=>?_) fun _ _ e=>e)
 obtain⟨mv,μa,hq1,rv,rc,gb⟩:=h₁
 exact⟨.ret mv,vars,μa,hq1,⟨v,rfl,rv⟩,C.grow gb rc,gb.toS⟩
theorem Dd {v:PySem.Expr}(h:notComp v=true) (line:Nat) (env:Env):swapsWith v none line env=pure false:=by
 have h':=and2 h
 cases v <;> first
  | rfl
  | exact(Bool.false_ne_true h'.2).elim
  | (rename_i el gs sc p
     cases gs with
     | nil=>exact(Bool.false_ne_true h'.2).elim
     | cons g gs=>
      obtain⟨tg,it,ifs,n⟩:=g
      cases n with
      | ofNat m=>cases m <;> cases gs <;> first|exact(Bool.false_ne_true h'.2).elim|exact(Bool.false_ne_true h'.1).elim
      | negSucc m=>cases gs <;> exact(Bool.false_ne_true h'.2).elim)
theorem sx_expr {a:ME}(ha:SE prog w G h₀ Φ d a):SX prog w G h₀ Φ d (.expr a):=fun S x env vars fz μ s R A E h hA C hq=>by
 replace h:=Hr h;obtain⟨v,p,rfl,hn,h⟩:=h
 refine wpAny_Expr_any (wpAny_mono (ha S _ env vars fz μ s _ A E h hA C hq) (fun v s1 h₁=>?_) fun _ _ e=>e) (by unfold interactive;rw[C.fr.kind];rfl) (Dd hn _ _)
 obtain⟨mv,μa,hq1,rv,rc,gb⟩:=h₁
 exact⟨.next,vars,μa,hq1,rfl,C.grow gb rc,gb.toS⟩
theorem sx_ite {c:ME}{a b:List MS}(hc:ST prog w G h₀ Φ d c) (ha:SXs prog w G h₀ Φ d a) (hb:SXs prog w G h₀ Φ d b):SX prog w G h₀ Φ d (.ite c a b):=fun S x env vars fz μ s R A E h hA C hq=>by
 replace h:=invS_ite h;obtain⟨tt,y,z,p,rfl,h⟩:=h
 simp only[Bool.and_eq_true] at h
 refine wpAny_If (wpAny_mono (hc S _ env vars fz μ s (fun b' μ'=>if b' then exs G Φ X0 a fz vars R μ' else exs G Φ X0 b fz vars R μ') A E h.1.1 hA C hq) (fun v s1 h₁=>?_) fun _ _ e=>e)
 obtain⟨μa,hq1,rc,gb⟩:=h₁
 cases v with
 | true=>exact wpAny_mono (ha S _ env vars fz μa s1 R A E h.1.2 hA (C.grow gb rc) hq1) (fun v' s3 h₃=>h₃.trans gb.toS) fun _ _ e=>e
 | false=>exact wpAny_mono (hb S _ env vars fz μa s1 R A E h.2 hA (C.grow gb rc) hq1) (fun v' s3 h₃=>h₃.trans gb.toS) fun _ _ e=>e
theorem sx_setidx {o i a:ME}(ho:SE prog w G h₀ Φ d o) (hi:SE prog w G h₀ Φ d i) (ha:SE prog w G h₀ Φ d a):SX prog w G h₀ Φ d (.setidx o i a):=fun S x env vars fz μ s R A E h hA C hq=>by
 replace h:=invS_setidx h;obtain⟨ov,iv,sp,v,p,rfl,h⟩:=h
 simp only[Bool.and_eq_true] at h
 refine wpAny_Assign_Subscript (wpAny_mono (ha S _ env vars fz μ s _ A E h.2 hA C hq) (fun v s1 h₁=>?_) fun _ _ e=>e) ?_
 ·obtain⟨mv,μa,hq1,rv,rc,gb⟩:=h₁
  have C₁:=C.grow gb rc
  refine wpAny_mono (ho S _ env vars fz μa s1 _ A E h.1.1 hA C₁ hq1) (fun u sd h₂=>?_) fun _ _ e=>e
  obtain⟨mu,μb,hq2,ru,rd,gc⟩:=h₂
  have C₂:=C₁.grow gc rd
  refine wpAny_mono (hi S _ env vars fz μb sd _ A E h.1.2 hA C₂ hq2) (fun y s3 h₃=>?_) fun _ _ e=>e
  obtain⟨my,μ3,hq3,ry,re,g3⟩:=h₃
  have C₃:=C₂.grow g3 re
  refine wpAny_mono (op_set (ru.keepT (g3.keepT rd)) ry ((rv.keepT (gc.keepT rc)).keepT (g3.keepT rd)) re hq3) (fun _ s4 h₄=>?_) fun _ _ e=>e
  obtain⟨μ4,hq4,rf,g4⟩:=h₄
  exact⟨.next,vars,μ4,hq4,rfl,C₃.grow g4 rf,(((gb.trans gc).trans g3).trans g4).toS⟩
 ·cases v <;> rfl
theorem lc_of {a:ME}(h:a.tag=.lc):∃ elt t k its ifs,a=.comp elt t k its ifs:=by
 cases a <;> first|(cases (congrArg Tg.no h);done)|exact⟨_,_,_,_,_,rfl⟩
theorem H6 {S:Sc}{a:ME}{x:PySem.Expr}(h:isE S a x=true):a.tag≠.other ():=by
 cases a <;> first|exact(Bool.false_ne_true h).elim|(intro q;cases (congrArg Tg.no q);done)
theorem Ot {v:PySem.Expr}(h1:(node v).t≠.lc) (h2:(node v).t≠.other ()) (t:PySem.Expr) (line:Nat) (env:Env):swapsWith v (some t) line env=pure false:=by
 cases v <;> first
  | rfl
  | exact absurd rfl h2
  | (rename_i el gs sc p
     cases gs with
     | nil=>exact absurd rfl h2
     | cons g gs=>
      obtain⟨tg,it,ifs,n⟩:=g
      cases n with
      | ofNat m=>cases m <;> cases gs <;> first|exact absurd rfl h2|exact absurd rfl h1
      | negSucc m=>cases gs <;> exact absurd rfl h2)
theorem sx_setattr (pg:PG prog w G Γ h₀ mg mb) {o a:ME}{n:String}(ho:SE prog w G h₀ Φ d o) (ha:SE prog w G h₀ Φ d a):SX prog w G h₀ Φ d (.setattr o n a):=fun S x env vars fz μ s R A E h hA C hq=>by
 replace h:=R8 h;obtain⟨ov,sp,v,p,rfl,h1,h2,hnc⟩:=h
 refine plainObj_wpAny_Assign_Attribute (wpAny_mono (ha S _ env vars fz μ s _ A E h2 hA C hq) (fun v s1 h₁=>?_) fun _ _ e=>e) ?_
 ·obtain⟨mv,μa,hq1,rv,rc,gb⟩:=h₁
  have C₁:=C.grow gb rc
  refine wpAny_mono (ho S _ env vars fz μa s1 _ A E h1 hA C₁ hq1) (fun u sd h₂=>?_) fun _ _ e=>e
  obtain⟨mu,μb,hq2,ru,rd,gc⟩:=h₂
  have C₂:=C₁.grow gc rd
  replace hq2:=X5 hq2
  obtain⟨a,rfl,K,dd,l,hG,e1,e2,hf,hn,hfit,hq2⟩:=hq2
  obtain rfl:u=.ref a:=ru
  obtain⟨mA,I⟩:=R9 rd e1 e2
  obtain⟨N,nm,q,bs,sn,sub,col,dd',k0,k1,k2,k3,k5,mN,c1,c2,c3,c4,c5⟩:=(pg.kc K hG).keeps fun b o e=>(C₂.base b o e).1
  obtain⟨oa,hoa⟩:=I.this
  have hoad:=I.dict oa hoa
  obtain⟨hp,gs,dr,tk,os⟩:=sd
  refine store_attr F.store_object c1 c2 c3.2.2 (c4 n (List.contains_iff_mem.mp hn)) (obj_attr hn) I.ne I.inst (fun h' tk' I' hk hsame=>?_) I.within (by rw[List.length_map];exact Qe hfit)
  have kk:∀ b o,b≠dd->hp.get? b=some o->h'.get? b=some o:=fun b o hb eb=>by
   by_cases q:b=a
   ·subst q
    obtain⟨od,q1,q2,q3,q4,q5⟩:=hsame oa hoa
    rw[hoa] at eb;cases eb
    have:od=oa:=by
     have q6:=q5 dd hoad
     cases od;cases oa
     simp only at q2 q3 q4 q6 hoad
     rw[q2,q3,q4,q6,hoad]
    rw[q1,this]
   ·exact hk b o q (fun o0 dx f1 f2 q'=>by rw[hoa] at f1;cases f1;rw[hoad] at f2;cases f2;exact hb q') eb
  have rv2:RepV hp mv v:=rv.keepT (gc.keepT rc)
  have re:RepH prog w (upd μb dd (.attrs (putI l (Str.ofString n) mv))) h':=rd.update e2 kk fun kt=>by
   obtain⟨od,q1,q2,q3,q4,q5⟩:=hsame oa hoa
   obtain⟨o',ho',_,_,hdd⟩:=I'
   rw[q1] at ho';cases ho'
   rcases hdd with ⟨hnone,_⟩|⟨dx,hdx,_,hns⟩
   ·rw[q5 dd hoad] at hnone;cases hnone
   ·rw[q5 dd hoad] at hdx;cases hdx
    exact⟨_,hns,(I.rep.put rv2).keepT kt⟩
  have g3:Grow fz μb ⟨hp,gs,dr,tk,os⟩ (upd μb dd (.attrs (putI l (Str.ofString n) mv))) ⟨h',gs,dr,tk',os⟩:=Grow.update (s:=⟨hp,gs,dr,tk,os⟩) (tk:=tk') e2 hf kk
  exact⟨.next,vars,_,hq2,rfl,C₂.grow g3 re,((gb.trans gc).trans g3).toS⟩
 ·obtain⟨n1,n2⟩:=and2 hnc
  rw[Bool.not_eq_true',decide_eq_false_iff_not] at n1 n2
  exact Ot n1 n2 _ _ _
theorem sx_assign (pg:PG prog w G Γ h₀ mg mb) (hd:d.h=true) (hc:SC prog w h₀ Φ d) {i:Nat}{a:ME}:SX prog w G h₀ Φ d (.assign i a):=fun S x env vars fz μ s R A E h hA C hq=>by
 replace h:=C8 h;obtain⟨x,px,v,p,rfl,h1,h2⟩:=h
 have plain:∀ hs:swapsWith v (some (.Name x px)) p.line env=pure false,wpAny (model prog w) A (exec (.Assign [.Name x px] v p) env) (PostF prog w h₀ A S env fz μ s R) E s:=by
  intro hs
  refine wpAny_Assign_Name (wpAny_mono ((Qy pg hd hc a).1 S _ env vars fz μ s _ A E h2 hA C hq) (fun u s1 h₁=>?_) fun _ _ e=>e) hs
  obtain⟨mv,μa,hq1,rv,rc,gb⟩:=h₁
  exact Kk (C.grow gb rc) h1 rv fun sd C₂ gc kf lg=>⟨.next,_,μa,hq1,rfl,C₂,gb.toS.trans gc⟩
 by_cases hcomp:a.tag=.lc
 ·obtain⟨elt,t,k,its,ifs,rfl⟩:=lc_of hcomp
  obtain⟨el,tg,iter,ifs',sc,vp,rfl,hok⟩:=Ib h2
  have hsw:∃ b:Bool,swapsWith (.ListComp el [⟨tg,iter,ifs',0⟩] sc vp) (some (.Name x px)) p.line env=pure b:=⟨_,rfl⟩
  obtain⟨b,hsw⟩:=hsw
  cases b with
  | false=>exact plain hsw
  | true=>
   have hR:∀ D L s',CompEnd prog w fz μ s (fun v μ'=>R .next (setv vars i v) μ') D L s'->compPost (model prog w) A E (some (assign (.Name x px) env)) (fun _ s'=>PostF prog w h₀ A S env fz μ s R .next s') (.ref D) L (.ok .next) s':=by
    intro D L s' e
    obtain⟨⟨μ',hq',r',g',hL⟩,hf,m,hn⟩:=e
    have C':=C.grow g' r'
    show wpAny _ A (assign (.Name x px) env (.ref D)) _ _ s'
    refine PySem.wpAny_assign_Name (Kk C' h1 (mv:=.ref D) rfl fun sd C₂ gc kf lg=>?_)
    have hLl:L≠env.locals:=fun q=>by
     obtain⟨mm,⟨o,es,ep,ho,_⟩,_⟩:=C.fr.ns
     rw[← q] at ho
     exact hf o (.inl (by rw[q];exact C.fr.fixl)) ho
    have hLc:∀ y c,(y,c)∈env.cells->L≠c:=fun y c hm q=>by
     subst q
     obtain⟨f1,_,u,o,ho,_⟩:=C.fr.fixc y L hm
     exact hf o (.inl f1) ho
    have hn2:sd.heap.Ns L m:=by
     obtain⟨o,es,ep,ho,hd,hr⟩:=hn
     obtain⟨sl,e⟩:=(gc.keep L o (.inl hL) hLl hLc ho).1.data fun vs q=>by rw[hd] at q;cases q
     exact⟨_,es,ep,e,hd,hr⟩
    refine⟨m,hn2,fun h'' hs''=>⟨.next,_,μ',hq',rfl,?_,?_⟩⟩
    ·refine C₂.skip (wr:=[L]) (s':={ sd with heap:=h'' }) (fun b o e hi=>SameBut.keep hs'' b o (fun q=>by cases List.mem_singleton.mp q;exact Kn hn2 o e hi) e) (SameBut.keep hs'') (by simp[hL]) ?_ (by simpa using Ne.symm hLl) (fun y c hm=>by simpa using Ne.symm (hLc y c hm)) ?_ ?_
     intro b hb
     simp at hb;subst hb
     cases q:h₀.get? b with
     | none=>rfl
     | some o=>exact(hf o (C.base b o q).2.1 (C.base b o q).1).elim
     ·intro b hb m
      rw[List.mem_singleton.mp hb] at m
      cases q:s.heap.get? L with
      | none=>exact C.fzin L m q
      | some o=>exact hf o (.inr m) q
     ·intro b hb
      rw[List.mem_singleton.mp hb]
      intro l el hm
      obtain⟨⟨l',el',f⟩,_⟩:=C.frs
      obtain rfl:l'=l:=Option.some.inj (el'.symm.trans el)
      obtain⟨o,es,ep,ho,_⟩:=f.fd L hm
      exact hf o (.inl (f.nt L hm)) ho
    ·have gg:=g'.toS.trans gc
     exact⟨fun b o f l c e=>by
      obtain⟨e1,e2⟩:=gg.keep b o f l c e
      exact⟨e1.skip fun o' e'=>SameBut.keep hs'' b o' (fun q=>by cases List.mem_singleton.mp q;exact hf o f e) e',e2⟩,gg.os,gg.gens⟩
   obtain⟨hs,hclos,hw⟩:=I9 (E:=E) (RR:=fun acc L=>compPost (model prog w) A E (some (assign (.Name x px) env)) (fun _ s'=>PostF prog w h₀ A S env fz μ s R .next s') acc L) pg hd (Qs pg hd hc its) (Qs pg hd hc ifs) (Qy pg hd hc elt).1 hok hA C hq hR
   rw[exec_Assign_Name_used _ _ _ _ hsw]
   refine wpAny_bind (wpAny_standAt (wpAny_bind ?_))
   show wpAny _ A (do let _ ← comprehension (.ListComp el [⟨tg,iter,ifs',0⟩] sc vp) sc env _ (newList []) false (eval iter env) (some (assign (.Name x px) env))) _ _ s
   refine wpAny_bind (wpAny_mono (wpAny_comprehension_free (use:=some (assign (.Name x px) env)) (Q:=fun _ s'=>PostF prog w h₀ A S env fz μ s R .next s') rfl hs hclos hok.inn.kind (fun x hx hl=>by rw[hok.inn.look x hx,hl]) hw) (fun _ s' hq=>wpAny_pure (wpAny_pure hq)) fun _ _ e=>e)
 ·exact plain (Ot (Pz h2▸hcomp) (by rw[Pz h2];exact H6 h2) _ _ _)
end
end Mine
end
section
namespace Mine
open PySem PySem.Calls PyProof.Rows PySem.W
section
variable {prog:Program}{w:World}{G:String->Option MV}{Γ:String->Option MFun}{h₀:Heap}{mg mb:Str->Option Value}{Φ:CallSpec}{d:Dp}
theorem Cur.back {S:Sc}{env:Env}{vars vars':MVars}{fz cs:List Addr}{μ μ':MH}{s s':Shared}{A:Around}(C':Cur prog w h₀ A S env vars' (cs++fz) μ' s') (C:Cur prog w h₀ A S env vars fz μ s) (g:GrowS env fz μ s μ' s'):Cur prog w h₀ A S env vars' fz μ' s':=
 { C' with
  base:=fun b o e=>by
   obtain⟨e1,f,l⟩:=C.base b o e
   obtain⟨e2,q⟩:=g.keep b o f (fun q=>by rw[q,C.newl] at e;cases e) (fun x c hm q=>by rw[q,C.newc x c hm] at e;cases e) e1
   exact⟨e2.low l,f.imp (fun z=>q.trans z) id,l⟩
  fzin:=C'.fzin.left
  frs:=by
   obtain⟨⟨l,e,f⟩,_⟩:=C'.frs
   exact⟨⟨l,e,f.map (fun b o es ep hb ho hd=>⟨⟨o,es,ep,ho,hd⟩,f.nt b hb⟩) fun b hb=>bot_le (f.lo b hb)⟩,C.frs.pos⟩ }
theorem GrowS.keepT {A:Around}{S:Sc}{env:Env}{vars:MVars}{fz:List Addr}{μ μ':MH}{s s':Shared}(C:Cur prog w h₀ A S env vars fz μ s) (g:GrowS env fz μ s μ' s'):KeepsT s.heap s'.heap:=fun b o e hi=>by
 refine(g.keep b o (.inl (tupNone C.heap e hi)) (fun q=>?_) (fun x c hc q=>?_) e).1.imm hi
 ·subst q
  obtain⟨m,hn,_⟩:=C.fr.ns
  exact Kn hn o e hi
 ·subst q
  obtain⟨_,_,v,o',ho,hd⟩:=C.fr.fixc x b hc
  rw[e] at ho;cases ho
  rcases hi with ⟨_,_,_,q⟩|⟨_,_,q⟩ <;> rw[hd] at q <;> cases q
inductive ForAt (prog:Program) (w:World) (h₀:Heap) (A:Around) (S:Sc) (env:Env) (G:String->Option MV) (Φ:CallSpec) (t:MT) (body:List MS) (R:MFlow->MVars->MH->Prop) (fz held fp wr:List Addr) (St:Nat->Heap->Prop) (all:List MV) (μa:MH) (sa:Shared) (n:Nat) (s':Shared):Prop
 | mk (i:Nat) (vars':MVars) (μ':MH) (e:n=all.length+1-i) (le:i≤all.length) (st:St i s'.heap) (cur:Cur prog w h₀ A S env vars' (held++fz) μ' s') (gr:GrowS env (held++fz) μa sa μ' s') (fp:∀ b∈fp,(μ' b=none∨b∈held++fz)∧∃ o,s'.heap.get? b=some o∧(μ' b≠none∨Firm o)) (wr:∀ b∈wr,μ' b=none) (run:loopM t (fun vs F μ=>exs G Φ X0 body (held++fz) vs F μ) R (all.drop i) vars' μ')
theorem sx_for (pg:PG prog w G Γ h₀ mg mb) (hd:d.h=true) {t:MT}{k:SK}{its:List ME}{body:List MS}(hits:∀ e∈its,SS prog w G h₀ Φ d e) (hbody:SXs prog w G h₀ Φ d body):SX prog w G h₀ Φ d (.for t k its body):=fun S x env vars fz μ s R A E h hA C hq=>by
 replace h:=invS_for h;obtain⟨tg,iter,bd,p,as,rfl,has,hsrc,htg,hbd⟩:=h
 obtain⟨hfold,hsource⟩:=H7 (E:=E) pg hd hits has hsrc hA C hq
 refine wpAny_For (wpAny_mono hsource (fun x s1 h₁=>wpAny_mono h₁ (fun it sd h₂=>?_) fun _ _ e=>e) fun _ _ e=>e) hfold
 obtain⟨src,all,μa,sa,⟨hfit,hK⟩,hit,ra,ga,hat⟩:=h₂
 obtain⟨Ia,fp,wr,St,rfl,W,hst,hfp,hwr,hkeep,hos,hgens⟩:=hat
 have Ca:=C.grow ga ra
 have C₂:Cur prog w h₀ A S env vars fz μa sd:=Ca.ext hkeep
 have hnc:∀ b∈fp,∀ x c,(x,c)∈env.cells->b≠c:=by
  intro b hb x c hc e
  subst e
  obtain⟨_,_,v,o,ho,hd⟩:=C₂.fr.fixc x b hc
  obtain⟨_,o',ho',hd'⟩:=hfp b hb
  rw[ho] at ho';cases ho';exact hd'.1 v hd
 have hnl:∀ b∈fp,b≠env.locals:=by
  intro b hb e
  subst e
  obtain⟨m,⟨o,es,ep,ho,hd,_⟩,_⟩:=C₂.fr.ns
  obtain⟨_,o',ho',_,hd'⟩:=hfp _ hb
  rw[ho] at ho';cases ho'
  rcases hd' with q|q
  ·exact Up hit _ q C₂.fr.fixl
  ·exact q.1 es ep hd
 have hwr0:∀ b∈wr,h₀.get? b=none:=fun b hb=>by
  cases q:h₀.get? b with
  | none=>rfl
  | some o=>have:=(Ca.base b o q).1;rw[(hwr b hb).1] at this;cases this
 have hcwr:∀ x c,(x,c)∈env.cells->c∉wr:=fun x c hc hm=>hnc c (W.sub c hm) x c hc rfl
 have hlwr:env.locals∉wr:=fun m=>hnl _ (W.sub _ m) rfl
 have Cw:=C₂.weak (cs:=src.held) (Up hit)
 have hwz:∀ b∈wr,b∉src.held++fz:=fun b hb m=>(Ca.weak (cs:=src.held) (Up hit)).fzin b m (hwr b hb).1
 have hwf:∀ b∈wr,∀ l,A.frames=some l->b∉frs l:=fun b hb=>Ca.frs.new (hwr b hb).1
 let Inv:Nat->Shared->Prop:=ForAt prog w h₀ A S env G Φ t body R fz src.held fp wr St all μa sa
 refine codeAny_forLoop_any Inv ?_ (all.length+1) ?_
 ·rintro n s' ⟨i,vars',μ',rfl,hi,hst',C',g',hfp',hwr',hM⟩
  by_cases hlt:i<all.length
  ·have hm:all[i]?=some all[i]:=List.getElem?_eq_getElem hlt
   rw[List.drop_eq_getElem_cons hlt] at hM
   obtain⟨vars'',hb,hM⟩:=hM
   refine W.item i all[i] s' _ _ hm hst' fun v h' tk rv st' kt hk=>?_
   refine W.go tg i v _ _ _ st' ?_
   have C1:Cur prog w h₀ A S env vars' (src.held++fz) μ' { s' with heap:=h',toks:=tk }:=C'.skip kt hk hwr' hwr0 hlwr hcwr hwz hwf
   have g1:GrowS env (src.held++fz) μa sa μ' { s' with heap:=h',toks:=tk }:=g'.skip hk (fun b hb=>(hwr b hb).1) rfl rfl
   refine H4 C1 htg rv hb fun s5 C2 gs2 kt2 kl2=>?_
   have g2:=g1.trans gs2
   have kl0:∀ b∈fp,∀ o,h'.get? b=some o->s5.heap.get? b=some o:=fun b hb o e=>by
    refine(gs2.keep b o (hfp' b hb).1 (hnl b hb) (fun x c hc=>hnc b hb x c hc) e).1.firm ?_
    by_cases hw:b∈wr
    ·obtain⟨o',ho',hfm⟩:=W.alive _ _ st' b hw
     rw[e] at ho';cases ho';exact .inr hfm
    ·obtain⟨o',ho',hfm⟩:=(hfp' b hb).2
     have:=hk b o' hw ho'
     rw[e] at this;cases this;exact hfm
   have hkb:∀ b∈fp,∀ o,h'.get? b=some o->s5.heap.get? b=some o:=fun b hb o e=>kl0 b hb o e
   have hst5:St (i+1) s5.heap:=W.frame _ _ _ st' kt2 hkb
   have hfp5:∀ b∈fp,(μ' b=none∨b∈src.held++fz)∧∃ o,s5.heap.get? b=some o∧(μ' b≠none∨Firm o):=by
    intro b hb
    refine⟨(hfp' b hb).1,?_⟩
    by_cases hw:b∈wr
    ·obtain⟨o,ho,hfm⟩:=W.alive _ _ st' b hw
     exact⟨o,hkb b hb o ho,.inr hfm⟩
    ·obtain⟨o,ho,hfm⟩:=(hfp' b hb).2
     exact⟨o,hkb b hb o (hk b o hw ho),hfm⟩
   refine wpAny_mono (hbody S bd env vars'' _ μ' s5 _ A _ hbd hA C2 hM) (fun f s6 h₆=>?_) fun _ _ e=>e
   obtain⟨fl,vars6,μ6,hq6,hf,C6,gf⟩:=h₆
   have g6:=g2.trans gf
   have gback:=ga.toS.trans g6.weak
   have next:∀ hh:loopM t (fun vs F μ=>exs G Φ X0 body (src.held++fz) vs F μ) R (all.drop (i+1)) vars6 μ6,∃ m,m<all.length+1-i∧Inv m s6:=by
    intro hh
    refine⟨all.length+1-(i+1),by exact ar74 hlt,i+1,vars6,μ6,rfl,hlt,?_,C6,g6,?_,?_,hh⟩
    ·exact W.frame _ _ _ hst5 (gf.keepT C2) fun b hb o e=>(gf.keep b o (hfp5 b hb).1 (hnl b hb) (fun x c hc=>hnc b hb x c hc) e).1.firm (firmAt (hfp5 b hb).2 e)
    ·intro b hb
     obtain⟨q,o,ho,hfm⟩:=hfp5 b hb
     obtain⟨e1,e2⟩:=gf.keep b o q (hnl b hb) (fun x c hc=>hnc b hb x c hc) ho
     exact⟨q.imp (fun z=>e2.trans z) id,o,e1.firm hfm,hfm.imp (fun z y=>z (e2.symm.trans y)) id⟩
    ·intro b hb
     obtain⟨q,o,ho,_⟩:=hfp5 b (W.sub b hb)
     exact(gf.keep b o q (hnl b (W.sub b hb)) (fun x c hc=>hnc b (W.sub b hb) x c hc) ho).2.trans (hwr' b hb)
   cases fl with
   | next=>obtain rfl:=hf;exact next hq6
   | cont=>obtain rfl:=hf;exact next hq6
   | brk=>obtain rfl:=hf;exact⟨.next,vars6,μ6,hq6,rfl,C6.back C gback,gback⟩
   | ret m=>obtain⟨v,rfl,rv⟩:=hf;exact⟨.ret m,vars6,μ6,hq6,⟨v,rfl,rv⟩,C6.back C gback,gback⟩
  ·have hie:i=all.length:=by exact ar76 hi hlt
   subst hie
   rw[List.drop_length] at hM
   refine W.done s' _ _ hst' fun h' tk kt hk=>?_
   have C1:Cur prog w h₀ A S env vars' (src.held++fz) μ' { s' with heap:=h',toks:=tk }:=C'.skip kt hk hwr' hwr0 hlwr hcwr hwz hwf
   have g1:GrowS env (src.held++fz) μa sa μ' { s' with heap:=h',toks:=tk }:=g'.skip hk (fun b hb=>(hwr b hb).1) rfl rfl
   have gback:=ga.toS.trans g1.weak
   exact wpAny_execs_nil ⟨.next,vars',μ',hM,rfl,C1.back C gback,gback⟩
 ·refine⟨0,vars,μa,rfl,Nat.zero_le _,hst,Cw,⟨fun b o _ _ _ e=>⟨.same (hkeep b o e),rfl⟩,hos,hgens⟩,?_,fun b hb=>(hwr b hb).2,?_⟩
  ·intro b hb
   obtain⟨q,o,ho,_,hfm⟩:=hfp b hb
   exact⟨q.imp id fun m=>List.mem_append_left _ m,o,ho,hfm.imp (Up hit b) id⟩
  ·rw[List.drop_zero];exact hK
theorem sx_while {c:ME}{body:List MS}(hc:ST prog w G h₀ Φ d c) (hbody:SXs prog w G h₀ Φ d body):SX prog w G h₀ Φ d (.while c body):=fun S x env vars fz μ s R A E h hA C hq=>by
 replace h:=invS_while h;obtain⟨test,bd,p,rfl,h⟩:=h
 replace h:=and2 h
 obtain⟨n,hq⟩:=hq
 refine wpAny_While ?_
 refine codeAny_whileLoop (fun k s'=>∃ vars' μ',Cur prog w h₀ A S env vars' fz μ' s'∧GrowS env fz μ s μ' s'∧whileM (fun vs F μ=>ev G Φ X0 c fz vs (fun v μ'=>∃ t,truthy μ' v=some t∧F t μ') μ) (fun vs F μ=>exs G Φ X0 body fz vs F μ) R k vars' μ') ?_ n ⟨vars,μ,C,.refl,hq⟩
 rintro k s' ⟨vars',μ',C',g',hM⟩
 cases k with
 | zero=>exact hM.elim
 | succ k=>
  refine wpAny_mono (hc S test env vars' fz μ' s' _ A _ h.1 hA C' hM) (fun b s1 h₁=>?_) fun _ _ e=>e
  obtain⟨μa,hq1,rc,gb⟩:=h₁
  have C₁:=C'.grow gb rc
  cases b with
  | false=>
   simp only[Bool.false_eq_true,if_false] at hq1 ⊢
   exact wpAny_execs_nil ⟨.next,vars',μa,hq1,rfl,C₁,g'.trans gb.toS⟩
  | true=>
   simp only[if_true] at hq1 ⊢
   refine wpAny_mono (hbody S bd env vars' fz μa s1 _ A _ h.2 hA C₁ hq1) (fun f sd h₂=>?_) fun _ _ e=>e
   obtain⟨fl,vars2,μb,hq2,hf,C₂,gc⟩:=h₂
   have g:=(g'.trans gb.toS).trans gc
   cases fl with
   | next=>obtain rfl:=hf;exact⟨k,Nat.lt_succ_self _,vars2,μb,C₂,g,hq2⟩
   | cont=>obtain rfl:=hf;exact⟨k,Nat.lt_succ_self _,vars2,μb,C₂,g,hq2⟩
   | brk=>obtain rfl:=hf;exact⟨.next,vars2,μb,hq2,rfl,C₂,g⟩
   | ret m=>obtain⟨v,rfl,rv⟩:=hf;exact⟨.ret m,vars2,μb,hq2,⟨v,rfl,rv⟩,C₂,g⟩
mutual
theorem soundS (pg:PG prog w G Γ h₀ mg mb) (hd:d.h=true) (hc:SC prog w h₀ Φ d):∀ st:MS,SX prog w G h₀ Φ d st
 | .assign i a=>sx_assign pg hd hc
 | .setattr o n a=>sx_setattr pg (Qy pg hd hc o).1 (Qy pg hd hc a).1
 | .setidx o i a=>sx_setidx (Qy pg hd hc o).1 (Qy pg hd hc i).1 (Qy pg hd hc a).1
 | .expr a=>sx_expr (Qy pg hd hc a).1
 | .ret a=>Ih (Qy pg hd hc a).1
 | .ite c a b=>sx_ite (Qy pg hd hc c).2 (Ub pg hd hc a) (Ub pg hd hc b)
 | .for t k its body=>sx_for pg hd (Qs pg hd hc its) (Ub pg hd hc body)
 | .while c body=>sx_while (Qy pg hd hc c).2 (Ub pg hd hc body)
 | .opq _=>fun S x env vars fz μ s R A E h hA C hq=>False.elim hq
theorem Ub (pg:PG prog w G Γ h₀ mg mb) (hd:d.h=true) (hc:SC prog w h₀ Φ d):∀ l:List MS,SXs prog w G h₀ Φ d l
 | []=>Dc
 | st::l=>U9 (soundS pg hd hc st) (Ub pg hd hc l)
end
end
end Mine
end
section
namespace Mine
open PySem PySem.Calls PyProof.Rows PySem.W
theorem Ku {α β:Type}{f g:α->Option β}:∀ {l:List α},(∀ x∈l,f x=g x)->l.filterMap f=l.filterMap g
 | []=>fun _=>rfl
 | a::l=>fun h=>by rw[List.filterMap_cons,List.filterMap_cons,h a (.head _),Ku fun x hx=>h x (.tail _ hx)]
theorem O0:∀ {names:List Str}{vals:List Value},names.Nodup->vals.length=names.length->names.filterMap (fun n=>((names.zip vals).lookup n).map (n,·))=names.zip vals
 | [],[]=>fun _ _=>rfl
 | n::ns,v::vs=>fun hn hl=>by
  simp only[List.nodup_cons] at hn
  have ih:=O0 hn.2 (vals:=vs) (by simpa using hl)
  rw[List.filterMap_cons]
  have e0:List.lookup n ((n::ns).zip (v::vs))=some v:=by simp[List.lookup_cons]
  rw[e0]
  simp only[Option.map_some,List.zip_cons_cons]
  congr 1
  refine Eq.trans (Ku fun x hx=>?_) ih
  have:(x == n)=false:=by rw[beq_eq_false_iff_ne];rintro rfl;exact hn.1 hx
  rw[List.lookup_cons,this]
 | [],_::_=>fun _ h=>by contradiction
 | _::_,[]=>fun _ h=>by contradiction
theorem zip_some:∀ {names:List Str}{vals:List Value},vals.length=names.length->∀ n∈names,((names.zip vals).lookup n).isSome=true
 | [],[]=>fun _ _ h=>by cases h
 | n::ns,v::vs=>fun hl x hx=>by
  simp only[List.zip_cons_cons,List.lookup_cons]
  cases q:x == n with
  | true=>rfl
  | false=>
   rcases List.mem_cons.mp hx with rfl|hx
   ·simp at q
   ·exact zip_some (by simpa using hl) x hx
 | [],_::_=>fun h _ _=>by contradiction
 | _::_,[]=>fun h _ _=>by contradiction
theorem G6 {F:FuncData}{body:List PySem.Stmt}{scope:Scope}{params:Arguments}{vals:List Value}(X:FnIs F params body scope) (h1:params.posonlyargs=[]) (h2:params.vararg=none) (h3:params.kwonlyargs=[]) (h4:params.kwarg=none)
  (hn:(params.args.map (·.arg)).Nodup) (hl:vals.length=(params.args.map (·.arg)).length):bindArgs F ⟨vals,[]⟩=pure ((params.args.map (·.arg)).zip vals):=by
 have X1:=X.params
 have X2:=X.dfl
 have X3:=X.kdf
 clear X
 obtain⟨pa,as,va,kw,kd,ka,df⟩:=params
 obtain rfl:pa=[]:=h1
 obtain rfl:va=none:=h2
 obtain rfl:kw=[]:=h3
 obtain rfl:ka=none:=h4
 replace hn:(as.map (·.arg)).Nodup:=hn
 replace hl:vals.length=(as.map (·.arg)).length:=hl
 have e1:¬ (vals.length > (as.map (·.arg)).length):=by exact ar79 hl
 have e2:((as.map (·.arg)).filter fun n=>(((as.map (·.arg)).zip vals).lookup n).isNone)=[]:=by
  rw[List.filter_eq_nil_iff]
  intro n hx
  have:=zip_some hl n hx
  cases q:((as.map (·.arg)).zip vals).lookup n with
  | none=>rw[q] at this;cases this
  | some _=>exact Bool.false_ne_true
 have e3:=O0 hn hl
 obtain⟨⟩:=F
 dsimp only at X1 X2 X3
 subst X1 X2 X3
 have h2:∀ k,¬ ((!(((as.map (·.arg)).take ((as.map (·.arg)).length-(List.drop k ([]:List Value)).length)).filter fun n=>(((as.map (·.arg)).zip vals).lookup n).isNone).isEmpty)=true):=fun k=>by
  rw[List.drop_nil,List.length_nil,Nat.sub_zero,List.take_length,e2];exact Bool.false_ne_true
 have z:∀ k j,((as.map (·.arg)).drop j).zip (List.drop k ([]:List Value))=[]:=fun k j=>by rw[List.drop_nil,List.zip_nil_right]
 refine Eq.trans (if_neg (c:=(decide (vals.length > (as.map (·.arg)).length) && (none:Option Arg).isNone)=true) (by rw[decide_eq_false e1];exact Bool.false_ne_true)) ?_
 refine Eq.trans (if_neg (h2 _)) ?_
 refine Eq.trans (congrArg (fun (l:List (Str×Value))=>forIn l ((as.map (·.arg)).zip vals) _ >>= _) (z _ _)) ?_
 refine congrArg (fun l=>(pure l:Sem (List (Str×Value)))) ?_
 exact(congrArg _ (List.append_nil (as.map (·.arg)))).trans e3
structure FunOk (fd:MFun) (tab:List (Nat×Str)) (funs:List String) (params:Arguments) (body:List PySem.Stmt) (sc:Scope):Prop where
 p1:params.posonlyargs=[]
 p2:params.vararg=none
 p3:params.kwonlyargs=[]
 p4:params.kwarg=none
 n:params.args.length=fd.n
 par:∀ (i:Nat) (x:Str),(params.args.map (·.arg))[i]?=some x->tab.lookup i=some x∧(sc.names.lookup x=some .local∨sc.names.lookup x=some .cell)
 kind:sc.kind=.function
 gen:sc.isGenerator=false
 co:sc.isCoroutine=false
 nv:(tab.map (·.2)).Nodup
 nk:(tab.map (·.1)).Nodup
 nn:(sc.names.map (·.1)).Nodup
 np:(params.args.map (·.arg)).Nodup
 nofree:∀ p∈sc.names,p.2≠.free
 body:isSs ⟨tab,sc.names,funs⟩ fd.body body=true
theorem funOk_of {fd:MFun}{tab:List (Nat×Str)}{funs:List String}{params:Arguments}{body:List PySem.Stmt}{sc:Scope}(h:isFun fd tab funs params body sc=true):FunOk fd tab funs params body sc:=by
 unfold isFun at h
 simp only[Bool.and_eq_true,decide_eq_true_eq,List.isEmpty_iff,Option.isNone_iff_eq_none,List.all_eq_true,Bool.not_eq_true',beq_iff_eq] at h
 obtain⟨⟨⟨⟨⟨⟨⟨⟨⟨⟨⟨⟨⟨⟨⟨⟨h1,h2⟩,h3⟩,h4⟩,h5⟩,h6⟩,h7⟩,h8⟩,h9⟩,h10⟩,h11⟩,h12⟩,h13⟩,h14⟩,h15⟩,h16⟩,h17⟩:=h
 refine⟨h1,h2,h3,h4,h7,fun i x hx=>?_,?_,h10,h11,h12,h13,h14,h15,fun p hp e=>?_,h17⟩
 ·have hm:(x,i)∈(params.args.map (·.arg)).zipIdx:=by
   rw[List.mem_zipIdx_iff_getElem?];exact hx
  obtain⟨q1,q2⟩:=h8 _ hm
  refine⟨q1,?_⟩
  simpa only[kindSt,Bool.or_eq_true,decide_eq_true_eq] using q2
 ·exact h9
 ·have:=h16 p hp
  rw[e] at this;contradiction
theorem Kj {p:Str×Addr}:∀ {names:List (Str×NameKind)}{n:Nat}{acc:List (Str×Addr)},p∈acc->p∈cellsFrom n names acc
 | [],_,_=>fun h=>h
 | (x,k)::r,n,acc=>fun h=>by
  unfold cellsFrom
  split
  ·exact Kj (.tail _ h)
  ·exact Kj h
theorem Yy {x:Str}:∀ {names:List (Str×NameKind)}{n:Nat}{acc:List (Str×Addr)},(x,NameKind.cell)∈names->∃ c,(x,c)∈cellsFrom n names acc
 | (y,k)::r,n,acc,h=>by
  unfold cellsFrom
  rcases List.mem_cons.mp h with h1|h1
  ·cases h1
   rw[if_pos (by rfl)]
   exact⟨n,Kj (.head _)⟩
  ·split
   ·exact Yy h1
   ·exact Yy h1
theorem Yc:∀ {names:List (Str×NameKind)}{n:Nat}{acc:List (Str×Addr)},(names.map (·.1)).Nodup->(acc.map (·.1)).Nodup->(∀ p∈acc,p.1∉names.map (·.1))->((cellsFrom n names acc).map (·.1)).Nodup
 | [],_,_=>fun _ h _=>h
 | (y,k)::r,n,acc=>fun hn ha hd=>by
  simp only[List.map_cons,List.nodup_cons] at hn
  unfold cellsFrom
  split
  ·refine Yc hn.2 ?_ ?_
   ·simp only[List.map_cons,List.nodup_cons]
    refine⟨fun m=>?_,ha⟩
    obtain⟨p,hp,e⟩:=List.mem_map.mp m
    exact hd p hp (by rw[e];exact .head _)
   ·intro p hp
    rcases List.mem_cons.mp hp with rfl|hp
    ·exact hn.1
    ·exact fun m=>hd p hp (by simp at m ⊢;exact .inr m)
  ·exact Yc hn.2 ha fun p hp m=>hd p hp (by simp at m ⊢;exact .inr m)
theorem Zh:∀ {l:List (Str×Addr)},(l.map (·.1)).Nodup->∀ p∈l,l.lookup p.1=some p.2
 | (n,k)::r,h,p,hp=>by
  simp only[List.map_cons,List.nodup_cons] at h
  rcases List.mem_cons.mp hp with rfl|hp'
  ·simp[List.lookup_cons]
  ·rw[List.lookup_cons]
   have:(p.1 == n)=false:=by
    rw[beq_eq_false_iff_ne];rintro rfl
    exact h.1 (List.mem_map_of_mem (f:=(·.1)) hp')
   rw[this];exact Zh h.2 p hp'
theorem Ck {kindOf:Str->Option NameKind}{x:Str}:∀ {binds:List (Str×Value)}{m:Str->Option Value},x∉binds.map (·.1)->bindL kindOf binds m x=m x
 | [],m=>fun _=>rfl
 | (n,v)::r,m=>fun h=>by
  simp only[List.map_cons,List.mem_cons,not_or] at h
  unfold bindL
  rw[Ck h.2]
  split
  ·simp[h.1]
  ·rfl
theorem Id {kindOf:Str->Option NameKind}{x:Str}{v:Value}(hk:kindOf x=some .local):∀ {binds:List (Str×Value)}{m:Str->Option Value},(binds.map (·.1)).Nodup->(x,v)∈binds->bindL kindOf binds m x=some v
 | (n,u)::r,m,hn,h=>by
  simp only[List.map_cons,List.nodup_cons] at hn
  unfold bindL
  rcases List.mem_cons.mp h with h1|h1
  ·cases h1
   rw[Ck hn.1,if_pos hk];exact if_pos rfl
  ·exact Id hk hn.2 h1
theorem Cl {kindOf:Str->Option NameKind}{x:Str}:∀ {binds:List (Str×Value)}{m:Str->Option Value},x∉binds.map (·.1)->bindC kindOf binds m x=m x
 | [],m=>fun _=>rfl
 | (n,v)::r,m=>fun h=>by
  simp only[List.map_cons,List.mem_cons,not_or] at h
  unfold bindC
  rw[Cl h.2]
  split
  ·rfl
  ·simp[h.1]
theorem Ie {kindOf:Str->Option NameKind}{x:Str}{v:Value}(hk:kindOf x=some .cell):∀ {binds:List (Str×Value)}{m:Str->Option Value},(binds.map (·.1)).Nodup->(x,v)∈binds->bindC kindOf binds m x=some v
 | (n,u)::r,m,hn,h=>by
  simp only[List.map_cons,List.nodup_cons] at hn
  unfold bindC
  rcases List.mem_cons.mp h with h1|h1
  ·cases h1
   rw[Cl hn.1,if_neg (by rw[hk];decide)];exact if_pos rfl
  ·exact Ie hk hn.2 h1
section
variable {prog:Program}{w:World}{G:String->Option MV}{Γ:String->Option MFun}{h₀:Heap}{mg mb:Str->Option Value}
theorem PG.fnAt (pg:PG prog w G Γ h₀ mg mb) {f:String}{fd:MFun}(h:Γ f=some fd):∃ fa,FnAt h₀ f fa:=by
 obtain⟨a,o,F,params,body,scope,tab,funs,h1,h2,h3,_⟩:=pg.fn f fd h
 exact⟨a,mg,pg.g,h1,o,_,h2,h3⟩
structure Entered (s:Shared) (env:Env) (s1:Shared):Prop where
 keep:∀ b o,s.heap.get? b=some o->s1.heap.get? b=some o
 os:s1.os=s.os
 gens:s1.gens=s.gens
 new:s.heap.get? env.locals=none
 frame:env.frame=some env.locals
 cells:∀ y c,(y,c)∈env.cells->s.heap.get? c=none
theorem enter (pg:PG prog w G Γ h₀ mg mb) {d:Nat}{hb:Bool}{f:String}{fd:MFun}{vs:List MV}{vals:List Value}{fz:List Addr}{μ:MH}{s:Shared}{A:Around}{fa:Addr}{R:Result->Shared->Prop}(hΓ:Γ f=some fd) (hn:vs.length=fd.n) (hA:OkC ⟨d+1,hb⟩ A) (B:Base h₀ fz μ s) (r:RepH prog w μ s.heap) (fi:FzIn fz s.heap) (ff:FrsA h₀ A fz μ s.heap) (rv:RepVs s.heap vs vals) (hfn:FnAt h₀ f fa)
  (k:∀ (S:Sc) (env:Env) (body:List PySem.Stmt) (s1:Shared),isSs S fd.body body=true->Cur prog w h₀ (A.deeper env) S env (args0 vs) fz μ s1->OkA ⟨d,hb⟩ (A.deeper env)->Entered s env s1->
   wpAny (model prog w) (A.deeper env) (execs body env) (fun f s'=>R (.ok (.ret (match f with | .ret v=>v|_=>.none))) s') (fun e s'=>wpAny (model prog w) (A.deeper env) (leaving env e) (fun _ s''=>R (.error e) s'') (fun e' s''=>R (.error e') s'') s') s1):
  codeAny (model prog w) A (.call (.ref fa) ⟨vals,[]⟩) R s:=by
 obtain⟨a,o,FD,params,body,scope,tab,funs,hmf,ho,hdata,X,hcode,hfun,hfuns⟩:=pg.fn f fd hΓ
 obtain rfl:=X.scope
 obtain⟨m,hm,hmf',_⟩:=hfn
 have:m=mg:=hm.eq_nsMap.trans pg.g.eq_nsMap.symm
 subst this
 rw[hmf] at hmf';cases hmf'
 have F:=funOk_of hfun
 have keep0:∀ b o,h₀.get? b=some o->s.heap.get? b=some o:=fun b o e=>(B b o e).1
 have hlen:vals.length=(params.args.map (·.arg)).length:=by rw[rv.length,hn,List.length_map,F.n]
 have hfst:(((params.args.map (·.arg)).zip vals).map (·.1))=params.args.map (·.arg):=List.map_fst_zip (by exact ar80 hlen)
 have hkinds:∀ x∈(params.args.map (·.arg)).zip vals,FD.scope.names.lookup x.1=some .local∨(FD.scope.names.lookup x.1=some .cell∧((cellsFrom (s.heap.objs.size+1) FD.scope.names []).lookup x.1).isSome=true):=by
  intro x hx
  have hx1:x.1∈params.args.map (·.arg):=by rw[← hfst];exact List.mem_map_of_mem hx
  obtain⟨i,hi⟩:=List.mem_iff_getElem?.mp hx1
  rcases (F.par i x.1 hi).2 with q|q
  ·exact .inl q
  ·refine .inr ⟨q,?_⟩
   obtain⟨c,hc⟩:=Yy (n:=s.heap.objs.size+1) (acc:=[]) (mem_of_lookup q)
   rw[Zh (Yc F.nn (by exact List.Pairwise.nil) (by exact fun _ h=>(List.not_mem_nil h).elim)) _ hc];rfl
 refine codeAny_call_cells (binds:=(params.args.map (·.arg)).zip vals) (by have:A.depth+2*(d+1)+1<recursionLimit:=hA.depth;exact ar81 this) (keep0 _ _ ho) hdata (pg.nolimit.keeps keep0) (hcode.keeps keep0) X.body (G6 X F.p1 F.p2 F.p3 F.p4 F.np hlen) X.clo hkinds (fun s1 x=>?_) F.co F.gen F.kind
 generalize hL:s.heap.objs.size=L at x ⊢
 obtain⟨⟨h',tk,hs1⟩,hns,hkeep,hfresh⟩:=x.toInCall
 have hos:s1.os=s.os:=by rw[hs1]
 have hgens:s1.gens=s.gens:=by rw[hs1]
 have above:∀ b,L≤b->s.heap.get? b=none:=fun b hb=>by
  cases q:s.heap.get? b with
  | none=>rfl
  | some o=>have:=Heap.lt_size q;rw[hL] at this;exact absurd this (Nat.not_lt.mpr hb)
 have none0:∀ b,s.heap.get? b=none->h₀.get? b=none:=fun b e=>by
  cases q:h₀.get? b with
  | none=>rfl
  | some o=>have:=keep0 b o q;rw[e] at this;cases this
 have cnd:((cellsFrom (L+1) FD.scope.names []).map (·.1)).Nodup:=Yc F.nn (by exact List.Pairwise.nil) (by exact fun _ h=>(List.not_mem_nil h).elim)
 have C:Cur prog w h₀ (A.deeper (callEnvC FD L fa)) ⟨tab,FD.scope.names,funs⟩ (callEnvC FD L fa) (args0 vs) fz μ s1:=by
  refine { base:=fun b o e=>⟨hkeep b o (B b o e).1,(B b o e).2⟩,heap:=r.ext hkeep,fzin:=fi.ext hkeep,newl:=none0 _ (above _ (Nat.le_refl _)),newc:=?nc,known:=?kn,fr:=?fr,frs:=?ff }
  case nc=>exact fun x' c hc=>none0 _ (above _ (Nat.le_of_lt (x.above x' c hc)))
  case ff=>
   obtain⟨⟨l,el,f⟩,p⟩:=ff
   have fb:=f.map (h':=s1.heap) (μ':=μ) (fun b o es ep hb ho hd=>⟨⟨o,es,ep,hkeep b o ho,hd⟩,f.nt b hb⟩) f.lo
   obtain⟨oL,es,ep,hoL,hdL,_⟩:=id hns
   have hbl:bot fz≤L:=by
    unfold bot
    cases q:fz.getLast? with
    | none=>exact Nat.zero_le _
    | some n=>
     have hn:=fi n (List.mem_of_getLast? q)
     rw[← hL]
     cases q':s.heap.get? n with
     | none=>exact absurd q' hn
     | some o=>exact Heap.lt_size q'
   refine⟨⟨_,Around.frames_deeper el,⟨by show FD.scope.kind≠_;rw[F.kind];decide,⟨L,oL,rfl,none0 _ (above _ (Nat.le_refl _)),hoL,fun vs q=>by rw[hdL] at q;cases q⟩,fb.ff⟩,?_,?_,?_⟩,p⟩ <;> intro b hb <;> rcases frs_cons (L:=L) rfl hb with rfl|hb
   ·exact r.free (above _ (Nat.le_refl _))
   ·exact f.nt b hb
   ·exact hbl
   ·exact f.lo b hb
   ·exact⟨oL,es,ep,hoL,hdL⟩
   ·exact fb.fd b hb
  case kn=>
   intro g hg
   obtain⟨fd',hg'⟩:=hfuns g hg
   exact pg.fnAt hg'
  case fr=>
   refine { names:=rfl,inj:=inj_of F.nv,nk:=F.nk,nv:=F.nv,kind:=F.kind,glob:=X.glob,bui:=X.bui,ns:=⟨_,hns,?ns⟩,cells:=?cs,apart:=x.apart,fixl:=r.free (above _ (Nat.le_refl _)),fixc:=?fx }
   case ns=>
    intro i y mv hi hkv hv
    have hvi:vs[i]?=some mv:=hv
    obtain⟨v,hval,hrep⟩:=rv.get hvi
    have hilt:i<(params.args.map (·.arg)).length:=by rw[← hlen];exact(List.getElem?_eq_some_iff.mp hval).1
    have hpi:=List.getElem?_eq_getElem hilt
    obtain⟨q1,q2⟩:=F.par i _ hpi
    have hy:(params.args.map (·.arg))[i]=y:=by
     have:some _=some y:=q1.symm.trans hi
     exact Option.some.inj this
    rw[hy] at q2 hpi
    have hmem:(y,v)∈(params.args.map (·.arg)).zip vals:=by
     refine List.mem_iff_getElem?.mpr ⟨i,?_⟩
     rw[List.getElem?_zip_eq_some];exact⟨hpi,hval⟩
    refine⟨v,hrep.keepT (.of_all hkeep),?_⟩
    have hko:(callEnvC FD L fa).kindOf y=FD.scope.names.lookup y:=rfl
    rcases q2 with q|q
    ·exact .loc (hko.trans q) (Id (by rw[hko];exact q) (by rw[hfst];exact F.np) hmem)
    ·obtain⟨c,hc⟩:=Yy (n:=L+1) (acc:=[]) (mem_of_lookup q)
     have hc':=Zh cnd _ hc
     refine .cel (.inl (hko.trans q)) c hc' ?_
     have:=x.cell y c hc'
     rw[Ie (by rw[hko];exact q) (by rw[hfst];exact F.np) hmem] at this
     exact this
   case cs=>
    intro y hy
    rcases hy with q|q
    ·obtain⟨c,hc⟩:=Yy (n:=L+1) (acc:=[]) (mem_of_lookup q)
     exact⟨c,Zh cnd _ hc⟩
    ·exact absurd rfl (F.nofree _ (mem_of_lookup q))
   case fx=>
    intro y c hc
    exact⟨r.free (above _ (Nat.le_of_lt (x.above y c hc))),Ne.symm (Nat.ne_of_lt (x.above y c hc)),_,x.cell y c (Zh cnd _ hc)⟩
 have hA':OkA ⟨d,hb⟩ (A.deeper (callEnvC FD L fa)):=⟨hA.hand,by have:A.depth+2*(d+1)+1<recursionLimit:=hA.depth;show A.depth+1+2*d+2<_;exact ar82 this,by have:A.units+4*(d+1)+99<cLine:=hA.units;show A.units+3+4*d+100<_;exact ar83 this⟩
 exact k _ _ _ _ F.body C hA' ⟨hkeep,hos,hgens,above _ (Nat.le_refl _),rfl,fun y c hc=>above _ (Nat.le_of_lt (x.above y c hc))⟩
noncomputable def NatOk (prog:Program) (w:World) (h₀:Heap) (Γ:String->Option MFun):Prop:=∀ (f:String) (fd:MFun) (P:Nat->List MV->List Addr->MQ->MH->Prop),Γ f=some fd->fd.nat=some P->
 ∀ (d:Nat) (vs:List MV) (vals:List Value) (fz:List Addr) (μ:MH) (s:Shared) (Q:MQ) (A:Around) (E:Value->Shared->Prop) (fa:Addr),OkC ⟨d+1,true⟩ A->Base h₀ fz μ s->RepH prog w μ s.heap->FzIn fz s.heap->FrsA h₀ A fz μ s.heap->
 RepVs s.heap vs vals->FnAt h₀ f fa->P d vs fz Q μ->wpAny (model prog w) A (call (.ref fa) vals) (PostV prog w fz μ s Q) E s
theorem Vj (pg:PG prog w G Γ h₀ mg mb) (nk:NatOk prog w h₀ Γ) (d:Nat):SC prog w h₀ (calls G Γ d) ⟨d,true⟩:=by
 induction d with
 | zero=>exact fun f vs vals fz μ s Q A E fa hA B r fi ff rv hfn h=>h.elim
 | succ d ih=>
  intro f vs vals fz μ s Q A E fa hA B r fi ff rv hfn h
  obtain⟨fd,hΓ,hn,hex⟩:=h
  cases hnat:fd.nat with
  | some P=>rw[hnat] at hex;exact nk f fd P hΓ hnat d vs vals fz μ s Q A E fa hA B r fi ff rv hfn hex
  | none=>
  rw[hnat] at hex
  refine wpAny_call (enter pg hΓ hn hA B r fi ff rv hfn fun S env body s1 hb C hA' en=>?_)
  refine wpAny_mono (Ub pg rfl ih fd.body _ body _ _ fz μ s1 _ _ _ hb hA' C hex) (fun fl sd h₂=>?_) fun _ _ e=>e
  obtain⟨mf,vars2,μb,hq2,hf,C₂,gc⟩:=h₂
  have ne:∀ {b c:Addr}{o:Obj},s.heap.get? b=some o->s.heap.get? c=none->b≠c:=fun e n q=>by rw[q,n] at e;cases e
  have g:Grow fz μ s μb sd:=⟨fun b o f e=>gc.keep b o f (ne e en.new) (fun y c hc=>ne e (en.cells y c hc)) (en.keep b o e),gc.os.trans en.os,gc.gens.trans en.gens⟩
  cases mf with
  | next=>simp only[RepFl] at hf;subst hf;exact⟨.none,μb,hq2,rfl,C₂.heap,g⟩
  | brk=>exact hq2.elim
  | cont=>exact hq2.elim
  | ret mv=>simp only[RepFl] at hf;obtain⟨v,rfl,hv⟩:=hf;exact⟨mv,μb,hq2,hv,C₂.heap,g⟩
end
end Mine
end
section
namespace Mine
open PySem PySem.Calls PyProof.Rows PySem.W
noncomputable def Defs.env (D:Defs) (f:String):Option MFun:=(D.find? fun p=>p.1 == f).map fun p=>p.2.1
noncomputable def defOk (ds:List DefRec) (funs:List String) (p:String×MFun×List (Nat×Str)):Bool:=
 isMeth p.1 || match ds.find? fun d=>d.name == Str.ofString p.1 with
 | some d=>isFun p.2.1 p.2.2 funs d.params d.body d.scope
 | none=>false
noncomputable def progOk (ds:List DefRec) (D:Defs):Bool:=D.all (defOk ds (D.map (·.1)))
abbrev Consts:=List (String×MV)
noncomputable def Consts.env (C:Consts) (g:String):Option MV:=(C.find? fun p=>p.1 == g).map (·.2)
noncomputable def constOk (vo:Str->Option PyData) (p:String×MV):Bool:=match p.2 with
 | .int i=>(match vo (Str.ofString p.1) with|some (.int j)=>i == j|_=>false)
 | .str x=>(match vo (Str.ofString p.1) with|some (.str y)=>x == y|_=>false)
 | .ref _=>true
 | _=>false
theorem constOk_inv {vo:Str->Option PyData}{k:String}{v:MV}(a:constOk vo (k,v)=true):(∃ i,v=.int i∧vo (Str.ofString k)=some (.int i))∨(∃ x,v=.str x∧vo (Str.ofString k)=some (.str x))∨∃ C,v=.ref C:=by
 cases v with
 | int i=>
  replace a:(match vo (Str.ofString k) with|some (.int j)=>i == j|_=>false)=true:=a
  generalize vo (Str.ofString k)=o at a ⊢
  cases o with
  | none=>cases a
  | some d=>cases d with
   | int j=>exact .inl ⟨i,rfl,by rw[eq_of_beq a]⟩
   | _=>cases a
 | str x=>
  replace a:(match vo (Str.ofString k) with|some (.str y)=>x == y|_=>false)=true:=a
  generalize vo (Str.ofString k)=o at a ⊢
  cases o with
  | none=>cases a
  | some d=>cases d with
   | str y=>exact .inr (.inl ⟨x,rfl,by rw[eq_of_beq a]⟩)
   | _=>cases a
 | ref C=>exact .inr (.inr ⟨C,rfl⟩)
 | _=>cases a
noncomputable def biOk (bt:Str->Option Value):Bool:=biTab.all fun p=>!(Str.ofString p.1 == Str.ofString "__name__") && decide (bt (Str.ofString p.1)=some p.2)
inductive MRec (h:Heap) (v:Option Value) (p:String×MFun×List (Nat×Str)) (funs:List String):Prop
 | mk (a:_) (o:_) (F:_) (body:_) (e1:v=some (.ref a)) (e2:h.get? a=some o) (e3:o.cls=.type "function") (e4:o.data=.func F) (e5:FnIs F F.params body F.scope) (e6:h.CodeRec F.code F.qualname) (e7:isFun p.2.1 p.2.2 funs F.params body F.scope=true)
theorem MRec.keeps {h h':Heap}{v:Option Value}{p:String×MFun×List (Nat×Str)}{funs:List String}(x:MRec h v p funs) (k:∀ b o,h.get? b=some o->h'.get? b=some o):MRec h' v p funs:=by
 obtain⟨a,o,F,body,e1,e2,e3,e4,e5,e6,e7⟩:=x
 exact⟨a,o,F,body,e1,k _ _ e2,e3,e4,e5,e6.keeps k,e7⟩
theorem stmtsOf_inv {b:FuncBody}{l:List PySem.Stmt}(h:stmtsOf b=some l):b=.stmts l:=by
 cases b <;> first|(cases h;rfl)|cases h
theorem codeOk_inv {h:Heap}{cd:Value}{q:Str}(e:codeOk h cd q=true):h.CodeRec cd q:=by
 cases cd with
 | ref c=>
  have e:(match h.get? c with|some o=>(match o.data with | .fields vs=>(match vs[1]? with|some (Value.str x _)=>decide (x=q)|_=>false)|_=>false)|none=>false)=true:=e
  cases ho:h.get? c with
  | none=>rw[ho] at e;cases e
  | some o=>
   rw[ho] at e
   cases hd:o.data with
   | fields vs=>
    simp only[hd] at e
    cases hv:vs[1]? with
    | none=>rw[hv] at e;cases e
    | some v=>
     rw[hv] at e
     cases v with
     | str x t=>exact⟨c,o,vs,t,rfl,ho,hd,by rw[hv,of_decide_eq_true e]⟩
     | _=>cases e
   | _=>simp only[hd] at e;cases e
 | _=>cases e
theorem funcOf_inv {d:Data}{F:FuncData}(h:funcOf d=some F):d=.func F:=by
 cases d <;> first|(cases h;rfl)|cases h
theorem mthOk_inv {h:Heap}{funs:List String}{p:String×MFun×List (Nat×Str)}{v:Option Value}(e:mthOk h funs p v=true):MRec h v p funs:=by
 cases v with
 | none=>cases e
 | some v=>
  cases v with
  | ref a=>
   have e:(match h.get? a with|some o=>decide (o.cls=.type "function") && (match funcOf o.data with|some F=>fnOk h funs p F|none=>false)|none=>false)=true:=e
   cases ho:h.get? a with
   | none=>rw[ho] at e;cases e
   | some o=>
    rw[ho] at e
    obtain⟨h1,h2⟩:=and2 e
    cases hF:funcOf o.data with
    | none=>rw[hF] at h2;cases h2
    | some F=>
     rw[hF] at h2
     have h2:(match stmtsOf F.body with|some body=>decide (F.globals=mainGlobals) && (F.closure.isEmpty && (decide (F.defaults=.none) && (decide (F.kwdefaults=.none) && (decide (F.builtins=builtinsNs) && (codeOk h F.code F.qualname && isFun p.2.1 p.2.2 funs F.params body F.scope)))))|none=>false)=true:=h2
     cases hb:stmtsOf F.body with
     | none=>rw[hb] at h2;cases h2
     | some body=>
      rw[hb] at h2
      obtain⟨a1,h2⟩:=and2 h2
      obtain⟨a2,h2⟩:=and2 h2
      obtain⟨a3,h2⟩:=and2 h2
      obtain⟨a4,h2⟩:=and2 h2
      obtain⟨a5,h2⟩:=and2 h2
      obtain⟨a6,a7⟩:=and2 h2
      exact⟨a,o,F,body,rfl,ho,of_decide_eq_true h1,funcOf_inv hF,⟨rfl,stmtsOf_inv hb,rfl,of_decide_eq_true a1,List.isEmpty_iff.mp a2,of_decide_eq_true a3,of_decide_eq_true a4,of_decide_eq_true a5⟩,codeOk_inv a6,a7⟩
  | _=>cases e
inductive KRaw (h:Heap) (D:Defs) (C:Addr):Prop
 | mk (N:_) (nm:_) (q:_) (bs:_) (sn:_) (sub:_) (col:_) (dd:_) (k0:_) (k1:_) (k2:_) (k3:_) (k5:_) (mN:_) (h1:h.get? C=some (excClassObj nm q C N bs [.type "object"] true sn sub false col dd k0 k1 k2 k3 k5 "object.__new__")) (h2:h.Ns N mN) (h3:∀ n∈noneNames,mN n=none) (h4:∀ p∈D,∀ n,methTab.lookup p.1=some n->MRec h (mN (Str.ofString n)) p (D.map (·.1)))
theorem KRaw.keeps {h h':Heap}{D:Defs}{C:Addr}(x:KRaw h D C) (k:∀ b o,h.get? b=some o->h'.get? b=some o):KRaw h' D C:=by
 obtain⟨N,nm,q,bs,sn,sub,col,dd,k0,k1,k2,k3,k5,mN,h1,h2,h3,h4⟩:=x
 exact⟨N,nm,q,bs,sn,sub,col,dd,k0,k1,k2,k3,k5,mN,k _ _ h1,h2.keeps k,h3,fun p hp n e=>(h4 p hp n e).keeps k⟩
inductive KObj (C:Addr) (o:Obj) (N:Addr):Prop
 | mk (nm:_) (q:_) (bs:_) (sn:_) (sub:_) (col:_) (dd:_) (k0:_) (k1:_) (k2:_) (k3:_) (k5:_) (e:o=excClassObj nm q C N bs [.type "object"] true sn sub false col dd k0 k1 k2 k3 k5 "object.__new__")
theorem kObj_of {C:Addr}{o:Obj}{cd:ClassData}(ea:kOkA o=true) (eb:kOkB C cd=true) (hd:o.data=.cls cd):KObj C o cd.ns:=by
 obtain⟨a1,a2⟩:=and2 ea
 obtain⟨a2,a3⟩:=and2 a2
 obtain⟨b1,b2⟩:=and2 eb
 obtain⟨b2,b3⟩:=and2 b2
 obtain⟨b3,b4⟩:=and2 b3
 replace a1:=of_decide_eq_true a1
 replace a2:=of_decide_eq_true a2
 replace a3:=of_decide_eq_true a3
 replace b1:=of_decide_eq_true b1
 clear ea eb
 cases o with
 | mk oc dd dt sl=>
 cases cd with
 | mk nm bs mro N q hdct sn sub ab col hdel=>
 cases sl with
 | mk l=>
 obtain⟨k0,k1,k2,k3,k5,rfl⟩:=six_places (l:=l) a2 (by rw[← List.getElem?_toArray];exact a3)
 cases a1
 cases hd
 cases b1
 cases hdel with
 | true=>cases b2
 | false=>
 cases hdct with
 | false=>cases b3
 | true=>
 cases ab with
 | true=>cases b4
 | false=>exact⟨nm,q,bs,sn,sub,col,dd,k0,k1,k2,k3,k5,rfl⟩
theorem KRaw.of {D:Defs}{h:Heap}(e:kOk D h=true):∃ C,h.nsMap mainGlobals (Str.ofString "Keeper")=some (.ref C)∧KRaw h D C:=by
 unfold kOk at e
 cases hf:h.clsAt mainGlobals (Str.ofString "Keeper") with
 | none=>rw[hf] at e;cases e
 | some y=>
  obtain⟨C,o,cd⟩:=y
  rw[hf] at e
  obtain⟨hn,ho,hd⟩:=Heap.clsAt_spec hf
  obtain⟨a1,e⟩:=and2 e
  obtain⟨a2,e⟩:=and2 e
  obtain⟨a8,e⟩:=and2 e
  obtain⟨a9,b1⟩:=and2 e
  obtain⟨nm,q,bs,sn,sub,col,dd,k0,k1,k2,k3,k5,e⟩:=kObj_of a1 a2 hd
  refine⟨C,hn,cd.ns,nm,q,bs,sn,sub,col,dd,k0,k1,k2,k3,k5,_,ho.trans (congrArg some e),.of_isNs a8,fun n hn=>?_,fun p hp n en=>?_⟩
  ·exact Option.isNone_iff_eq_none.mp (List.all_eq_true.mp a9 n hn)
  ·have:=List.all_eq_true.mp b1 p hp
   unfold kOkP at this
   rw[en] at this
   exact mthOk_inv this
inductive ClsRaw (h:Heap) (C:Addr) (vs:List Value):Prop
 | mk (N:_) (nm:_) (q:_) (bs:_) (hdct:_) (sn:_) (sub:_) (ab:_) (col:_) (dd:_) (k0:_) (k1:_) (k2:_) (k3:_) (k5:_) (mN:_) (h1:h.get? C=some (excClassObj nm q C N bs (vs++bmV) hdct sn sub ab col dd k0 k1 k2 k3 k5 "ValueError.__new__")) (h2:h.Ns N mN) (h3:∀ n∈qn,mN n=none)
theorem ClsRaw.at {h:Heap}{C:Addr}{vs:List Value}{own:List Addr}(x:ClsRaw h C vs) (e:vs=own.map .ref):ClsAt h C own:=by
 subst e
 obtain⟨N,nm,q,bs,hdct,sn,sub,ab,col,dd,k0,k1,k2,k3,k5,mN,h1,h2,h3⟩:=x
 exact⟨N,nm,q,bs,hdct,sn,sub,ab,col,dd,k0,k1,k2,k3,k5,mN,h1,h2,h3⟩
theorem G2 {h:Heap}{x:Str}{chain:List Str}(e:clsOk1 h x chain=true):∃ C,h.nsMap mainGlobals x=some (.ref C)∧ClsRaw h C (chain.map fun n=>(h.nsMap mainGlobals n).getD .none):=by
 obtain⟨e,y⟩:=and2 e
 obtain⟨C,N,nm,q,bs,hdct,sn,sub,ab,col,dd,k0,k1,k2,k3,k5,hb,hC,hN,_⟩:=Heap.ownExc_of_ok e
 refine⟨C,hb,N,nm,q,bs,hdct,sn,sub,ab,col,dd,k0,k1,k2,k3,k5,_,hC,hN,fun n hn=>?_⟩
 cases hf:h.clsAt mainGlobals x with
 | none=>rw[hf] at y;cases y
 | some z=>
  obtain⟨C',o',cd'⟩:=z
  rw[hf] at y
  obtain⟨hn',ho',hd'⟩:=Heap.clsAt_spec hf
  rw[hb] at hn'
  obtain rfl:C=C':=by injection hn' with q1;injection q1
  rw[hC] at ho'
  cases ho'
  cases hd'
  have:=List.all_eq_true.mp y n hn
  simpa using this
noncomputable def Xs (mg:Str->Option Value) (h:Heap):Prop:=(∃ D,mg (Str.ofString "BookError")=some (.ref D)∧ClsAt h D []∧∀ n∈xNames,∃ C,mg (Str.ofString n)=some (.ref C)∧ClsAt h C [D]∧C≠D)∧(xNames.map fun n=>mg (Str.ofString n)).Nodup
theorem Xs.keeps {mg:Str->Option Value}{h h':Heap}(x:Xs mg h) (k:∀ b o,h.get? b=some o->h'.get? b=some o):Xs mg h':=by
 obtain⟨⟨D,h1,h2,h3⟩,h4⟩:=x
 refine⟨⟨D,h1,h2.keeps k,fun n hn=>?_⟩,h4⟩
 obtain⟨C,a,b,c⟩:=h3 n hn
 exact⟨C,a,b.keeps k,c⟩
theorem Xs.of {h:Heap}(e:xOk h=true):Xs (h.nsMap mainGlobals) h:=by
 obtain⟨e1,e2⟩:=and2 e
 obtain⟨e2,e3⟩:=and2 e2
 obtain⟨D,hD,o1⟩:=G2 e1
 have f:([Str.ofString "BookError"].map fun n=>(h.nsMap mainGlobals n).getD .none)=[D].map Value.ref:=by
  simp only[List.map_cons,List.map_nil,hD,Option.getD_some]
 refine⟨⟨D,hD,o1.at rfl,fun n hn=>?_⟩,of_decide_eq_true e3⟩
 obtain⟨a1,a2⟩:=and2 (List.all_eq_true.mp e2 n hn)
 obtain⟨X,hX,o3⟩:=G2 a1
 rw[Bool.not_eq_true',decide_eq_false_iff_not] at a2
 exact⟨X,hX,o3.at f,fun q=>a2 (by rw[hX,hD,q])⟩
theorem memS {l:List (String×String)}{f n:String}(h:l.lookup f=some n):(f,n)∈l:=by
 induction l with
 | nil=>cases h
 | cons p l ih=>
  obtain⟨a,b⟩:=p
  rw[List.lookup_cons] at h
  cases q:f == a with
  | true=>rw[q] at h;cases h;rw[beq_iff_eq] at q;subst q;exact .head _
  | false=>rw[q] at h;exact .tail _ (ih h)
section
variable {prog p:Program}{w:World}{loose:List Str}{mean:ExcName->Option Value}{mg mb:Str->Option Value}{h:Heap}
theorem KRaw.cls {D:Defs}{C:Addr}(g:h.Ns mainGlobals mg) (hK:mg (Str.ofString "Keeper")=some (.ref C)) (x:KRaw h D C) (hall:methTab.all (fun e=>D.any fun p=>p.1 == e.1)=true):KCls h C:=by
 obtain⟨N,nm,q,bs,sn,sub,col,dd,k0,k1,k2,k3,k5,mN,h1,h2,h3,h4⟩:=x
 have hr:∀ f n m,methTab.lookup f=some n->res h m f=mN (Str.ofString n):=fun f n m e=>by
  unfold res
  rw[e]
  have e1:h.nsMap mainGlobals (Str.ofString "Keeper")=some (.ref C):=by rw[← g.eq_nsMap];exact hK
  unfold Heap.clsAt
  rw[e1]
  simp only[h1,excClassObj,Option.bind_some]
  rw[← h2.eq_nsMap]
 refine⟨N,nm,q,bs,sn,sub,col,dd,k0,k1,k2,k3,k5,mN,h1,h2,⟨h3 _ (by decide),h3 _ (by decide),h3 _ (by decide)⟩,fun n hn=>h3 _ (List.mem_append_right _ (List.mem_map_of_mem hn)),hr,fun f n a e em=>?_⟩
 have hm:(f,n)∈methTab:=memS e
 obtain⟨p,hp,q⟩:=List.any_eq_true.mp (List.all_eq_true.mp hall _ hm)
 have hpf:p.1=f:=by simpa using q
 obtain⟨a',o,F,body,e1,e2,e3,_⟩:=h4 p hp n (by rw[hpf];exact e)
 rw[em] at e1;cases e1
 exact⟨o,e2,e3⟩
theorem pg_of (T:Top p loose mean mg mb h) (D:Defs) (Cs:Consts) {K:Addr}(hK:mg (Str.ofString "Keeper")=some (.ref K)) (kr:KRaw h D K) (xs:Xs mg h) (h1:progOk (recsOf p) D=true) (h2:Cs.all (constOk (valOf p))=true)
  (h3:biTab.all (fun q=>!startupNames.contains (Str.ofString q.1) && !loose.contains (Str.ofString q.1) && !((recsOf p).map (·.name)).contains (Str.ofString q.1) && !((litsOf p).map (·.1)).contains (Str.ofString q.1) && !((clssOf p loose).map (·.name)).contains (Str.ofString q.1))=true)
  (h4:biOk bootBuiltins=true) (h5:methTab.all (fun e=>D.any fun p=>p.1 == e.1)=true) (h6:∀ q∈Cs,∀ C,q.2=.ref C->mg (Str.ofString q.1)=some (.ref C)) (h7:∀ C,Cs.env "Keeper" = some (.ref C)->C=K):PG prog w Cs.env D.env h mg mb where
 g:=T.g
 b:=T.b
 nolimit:=T.nolimit
 bi:=fun q hq=>by
  have a:=List.all_eq_true.mp h3 q hq
  simp only[Bool.and_eq_true,Bool.not_eq_true',List.contains_eq_mem,decide_eq_false_iff_not] at a
  have b:=List.all_eq_true.mp h4 q hq
  simp only[Bool.and_eq_true,Bool.not_eq_true',decide_eq_true_eq,beq_eq_false_iff_ne] at b
  refine⟨T.free _ a.1.1.1.1 a.1.1.1.2 a.1.1.2 a.1.2 a.2,?_⟩
  rw[T.builtins _ b.1];exact b.2
 fn:=fun f fd hf=>by
  unfold Defs.env at hf
  rw[Option.map_eq_some_iff] at hf
  obtain⟨q,hq,rfl⟩:=hf
  have hm:=List.mem_of_find?_eq_some hq
  have hn:q.1=f:=by simpa using List.find?_some hq
  subst hn
  have hfuns:∀ g∈D.map (·.1),∃ fd',D.env g=some fd':=fun g hg=>by
   obtain⟨q',hq',rfl⟩:=List.mem_map.mp hg
   unfold Defs.env
   cases hfind:D.find? fun p=>p.1 == q'.1 with
   | none=>exact absurd (List.find?_eq_none.mp hfind q' hq') (by simp)
   | some z=>exact⟨z.2.1,rfl⟩
  cases hmt:methTab.lookup q.1 with
  | some n=>
   have kc:=KRaw.cls T.g hK kr h5
   obtain⟨N,nm,qq,bs,sn,sub,col,dd,k0,k1,k2,k3,k5,mN,c1,c2,c3,c4⟩:=kr
   obtain⟨a,o,F,body,e1,e2,e3,e4,e5,e6,e7⟩:=c4 q hm n hmt
   refine⟨a,o,F,F.params,body,F.scope,q.2.2,D.map (·.1),?_,e2,e4,e5,e6,e7,hfuns⟩
   obtain⟨N',_,_,_,_,_,_,_,_,_,_,_,_,mN',d1,d2,_,_,d5,_⟩:=kc
   rw[d5 q.1 n mg hmt]
   rw[c1] at d1
   have:N=N':=by
    have:=congrArg (fun o=>o.map fun (x:Obj)=>match x.data with | .cls cd=>cd.ns|_=>0) d1
    simpa[excClassObj] using this
   subst this
   rw[d2.eq_nsMap,← c2.eq_nsMap];exact e1
  | none=>
   have a:=List.all_eq_true.mp h1 q hm
   unfold defOk isMeth at a
   rw[hmt] at a
   simp only[Option.isSome_none,Bool.false_or] at a
   cases hd:(recsOf p).find? fun d=>d.name == Str.ofString q.1 with
   | none=>rw[hd] at a;cases a
   | some d=>
    rw[hd] at a
    have hdm:=List.mem_of_find?_eq_some hd
    have hdn:d.name=Str.ofString q.1:=by simpa using List.find?_some hd
    obtain⟨fa,o,pm,code,doc,e1,e2,e3,e4⟩:=T.fn d hdm
    rw[hdn] at e1 e3 e4
    refine⟨fa,o,_,d.params,d.body,d.scope,q.2.2,D.map (·.1),?_,e2,e3,⟨rfl,rfl,rfl,rfl,rfl,rfl,rfl,rfl⟩,e4,a,hfuns⟩
    unfold res;rw[hmt];exact e1
 const:=fun g v hv=>by
  unfold Consts.env at hv
  rw[Option.map_eq_some_iff] at hv
  obtain⟨q,hq,rfl⟩:=hv
  have hm:=List.mem_of_find?_eq_some hq
  have hn:q.1=g:=by simpa using List.find?_some hq
  subst hn
  have a:=List.all_eq_true.mp h2 q hm
  rcases constOk_inv (k:=q.1) (v:=q.2) a with ⟨i,e1,e2⟩|⟨i,e1,e2⟩|⟨C,e1⟩
  ·obtain⟨val,b5,b6⟩:=T.const _ _ e2
   have:=b6 h
   refine⟨val,b5,.inl ?_⟩
   cases this
   exact⟨_,_,e1,rfl⟩
  ·obtain⟨val,b5,b6⟩:=T.const _ _ e2
   have:=b6 h
   refine⟨val,b5,.inr (.inl ?_)⟩
   cases this
   exact⟨_,_,e1,rfl⟩
  ·exact⟨_,h6 q hm C e1,.inr (.inr ⟨C,e1,rfl⟩)⟩
 kc:=fun C hC=>by
  obtain rfl:=h7 C hC
  exact KRaw.cls T.g hK kr h5
 xc:=by
  obtain⟨⟨D',d1,d2,d3⟩,_⟩:=xs
  refine⟨D',d1,d2,fun g hg C hC=>?_⟩
  obtain⟨C',c1,c2,c3⟩:=d3 g hg
  unfold Consts.env at hC
  rw[Option.map_eq_some_iff] at hC
  obtain⟨q,hq,e⟩:=hC
  have hm:=List.mem_of_find?_eq_some hq
  have hn:q.1=g:=by simpa using List.find?_some hq
  have:=h6 q hm C e
  rw[hn,c1] at this
  cases this
  exact⟨c2,c3⟩
theorem top_of (h:Heap) {a:Addr}(ha:h.get? a≠none):∃ n,h.get? n≠none∧∀ b o,h.get? b=some o->b≤n:=by
 have key:∀ k:Nat,(∀ b o,h.get? b=some o->b<k)->∃ n,h.get? n≠none∧∀ b o,h.get? b=some o->b≤n:=by
  intro k
  induction k with
  | zero=>
   intro hk
   cases q:h.get? a with
   | none=>exact absurd q ha
   | some o=>exact absurd (hk a o q) (Nat.not_lt_zero _)
  | succ k ih=>
   intro hk
   cases q:h.get? k with
   | some o=>exact⟨k,(by rw[q];intro z;cases z),fun b o e=>Nat.le_of_lt_succ (hk b o e)⟩
   | none=>exact ih fun b o e=>Nat.lt_of_le_of_ne (Nat.le_of_lt_succ (hk b o e)) fun z=>by rw[z,q] at e;cases e
 exact key h.objs.size fun b o e=>Heap.lt_size e
theorem glue {G:String->Option MV}{Γ:String->Option MFun}(pg:PG prog w G Γ h mg mb) (nk:NatOk prog w h Γ) {s:Shared}(hs:s.heap=h) (d:Nat) {f:String}{fa:Addr}(hmt:(!isMeth f)=true) (hf:mg (Str.ofString f)=some (.ref fa)) {fd:MFun}(hΓ:Γ f=some fd) {a:Addr}{vs:List Value}{ns:List Int}(hp:s.heap.PlainList a vs.toArray) (hi:IntsAre vs ns)
  (hA:OkC ⟨d,true⟩ callerA) (hrun:∀ n,calls G Γ d f [.ref a] [a,n] (fun v _=>v=.bool true) X0 (upd (fun _=>none) a (.list (ns.map .int)))) {E:Value->Shared->Prop}:
  wpAny (model prog w) callerA (call (.ref fa) [.ref a]) (fun v s'=>v=.bool true∧(∀ b o,s.heap.get? b=some o->s'.heap.get? b=some o)∧s'.os=s.os∧s'.gens=s.gens) E s:=by
 subst hs
 have hrep:RepVs s.heap (ns.map .int) vs:=Ud hi
 have hfn:FnAt s.heap f fa:=by
  obtain⟨a',o,F,params,body,scope,tab,funs,e1,e2,e3,_⟩:=pg.fn f fd hΓ
  rw[Nf hmt,hf] at e1;cases e1
  exact⟨mg,pg.g,(Nf hmt).trans hf,o,_,e2,e3⟩
 have hpa:s.heap.get? a≠none:=by obtain⟨n,hn⟩:=hp;rw[hn];intro z;cases z
 obtain⟨n,hn,hmax⟩:=top_of s.heap hpa
 have hb:bot [a,n]=n+1:=rfl
 have base:∀ b o,s.heap.get? b=some o->(upd (fun _=>none) a (.list (ns.map .int)) b=none∨b∈[a,n])∧b<bot [a,n]:=fun b o e=>by
  refine⟨?_,by rw[hb];exact Nat.lt_succ_of_le (hmax b o e)⟩
  unfold upd
  split
  ·rename_i q;subst q;exact .inr (by exact .head _)
  ·exact .inl rfl
 refine wpAny_mono (Vj pg nk d f [.ref a] [.ref a] [a,n] _ s _ callerA E fa hA (fun b o e=>⟨e,base b o e⟩) ?_ ?_ ?_ ?_ hfn (hrun n)) (fun v s' h=>?_) fun _ _ e=>e
 ·intro b o e
  unfold upd at e
  split at e
  ·rename_i q;subst q;cases e;exact⟨vs,hp,hrep⟩
  ·cases e
 ·intro b hb
  simp only[List.mem_cons,List.not_mem_nil,or_false] at hb
  rcases hb with rfl|rfl
  ·exact hpa
  ·exact hn
 ·exact⟨⟨[],rfl,trivial,nofun,nofun,nofun⟩,by rw[hb];exact Nat.succ_pos _⟩
 ·exact⟨rfl,trivial⟩
 ·obtain⟨mv,μ',rfl,hv,_,g⟩:=h
  refine⟨hv,fun b o e=>?_,g.os,g.gens⟩
  obtain⟨f,l⟩:=base b o e
  exact(g.keep b o f e).1.low l
theorem plain_of {P:Params}{hh:Heap}{a:Addr}{xs:List PyData}{vs:List Value}(hW:Well P hh (.ref a) (ofPy (.list xs))) (hL:hh.IsList a vs.toArray):hh.PlainList a vs.toArray:=by
 rw[show ofPy (.list xs)=.list (ofPys xs) by simp[ofPy]] at hW
 generalize ofPys xs=ws at hW
 cases hW with
 | list ho _=>
  obtain⟨o,ho',hc,n,hd⟩:=hL
  rw[ho] at ho'
  cases ho'
  simp only[Data.seq.injEq] at hd
  exact⟨_,by rw[ho,hd.1]⟩
end
end Mine
end
section
namespace Mine
open PySem
structure Way (N:Addr) (l:List Env) (e:Addr) (h h':Heap):Prop where
 keep:∀ b o,h.get? b=some o->b∉frs l->b≠e->(b<N∨o.cls≠.type "traceback"∨∀ vs,o.data≠.fields vs)->h'.get? b=some o
 slot:∀ b o,h.get? b=some o->(∀ vs,o.data≠.fields vs)->∃ sl,h'.get? b=some { o with slots:=sl }
 tb:∀ b o vs,h.get? b=some o->o.cls=.type "traceback"->o.data=.fields vs->∃ o' vs',h'.get? b=some o'∧o'.cls=.type "traceback"∧o'.data=.fields vs'
theorem Way.trans {N:Addr}{l:List Env}{e:Addr}{h h₁ h₂:Heap}(x:Way N l e h h₁) (y:Way N l e h₁ h₂):Way N l e h h₂:=
 ⟨fun b o a1 a2 a3 a4=>y.keep b o (x.keep b o a1 a2 a3 a4) a2 a3 a4,fun b o a1 a2=>by
  obtain⟨sl,q⟩:=x.slot b o a1 a2
  obtain⟨sl',q'⟩:=y.slot b _ q a2
  exact⟨sl',q'⟩,fun b o vs a1 a2 a3=>by
  obtain⟨o',vs',b1,b2,b3⟩:=x.tb b o vs a1 a2 a3
  exact y.tb b o' vs' b1 b2 b3⟩
theorem Way.refl {N:Addr}{l:List Env}{e:Addr}{h:Heap}:Way N l e h h:=⟨fun _ _ x _ _ _=>x,fun _ o x _=>⟨o.slots,x⟩,fun _ o vs x y z=>⟨o,vs,x,y,z⟩⟩
inductive TbAt (N:Addr) (base h:Heap) (e:Addr) (v fl:Value):Prop
 | mk (T:Addr) (oT:Obj) (ts:Array Value) (h1:v=.ref T) (h2:base.get? T=none∧N≤T) (h3:T≠e) (h4:h.get? T=some oT) (h5:oT.cls=.type "traceback") (h6:oT.data=.fields ts) (h7:ts[3]?=some fl)
noncomputable def Tb (N:Addr) (base h:Heap) (e:Addr) (v:Value):Option Value->Prop
 | none=>v=.none
 | some fl=>TbAt N base h e v fl
inductive ExcTr (N:Addr) (base h:Heap) (e K:Addr) (fl:Option Value):Prop
 | mk (oe:Obj) (vs:Array Value) (v:Value) (h1:h.get? e=some oe) (h2:oe.cls=.ref K) (h3:oe.data=.fields vs) (h5:vs[1]?=some v) (h7:Tb N base h e v fl)
structure Exc (N:Addr) (base:Heap) (l:List Env) (e K:Addr) (fl:Option Value) (h:Heap):Prop where
 stays:base.StaysIn h
 new:base.get? e=none
 ff:h.FunFrames base l
 size:N≤h.objs.size
 tr:ExcTr N base h e K fl
section
variable {M:Model}{A:Around}{E:Value->Shared->Prop}{s:Shared}{base:Heap}{env:Env}{outer:List Env}{N L e K:Addr}
theorem Exc.apart {l:List Env}{fl:Option Value}{h:Heap}(x:Exc N base l e K fl h):e∉frs l:=fun hm=>by
 obtain⟨oe,vs,v,he,_,hd,_⟩:=x.tr
 obtain⟨_,o,ho,hnf⟩:=x.ff.mem hm
 rw[he] at ho;cases ho;exact hnf vs hd
theorem Hg {oe:Obj}{vs:Array Value}{head:Value}{hadNext:Bool}{Q:Unit->Shared->Prop}
  (hfr:A.frames=some (env::outer)) (hl:s.heap.FunFrames base (env::outer)) (hf:env.frame=some L) (hsize:N≤s.heap.objs.size)
  (he:s.heap.get? e=some oe) (hce:oe.cls=.ref K) (hkb:base.StaysIn s.heap) (hen:base.get? e=none) (hd:oe.data=.fields vs) (hsz:1<vs.size)
  (h:∀ h',Exc N base (env::outer) e K (some (rawInt L)) h'->Way N (env::outer) e s.heap h'->Q () { s with heap:=h' }):
  wpAny M A (do let a ← frameOf env;let pl ← entryPlaceOf L hadNext;let b ← EntryCells.newEntry head a .none (rawInt L) .none pl;setField (.ref e) 1 b) Q E s:=by
 have hene:e∉(env::outer).filterMap (·.frame):=fun hm=>by
  obtain⟨_,o,ho,hnf⟩:=hl.mem hm
  rw[he] at ho;cases ho;exact hnf vs hd
 refine wpAny_bind (wpAny_frameOf_fun hfr hl hf fun h₁ hs1=>?_)
 refine wpAny_bind (wpAny_entryPlaceOf fun pl hpl=>?_)
 unfold EntryCells.newEntry newFields
 refine wpAny_bind (wpAny_newObj_type ?_ (hpl.sizeOk5 _ _ _ _ _))
 have he1:h₁.get? e=some oe:=(hs1.2.1 e hene).trans he
 have kb1:base.StaysIn h₁:=fun b o hbo=>(hs1.2.1 b fun hm=>by rw[(hl.mem hm).1] at hbo;cases hbo).trans (hkb b o hbo)
 generalize hN:({ cls:=.type "traceback",dict:=none,data:=.fields ([head,.ref L,.none,rawInt L,.none]++(if pl.isEmpty then List.replicate 6 Value.none else pl)).toArray }:Obj)=O
 have hNd:O.data=.fields ([head,.ref L,.none,rawInt L,.none]++(if pl.isEmpty then List.replicate 6 Value.none else pl)).toArray:=by rw[← hN]
 have hNc:O.cls=.type "traceback":=by rw[← hN]
 have hNf:O.isFreed=false:=Obj.isFreed_of_fields hNd
 have he2:=Heap.get?_push_of_some (h:=h₁) O he1
 refine wpAny_setField he2 hd hsz ?_
 have hTe:h₁.objs.size≠e:=Nat.ne_of_gt (Heap.lt_size he1)
 have hd3:=Obj.data_mapFields hd (·.setIfInBounds 1 (Value.ref h₁.objs.size))
 have he3:=Heap.get?_update_self (Obj.mapFields (·.setIfInBounds 1 (Value.ref h₁.objs.size))) he2 (Obj.isFreed_of_fields hd3)
 have hT3:=(Heap.get?_update_other (h₁.push O) (Obj.mapFields (·.setIfInBounds 1 (Value.ref h₁.objs.size))) (Ne.symm hTe)).trans (Heap.get?_push_size h₁ hNf)
 have keep:∀ b o,b≠e->h₁.get? b=some o->((h₁.push O).update e (Obj.mapFields (·.setIfInBounds 1 (Value.ref h₁.objs.size)))).get? b=some o:=fun b o hbe hb=>by
  rw[Heap.get?_update_other _ _ (Ne.symm hbe)]
  exact Heap.get?_push_of_some _ hb
 have noRecord:∀ b o,s.heap.get? b=some o->(∀ vs,o.data≠.fields vs)->b≠e:=fun b o hb hnf q=>by
  rw[q,he] at hb;cases hb;exact hnf vs hd
 have hsz1:N≤h₁.objs.size:=by rw[hs1.1];exact hsize
 refine h _ ⟨fun b o hbo=>keep b o (fun q=>by rw[q,hen] at hbo;cases hbo) (kb1 b o hbo),hen,hl.of_keeps fun b o hb hnf=>?_,?_,?_⟩ ⟨fun b o hb hm hne _=>keep b o hne ((hs1.2.1 b hm).trans hb),fun b o hb hnf=>?_,fun b o vs' hb hc' hd'=>?_⟩
 ·obtain⟨sl,hs⟩:=hs1.2.2 b o hb
  exact⟨_,keep b _ (noRecord b o hb hnf) hs,rfl⟩
 ·exact Nat.le_of_lt (Nat.lt_of_le_of_lt hsz1 (Heap.lt_size hT3))
 ·refine⟨_,_,.ref h₁.objs.size,he3,(Obj.cls_mapFields _ _).trans hce,hd3,by simp[hsz],h₁.objs.size,O,_,rfl,⟨kb1.fresh,hsz1⟩,hTe,hT3,hNc,hNd,?_⟩
  first|(rfl;done)|(rcases hpl with rfl|⟨_,_,_,_,_,_,_,rfl⟩ <;> simp)
 ·obtain⟨sl,hs⟩:=hs1.2.2 b o hb
  exact⟨sl,keep b _ (noRecord b o hb hnf) hs⟩
 ·have hbe:b≠e:=fun q=>by rw[q,he] at hb;cases hb;rw[hce] at hc';cases hc'
  have hbf:b∉(env::outer).filterMap (·.frame):=fun hm=>by
   obtain⟨_,o',ho,hnf⟩:=hl.mem hm
   rw[hb] at ho;cases ho;exact hnf vs' hd'
  exact⟨o,vs',keep b o hbe ((hs1.2.1 b hbf).trans hb),hc',hd'⟩
theorem note {fl:Option Value}{Q:Unit->Shared->Prop}(hfr:A.frames=some (env::outer)) (hf:env.frame=some L) (x:Exc N base (env::outer) e K fl s.heap) (hfl:fl=none∨fl=some .none∨fl=some (rawInt L))
  (h:∀ h',Exc N base (env::outer) e K (some (rawInt L)) h'->Way N (env::outer) e s.heap h'->Q () { s with heap:=h' }):wpAny M A (noteFrame (.ref e) env) Q E s:=by
 have hap:=x.apart
 obtain⟨hkb,hen,hl,hsize,oe,vs,v,he,hc,hd,h1,ht⟩:=x
 have hsz:=(Array.getElem?_eq_some_iff.mp h1).1
 unfold noteFrame
 simp only[hf]
 refine wpAny_bind (wpAny_field he hd h1 ?_)
 rcases hfl with rfl|hfl
 ·have ht:v=.none:=ht
  subst ht
  rw[if_neg (by decide)]
  exact Hg hfr hl hf hsize he hc hkb hen hd hsz h
 obtain⟨f,rfl,hf2⟩:∃ f,fl=some f∧(f=.none∨f=rawInt L):=by
  rcases hfl with rfl|rfl
  ·exact⟨_,rfl,.inl rfl⟩
  ·exact⟨_,rfl,.inr rfl⟩
 obtain⟨T,oT,ts,rfl,hnT,hTe,hT,hcT,hdT,h3⟩:=ht
 rw[if_pos (show (Value.ref T != Value.none)=true from by rfl)]
 refine wpAny_bind (wpAny_field hT hdT h3 ?_)
 clear hfl
 rcases hf2 with rfl|rfl
 ·rw[if_neg (show ¬ ((Value.none == rawInt L)=true) from by exact Bool.false_ne_true)]
  refine wpAny_bind (wpAny_setField hT hdT (Array.getElem?_eq_some_iff.mp h3).1 ?_)
  have other:∀ b,b≠T->(s.heap.update T (Obj.mapFields (·.setIfInBounds 3 Value.none))).get? b=s.heap.get? b:=fun b hb=>Heap.get?_update_other _ _ (Ne.symm hb)
  have hT':=Heap.get?_update_self (Obj.mapFields (·.setIfInBounds 3 Value.none)) hT (Obj.isFreed_of_fields (Obj.data_mapFields hdT _))
  have noT:∀ b o,s.heap.get? b=some o->(b<N∨o.cls≠.type "traceback"∨∀ vs,o.data≠.fields vs)->b≠T:=fun b o hb hnc q=>by
   rcases hnc with hnc|hnc|hnc
   ·exact absurd (q▸hnc) (Nat.not_lt_of_le hnT.2)
   ·rw[q,hT] at hb;cases hb;exact hnc hcT
   ·rw[q,hT] at hb;cases hb;exact hnc ts hdT
  refine Hg hfr (hl.of_keeps fun b o hb hnf=>⟨o,(other b fun q=>?_).trans hb,rfl⟩) hf ?_ ((other e (Ne.symm hTe)).trans he) hc (fun b o hbo=>(other b fun q=>by rw[q,hnT.1] at hbo;cases hbo).trans (hkb b o hbo)) hen hd hsz fun h' hx hw=>h h' hx ?_
  ·rw[q,hT] at hb;cases hb;exact hnf ts hdT
  ·exact Nat.le_of_lt (Nat.lt_of_le_of_lt hnT.2 (Heap.lt_size hT'))
  ·refine⟨fun b o hb hm hne hnc=>hw.keep b o ((other b (noT b o hb hnc)).trans hb) hm hne hnc,fun b o hb hnf=>hw.slot b o ((other b fun q=>by rw[q,hT] at hb;cases hb;exact hnf ts hdT).trans hb) hnf,fun b o vs' hb hc' hd'=>?_⟩
   by_cases q:b=T
   ·subst q;exact hw.tb b _ _ hT' ((Obj.cls_mapFields _ _).trans hcT) (Obj.data_mapFields hdT _)
   ·exact hw.tb b o vs' ((other b q).trans hb) hc' hd'
 ·rw[if_pos (show (rawInt L == rawInt L)=true from by exact if_pos rfl)]
  exact wpAny_pure (h s.heap ⟨hkb,hen,hl,hsize,oe,vs,_,he,hc,hd,h1,T,oT,ts,rfl,hnT,hTe,hT,hcT,hdT,h3⟩ .refl)
theorem flight {l:List Env}{f:Value}{o:Option Addr}{Q:Unit->Shared->Prop}(x:Exc N base l e K (some f) s.heap)
  (h:∀ h',Exc N base l e K (some (o.elim Value.none fun f=>rawInt f)) h'->Way N l e s.heap h'->Q () { s with heap:=h' }):wpAny M A (setFlight (.ref e) o) Q E s:=by
 obtain⟨hkb,hen,hl,hsize,oe,vs,v,he,hc,hd,h1,T,oT,ts,rfl,hnT,hTe,hT,hcT,hdT,h3⟩:=x
 have hsz3:3<ts.size:=(Array.getElem?_eq_some_iff.mp h3).1
 have other:∀ b,b≠T->(s.heap.update T (Obj.mapFields (·.setIfInBounds 3 (o.elim Value.none fun f=>rawInt f)))).get? b=s.heap.get? b:=fun b hb=>Heap.get?_update_other _ _ (Ne.symm hb)
 have hT':=Heap.get?_update_self (Obj.mapFields (·.setIfInBounds 3 (o.elim Value.none fun f=>rawInt f))) hT (Obj.isFreed_of_fields (Obj.data_mapFields hdT _))
 have noT:∀ b o,s.heap.get? b=some o->(b<N∨o.cls≠.type "traceback"∨∀ vs,o.data≠.fields vs)->b≠T:=fun b o hb hnc q=>by
  rcases hnc with hnc|hnc|hnc
  ·exact absurd (q▸hnc) (Nat.not_lt_of_le hnT.2)
  ·rw[q,hT] at hb;cases hb;exact hnc hcT
  ·rw[q,hT] at hb;cases hb;exact hnc ts hdT
 unfold setFlight
 refine wpAny_bind (wpAny_field he hd h1 ?_)
 rw[if_pos (show (Value.ref T != Value.none)=true from by rfl)]
 refine wpAny_setField hT hdT hsz3 (h _ ⟨fun b o hbo=>(other b fun q=>by rw[q,hnT.1] at hbo;cases hbo).trans (hkb b o hbo),hen,hl.of_keeps fun b o hb hnf=>⟨o,(other b fun q=>?_).trans hb,rfl⟩,?_,?_⟩ ⟨fun b o hb hm hne hnc=>(other b (noT b o hb hnc)).trans hb,fun b o hb hnf=>⟨o.slots,(other b fun q=>by rw[q,hT] at hb;cases hb;exact hnf ts hdT).trans hb⟩,fun b o' vs' hb hc' hd'=>?_⟩)
 ·rw[q,hT] at hb;cases hb;exact hnf ts hdT
 ·exact Nat.le_of_lt (Nat.lt_of_le_of_lt hnT.2 (Heap.lt_size hT'))
 ·exact⟨oe,vs,_,(other e (Ne.symm hTe)).trans he,hc,hd,h1,T,_,_,rfl,hnT,hTe,hT',(Obj.cls_mapFields _ _).trans hcT,Obj.data_mapFields hdT _,by simp[hsz3]⟩
 ·by_cases q:b=T
  ·subst q;exact⟨_,_,hT',(Obj.cls_mapFields _ _).trans hcT,Obj.data_mapFields hdT _⟩
  ·exact⟨o',vs',(other b q).trans hb,hc',hd'⟩
theorem Exc.out {fl:Option Value}{h:Heap}(x:Exc N base (env::outer) e K fl h):Exc N base outer e K fl h:=⟨x.stays,x.new,x.ff.2.2,x.size,x.tr⟩
theorem leave {fl:Option Value}{Q:Unit->Shared->Prop}(hfr:A.frames=some (env::outer)) (hf:env.frame=some L) (x:Exc N base (env::outer) e K fl s.heap) (hfl:fl=none∨fl=some .none∨fl=some (rawInt L))
  (h:∀ h',Exc N base outer e K (some .none) h'->Way N (env::outer) e s.heap h'->Q () { s with heap:=h' }):wpAny M A (leaving env (.ref e)) Q E s:=by
 unfold leaving
 exact wpAny_bind (note hfr hf x hfl fun h₁ xa wb=>flight (s:={ s with heap:=h₁ }) xa fun h₂ xb wc=>h h₂ xb.out (wb.trans wc))
theorem Exc.made {h h':Heap}{args:List Value}{l:List Env}(hkb:base.StaysIn h) (hl:h.FunFrames base l) (hN:N≤h'.objs.size) (hx:Heap.MadeExcOf h h' e (.ref K) args):Exc N base l e K none h':=by
 obtain⟨t,he,htn,ht⟩:=hx.there
 refine⟨fun b o hb=>hx.keeps b o (hkb b o hb),?_,hl.of_keeps fun b o hb _=>⟨o,hx.keeps b o hb,rfl⟩,hN,_,_,.none,he,rfl,rfl,rfl,rfl⟩
 ·cases hq:base.get? e with
  | none=>rfl
  | some o'=>have:=hkb e o' hq;rw[hx.new] at this;cases this
end
end Mine
end
section
set_option maxRecDepth 100000
namespace Mine
open PySem PySem.Calls PyProof.Rows PySem.W
theorem bot_size {fz:List Addr}{h:Heap}(f:FzIn fz h):bot fz≤h.objs.size:=by
 unfold bot
 cases q:fz.getLast? with
 | none=>exact Nat.zero_le _
 | some n=>
  cases q':h.get? n with
  | none=>exact absurd q' (f n (List.mem_of_getLast? q))
  | some o=>exact Heap.lt_size q'
theorem RepO.rec {prog:Program}{w:World}{h:Heap}{a:Addr}{m:MO}(r:RepO prog w h a m):∃ x,h.get? a=some x∧(x.cls≠.type "traceback"∨∀ vs,x.data≠.fields vs):=by
 cases m with
 | list l=>obtain⟨vs,⟨n,ho⟩,_⟩:=r;exact⟨_,ho,.inl (by simp)⟩
 | idict l=>obtain⟨kvs,⟨o,es,ep,ho,hc,_⟩,_⟩:=r;exact⟨o,ho,.inl (by rw[hc.1];decide)⟩
 | inst C d=>obtain⟨o,ho,hc,_⟩:=r;exact⟨o,ho,.inl (by rw[hc];simp)⟩
 | attrs l=>obtain⟨mA,⟨o,es,ep,ho,hd,_⟩,_⟩:=r;exact⟨o,ho,.inr fun vs q=>by rw[hd] at q;cases q⟩
 | exn C=>obtain⟨o,vs,ho,hc,_⟩:=r;exact⟨o,ho,.inl (by rw[hc];simp)⟩
section
variable {prog:Program}{w:World}{h₀:Heap}{fz:List Addr}{μ:MH}{l:List Env}{e:Addr}{h h':Heap}
theorem Way.held (x:Way (bot fz) l e h h') (r:RepH prog w μ h) (f:Frs h₀ h μ fz l) {b:Addr}{o:Obj}(hb:h.get? b=some o) (ne:b≠e):Held fz μ b o (h'.get? b):=by
 by_cases hm:b∈frs l
 ·obtain⟨o',es,ep,ho,hd⟩:=f.fd b hm
  rw[hb] at ho;cases ho
  obtain⟨sl,q⟩:=x.slot b o hb fun vs q=>by rw[hd] at q;cases q
  exact .loose (f.nt b hm) (f.lo b hm) (.slots es ep hd sl q)
 ·by_cases hc:o.cls=.type "traceback"∧∃ vs,o.data=.fields vs
  ·obtain⟨hc,vs,hd⟩:=hc
   by_cases hN:b<bot fz
   ·exact .same (x.keep b o hb hm ne (.inl hN))
   ·have mb:μ b=none:=by
     cases q:μ b with
     | none=>rfl
     | some m=>
      obtain⟨y,hy,hr⟩:=(r b m q).rec
      rw[hb] at hy;cases hy
      rcases hr with hr|hr
      ·exact absurd hc hr
      ·exact absurd hd (hr vs)
    obtain⟨o',vs',a1,a2,a3⟩:=x.tb b o vs hb hc hd
    exact .loose mb (Nat.le_of_not_lt hN) (.tb hc vs hd o' a1 a2 vs' a3)
  ·refine .same (x.keep b o hb hm ne (.inr ?_))
   by_cases q:o.cls=.type "traceback"
   ·exact .inr fun vs hd=>hc ⟨q,vs,hd⟩
   ·exact .inl q
theorem Way.keepT (x:Way (bot fz) l e h h') (f:Frs h₀ h μ fz l) (ne:∀ o,h.get? e=some o->¬ ImmCls o):KeepsT h h':=fun b o hb hi=>by
 refine x.keep b o hb (fun hm=>?_) (fun q=>by subst q;exact ne o hb hi) (.inr (.inl ?_))
 ·obtain⟨o',es,ep,ho,hd⟩:=f.fd b hm
  rw[hb] at ho;cases ho
  rcases hi with ⟨_,_,_,q⟩|⟨_,_,q⟩ <;> rw[hd] at q <;> cases q
 ·rcases hi with ⟨q,_⟩|⟨q,_⟩ <;> rw[q] <;> decide
theorem RepH.way {K:Addr}{fl:Option Value}(r:RepH prog w μ h) (x:Exc (bot fz) h₀ l e K fl h) (f:Frs h₀ h μ fz l) (hw:Way (bot fz) l e h h') (me:μ e=none):RepH prog w μ h':=fun a m q=>by
 obtain⟨y,hy,hr⟩:=(r a m q).rec
 have ka:h'.get? a=some y:=hw.keep a y hy (fun hm=>by rw[f.nt a hm] at q;cases q) (fun z=>by rw[z,me] at q;cases q) (.inr hr)
 refine(r a m q).keeps (hw.keepT f fun o ho hi=>?_) fun z hz=>by rw[hy] at hz;cases hz;exact ka
 obtain⟨oe,vs,v,he,hc,_⟩:=x.tr
 rw[he] at ho;cases ho
 rcases hi with ⟨q,_⟩|⟨q,_⟩ <;> rw[hc] at q <;> cases q
theorem Frs.way (f:Frs h₀ h μ fz l) (hw:Way (bot fz) l e h h'):Frs h₀ h' μ fz l:=
 f.map (fun b o es ep hb ho hd=>by
  obtain⟨sl,q⟩:=hw.slot b o ho fun vs q=>by rw[hd] at q;cases q
  exact⟨⟨_,es,ep,q,hd⟩,f.nt b hb⟩) f.lo
end
inductive PostX (prog:Program) (w:World) (h₀:Heap) (A:Around) (fz:List Addr) (μ:MH) (s:Shared) (X:Addr->MH->Prop) (v:Value) (s':Shared):Prop
 | mk (e K:Addr) (μ':MH) (l:List Env) (hv:v=.ref e) (q:X K μ') (el:A.frames=some l) (x:Exc (bot fz) h₀ l e K (some .none) s'.heap) (r:RepH prog w μ' s'.heap) (fs:Frs h₀ s'.heap μ' fz l) (me:μ' e=none) (g:Grow fz μ s μ' s') (ne:∀ b o,(μ b=none∨b∈fz)->s.heap.get? b=some o->b≠e)
inductive PostZ (prog:Program) (w:World) (h₀:Heap) (A:Around) (S:Sc) (env:Env) (fz:List Addr) (μ:MH) (s:Shared) (X:Addr->MH->Prop) (v:Value) (s':Shared):Prop
 | mk (e K:Addr) (μ':MH) (l:List Env) (fl:Option Value) (hfl:fl=none∨fl=some .none∨fl=some (rawInt env.locals)) (hv:v=.ref e) (q:X K μ') (el:A.frames=some l) (x:Exc (bot fz) h₀ l e K fl s'.heap) (r:RepH prog w μ' s'.heap) (fs:Frs h₀ s'.heap μ' fz l) (me:μ' e=none) (efz:e∉fz) (cur:∃ vars',Cur prog w h₀ A S env vars' fz μ' s') (g:GrowS env fz μ s μ' s') (ne:∀ b o,(μ b=none∨b∈fz)->b≠env.locals->(∀ x c,(x,c)∈env.cells->b≠c)->s.heap.get? b=some o->b≠e)
theorem PostX.after {prog:Program}{w:World}{h₀:Heap}{A:Around}{fz:List Addr}{μ μa:MH}{s s1:Shared}{X:Addr->MH->Prop}{v:Value}{s':Shared}(x:PostX prog w h₀ A fz μa s1 X v s') (g:Grow fz μ s μa s1):PostX prog w h₀ A fz μ s X v s':=by
 obtain⟨e,K,μ',l,hv,q,el,x,r,fs,me,g',ne⟩:=x
 refine⟨e,K,μ',l,hv,q,el,x,r,fs,me,g.trans g',fun b o f hb=>?_⟩
 obtain⟨e1,q1⟩:=g.keep b o f hb
 obtain⟨o',e'⟩:=e1.there
 exact ne b o' (f.imp (fun z=>q1.trans z) id) e'
theorem PostX.toZ {prog:Program}{w:World}{h₀:Heap}{A:Around}{S:Sc}{env:Env}{vars:MVars}{fz:List Addr}{μ:MH}{s:Shared}{X:Addr->MH->Prop}{v:Value}{s':Shared}(x:PostX prog w h₀ A fz μ s X v s') (C:Cur prog w h₀ A S env vars fz μ s):PostZ prog w h₀ A S env fz μ s X v s':=by
 obtain⟨e,K,μ',l,hv,q,el,x,r,fs,me,g',ne⟩:=x
 refine⟨e,K,μ',l,_,.inr (.inl rfl),hv,q,el,x,r,fs,me,fun m=>?_,⟨vars,C.grow g' r⟩,g'.toS,fun b o f _ _=>ne b o f⟩
 cases z:s.heap.get? e with
 | none=>exact C.fzin e m z
 | some o=>exact ne e o (.inr m) z rfl
theorem PostZ.after {prog:Program}{w:World}{h₀:Heap}{A:Around}{S:Sc}{env:Env}{fz:List Addr}{μ μa:MH}{s s1:Shared}{X:Addr->MH->Prop}{v:Value}{s':Shared}(x:PostZ prog w h₀ A S env fz μa s1 X v s') (g:GrowS env fz μ s μa s1):PostZ prog w h₀ A S env fz μ s X v s':=by
 obtain⟨e,K,μ',l,fl,hfl,hv,q,el,x,r,fs,me,efz,cur,g',ne⟩:=x
 refine⟨e,K,μ',l,fl,hfl,hv,q,el,x,r,fs,me,efz,cur,g.trans g',fun b o f h1 h2 hb=>?_⟩
 obtain⟨e1,q1⟩:=g.keep b o f h1 h2 hb
 obtain⟨o',e'⟩:=e1.there
 exact ne b o' (f.imp (fun z=>q1.trans z) id) h1 h2 e'
end Mine
end
section
set_option maxRecDepth 100000
namespace Mine
open PySem PySem.Calls PyProof.Rows PySem.W
structure InF (A:Around) (env:Env):Prop where
 fr:∃ outer,A.frames=some (env::outer)
 frame:env.frame=some env.locals
section
variable (prog:Program) (w:World) (h₀:Heap) (d:Nat)
noncomputable def MXE (e:ME) (fz:List Addr) (vars:MVars) (Q:MQ) (X:Addr->MH->Prop) (μ:MH):Prop:=∀ (S:Sc) (x:PySem.Expr) (env:Env) (s:Shared) (A:Around) (E:Value->Shared->Prop),isE S e x=true->OkA ⟨d,true⟩ A->Cur prog w h₀ A S env vars fz μ s->InF A env->
 (∀ v s',PostX prog w h₀ A fz μ s X v s'->E v s')->wpAny (model prog w) A (eval x env) (PostV prog w fz μ s Q) E s
noncomputable def MXL (l:List ME) (fz:List Addr) (vars:MVars) (Q:List MV->MH->Prop) (X:Addr->MH->Prop) (μ:MH):Prop:=∀ (S:Sc) (xs:List PySem.Expr) (env:Env) (s:Shared) (A:Around) (E:Value->Shared->Prop),isEs S l xs=true->OkA ⟨d,true⟩ A->Cur prog w h₀ A S env vars fz μ s->InF A env->
 (∀ v s',PostX prog w h₀ A fz μ s X v s'->E v s')->wpAny (model prog w) A (spliced (xs.map fun x=>(false,eval x env))) (PostL prog w fz μ s Q) E s
noncomputable def MXC (f:String) (vs:List MV) (fz:List Addr) (Q:MQ) (X:Addr->MH->Prop) (μ:MH):Prop:=∀ (vals:List Value) (s:Shared) (A:Around) (R:Result->Shared->Prop) (fa:Addr),OkC ⟨d,true⟩ A->Base h₀ fz μ s->RepH prog w μ s.heap->FzIn fz s.heap->FrsA h₀ A fz μ s.heap->RepVs s.heap vs vals->FnAt h₀ f fa->
 (∀ v s',PostV prog w fz μ s Q v s'->R (.ok (.ret v)) s')->(∀ v s',PostX prog w h₀ A fz μ s X v s'->R (.error v) s')->codeAny (model prog w) A (.call (.ref fa) ⟨vals,[]⟩) R s
noncomputable def MXT (st:MS) (fz:List Addr) (vars:MVars) (R:MFlow->MVars->MH->Prop) (X:Addr->MH->Prop) (μ:MH):Prop:=∀ (S:Sc) (x:PySem.Stmt) (env:Env) (s:Shared) (A:Around) (E:Value->Shared->Prop),isS S st x=true->OkA ⟨d,true⟩ A->Cur prog w h₀ A S env vars fz μ s->InF A env->
 (∀ v s',PostZ prog w h₀ A S env fz μ s X v s'->E v s')->wpAny (model prog w) A (exec x env) (PostF prog w h₀ A S env fz μ s R) E s
noncomputable def MXS (l:List MS) (fz:List Addr) (vars:MVars) (R:MFlow->MVars->MH->Prop) (X:Addr->MH->Prop) (μ:MH):Prop:=∀ (S:Sc) (xs:List PySem.Stmt) (env:Env) (s:Shared) (A:Around) (E:Value->Shared->Prop),isSs S l xs=true->OkA ⟨d,true⟩ A->Cur prog w h₀ A S env vars fz μ s->InF A env->
 (∀ v s',PostZ prog w h₀ A S env fz μ s X v s'->E v s')->wpAny (model prog w) A (execs xs env) (PostF prog w h₀ A S env fz μ s R) E s
end
section
variable {prog:Program}{w:World}{G:String->Option MV}{Γ:String->Option MFun}{h₀:Heap}{mg mb:Str->Option Value}{d:Nat}{fz:List Addr}{vars:MVars}{Q:MQ}{X:Addr->MH->Prop}{μ:MH}{R:MFlow->MVars->MH->Prop}
theorem Zg (pg:PG prog w G Γ h₀ mg mb) (nk:NatOk prog w h₀ Γ) {e:ME}(h:ev G (calls G Γ d) X0 e fz vars Q μ):MXE prog w h₀ d e fz vars Q X μ:=
 fun S x env s A E hx hA C i hE=>(Qy pg rfl (Vj pg nk d) e).1 S x env vars fz μ s Q A E hx hA C h
theorem Vl {P:List MV->MH->Prop}(h:P [] μ):MXL prog w h₀ d [] fz vars P X μ:=fun S xs env s A E hx hA C i hE=>by
 cases xs with
 | cons _ _=>exact(Bool.false_ne_true hx).elim
 | nil=>exact Calls.spliced_nil ⟨[],μ,h,trivial,C.heap,.refl⟩
theorem Xh {e:ME}{r:List ME}{P:List MV->MH->Prop}(h:MXE prog w h₀ d e fz vars (fun v μ'=>MXL prog w h₀ d r fz vars (fun vs μ''=>P (v::vs) μ'') X μ') X μ):MXL prog w h₀ d (e::r) fz vars P X μ:=fun S xs env s A E hx hA C i hE=>by
 cases xs with
 | nil=>exact(Bool.false_ne_true hx).elim
 | cons x xs=>
  have hx:=Qv hx
  refine Calls.spliced_cons (wpAny_mono (h S x env s A E hx.1 hA C i hE) (fun v s1 h₁=>?_) fun _ _ e=>e)
  obtain⟨mv,μa,hq1,rv,rc,gb⟩:=h₁
  refine wpAny_mono (hq1 S xs env s1 A E hx.2 hA (C.grow gb rc) i fun v s' h=>hE v s' (h.after gb)) (fun vs sd h₂=>?_) fun _ _ e=>e
  obtain⟨ms,μb,hq2,rvs,rd,gc⟩:=h₂
  exact⟨mv::ms,μb,hq2,⟨rv.keepT (gc.keepT rc),rvs⟩,rd,gb.trans gc⟩
theorem me_call {f:String}{l:List ME}(h:MXL prog w h₀ d l fz vars (fun vs μ'=>MXC prog w h₀ d f vs fz Q X μ') X μ):MXE prog w h₀ d (.call f l) fz vars Q X μ:=fun S x env s A E hx hA C i hE=>by
 replace hx:=inv_call hx
 obtain⟨g,np,as,p,rfl,hg,hx⟩:=hx
 simp only[Bool.and_eq_true,decide_eq_true_eq,List.contains_iff_mem] at hx
 obtain⟨⟨⟨hf,hme⟩,ha⟩,hn⟩:=hx
 obtain⟨fa,m,hm,hmf',o,fd,ho,hfd⟩:=C.known f hf
 have hmf:=(Nf hme).symm.trans hmf'
 obtain⟨rfl,hk,hd⟩:=Np hg
 refine wpAny_Call_ofName (Name_function_global C.fr.kind (by unfold Env.kindOf;rw[C.fr.names];exact hk) (loadGlobal_global (mg:=m) ?_ hmf ?_) hd)
 ·rw[C.fr.glob]
  exact hm.keeps fun b o e=>(C.base b o e).1
 rw[X4 p ha]
 show wpAny _ A (callWith p (.ref fa) [] _ []) _ _ s
 refine callWith_function (o:=o) (fd:=fd) (Qj (Qg as) (wpAny_mono (h S as env s A E ha hA C i hE) (fun vs s1 h₁=>?_) fun _ _ e=>e))
 obtain⟨ms,μa,hq1,rv,rc,gb⟩:=h₁
 have C₁:=C.grow gb rc
 refine⟨⟨(C₁.base _ _ ho).1,hfd⟩,?_⟩
 exact wpAny_call (hq1 vs s1 A _ fa hA.toC C₁.base rc C₁.fzin C₁.frs rv ⟨m,hm,hmf',o,fd,ho,hfd⟩ (fun v' s3 h₃=>h₃.trans gb) fun v s' h=>hE v s' (h.after gb))
theorem me_mcall (pg:PG prog w G Γ h₀ mg mb) (nk:NatOk prog w h₀ Γ) {n:String}{o:ME}{l:List ME}(h:ev G (calls G Γ d) X0 o fz vars (fun x μ'=>refV x fun a=>(instM G μ' a fun _ l=>lookI l (Str.ofString n)=none)∧MXL prog w h₀ d l fz vars (fun vs μ''=>MXC prog w h₀ d ("Keeper." ++ n) (x::vs) fz Q X μ'') X μ') μ):MXE prog w h₀ d (.mcall n o l) fz vars Q X μ:=fun S x env s A E hx hA C i hE=>by
 refine Hj pg (Qy pg rfl (Vj pg nk d) o).1 hx hA C h fun fa a as s1 μa hm gb rc has hfa o' fd hfo hfd h₁=>?_
 have C₁:=C.grow gb rc
 refine wpAny_mono (h₁ S as env s1 A E has hA C₁ i fun v s' h=>hE v s' (h.after gb)) (fun vs sd h₂=>?_) fun _ _ e=>e
 obtain⟨ms,μb,hq2,rs,rd,gc⟩:=h₂
 have C₂:=C₁.grow gc rd
 refine⟨⟨(C₂.base _ _ hfo).1,hfd⟩,?_⟩
 exact wpAny_call (hq2 (.ref a::vs) sd A _ fa hA.toC C₂.base rd C₂.fzin C₂.frs ⟨rfl,rs⟩ hfa (fun v' s3 h₃=>h₃.trans (gb.trans gc)) fun v s' h=>hE v s' ((h.after gc).after gb))
theorem Jx (pg:PG prog w G Γ h₀ mg mb) {f:String}{fd:MFun}{vs:List MV}(hΓ:Γ f=some fd) (hn:vs.length=fd.n) (h:MXS prog w h₀ d fd.body fz (args0 vs) (fun fl _ μ'=>match fl with | .ret v=>Q v μ' | .next=>Q .none μ'|_=>False) X μ):MXC prog w h₀ (d+1) f vs fz Q X μ:=fun vals s A R fa hA B r fi ff rv hfn hQ hE=>by
 refine enter pg hΓ hn hA B r fi ff rv hfn fun S env body s1 hb C hA' en=>?_
 obtain⟨⟨l,el,fl⟩,_⟩:=id ff
 have i:InF (A.deeper env) env:=⟨⟨l,Around.frames_deeper el⟩,en.frame⟩
 have nl:∀ {b:Addr}{o:Obj},s.heap.get? b=some o->b≠env.locals:=fun hb q=>by rw[q,en.new] at hb;cases hb
 have nc:∀ {b:Addr}{o:Obj},s.heap.get? b=some o->∀ x c,(x,c)∈env.cells->b≠c:=fun hb x c hc q=>by rw[q,en.cells x c hc] at hb;cases hb
 refine wpAny_mono (h S body env s1 (A.deeper env) _ hb hA' C i fun v s' hz=>?_) (fun fl s' hf=>?_) fun _ _ e=>e
 ·obtain⟨e,K,μ',l',fl',hfl,rfl,q,el',x,rr,fs',me,efz,cur,g',ne⟩:=hz
  obtain rfl:l'=env::l:=by rw[Around.frames_deeper el] at el';exact(Option.some.inj el').symm
  refine leave (Around.frames_deeper el) en.frame x hfl fun h' x' hw=>hE _ _ ⟨e,K,μ',l,rfl,q,el,x',rr.way x fs' hw me,?_,me,⟨fun b o f hb=>?_,g'.os.trans en.os,g'.gens.trans en.gens⟩,fun b o f hb=>ne b o f (nl hb) (nc hb) (en.keep b o hb)⟩
  ·have fs2:Frs h₀ s'.heap μ' fz l:=⟨fs'.ff.2.2,fun b hb=>fs'.nt b ?_,fun b hb=>fs'.lo b ?_,fun b hb=>fs'.fd b ?_⟩
   ·exact fs2.map (fun b o es ep hb ho hd=>by
     obtain⟨sl,q⟩:=hw.slot b o ho fun vs q=>by rw[hd] at q;cases q
     exact⟨⟨_,es,ep,q,hd⟩,fs2.nt b hb⟩) fs2.lo
   all_goals (obtain⟨e',he',q'⟩:=List.mem_filterMap.mp hb;exact D6 (.tail _ he') q')
  ·obtain⟨a1,a3⟩:=g'.keep b o f (nl hb) (nc hb) (en.keep b o hb)
   refine⟨a1.trans a3 fun o' e'=>?_,a3⟩
   exact hw.held rr fs' e' (ne b o f (nl hb) (nc hb) (en.keep b o hb))
 ·obtain⟨fl',vars',μ',hq,hff,C',g'⟩:=hf
  have gr:Grow fz μ s μ' s':=⟨fun b o f hb=>g'.keep b o f (nl hb) (nc hb) (en.keep b o hb),g'.os.trans en.os,g'.gens.trans en.gens⟩
  cases fl' with
  | next=>obtain rfl:=hff;exact hQ _ _ ⟨.none,μ',hq,rfl,C'.heap,gr⟩
  | brk=>exact hq.elim
  | cont=>exact hq.elim
  | ret m=>obtain⟨v,rfl,rv'⟩:=hff;exact hQ _ _ ⟨m,μ',hq,rv',C'.heap,gr⟩
end
end Mine
end
section
set_option maxRecDepth 100000
namespace Mine
open PySem PySem.Calls PyProof.Rows PySem.W
theorem isGlobN_inv {S:Sc}{g:String}{x:PySem.Expr}(h:isGlobN S g x=true):∃ n p,x=.Name n p∧S.isGlob g n=true:=⟨_,_,inv (and2 h).1,(and2 h).2⟩
theorem oneStr_inv {l:List PySem.Expr}(h:oneStr l=true):∃ s k p,l=[.Constant (.str s) k p]:=by
 cases l with
 | nil=>cases h
 | cons y l=>cases l with
  | nil=>exact⟨(node y).s,(node y).k,(node y).p,congrArg (fun z=>[z]) (inv h)⟩
  | cons _ _=>cases h
inductive RsParts (cls:String) (tab:List (Nat×Str)) (names:List (Str×NameKind)) (x:PySem.Stmt):Prop
 | mk (n:_) (np:_) (y:_) (k:_) (p':_) (cpos:_) (pos:_) (e0:x=.Raise (some (.Call (.Name n np) [.Constant (.str y) k p'] [] cpos)) none pos) (e1:(⟨tab,names,[]⟩:Sc).isGlob cls n=true)
theorem Rs {cls:String}{tab:List (Nat×Str)}{names:List (Str×NameKind)}{x:PySem.Stmt}(h:chkRaise cls tab names x=true):RsParts cls tab names x:=by
 obtain⟨h0,h⟩:=and2 h
 obtain⟨h1,h2⟩:=and2 h
 obtain⟨n,np,p,e,hg⟩:=Xw h1
 obtain⟨y,k,p',e'⟩:=oneStr_inv h2
 rw[e'] at e
 exact⟨n,np,y,k,p',p,(nodeS x).p,(Gp h0).trans (by show Stmt.Raise (some (nodeS x).a) none _=_;rw[e]),hg⟩
section
variable {prog:Program}{w:World}{G:String->Option MV}{Γ:String->Option MFun}{h₀:Heap}{mg mb:Str->Option Value}
theorem PG.cls (pg:PG prog w G Γ h₀ mg mb) {g:String}{K:Addr}(h:G g=some (.ref K)):mg (Str.ofString g)=some (.ref K):=by
 obtain⟨val,hval,hr⟩:=pg.const _ _ h
 rcases hr with ⟨i,t,q,_⟩|⟨y,t,q,_⟩|⟨C,q,rfl⟩
 ·cases q
 ·cases q
 ·cases q;exact hval
theorem It {bad:String}{K:Addr}(pg:PG prog w G Γ h₀ mg mb) (hb:bad∈xNames) (hG:G bad=some (.ref K)) {S:Sc}{env:Env}{vars:MVars}{fz:List Addr}{μ:MH}{s:Shared}{A:Around}{E:Value->Shared->Prop}{Q:Flow->Shared->Prop}{x:PySem.Stmt}(C:Cur prog w h₀ A S env vars fz μ s) (hh:A.handled=none) (hx:chkRaise bad S.tab S.names x=true)
  (hE:∀ e h' tk args,Heap.MadeExcOf s.heap h' e (.ref K) args->E (.ref e) { s with heap:=h',toks:=tk }):wpAny (model prog w) A (exec x env) Q E s:=by
 replace hx:=Rs hx
 obtain⟨n,np,y,k,p',cpos,pos,rfl,hg⟩:=hx
 have kp:∀ b o,h₀.get? b=some o->s.heap.get? b=some o:=fun b o e=>(C.base b o e).1
 obtain⟨D,_,cD,cX⟩:=pg.xc
 have KC:=(cX bad hb K hG).1.keeps kp
 have KD:=cD.keeps kp
 obtain⟨N,nm,q,bs,hdct,sn,sub,ab,col,dd,k0,k1,k2,k3,k5,mN,h1,h2,h3⟩:=KC
 obtain⟨N',nm',q',bs',hdct',sn',sub',ab',col',dd',k0',k1',k2',k3',k5',mN',h1',h2',h3'⟩:=KD
 have hqi:("__init__":Str)∈qn:=.head _
 refine wpAny_Raise_call_subU (bmB:=bmV) F.excBase_ValueError (by decide +kernel) F.excBase_ValueError (C:=K) (mN:=mN) (bm:=[.ref D]++bmV) (nm:=nm) (q:=q) (N:=N) (bs:=bs) (hdct:=hdct) (sn:=sn) (sub:=sub) (ab:=ab) (col:=col) (dd:=dd) (k0:=k0) (k1:=k1) (k2:=k2) (k3:=k3) (k5:=k5) (by rw[List.singleton_append,List.contains_cons,show bmV.contains (.type "BaseException")=true by decide +kernel,Bool.or_true]) hh rfl (h3 _ hqi) ?_
 refine Ko pg C (S:=S) (show S.isGlob bad n=true from hg) (pg.cls hG) ⟨rfl,?_⟩
 rw[show backTo cpos (starEach [.Constant (.str y) k p'] env)=[(false,eval (.Constant (.str y) k p') env)] from rfl]
 refine Qj rfl (Calls.spliced_cons (Calls.Constant_str (Calls.spliced_nil ?_)))
 refine⟨rfl,by show 1≤sizeLine;decide,h1,h2,.own h1' h2' (h3' _ hqi) .base,fun h' e hm=>hE e h' _ _ hm⟩
end
section
variable {prog:Program}{w:World}{G:String->Option MV}{Γ:String->Option MFun}{h₀:Heap}{mg mb:Str->Option Value}{d:Nat}{fz:List Addr}{vars:MVars}{Q:MQ}{X:Addr->MH->Prop}{μ:MH}{R:MFlow->MVars->MH->Prop}
noncomputable def kx (N:MVars->MH->Prop) (R:MFlow->MVars->MH->Prop):MFlow->MVars->MH->Prop:=fun fl vars' μ'=>match fl with
 | .next=>N vars' μ'
 | fl=>R fl vars' μ'
theorem Y3 (h:R .next vars μ):MXS prog w h₀ d [] fz vars R X μ:=fun S xs env s A E hx hA C i hE=>by
 cases xs with
 | cons _ _=>exact(Bool.false_ne_true hx).elim
 | nil=>exact wpAny_execs_nil ⟨.next,vars,μ,h,rfl,C,.refl⟩
theorem Qm {st:MS}{l:List MS}(h:MXT prog w h₀ d st fz vars (kx (fun vars' μ'=>MXS prog w h₀ d l fz vars' R X μ') R) X μ):MXS prog w h₀ d (st::l) fz vars R X μ:=fun S xs env s A E hx hA C i hE=>by
 cases xs with
 | nil=>exact(Bool.false_ne_true hx).elim
 | cons x xs=>
  have hx:=Hq hx
  refine wpAny_execs_cons (wpAny_mono (h S x env s A E hx.1 hA C i hE) (fun f s1 h₁=>?_) fun _ _ e=>e)
  obtain⟨fl,vars1,μa,hq1,hf,C₁,gb⟩:=h₁
  cases fl with
  | next=>
   obtain rfl:=hf
   exact wpAny_mono (hq1 S xs env s1 A E hx.2 hA C₁ i fun v s' h=>hE v s' (h.after gb)) (fun f' sd h₂=>h₂.trans gb) fun _ _ e=>e
  | brk=>obtain rfl:=hf;exact⟨.brk,vars1,μa,hq1,rfl,C₁,gb⟩
  | cont=>obtain rfl:=hf;exact⟨.cont,vars1,μa,hq1,rfl,C₁,gb⟩
  | ret m=>obtain⟨v,rfl,rv⟩:=hf;exact⟨.ret m,vars1,μa,hq1,⟨v,rfl,rv⟩,C₁,gb⟩
theorem ms_of (pg:PG prog w G Γ h₀ mg mb) (nk:NatOk prog w h₀ Γ) {l:List MS}(h:exs G (calls G Γ d) X0 l fz vars R μ):MXS prog w h₀ d l fz vars R X μ:=
 fun S x env s A E hx hA C i hE=>Ub pg rfl (Vj pg nk d) l S x env vars fz μ s R A E hx hA C h
theorem mt_ret {e:ME}(h:MXE prog w h₀ d e fz vars (fun v μ'=>R (.ret v) vars μ') X μ):MXT prog w h₀ d (.ret e) fz vars R X μ:=fun S x env s A E hx hA C i hE=>by
 replace hx:=invS_ret hx;obtain⟨v,p,rfl,hx⟩:=hx
 refine wpAny_Return_some (wpAny_mono (h S _ env s A E hx hA C i fun v s' h=>hE v s' (h.toZ C)) (fun v s1 h₁=>?_) fun _ _ e=>e)
 obtain⟨mv,μa,hq1,rv,rc,gb⟩:=h₁
 exact⟨.ret mv,vars,μa,hq1,⟨v,rfl,rv⟩,C.grow gb rc,gb.toS⟩
theorem Ug {e:ME}(h:MXE prog w h₀ d e fz vars (fun _ μ'=>R .next vars μ') X μ):MXT prog w h₀ d (.expr e) fz vars R X μ:=fun S x env s A E hx hA C i hE=>by
 replace hx:=Hr hx;obtain⟨v,p,rfl,hn,hx⟩:=hx
 refine wpAny_Expr_any (wpAny_mono (h S _ env s A E hx hA C i fun v s' h=>hE v s' (h.toZ C)) (fun v s1 h₁=>?_) fun _ _ e=>e) (by unfold interactive;rw[C.fr.kind];rfl) (Dd hn _ _)
 obtain⟨mv,μa,hq1,rv,rc,gb⟩:=h₁
 exact⟨.next,vars,μa,hq1,rfl,C.grow gb rc,gb.toS⟩
theorem Vk (pg:PG prog w G Γ h₀ mg mb) (nk:NatOk prog w h₀ Γ) {c:ME}{a b:List MS}(h:ev G (calls G Γ d) X0 c fz vars (fun v μ'=>∃ t,truthy μ' v=some t∧if t then MXS prog w h₀ d a fz vars R X μ' else MXS prog w h₀ d b fz vars R X μ') μ):MXT prog w h₀ d (.ite c a b) fz vars R X μ:=fun S x env s A E hx hA C i hE=>by
 replace hx:=invS_ite hx;obtain⟨tt,y,z,p,rfl,hx⟩:=hx
 simp only[Bool.and_eq_true] at hx
 refine wpAny_If (wpAny_mono ((Qy pg rfl (Vj pg nk d) c).2 S _ env _ fz μ s (fun t μ'=>if t then MXS prog w h₀ d a fz vars R X μ' else MXS prog w h₀ d b fz vars R X μ') _ _ hx.1.1 hA C h) (fun b sd h₂=>?_) fun _ _ e=>e)
 obtain⟨μb,hq2,rd,gc⟩:=h₂
 have C₂:=C.grow gc rd
 cases b with
 | true=>exact wpAny_mono (hq2 S y env sd A E hx.1.2 hA C₂ i fun v s' h=>hE v s' (h.after gc.toS)) (fun f' s3 h₃=>h₃.trans gc.toS) fun _ _ e=>e
 | false=>exact wpAny_mono (hq2 S z env sd A E hx.2 hA C₂ i fun v s' h=>hE v s' (h.after gc.toS)) (fun f' s3 h₃=>h₃.trans gc.toS) fun _ _ e=>e
theorem mt_raise {bad:String}{K:Addr}(pg:PG prog w G Γ h₀ mg mb) (hb:bad∈xNames) (hG:G bad=some (.ref K)) (h:X K μ):MXT prog w h₀ d (.opq (chkRaise bad)) fz vars R X μ:=fun S x env s A E hx hA C i hE=>by
 obtain⟨⟨l,el,fs⟩,_⟩:=id C.frs
 refine It pg hb hG C (hA.hand rfl) hx fun e h' tk args hm=>hE _ _ ⟨e,K,μ,l,none,.inl rfl,rfl,h,el,Exc.made (fun b o eb=>(C.base b o eb).1) fs.ff (bot_size (C.fzin.ext hm.keeps)) hm,C.heap.ext hm.keeps,fs.map (fun b o es ep hb ho hd=>⟨⟨o,es,ep,hm.keeps b o ho,hd⟩,fs.nt b hb⟩) fs.lo,C.heap.free hm.new,C.fzin.free hm.new,⟨vars,C.ext (s':={ s with heap:=h',toks:=tk }) hm.keeps⟩,⟨fun b o _ _ _ eb=>⟨.same (hm.keeps b o eb),rfl⟩,rfl,rfl⟩,fun b o _ _ _ eb q=>?_⟩
 rw[q,hm.new] at eb;cases eb
end
end Mine
end
section
set_option maxRecDepth 100000
namespace Mine
open PySem PySem.Calls PyProof.Rows PySem.W
section
variable {M:Model}{A:Around}{E:Value->Shared->Prop}{h:Heap}{g:Array GenState}{d:Drawn}{t:Nat}{os:OsState}{C D e:Addr}{oe:Obj}
theorem match_own {Q:Bool->Shared->Prop}(K:ClsAt h C [D]) (K':ClsAt h D []) (he:h.get? e=some oe) (hcls:oe.cls=.ref C) (hq:Q true ⟨h,g,d,t,os⟩):wpAny M A (excMatches (.ref e) (.ref D)) Q E ⟨h,g,d,t,os⟩:=by
 obtain⟨N,nm,q,bs,hdct,sn,sub,ab,col,dd,k0,k1,k2,k3,k5,mN,hC,h2,h3⟩:=K
 obtain⟨N',nm',q',bs',hdct',sn',sub',ab',col',dd',k0',k1',k2',k3',k5',mN',hD,h2',h3'⟩:=K'
 have hcB:(Value.ref D::(([]:List Addr).map .ref++bmV)).contains (.type "BaseException")=true:=by
  rw[List.contains_cons]
  have:(([]:List Addr).map Value.ref++bmV).contains (.type "BaseException")=true:=by decide +kernel
  rw[this,Bool.or_true]
 have hcC:(Value.ref C::([D].map .ref++bmV)).contains (.ref D)=true:=List.contains_iff_mem.mpr (.tail _ (.head _))
 have f:=tc_notTuple
 unfold excMatches
 repeat (first|(with_reducible refine wpAny_loadPart_at he ?_;rw[hcls])|with_reducible refine wpAny_loadPart_at hD ?_|(with_reducible refine wpAny_isSubtype_exc hD ?_;rw[hcB])|(with_reducible refine wpAny_isSubtype_exc hC ?_;rw[hcC])|wp_step)
 exact hq
end
theorem oneH_inv {l:List ExceptHandler}{z:PySem.Expr×Str×List PySem.Stmt×Pos}(h:oneH l=some z):l=[.ExceptHandler (some z.1) (some z.2.1) z.2.2.1 z.2.2.2]:=by
 cases l with
 | nil=>cases h
 | cons x l=>
  cases l with
  | cons _ _=>obtain⟨t,n,suite,pos⟩:=x;cases t <;> cases n <;> cases h
  | nil=>
   obtain⟨t,n,suite,pos⟩:=x
   cases t with
   | none=>cases h
   | some t=>cases n with
    | none=>cases h
    | some n=>cases h;rfl
section
variable {prog:Program}{w:World}{G:String->Option MV}{Γ:String->Option MFun}{h₀:Heap}{mg mb:Str->Option Value}{d:Nat}{fz:List Addr}{vars:MVars}{Q:MQ}{X:Addr->MH->Prop}{μ:MH}{R:MFlow->MVars->MH->Prop}
theorem Cur.withF {A:Around}{S:Sc}{env:Env}{s:Shared}(C:Cur prog w h₀ A S env vars fz μ s) {fs:List String}(h:∀ f∈fs,∃ fa,FnAt h₀ f fa):Cur prog w h₀ A ⟨S.tab,S.names,fs⟩ env vars fz μ s:=
 ⟨C.base,C.heap,C.fzin,⟨C.fr.names,C.fr.inj,C.fr.nk,C.fr.nv,C.fr.kind,C.fr.glob,C.fr.bui,C.fr.ns,C.fr.cells,C.fr.apart,C.fr.fixl,C.fr.fixc⟩,C.newl,C.newc,h,C.frs⟩
theorem Cur.way {A:Around}{S:Sc}{env:Env}{s:Shared}{l:List Env}{e K:Addr}{fl:Option Value}{h':Heap}(C:Cur prog w h₀ A S env vars fz μ s) (el:A.frames=some l) (x:Exc (bot fz) h₀ l e K fl s.heap) (f:Frs h₀ s.heap μ fz l) (me:μ e=none) (efz:e∉fz) (hw:Way (bot fz) l e s.heap h'):Cur prog w h₀ A S env vars fz μ { s with heap:=h' } where
 base:=fun b o eb=>by
  obtain⟨h1,h2,h3⟩:=C.base b o eb
  exact⟨hw.keep b o h1 (fun hm=>absurd h3 (Nat.not_lt_of_le (f.lo b hm))) (fun q=>by rw[q,x.new] at eb;cases eb) (.inl h3),h2,h3⟩
 heap:=C.heap.way x f hw me
 fzin:=fun b hb=>by
  cases q:s.heap.get? b with
  | none=>exact absurd q (C.fzin b hb)
  | some o=>
   obtain⟨o',e'⟩:=(hw.held C.heap f q (fun z=>efz (z▸hb))).there
   show h'.get? b≠none
   rw[e'];intro z;cases z
 fr:=C.fr.keep (hw.keepT f fun o ho hi=>by
   obtain⟨oe,vs,v,he,hc,_⟩:=x.tr
   rw[he] at ho;cases ho
   rcases hi with ⟨q,_⟩|⟨q,_⟩ <;> rw[hc] at q <;> cases q) (fun o eo n=>⟨hw.slot _ o eo n,C.fr.fixl⟩) fun x c hm o eo n=>⟨hw.slot c o eo n,(C.fr.fixc x c hm).1⟩
 newl:=C.newl
 newc:=C.newc
 known:=C.known
 frs:=⟨⟨l,el,f.way hw⟩,C.frs.pos⟩
theorem Cur.exn {A:Around}{S:Sc}{env:Env}{s:Shared}{e K:Addr}{oe:Obj}{vs:Array Value}(C:Cur prog w h₀ A S env vars fz μ s) (me:μ e=none) (efz:e∉fz) (he:s.heap.get? e=some oe) (hc:oe.cls=.ref K) (hd:oe.data=.fields vs) (hn:h₀.get? e=none):Cur prog w h₀ A S env vars fz (upd μ e (.exn K)) s:=by
 have nb:∀ {b:Addr}{o:Obj},s.heap.get? b=some o->(∀ vs,o.data≠.fields vs)->upd μ e (.exn K) b=μ b:=fun hb hf=>by
  unfold upd;rw[if_neg fun q=>by rw[q,he] at hb;cases hb;exact hf vs hd]
 refine⟨fun b o eb=>?_,fun a o ea=>?_,C.fzin,C.fr.keep (fun b o eb _=>eb) (fun o eo nf=>⟨⟨o.slots,eo⟩,(nb eo nf).trans C.fr.fixl⟩) fun x c hm o eo nf=>⟨⟨o.slots,eo⟩,(nb eo nf).trans (C.fr.fixc x c hm).1⟩,C.newl,C.newc,C.known,C.frs.map fun b o es ep m eb hdd=>⟨⟨o,es,ep,eb,hdd⟩,(nb eb fun vs q=>by rw[hdd] at q;cases q).trans m⟩⟩
 ·obtain⟨h1,h2,h3⟩:=C.base b o eb
  have:upd μ e (.exn K) b=μ b:=by unfold upd;rw[if_neg fun q=>by rw[q,hn] at eb;cases eb]
  exact⟨h1,h2.imp (fun z=>this.trans z) id,h3⟩
 ·unfold upd at ea
  split at ea
  ·rename_i q;cases ea;subst q;exact⟨oe,vs,he,hc,hd⟩
  ·exact C.heap a o ea
theorem Cur.forget {A:Around}{S:Sc}{env:Env}{s:Shared}(C:Cur prog w h₀ A S env vars fz μ s):Cur prog w h₀ A S env (fun _=>none) fz μ s:=
 { C with fr:={ C.fr with ns:=by obtain⟨m,hn,_⟩:=C.fr.ns;exact⟨m,hn,fun i x mv _ _ h=>by cases h⟩ } }
theorem Cur.atA {A A':Around}{S:Sc}{env:Env}{s:Shared}(C:Cur prog w h₀ A S env vars fz μ s) (e:A'.frames=A.frames):Cur prog w h₀ A' S env vars fz μ s:=
 ⟨C.base,C.heap,C.fzin,C.fr,C.newl,C.newc,C.known,Hw C.frs e⟩
theorem Cur.gone {A:Around}{S:Sc}{env:Env}{s:Shared}{h':Heap}{m:Str->Option Value}{tk:Nat}(C:Cur prog w h₀ A S env vars fz μ s) (hn:h'.Ns env.locals m) (hs:Heap.SameBut env.locals s.heap h'):Cur prog w h₀ A S env (fun _=>none) fz μ { s with heap:=h',toks:=tk }:=by
 have k:∀ b o,b≠env.locals->s.heap.get? b=some o->h'.get? b=some o:=fun b o hb e=>hs.extBut b o hb e
 obtain⟨oL,es,ep,hoL,hdL,_⟩:=id hn
 have kt:KeepsT s.heap h':=fun b o e hi=>k b o (fun q=>by
  subst q
  obtain⟨m',hn',_⟩:=C.fr.ns
  exact Kn hn' o e hi) e
 refine⟨fun b o e=>?_,fun a o e=>?_,fun b hb=>?_,?_,C.newl,C.newc,C.known,C.frs.map fun b o es' ep' mb e hd=>⟨?_,mb⟩⟩
 ·exact⟨k b o (fun q=>by rw[q,C.newl] at e;cases e) (C.base b o e).1,(C.base b o e).2⟩
 ·exact(C.heap a o e).keeps kt fun y hy=>k a y (fun q=>by rw[q,C.fr.fixl] at e;cases e) hy
 ·show h'.get? b≠none
  by_cases q:b=env.locals
  ·rw[q,hoL];intro z;cases z
  ·cases e:s.heap.get? b with
   | none=>exact absurd e (C.fzin b hb)
   | some o=>rw[k b o q e];intro z;cases z
 ·exact { C.fr with
   ns:=⟨m,hn,fun i x mv _ _ h=>by cases h⟩
   fixc:=fun x c hm=>by
    obtain⟨h1,h2,v,o,ho,hd⟩:=C.fr.fixc x c hm
    exact⟨h1,h2,v,o,k c o h2 ho,hd⟩ }
 ·by_cases q:b=env.locals
  ·rw[q];exact⟨oL,es,ep,hoL,hdL⟩
  ·exact⟨o,es',ep',k b o q e,hd⟩
noncomputable def HX (prog:Program) (w:World) (h₀:Heap) (d:Nat) (l:List MS) (fz:List Addr) (vars:MVars) (R:MFlow->MVars->MH->Prop) (μ:MH):Prop:=∀ (S:Sc) (xs:List PySem.Stmt) (env:Env) (s:Shared) (A:Around) (E:Value->Shared->Prop),isSs S l xs=true->OkA ⟨d,false⟩ A->Cur prog w h₀ A S env vars fz μ s->wpAny (model prog w) A (execs xs env) (PostF prog w h₀ A S env fz μ s R) E s
theorem mt_try (pg:PG prog w G Γ h₀ mg mb) {funs:List String}{body hb:List MS}{ei:Nat}(hfn:∀ f∈funs,∃ fd,Γ f=some fd) (hnil:hb.isEmpty=false) (hx':∀ K μ',X K μ'->∃ g∈xNames,G g=some (.ref K)) (h:MXS prog w h₀ d body fz vars R X μ)
  (hh:∀ K μ' e,X K μ'->μ' e=none->e∉fz->HX prog w h₀ d hb fz (setv (fun _=>none) ei (.ref e)) (fun fl _ μ''=>∃ v,fl=.ret v∧R (.ret v) (fun _=>none) μ'') (upd μ' e (.exn K))) {X':Addr->MH->Prop}:
  MXT prog w h₀ d (.opq (chkTry funs body hb ei)) fz vars R X' μ:=fun S x env s A E hx hA C i hE=>by
 replace hx:chkTry funs body hb ei S.tab S.names x=true:=hx
 obtain⟨c1,c23⟩:=and2 hx
 obtain⟨c2,c3⟩:=and2 c23
 clear hx c23
 have ex:x=.Try (nodeS x).x (nodeS x).hs [] [] (nodeS x).p:=Gp c1
 cases z0:oneH (nodeS x).hs with
 | none=>rw[z0] at c3;exact(Bool.false_ne_true c3).elim
 | some z=>
 rw[z0] at c3
 rw[oneH_inv z0] at ex
 obtain⟨t,n,suite,pos⟩:=z
 obtain⟨ht,c4⟩:=and2 c3
 obtain⟨hn,c5⟩:=and2 c4
 obtain⟨hloc,hsu⟩:=and2 c5
 replace hloc:=of_decide_eq_true hloc
 rw[ex]
 have hkn:∀ f∈funs,∃ fa,FnAt h₀ f fa:=fun f hf=>by obtain⟨fd,e⟩:=hfn f hf;exact pg.fnAt e
 have C':=C.withF hkn
 cases hb with
 | nil=>cases hnil
 | cons b0 bs=>
 cases suite with
 | nil=>exact(Bool.false_ne_true hsu).elim
 | cons x0 xs0=>
 refine wpAny_Try_except (wpAny_mono (h _ _ env s A _ c2 hA C' i fun v s' hp=>?_) (fun f s1 h₁=>?_) fun _ _ e=>e)
 ·obtain⟨e,K,μ',l,fl,hfl,rfl,hX,el,xa,rc,fs1,me,efz,⟨vars1,C₁⟩,gb,ne1⟩:=hp
  obtain⟨outer,eo⟩:=i.fr
  obtain rfl:l=env::outer:=by rw[eo] at el;exact(Option.some.inj el).symm
  refine note eo i.frame xa hfl fun h₂ xb wc=>?_
  refine flight (s:={ s' with heap:=h₂ }) (o:=none) xb fun h₃ x3 wa=>?_
  have w13:=wc.trans wa
  have C₃:=C₁.way eo xa fs1 me efz w13
  obtain⟨oe,ws,v1,he,hec,hed,_⟩:=id x3.tr
  obtain⟨tn,tp,rfl,htg⟩:=isGlobN_inv ht
  obtain⟨D,hD,cD,cX⟩:=pg.xc
  obtain⟨gn,hgn,hGK⟩:=hx' K μ' hX
  refine wpAny_handleBy_cons (codeAny_handlers_test (Ko pg (C₃.atA rfl) htg hD ?_)) (by intro q;cases q)
  refine match_own ((cX gn hgn K hGK).1.keeps x3.stays) (cD.keeps x3.stays) he hec ?_
  refine codeAny_handlers_suite_as (flight (s:={ s' with heap:=h₃ }) (o:=none) x3 fun h₄ xe we=>?_)
  have w14:=w13.trans we
  have C₄:=C₁.way eo xa fs1 me efz w14
  obtain⟨oe,ws,v1,he,hec,hed,_⟩:=id xe.tr
  have C₅:=((C₄.exn me efz he hec hed xe.new).forget).atA (A':=A.mark (some (.ref e))) rfl
  refine Kk C₅ hn (mv:=.ref e) rfl fun se C₇ g7 _ kg=>?_
  refine wpAny_mono (hh K μ' e hX me efz _ _ env se (A.mark (some (.ref e))) _ hsu ⟨nofun,hA.depth,hA.units⟩ C₇) (fun f sf h₈=>?_) fun _ _ e=>e
  obtain⟨fl8,vars8,μ8,⟨v,rfl,hq8⟩,hf8,C₈,g8⟩:=h₈
  obtain⟨val,rfl,rv⟩:=hf8
  obtain⟨m,hns,_⟩:=C₈.fr.ns
  have hko:env.kindOf n=some .local:=by unfold Env.kindOf;rw[C₈.fr.names];exact hloc
  refine wpAny_nameGoes hko hns (by rw[C₈.fr.kind];rfl) fun h₉ m9 hn9 hsb=>?_
  have C₉:=((C₈.gone (tk:=sf.toks+1) hn9 hsb).atA (A':=A) rfl).withF (fs:=S.funs) C.known
  have kt9:KeepsT sf.heap h₉:=fun b o e hi=>hsb.extBut b o (fun q=>by subst q;exact Kn hns o e hi) e
  refine⟨.ret v,_,μ8,hq8,⟨val,rfl,rv.keepT kt9⟩,C₉,⟨fun b o f l c eb=>?_,?_,?_⟩⟩
  ·obtain⟨a1,q1⟩:=gb.keep b o f l c eb
   have nb:=ne1 b o f l c eb
   have f1:=f.imp (fun z=>q1.trans z) id
   have u:upd μ' e (.exn K) b=μ' b:=by unfold upd;rw[if_neg nb]
   have s2:∀ o',s'.heap.get? b=some o'->Held fz μ' b o' (h₄.get? b):=fun o' e'=>w14.held rc fs1 e' nb
   have s7:∀ o',h₄.get? b=some o'->Held fz (upd μ' e (.exn K)) b o' (se.heap.get? b)∧upd μ' e (.exn K) b=upd μ' e (.exn K) b:=fun o' e'=>g7.keep b o' (f1.imp (fun z=>u.trans z) id) l c e'
   have s8:∀ o',se.heap.get? b=some o'->Held fz (upd μ' e (.exn K)) b o' (sf.heap.get? b)∧μ8 b=upd μ' e (.exn K) b:=fun o' e'=>g8.keep b o' (f1.imp (fun z=>u.trans z) id) l c e'
   have t4:Held fz μ b o (h₄.get? b):=a1.trans q1 s2
   have t7:Held fz μ b o (se.heap.get? b):=Held.trans (s:={ s' with heap:=h₄ }) t4 (u.trans q1) fun o' e'=>(s7 o' e').1
   have t8:Held fz μ b o (sf.heap.get? b):=Held.trans t7 (u.trans q1) fun o' e'=>(s8 o' e').1
   obtain⟨o7,e7⟩:=t7.there
   exact⟨t8.skip fun o' e'=>hsb.extBut b o' l e',((s8 o7 e7).2.trans u).trans q1⟩
  ·exact(g8.os.trans g7.os).trans gb.os
  ·exact(g8.gens.trans g7.gens).trans gb.gens
 ·obtain⟨fl,vars1,μa,hq1,hf,C₁,gb⟩:=h₁
  have C₂:=C₁.withF (fs:=S.funs) C.known
  cases fl with
  | next=>obtain rfl:=hf;exact wpAny_execs_nil ⟨.next,vars1,μa,hq1,rfl,C₂,gb⟩
  | brk=>obtain rfl:=hf;exact⟨.brk,vars1,μa,hq1,rfl,C₂,gb⟩
  | cont=>obtain rfl:=hf;exact⟨.cont,vars1,μa,hq1,rfl,C₂,gb⟩
  | ret m=>obtain⟨v,rfl,rv⟩:=hf;exact⟨.ret m,vars1,μa,hq1,⟨v,rfl,rv⟩,C₂,gb⟩
end
end Mine
end
section
namespace Mine
open PySem
noncomputable def Ext (μ μ':MH):Prop:=∀ b o,μ b=some o->μ' b=some o
theorem Ext.refl {μ:MH}:Ext μ μ:=fun _ _ e=>e
theorem Ext.trans {μ μa μb:MH}(x:Ext μ μa) (y:Ext μa μb):Ext μ μb:=fun b o e=>y b o (x b o e)
theorem Ext.upd {μ:MH}{a:Addr}{o:MO}(h:μ a=none):Ext μ (upd μ a o):=fun b x e=>by
 exact(if_neg (no_at e h)).trans e
theorem Q5 {μ:MH}{a:Addr}{o:MO}:upd μ a o a=some o:=by exact if_pos rfl
theorem Q9 {μ:MH}{a b:Addr}{o:MO}(h:b≠a):upd μ a o b=μ b:=if_neg h
theorem Zo {μ:MH}{a:Addr}{l:List MV}(h:μ a=some (.list l)):lst μ a=some l:=congrArg lstO h
theorem dp_n {μ:MH}{n:Nat}:deep μ n .none=some .none:=by cases n <;> rfl
theorem dp_i {μ:MH}{n:Nat}{i:Int}:deep μ n (.int i)=some (.int i):=by cases n <;> rfl
theorem J4 {μ:MH}{n:Nat}{s:Str}(h:PyData.strOk s=true):deep μ n (.str s)=some (.str s):=by cases n <;> exact if_pos h
theorem dp_t {μ:MH}{n:Nat}{l:List MV}{ds:List PyData}(h:l.mapM (deep μ n)=some ds):deep μ (n+1) (.tup l)=some (.tuple ds):=congrArg (Option.map PyData.tuple) h
theorem Pd {μ:MH}{n:Nat}{v:MV}{d:PyData}{l:List MV}{ds:List PyData}(h:deep μ n v=some d) (h':l.mapM (deep μ n)=some ds):(v::l).mapM (deep μ n)=some (d::ds):=by rw[List.mapM_cons,h,h'];rfl
theorem dp_l {μ:MH}{n:Nat}{a:Addr}{l:List MV}{ds:List PyData}(h:lst μ a=some l) (h':l.mapM (deep μ n)=some ds):deep μ (n+1) (.ref a)=some (.list ds):=by
 show (lst μ a).bind _=_
 rw[h];exact congrArg (Option.map PyData.list) h'
theorem Bo {μ:MH}{a b:MV}{x y:PyData}(h:deep μ 9 a=some x) (h':deep μ 9 b=some y):eqD μ a b=some (PyData.eqv x y):=by
 show (deep μ 9 a).bind _=_
 rw[h];exact congrArg (Option.map (PyData.eqv x)) h'
theorem it_l {μ:MH}{a:Addr}{l:List MV}(h:μ a=some (.list l)):items μ (.ref a)=some l:=congrArg itemsO h
theorem it_k {μ:MH}{a:Addr}{l:List (Int×MV)}(h:μ a=some (.idict l)):items μ (.keys a)=some (l.map fun kv=>.int kv.1):=congrArg keysO h
theorem sh_v {a:Addr}:(Src.val (.ref a)).held=[a]:=rfl
theorem sh_i {l:List Int}:(Src.ints l).held=[]:=rfl
theorem Gd {μ:MH}{a:Addr}{l:List MV}(h:μ a=some (.list l)):(Src.val (.ref a)).items μ=some l:=congrArg itemsO h
theorem si_d {μ:MH}{a:Addr}{l:List (Int×MV)}(h:μ a=some (.idict l)):(Src.val (.ref a)).items μ=some (l.map fun kv=>.int kv.1):=congrArg itemsO h
theorem si_r {μ:MH}{a:Addr}{l:List MV}(h:μ a=some (.list l)):(Src.rev (.ref a)).items μ=some l.reverse:=congrArg (fun o=>(lstO o).map List.reverse) h
theorem sr_of {h:Int}(e:in62 h=true):mkSrc .range [.int h]=some (.ints (rangeL 0 h 1)):=congrArg (Option.map Src.ints) (if_pos e)
theorem Ox {α:Type}(l:List α) (lo hi:Option Int):pick l lo hi none=(l.drop (lo.elim 0 (clipAt l.length))).take (hi.elim l.length (clipAt l.length)-lo.elim 0 (clipAt l.length)):=by
 unfold pick pickN
 rw[sliceBounds_plain]
 generalize (lo.elim 0 (clipAt l.length))=a
 generalize (hi.elim l.length (clipAt l.length))=b
 show List.filterMap _ (sliceRange (a:Int) (b:Int) 1)=_
 rw[Mine.sliceRange_one,Int.toNat_sub]
 have e:(List.range (b-a)).map (fun (k:Nat)=>((a:Int)+k).toNat)=(List.range (b-a)).map (a+·):=List.map_congr_left fun k _=>Int.toNat_natCast (a+k)
 rw[e]
 have:=pick_run l.toArray a (b-a)
 simpa only[List.getElem?_toArray] using this
theorem pick_one {α:Type}(l:List α) {k:Int}(hk:0≤k):pick l (some k) (some (k+1)) none=(l.drop k.toNat).take 1:=by
 obtain⟨n,rfl⟩:=Int.eq_ofNat_of_zero_le hk
 rw[Ox]
 show List.take (clipAt l.length ((n:Int)+1)-clipAt l.length (n:Int)) (List.drop (clipAt l.length (n:Int)) l)=List.take 1 (List.drop n l)
 rw[show ((n:Int)+1)=((n+1:Nat):Int) from rfl,clipAt_nat,clipAt_nat]
 by_cases h:n<l.length
 ·rw[Nat.min_eq_left (Nat.le_of_lt h),Nat.min_eq_left (show n+1≤l.length from h),Nat.add_sub_cancel_left]
 ·have h:=Nat.le_of_not_lt h
  rw[Nat.min_eq_right h,Nat.min_eq_right (Nat.le_succ_of_le h),List.drop_eq_nil_of_le (Nat.le_refl _),List.drop_eq_nil_of_le h,List.take_nil,List.take_nil]
theorem pick_take {α:Type}(l:List α) {b:Int}(hb:0≤b) (hb':b≤l.length):pick l none (some b) none=l.take b.toNat:=by
 obtain⟨n,rfl⟩:=Int.eq_ofNat_of_zero_le hb
 rw[Ox]
 show List.take (clipAt l.length (n:Int)-0) (List.drop 0 l)=List.take n l
 rw[clipAt_nat,Nat.min_eq_left (Int.ofNat_le.mp hb')];rfl
theorem pick_drop {α:Type}(l:List α) {b:Int}(hb:0≤b) (hb':b≤l.length):pick l (some b) none none=l.drop b.toNat:=by
 obtain⟨n,rfl⟩:=Int.eq_ofNat_of_zero_le hb
 rw[Ox]
 show List.take (l.length-clipAt l.length (n:Int)) (List.drop (clipAt l.length (n:Int)) l)=List.drop n l
 rw[clipAt_nat,Nat.min_eq_left (Int.ofNat_le.mp hb')]
 exact List.take_of_length_le (by rw[List.length_drop];exact Nat.le_refl _)
theorem pick_rev {α:Type}(l:List α):pick l none none (some (-1))=l.reverse:=by
 unfold pick pickN
 rw[PySem.W.krv_bounds]
 simp only
 rw[PySem.W.krv_sliceRange,PySem.W.krv_range]
 rw[List.filterMap_reverse]
 congr 1
 exact List.filterMap_getElem?_range_length l
section
variable {G:String->Option MV}{Φ:CallSpec}{X:MX}{fz:List Addr}{vars:MVars}{Q:MQ}{μ:MH}
theorem Q1 {i:Nat}:ev G Φ X (.var i) fz vars Q μ=(∃ v,vars i=some v∧Q v μ):=rfl
theorem e_glob {g:String}:ev G Φ X (.glob g) fz vars Q μ=(∃ v,G g=some v∧Q v μ):=rfl
theorem Q6 {i:Int}:ev G Φ X (.cint i) fz vars Q μ=(Q (.int i) μ):=rfl
theorem Qp {s:String}:ev G Φ X (.cstr s) fz vars Q μ=(Q (.str (Str.ofString s)) μ):=rfl
theorem Nv:ev G Φ X (.cnone) fz vars Q μ=(Q .none μ):=rfl
theorem Qh {op:BOp}{a b:ME}:ev G Φ X (.bin op a b) fz vars Q μ=(ev G Φ X a fz vars (fun x μ'=>ev G Φ X b fz vars (fun y μ''=>binM fz op x y Q μ'') μ') μ):=rfl
theorem e_neg {a:ME}:ev G Φ X (.neg a) fz vars Q μ=(ev G Φ X a fz vars (fun x μ'=>∃ i,x=.int i∧Q (.int (-i)) μ') μ):=rfl
theorem e_not {a:ME}:ev G Φ X (.not a) fz vars Q μ=(ev G Φ X a fz vars (fun x μ'=>∃ b,truthy μ' x=some b∧Q (.bool (!b)) μ') μ):=rfl
theorem e_and {l:List ME}:ev G Φ X (.and l) fz vars Q μ=(evAnd G Φ X l fz vars Q μ):=rfl
theorem e_or {l:List ME}:ev G Φ X (.or l) fz vars Q μ=(evOr G Φ X l fz vars Q μ):=rfl
theorem Y2 {a:ME}{ops:List COp}{es:List ME}:ev G Φ X (.cmp a ops es) fz vars Q μ=(ev G Φ X a fz vars (fun x μ'=>evCmp G Φ X es ops x fz vars Q μ') μ):=rfl
theorem Qu {a i:ME}:ev G Φ X (.idx a i) fz vars Q μ=(ev G Φ X a fz vars (fun x μ'=>ev G Φ X i fz vars (fun y μ''=>∃ v,idxM μ'' x y=some v∧Q v μ'') μ') μ):=rfl
theorem D9 {a lo hi st:ME}:ev G Φ X (.slice a lo hi st) fz vars Q μ=(ev G Φ X a fz vars (fun x μ'=>ev G Φ X lo fz vars (fun l μa=>ev G Φ X hi fz vars (fun h μb=>ev G Φ X st fz vars (fun s μ3=>sliceM fz x l h s Q μ3) μb) μa) μ') μ):=rfl
theorem X8 {l:List ME}:ev G Φ X (.list l) fz vars Q μ=(evs G Φ X l fz vars (fun vs μ'=>fits vs.length∧allocM fz μ' (.list vs) fun c μ''=>Q (.ref c) μ'') μ):=rfl
theorem Qn {l:List ME}:ev G Φ X (.tuple l) fz vars Q μ=(evs G Φ X l fz vars (fun vs μ'=>fits vs.length∧Q (.tup vs) μ') μ):=rfl
theorem e_dict0:ev G Φ X .dict0 fz vars Q μ=(allocM fz μ (.idict []) fun c μ'=>Q (.ref c) μ'):=rfl
theorem Qf {f:String}{args:List ME}:ev G Φ X (.call f args) fz vars Q μ=(evs G Φ X args fz vars (fun vs μ'=>Φ f vs fz Q X μ') μ):=rfl
theorem Xl {f:BI}{args:List ME}:ev G Φ X (.bi f args) fz vars Q μ=(evs G Φ X args fz vars (fun vs μ'=>biM fz f vs Q μ') μ):=rfl
theorem e_isinst {e:ME}{t:TY}:ev G Φ X (.isinst e t) fz vars Q μ=(ev G Φ X e fz vars (fun v μ'=>∃ b,isTy μ' t v=some b∧Q (.bool b) μ') μ):=rfl
theorem Pc {m:MM}{o:ME}{args:List ME}:ev G Φ X (.meth m o args) fz vars Q μ=(ev G Φ X o fz vars (fun x μ'=>mmKind m μ' x=true∧evs G Φ X args fz vars (fun vs μ''=>methM fz m x vs Q μ'') μ') μ):=rfl
theorem e_comp {elt:ME}{t:MT}{k:SK}{its ifs:List ME}:ev G Φ X (.comp elt t k its ifs) fz vars Q μ=(evs G Φ X its fz vars (fun vs μ'=>∃ src all,mkSrc k vs=some src∧src.items μ'=some all∧fits all.length∧compM fz t vars (fun vs F μ=>evIfs G Φ X ifs (src.held++fz) vs F μ) (fun vs F μ=>ev G Φ X elt (src.held++fz) vs F μ) Q all [] μ') μ):=rfl
theorem Q2 {P:List MV->MH->Prop}:evs G Φ X [] fz vars P μ=(P [] μ):=rfl
theorem Q0 {e:ME}{r:List ME}{P:List MV->MH->Prop}:evs G Φ X (e::r) fz vars P μ=(ev G Φ X e fz vars (fun v μ'=>evs G Φ X r fz vars (fun vs μ''=>P (v::vs) μ'') μ') μ):=rfl
theorem Fy {e:ME}:evAnd G Φ X [e] fz vars Q μ=(ev G Φ X e fz vars (fun v μ'=>Q v μ') μ):=rfl
theorem Nx {e e':ME}{r:List ME}:evAnd G Φ X (e::e'::r) fz vars Q μ=(ev G Φ X e fz vars (fun v μ'=>∃ b,truthy μ' v=some b∧if b then evAnd G Φ X (e'::r) fz vars Q μ' else Q v μ') μ):=rfl
theorem eOr_cons {e e':ME}{r:List ME}:evOr G Φ X (e::e'::r) fz vars Q μ=(ev G Φ X e fz vars (fun v μ'=>∃ b,truthy μ' v=some b∧if b then Q v μ' else evOr G Φ X (e'::r) fz vars Q μ') μ):=rfl
theorem Qk {e:ME}{op:COp}{x:MV}:evCmp G Φ X [e] [op] x fz vars Q μ=(ev G Φ X e fz vars (fun y μ'=>∃ b,cmpM op μ' x y=some b∧Q (.bool b) μ') μ):=rfl
theorem Nw {e e':ME}{r:List ME}{op op':COp}{ops:List COp}{x:MV}:evCmp G Φ X (e::e'::r) (op::op'::ops) x fz vars Q μ=(ev G Φ X e fz vars (fun y μ'=>∃ b,cmpM op μ' x y=some b∧if b then evCmp G Φ X (e'::r) (op'::ops) y fz vars Q μ' else Q (.bool false) μ') μ):=rfl
theorem eIfs_nil {F:Bool->MH->Prop}:evIfs G Φ X [] fz vars F μ=(F true μ):=rfl
theorem Zn {e:ME}{F:Bool->MH->Prop}:evIfs G Φ X [e] fz vars F μ=(ev G Φ X e fz vars (fun v μ'=>∃ b,truthy μ' v=some b∧F b μ') μ):=rfl
theorem Q3 {i:Nat}{e:ME}{R:MFlow->MVars->MH->Prop}:ex G Φ X (.assign i e) fz vars R μ=(ev G Φ X e fz vars (fun v μ'=>R .next (setv vars i v) μ') μ):=rfl
theorem x_setidx {o i e:ME}{R:MFlow->MVars->MH->Prop}:ex G Φ X (.setidx o i e) fz vars R μ=(ev G Φ X e fz vars (fun v μa=>ev G Φ X o fz vars (fun x μb=>ev G Φ X i fz vars (fun y μ3=>setM fz x y v (fun μ4=>R .next vars μ4) μ3) μb) μa) μ):=rfl
theorem U8 {e:ME}{R:MFlow->MVars->MH->Prop}:ex G Φ X (.expr e) fz vars R μ=(ev G Φ X e fz vars (fun _ μ'=>R .next vars μ') μ):=rfl
theorem Qz {e:ME}{R:MFlow->MVars->MH->Prop}:ex G Φ X (.ret e) fz vars R μ=(ev G Φ X e fz vars (fun v μ'=>R (.ret v) vars μ') μ):=rfl
theorem x_ite {c:ME}{a b:List MS}{R:MFlow->MVars->MH->Prop}:ex G Φ X (.ite c a b) fz vars R μ=(ev G Φ X c fz vars (fun v μ'=>∃ t,truthy μ' v=some t∧if t then exs G Φ X a fz vars R μ' else exs G Φ X b fz vars R μ') μ):=rfl
theorem Zf {t:MT}{k:SK}{its:List ME}{body:List MS}{R:MFlow->MVars->MH->Prop}:ex G Φ X (.for t k its body) fz vars R μ=(evs G Φ X its fz vars (fun vs μ'=>∃ src all,mkSrc k vs=some src∧src.items μ'=some all∧fits all.length∧loopM t (fun vs F μ=>exs G Φ X body (src.held++fz) vs F μ) R all vars μ') μ):=rfl
end
section
variable {fz:List Addr}{Q:MQ}{μ:MH}
theorem Qb {x y:Int}:binM fz .add (.int x) (.int y) Q μ=Q (.int (x+y)) μ:=rfl
theorem Qc {x y:Int}:binM fz .sub (.int x) (.int y) Q μ=Q (.int (x-y)) μ:=rfl
theorem b_mul {x y:Int}:binM fz .mul (.int x) (.int y) Q μ=((small x∨small y)∧Q (.int (x*y)) μ):=rfl
theorem b_fdiv {x y:Int}:binM fz .fdiv (.int x) (.int y) Q μ=((y≠0∧small y)∧Q (.int (x.fdiv y)) μ):=rfl
theorem b_mod {x y:Int}:binM fz .mod (.int x) (.int y) Q μ=(y≠0∧Q (.int (x.fmod y)) μ):=rfl
theorem b_mulr {x y:Int}(h:-1000000000000≤y∧y≤1000000000000):binM fz .mul (.int x) (.int y) Q μ=Q (.int (x*y)) μ:=by
 rw[b_mul];simp only[eq_iff_iff,and_iff_right_iff_imp];exact fun _=>.inr ⟨by exact ar84 h,by exact ar85 h⟩
theorem b_mull {x y:Int}(h:-1000000000000≤x∧x≤1000000000000):binM fz .mul (.int x) (.int y) Q μ=Q (.int (x*y)) μ:=by
 rw[b_mul];simp only[eq_iff_iff,and_iff_right_iff_imp];exact fun _=>.inl ⟨by exact ar84 h,by exact ar85 h⟩
theorem Xu {x y:Int}(h:0<y∧y≤1000000000000):binM fz .fdiv (.int x) (.int y) Q μ=Q (.int (x.fdiv y)) μ:=by
 rw[b_fdiv];simp only[eq_iff_iff,and_iff_right_iff_imp];exact fun _=>⟨by exact ar86 h,by exact ar87 h,by exact ar88 h⟩
theorem X9 {x y:Int}(h:0<y):binM fz .mod (.int x) (.int y) Q μ=Q (.int (x.fmod y)) μ:=by
 rw[b_mod];simp only[eq_iff_iff,and_iff_right_iff_imp];exact fun _=>by exact ar89 h
theorem Zj {n:Nat}(h:n≤100000):fits n=True:=by simp only[eq_iff_iff,iff_true];unfold fits;exact ar90 h
theorem b_adds {x y:Str}:binM fz .add (.str x) (.str y) Q μ=(fits (x.length+y.length)∧Q (.str (x++y)) μ):=rfl
theorem Rv {a b:Addr}{x y:List MV}(h1:μ a=some (.list x)) (h2:μ b=some (.list y)) (hf:fits (x.length+y.length)) (h:∀ c,μ c=none->c∉fz->Q (.ref c) (upd μ c (.list (x++y)))):binM fz .add (.ref a) (.ref b) Q μ:=
 ⟨x,y,Zo h1,Zo h2,hf,h⟩
theorem Cz {x y:Int}:cmpM .lt μ (.int x) (.int y)=some (decide (x<y)):=rfl
theorem c_le {x y:Int}:cmpM .le μ (.int x) (.int y)=some (decide (x≤y)):=rfl
theorem c_gt {x y:Int}:cmpM .gt μ (.int x) (.int y)=some (decide (x > y)):=rfl
theorem c_ge {x y:Int}:cmpM .ge μ (.int x) (.int y)=some (decide (x≥y)):=rfl
theorem Nc {x y:Int}:cmpM .eq μ (.int x) (.int y)=some (x == y):=by rfl
theorem Az {x y:Int}:cmpM .ne μ (.int x) (.int y)=some (!(x == y)):=by rfl
theorem K5 {x y:Str}(hx:PyData.strOk x=true) (hy:PyData.strOk y=true):cmpM .eq μ (.str x) (.str y)=some (x == y):=Bo (J4 hx) (J4 hy)
theorem ty_i {t:TY}{i:Int}:isTy μ t (.int i)=some (decide (t=.int)):=rfl
theorem Yd {b:Bool}:truthy μ (.bool b)=some b:=rfl
theorem Qa {vars:MVars}{i:Nat}{v:MV}:setv vars i v i=some v:=by exact if_pos rfl
theorem Q4 {vars:MVars}{i j:Nat}{v:MV}(h:j≠i):setv vars i v j=vars j:=if_neg h
theorem bi_min2 {x y:Int}:biM fz .min2 [.int x,.int y] Q μ=Q (.int (min x y)) μ:=rfl
theorem bi_max2 {x y:Int}:biM fz .max2 [.int x,.int y] Q μ=Q (.int (max x y)) μ:=rfl
theorem G7 {b:Bool}:biM fz .int [.bool b] Q μ=Q (.int (if b then 1 else 0)) μ:=rfl
theorem Zp {p:Addr}{k:Int}{l:List MV}(h:μ p=some (.list l)) (hl:l.length≤2 ^ 20):idxM μ (.ref p) (.int k)=atI l k:=(congrArg (fun o=>idxO o (.int k)) h).trans (if_pos hl)
theorem F4 {p:Addr}{k:Int}{l:List (Int×MV)}(h:μ p=some (.idict l)):idxM μ (.ref p) (.int k)=lookI l k:=congrArg (fun o=>idxO o (.int k)) h
theorem Zi {k:Int}{l:List MV}(hl:l.length≤2 ^ 20):idxM μ (.tup l) (.int k)=atI l k:=if_pos hl
theorem i_str {k:Int}{x:Str}(hl:x.length≤2 ^ 20):idxM μ (.str x) (.int k)=(atI x.cps.toList k).map fun c=>.str ⟨#[c]⟩:=if_pos hl
theorem sl_list {p:Addr}{l:List MV}{lo hi st:MV}{a b s:Option Int}(h1:partI lo=some a) (h2:partI hi=some b) (h3:partI st=some s) (h4:s≠some 0) (h:μ p=some (.list l)) (hf:fits l.length) (hq:∀ c,μ c=none->c∉fz->Q (.ref c) (upd μ c (.list (pick l a b s)))):sliceM fz (.ref p) lo hi st Q μ:=
 ⟨a,b,s,h1,h2,h3,h4,l,Zo h,hf,hq⟩
theorem Im {x:Str}{lo hi st:MV}{a b s:Option Int}(h1:partI lo=some a) (h2:partI hi=some b) (h3:partI st=some s) (h4:s≠some 0) (hf:fits x.length) (hq:Q (.str ⟨(pick x.cps.toList a b s).toArray⟩) μ):sliceM fz (.str x) lo hi st Q μ:=
 ⟨a,b,s,h1,h2,h3,h4,hf,hq⟩
theorem set_list {a:Addr}{l:List MV}{k:Int}{v:MV}{Q:MH->Prop}(h:μ a=some (.list l)) (hf:a∉fz) (hl:fits l.length) (h0:0≤k) (h1:k<l.length) (hq:Q (upd μ a (.list (l.set k.toNat v)))):setM fz (.ref a) (.int k) v Q μ:=by
 refine⟨hf,?_⟩
 rw[h]
 exact⟨hl,_,by unfold setAt;rw[if_pos h0,if_pos (by exact ar91 h0 h1)],hq⟩
theorem Po {a:Addr}{l:List (Int×MV)}{k:Int}{v:MV}{Q:MH->Prop}(h:μ a=some (.idict l)) (hf:a∉fz) (hl:fits l.length) (hq:Q (upd μ a (.idict (putI l k v)))):setM fz (.ref a) (.int k) v Q μ:=by
 refine⟨hf,?_⟩
 rw[h]
 exact⟨hl,hq⟩
theorem Qx {p:Addr}{l:List MV}(h:μ p=some (.list l)) (hf:fits l.length) (hq:Q (.int l.length) μ):biM fz .len [.ref p] Q μ:=by
 show lenO (μ p) fun n=>Q (.int n) μ
 rw[h];exact⟨hf,hq⟩
theorem bi_len_str {x:Str}:biM fz .len [.str x] Q μ=(fits x.length∧Q (.int x.length) μ):=rfl
end
theorem D5 {μ:MH}{a:Addr}{l:List MV}(h:μ a=some (.list l)):isListO (μ a)=true:=by rw[h];rfl
theorem Pr {μ:MH}{a:Addr}{l:List (Int×MV)}(h:μ a=some (.idict l)):isDictO (μ a)=true:=by rw[h];rfl
theorem bi_dict_l {μ:MH}{fz:List Addr}{Q:MQ}{a:Addr}{l:List MV}(h:μ a=some (.list l)) (hq:∃ ps,pairsI l=some ps∧fits l.length∧∀ c,μ c=none->c∉fz->Q (.ref c) (upd μ c (.idict (ps.foldl (fun d kv=>putI d kv.1 kv.2) [])))):biM fz .dict [.ref a] Q μ:=by
 show dictO fz (μ a) Q μ
 rw[h];exact hq
theorem in_dict {μ:MH}{u:Addr}{l:List (Int×MV)}{k:Int}(h:μ u=some (.idict l)):inM μ (.int k) (.ref u)=some ((lookI l k).isSome):=by
 show inO μ u (.int k) (μ u)=_
 rw[h];rfl
theorem in_list {μ:MH}{u:Addr}{l:List MV}{a:MV}{xs:List PyData}{d:PyData}(h:μ u=some (.list l)) (h1:deep μ 9 (.ref u)=some (.list xs)) (h2:deep μ 9 a=some d):inM μ a (.ref u)=some (xs.any fun y=>PyData.eqv y d):=by
 show inO μ u a (μ u)=_
 rw[h]
 show anyL (deep μ 9 (.ref u)) (deep μ 9 a)=_
 rw[h1,h2];rfl
theorem fit {n:Nat}(h:n≤100000):fits n:=by unfold fits;exact ar90 h
theorem dn {k d m:Nat}(h:m≤d) (e:Nat.ble (k+1) m=true):k≤d-1:=Nat.le_sub_of_add_le (Nat.le_trans (Nat.le_of_ble_eq_true e) h)
theorem dl {k d m:Nat}(h:m≤d) (e:Nat.ble k m=true):k≤d:=Nat.le_trans (Nat.le_of_ble_eq_true e) h
theorem nei {j i m:Nat}(h:m≤i) (e:Nat.ble (j+1) m=true):j≠i:=Nat.ne_of_lt (Nat.le_trans (Nat.le_of_ble_eq_true e) h)
theorem Qr {μ:MH}{a c:Addr}{o:MO}(h:μ a=some o) (hc:μ c=none):a≠c:=fun q=>by rw[q,hc] at h;cases h
variable {G:String->Option MV}{Γ:String->Option MFun}
theorem all_of {P:Int->Bool}{l:List Int}{x:Int}(h:x∈l) (a:l.all P=true):P x=true:=List.all_eq_true.mp a x h
noncomputable def kr (G:String->Option MV) (Φ:CallSpec) (X:MX) (r:List MS) (fz:List Addr) (R:MFlow->MVars->MH->Prop):MFlow->MVars->MH->Prop:=fun fl vars' μ'=>match fl with | .next=>exs G Φ X r fz vars' R μ'|fl=>R fl vars' μ'
noncomputable def kl (L:MVars->MH->Prop) (R:MFlow->MVars->MH->Prop):MFlow->MVars->MH->Prop:=fun fl vars' μ'=>match fl with | .next | .cont=>L vars' μ' | .brk=>R .next vars' μ' | .ret v=>R (.ret v) vars' μ'
noncomputable def kz (Q:MQ):MFlow->MVars->MH->Prop:=fun fl _ μ'=>match fl with | .ret v=>Q v μ' | .next=>Q .none μ'|_=>False
theorem kr0 {Φ:CallSpec}{X:MX}{r:List MS}{fz:List Addr}{vars:MVars}{R:MFlow->MVars->MH->Prop}{μ:MH}:kr G Φ X r fz R .next vars μ=exs G Φ X r fz vars R μ:=rfl
theorem kr1 {Φ:CallSpec}{X:MX}{r:List MS}{fz:List Addr}{vars:MVars}{R:MFlow->MVars->MH->Prop}{μ:MH}{v:MV}:kr G Φ X r fz R (.ret v) vars μ=R (.ret v) vars μ:=rfl
theorem kl0 {L:MVars->MH->Prop}{R:MFlow->MVars->MH->Prop}{vars:MVars}{μ:MH}:kl L R .next vars μ=L vars μ:=rfl
theorem kl1 {L:MVars->MH->Prop}{R:MFlow->MVars->MH->Prop}{vars:MVars}{μ:MH}{v:MV}:kl L R (.ret v) vars μ=R (.ret v) vars μ:=rfl
theorem kz0 {Q:MQ}{vars:MVars}{μ:MH}{v:MV}:kz Q (.ret v) vars μ=Q v μ:=rfl
theorem Za {t:MT}{B:MVars->(MFlow->MVars->MH->Prop)->MH->Prop}{R:MFlow->MVars->MH->Prop}{vars:MVars}{μ:MH}:loopM t B R [] vars μ=R .next vars μ:=rfl
theorem Xi {t:MT}{B:MVars->(MFlow->MVars->MH->Prop)->MH->Prop}{R:MFlow->MVars->MH->Prop}{v:MV}{l:List MV}{vars:MVars}{μ:MH}:loopM t B R (v::l) vars μ=∃ vars',bindT t v vars=some vars'∧B vars' (kl (loopM t B R l) R) μ:=rfl
theorem seq {Φ:CallSpec}{X:MX}{st:MS}{r:List MS}{fz:List Addr}{vars:MVars}{R:MFlow->MVars->MH->Prop}{μ:MH}(h:ex G Φ X st fz vars (kr G Φ X r fz R) μ):exs G Φ X (st::r) fz vars R μ:=h
theorem Qt {Φ:CallSpec}{X:MX}{fz:List Addr}{vars:MVars}{R:MFlow->MVars->MH->Prop}{μ:MH}(h:R .next vars μ):exs G Φ X [] fz vars R μ:=by
 exact h
theorem Di {Φ:CallSpec}{X:MX}{fz:List Addr}{vars:MVars}{R:MFlow->MVars->MH->Prop}{μ:MH}(h:R .next vars μ):kr G Φ X [] fz R .next vars μ:=h
theorem gen {Φ:CallSpec}{X:MX}{r:List MS}{fz:List Addr}{vars:MVars}{R:MFlow->MVars->MH->Prop}{μ μa:MH}(x:Ext μ μa) (h:∀ μ',Ext μ μ'->exs G Φ X r fz vars R μ'):exs G Φ X r fz vars R μa:=h μa x
theorem Q8 {d:Nat}{f:String}{vs:List MV}{fz:List Addr}{Q:MQ}{X:MX}{μ:MH}{fd:MFun}(h:Γ f=some fd) (hn:vs.length=fd.n) (hd:0<d)
  (hx:exs G (calls G Γ (d-1)) X fd.body fz (args0 vs) (kz Q) μ) (hnat:fd.nat=none:=by rfl):calls G Γ d f vs fz Q X μ:=by
 cases d with
 | zero=>exact(ar93 hd).elim
 | succ d=>exact⟨fd,h,hn,by rw[hnat];exact hx⟩
noncomputable def evB (G:String->Option MV) (Φ:CallSpec) (e:ME) (fz:List Addr) (vars:MVars) (F:Bool->MH->Prop) (μ:MH):Prop:=ev G Φ X0 e fz vars (fun v μ'=>∃ t,truthy μ' v=some t∧F t μ') μ
section
variable {Φ:CallSpec}{fz:List Addr}{vars:MVars}{F:Bool->MH->Prop}{μ:MH}
theorem Qi {c:ME}{a b:List MS}{R:MFlow->MVars->MH->Prop}(h:evB G Φ c fz vars (fun t μ'=>if t then exs G Φ X0 a fz vars R μ' else exs G Φ X0 b fz vars R μ') μ):ex G Φ X0 (.ite c a b) fz vars R μ:=by
 exact h
theorem Aq {e:ME}(h:evB G Φ e fz vars F μ):evB G Φ (.and [e]) fz vars F μ:=by
 exact h
theorem Ar {e e':ME}{r:List ME}(h:evB G Φ e fz vars (fun t μ'=>if t then evB G Φ (.and (e'::r)) fz vars F μ' else F false μ') μ):evB G Φ (.and (e::e'::r)) fz vars F μ:=by
 unfold evB at h ⊢
 rw[e_and,Nx]
 have q:(fun (v:MV) (μ':MH)=>∃ t,truthy μ' v=some t∧if t=true then evAnd G Φ X0 (e'::r) fz vars (fun v μ'=>∃ t,truthy μ' v=some t∧F t μ') μ' else F false μ') =
   (fun v μ'=>∃ b,truthy μ' v=some b∧if b=true then evAnd G Φ X0 (e'::r) fz vars (fun v μ'=>∃ t,truthy μ' v=some t∧F t μ') μ' else ∃ t,truthy μ' v=some t∧F t μ'):=by
  funext v μ'
  apply propext
  constructor
  ·rintro⟨b,hb,hh⟩
   refine⟨b,hb,?_⟩
   cases b
   ·rw[if_neg (by exact Bool.false_ne_true)] at hh ⊢;exact⟨_,hb,hh⟩
   ·rw[if_pos rfl] at hh ⊢;exact hh
  ·rintro⟨b,hb,hh⟩
   refine⟨b,hb,?_⟩
   cases b
   ·rw[if_neg (by exact Bool.false_ne_true)] at hh ⊢;obtain⟨b',hb',hh⟩:=hh;rw[hb] at hb';cases hb';exact hh
   ·rw[if_pos rfl] at hh ⊢;exact hh
 exact Eq.mp (congrArg (fun z=>ev G Φ X0 e fz vars z μ) q) h
theorem Yb {e:ME}(h:evB G Φ e fz vars F μ):evB G Φ (.or [e]) fz vars F μ:=by
 exact h
theorem Xz {e e':ME}{r:List ME}(h:evB G Φ e fz vars (fun t μ'=>if t then F true μ' else evB G Φ (.or (e'::r)) fz vars F μ') μ):evB G Φ (.or (e::e'::r)) fz vars F μ:=by
 unfold evB at h ⊢
 rw[e_or,eOr_cons]
 have q:(fun (v:MV) (μ':MH)=>∃ t,truthy μ' v=some t∧if t=true then F true μ' else evOr G Φ X0 (e'::r) fz vars (fun v μ'=>∃ t,truthy μ' v=some t∧F t μ') μ') =
   (fun v μ'=>∃ b,truthy μ' v=some b∧if b=true then (∃ t,truthy μ' v=some t∧F t μ') else evOr G Φ X0 (e'::r) fz vars (fun v μ'=>∃ t,truthy μ' v=some t∧F t μ') μ'):=by
  funext v μ'
  apply propext
  constructor
  ·rintro⟨b,hb,hh⟩
   refine⟨b,hb,?_⟩
   cases b
   ·rw[if_neg (by exact Bool.false_ne_true)] at hh ⊢;exact hh
   ·rw[if_pos rfl] at hh ⊢;exact⟨_,hb,hh⟩
  ·rintro⟨b,hb,hh⟩
   refine⟨b,hb,?_⟩
   cases b
   ·rw[if_neg (by exact Bool.false_ne_true)] at hh ⊢;exact hh
   ·rw[if_pos rfl] at hh ⊢;obtain⟨b',hb',hh⟩:=hh;rw[hb] at hb';cases hb';exact hh
 exact Eq.mp (congrArg (fun z=>ev G Φ X0 e fz vars z μ) q) h
theorem X6 {e:ME}(h:evB G Φ e fz vars (fun t μ'=>F (!t) μ') μ):evB G Φ (.not e) fz vars F μ:=by
 unfold evB at h ⊢
 rw[e_not]
 have q:(fun (x:MV) (μ':MH)=>∃ b,truthy μ' x=some b∧∃ t,truthy μ' (MV.bool !b)=some t∧F t μ')=(fun x μ'=>∃ b,truthy μ' x=some b∧F (!b) μ'):=by
  funext v μ'
  exact propext ⟨fun ⟨b,h,t,e,f⟩=>⟨b,h,by cases e;exact f⟩,fun ⟨b,h,f⟩=>⟨b,h,_,rfl,f⟩⟩
 rw[q];exact h
theorem Q7 {a b:ME}{op:COp}(h:ev G Φ X0 a fz vars (fun x μa=>ev G Φ X0 b fz vars (fun y μb=>∃ t,cmpM op μb x y=some t∧F t μb) μa) μ):evB G Φ (.cmp a [op] [b]) fz vars F μ:=by
 unfold evB
 rw[Y2]
 simp only[Qk,Nw,Yd,Option.some.injEq,exists_eq_left']
 exact h
theorem Zm {e:ME}{ty:TY}(h:ev G Φ X0 e fz vars (fun v μ'=>∃ b,isTy μ' ty v=some b∧F b μ') μ):evB G Φ (.isinst e ty) fz vars F μ:=by
 unfold evB
 rw[e_isinst]
 simp only[Yd,Option.some.injEq,exists_eq_left']
 exact h
theorem Ju {f:String}{args:List ME}(h:evs G Φ X0 args fz vars (fun vs μ'=>Φ f vs fz (fun v μ''=>∃ t,truthy μ'' v=some t∧F t μ'') X0 μ') μ):evB G Φ (.call f args) fz vars F μ:=by
 exact h
theorem Rn {i:Nat}{v:MV}{t:Bool}(hv:vars i=some v) (ht:truthy μ v=some t) (h:F t μ):evB G Φ (.var i) fz vars F μ:=by
 exact⟨v,hv,t,ht,h⟩
theorem Y7 {elt it:ME}{t:MT}{k:SK}{ifs:List ME}{X:MX}{Q:MQ}(h:ev G Φ X it fz vars (fun v μ'=>∃ src all,mkSrc k [v]=some src∧src.items μ'=some all∧fits all.length ∧
   compM fz t vars (fun vs F μ=>evIfs G Φ X ifs (src.held++fz) vs F μ) (fun vs F μ=>ev G Φ X elt (src.held++fz) vs F μ) Q all [] μ') μ):ev G Φ X (.comp elt t k [it] ifs) fz vars Q μ:=by
 exact h
theorem Y4 {i:Nat}{v:MV}{X:MX}{Q:MQ}(hv:vars i=some v) (h:Q v μ):ev G Φ X (.var i) fz vars Q μ:=⟨v,hv,h⟩
theorem D7 {e:ME}{X:MX}{Q:List MV->MH->Prop}(h:ev G Φ X e fz vars (fun v μ'=>Q [v] μ') μ):evs G Φ X [e] fz vars Q μ:=by
 exact h
theorem evB_cmp2 {a b c:ME}{op op':COp}(h:ev G Φ X0 a fz vars (fun x μa=>ev G Φ X0 b fz vars (fun y μb=>∃ t,cmpM op μb x y=some t∧if t then ev G Φ X0 c fz vars (fun z μ3=>∃ t,cmpM op' μ3 y z=some t∧F t μ3) μb else F false μb) μa) μ):evB G Φ (.cmp a [op,op'] [b,c]) fz vars F μ:=by
 unfold evB
 rw[Y2]
 simp only[Qk,Nw,Yd,Option.some.injEq,exists_eq_left']
 exact h
end
end Mine
end
section
namespace Mine
open PySem
variable {G:String->Option MV}{Γ:String->Option MFun}
theorem Qo {A B:Prop}(h:B):if false=true then A else B:=h
theorem Xk {A B:Prop}(h:A):if true=true then A else B:=h
theorem lb {a b:Nat}(h:Nat.ble a b=true):a≤b:=Nat.le_of_ble_eq_true h
section
variable {Φ:CallSpec}{X:MX}{fz:List Addr}{vars:MVars}{Q:MQ}{μ:MH}{R:MFlow->MVars->MH->Prop}
theorem Kh {f:BI}{e:ME}(h:ev G Φ X e fz vars (fun v μ'=>biM fz f [v] Q μ') μ):ev G Φ X (.bi f [e]) fz vars Q μ:=h
theorem ev_call1 {f:String}{e:ME}(h:ev G Φ X e fz vars (fun v μ'=>Φ f [v] fz Q X μ') μ):ev G Φ X (.call f [e]) fz vars Q μ:=h
theorem Fv {op:BOp}{a b:ME}(h:ev G Φ X a fz vars (fun x μ'=>ev G Φ X b fz vars (fun y μ''=>binM fz op x y Q μ'') μ') μ):ev G Φ X (.bin op a b) fz vars Q μ:=h
theorem x_for1 {t:MT}{k:SK}{it:ME}{body:List MS}(h:ev G Φ X it fz vars (fun v μ'=>∃ src all,mkSrc k [v]=some src∧src.items μ'=some all∧fits all.length∧loopM t (fun vs F μ=>exs G Φ X body (src.held++fz) vs F μ) R all vars μ') μ):ex G Φ X (.for t k [it] body) fz vars R μ:=h
theorem x_as {i:Nat}{e:ME}(h:ev G Φ X e fz vars (fun v μ'=>R .next (setv vars i v) μ') μ):ex G Φ X (.assign i e) fz vars R μ:=h
theorem K6 {e:ME}(h:ev G Φ X e fz vars (fun v μ'=>R (.ret v) vars μ') μ):ex G Φ X (.ret e) fz vars R μ:=h
end
theorem tstB {A B:Prop}{t:Bool}(h1:t=true->A) (h2:t=false->B):if t=true then A else B:=by
 cases t with
 | true=>exact h1 rfl
 | false=>exact h2 rfl
section
variable {Φ:CallSpec}{fz:List Addr}{V:MVars}{R:MFlow->MVars->MH->Prop}{μ:MH}{x y c:ME}{r:List ME}{t:Bool}{u v:MV}
theorem Vo {a b:List MS}(h:∀ F:Bool->MH->Prop,F true μ->evB G Φ c fz V F μ) (k:exs G Φ X0 a fz V R μ):ex G Φ X0 (.ite c a b) fz V R μ:=h _ (Xk k)
theorem Jy {a:List MS}(h:∀ F:Bool->MH->Prop,F false μ->evB G Φ c fz V F μ) (k:R .next V μ):ex G Φ X0 (.ite c a []) fz V R μ:=h _ (Qo (Qt k))
theorem x_asP {i:Nat}(h:∀ Q:MQ,Q v μ->ev G Φ X0 x fz V Q μ) (k:R .next (setv V i v) μ):ex G Φ X0 (.assign i x) fz V R μ:=h _ k
theorem x_rtP (h:∀ Q:MQ,Q v μ->ev G Φ X0 x fz V Q μ) (k:R (.ret v) V μ):ex G Φ X0 (.ret x) fz V R μ:=h _ k
theorem Ye {s:String}:∀ Q:MQ,Q (.str (Str.ofString s)) μ->ev G Φ X0 (.cstr s) fz V Q μ:=fun _ h=>h
theorem Xj {i:Int}:∀ Q:MQ,Q (.int i) μ->ev G Φ X0 (.cint i) fz V Q μ:=fun _ h=>h
theorem Xa {i:Nat}(hv:V i=some v):∀ Q:MQ,Q v μ->ev G Φ X0 (.var i) fz V Q μ:=fun _ h=>⟨v,hv,h⟩
theorem Yk {z:MV}(hx:∀ Q:MQ,Q u μ->ev G Φ X0 x fz V Q μ) (hy:∀ Q:MQ,Q v μ->ev G Φ X0 y fz V Q μ) (h:idxM μ u v=some z):∀ Q:MQ,Q z μ->ev G Φ X0 (.idx x y) fz V Q μ:=fun Q k=>hx _ (hy _ ⟨z,h,k⟩)
section
variable {i j:Int}(hx:∀ Q:MQ,Q (.int i) μ->ev G Φ X0 x fz V Q μ) (hy:∀ Q:MQ,Q (.int j) μ->ev G Φ X0 y fz V Q μ)
include hx hy
end
theorem pl_nil:∀ P:List MV->MH->Prop,P [] μ->evs G Φ X0 [] fz V P μ:=fun _ h=>h
theorem D3 {vs:List MV}(hx:∀ Q:MQ,Q v μ->ev G Φ X0 x fz V Q μ) (hr:∀ P:List MV->MH->Prop,P vs μ->evs G Φ X0 r fz V P μ):∀ P:List MV->MH->Prop,P (v::vs) μ->evs G Φ X0 (x::r) fz V P μ:=fun P k=>hx _ (hr _ k)
theorem p_tup {vs:List MV}(h:∀ P:List MV->MH->Prop,P vs μ->evs G Φ X0 r fz V P μ) (hf:fits vs.length):∀ Q:MQ,Q (.tup vs) μ->ev G Φ X0 (.tuple r) fz V Q μ:=fun Q k=>h _ ⟨hf,k⟩
theorem Yx {op:COp}(hx:∀ Q:MQ,Q u μ->ev G Φ X0 x fz V Q μ) (hy:∀ Q:MQ,Q v μ->ev G Φ X0 y fz V Q μ) (ht:cmpM op μ u v=some t) (F:Bool->MH->Prop) (hF:F t μ):evB G Φ (.cmp x [op] [y]) fz V F μ:=Q7 (hx _ (hy _ ⟨t,ht,hF⟩))
theorem Cn (hx:∀ F:Bool->MH->Prop,F false μ->evB G Φ x fz V F μ) (F:Bool->MH->Prop) (hF:F false μ):evB G Φ (.and (x::y::r)) fz V F μ:=Ar (hx _ (Qo hF))
theorem B1 (hx:∀ F:Bool->MH->Prop,F true μ->evB G Φ x fz V F μ) (hy:∀ F:Bool->MH->Prop,F t μ->evB G Φ y fz V F μ) (F:Bool->MH->Prop) (hF:F t μ):evB G Φ (.and [x,y]) fz V F μ:=Ar (hx _ (Xk (Aq (hy F hF))))
theorem or_t (hx:∀ F:Bool->MH->Prop,F true μ->evB G Φ x fz V F μ) (F:Bool->MH->Prop) (hF:F true μ):evB G Φ (.or (x::y::r)) fz V F μ:=Xz (hx _ (Xk hF))
theorem or_f (hx:∀ F:Bool->MH->Prop,F false μ->evB G Φ x fz V F μ) (hy:∀ F:Bool->MH->Prop,F t μ->evB G Φ (.or (y::r)) fz V F μ) (F:Bool->MH->Prop) (hF:F t μ):evB G Φ (.or (x::y::r)) fz V F μ:=Xz (hx _ (Qo (hy F hF)))
theorem or_1 (hx:∀ F:Bool->MH->Prop,F t μ->evB G Φ x fz V F μ) (F:Bool->MH->Prop) (hF:F t μ):evB G Φ (.or [x]) fz V F μ:=Yb (hx F hF)
theorem p_inst {ty:TY}(hx:∀ Q:MQ,Q u μ->ev G Φ X0 x fz V Q μ) (ht:isTy μ ty u=some t):∀ Q:MQ,Q (.bool t) μ->ev G Φ X0 (.isinst x ty) fz V Q μ:=fun Q k=>hx _ ⟨t,ht,k⟩
theorem p_cmp {op:COp}(hx:∀ Q:MQ,Q u μ->ev G Φ X0 x fz V Q μ) (hy:∀ Q:MQ,Q v μ->ev G Φ X0 y fz V Q μ) (ht:cmpM op μ u v=some t):∀ Q:MQ,Q (.bool t) μ->ev G Φ X0 (.cmp x [op] [y]) fz V Q μ:=fun Q k=>hx _ (hy _ ⟨t,ht,k⟩)
theorem p_and_t (hx:∀ Q:MQ,Q (.bool true) μ->ev G Φ X0 x fz V Q μ) (hy:∀ Q:MQ,Q v μ->ev G Φ X0 y fz V Q μ):∀ Q:MQ,Q v μ->ev G Φ X0 (.and [x,y]) fz V Q μ:=fun Q k=>hx _ ⟨true,rfl,Xk (hy _ k)⟩
theorem Iv (hx:∀ Q:MQ,Q (.bool false) μ->ev G Φ X0 x fz V Q μ):∀ Q:MQ,Q (.bool false) μ->ev G Φ X0 (.and (x::y::r)) fz V Q μ:=fun Q k=>hx _ ⟨false,rfl,Qo k⟩
theorem Pq (hx:∀ Q:MQ,Q (.bool true) μ->ev G Φ X0 x fz V Q μ) (hy:∀ Q:MQ,Q v μ->ev G Φ X0 (.and (y::r)) fz V Q μ):∀ Q:MQ,Q v μ->ev G Φ X0 (.and (x::y::r)) fz V Q μ:=fun Q k=>hx _ ⟨true,rfl,Xk (hy _ k)⟩
theorem p_and_1 (hx:∀ Q:MQ,Q v μ->ev G Φ X0 x fz V Q μ):∀ Q:MQ,Q v μ->ev G Φ X0 (.and [x]) fz V Q μ:=fun Q k=>hx _ k
theorem p_cmp2_t {z:ME}{w:MV}{op op':COp}(hx:∀ Q:MQ,Q u μ->ev G Φ X0 x fz V Q μ) (hy:∀ Q:MQ,Q v μ->ev G Φ X0 y fz V Q μ) (hz:∀ Q:MQ,Q w μ->ev G Φ X0 z fz V Q μ) (h1:cmpM op μ u v=some true) (h2:cmpM op' μ v w=some t):∀ Q:MQ,Q (.bool t) μ->ev G Φ X0 (.cmp x [op,op'] [y,z]) fz V Q μ:=fun Q k=>hx _ (hy _ ⟨true,h1,Xk (hz _ ⟨t,h2,k⟩)⟩)
theorem p_cmp2_f {z:ME}{op op':COp}(hx:∀ Q:MQ,Q u μ->ev G Φ X0 x fz V Q μ) (hy:∀ Q:MQ,Q v μ->ev G Φ X0 y fz V Q μ) (h1:cmpM op μ u v=some false):∀ Q:MQ,Q (.bool false) μ->ev G Φ X0 (.cmp x [op,op'] [y,z]) fz V Q μ:=fun Q k=>hx _ (hy _ ⟨false,h1,Qo k⟩)
end
end Mine
end
section
namespace Mine
open PySem
variable {G:String->Option MV}{Γ:String->Option MFun}
theorem J5 {α:Type}{l:List α}{k:Int}(h:0≤k):atI l k=l[k.toNat]?:=by simp[atI,h]
noncomputable def at0 (ns:List Int) (k:Int):Int:=ns.getD k.toNat 0
noncomputable def sel (l:List Int) (k:Int):Int:=l.getD k.toNat 0
theorem sel_at {l:List Int}{k:Int}(h0:0≤k) (h:k<l.length):atI (l.map MV.int) k=some (.int (sel l k)):=by
 have:k.toNat<l.length:=by exact ar91 h0 h
 rw[J5 h0,List.getElem?_map]
 simp[sel,List.getD_eq_getElem?_getD,this]
theorem sel_mem {l:List Int}{k:Int}(h0:0≤k) (h:k<l.length):sel l k∈l:=by
 have:k.toNat<l.length:=by exact ar91 h0 h
 simp[sel,List.getD_eq_getElem?_getD,this]
theorem fm {a b:Int}(h:0<b):0≤a.fmod b∧a.fmod b<b:=⟨Int.fmod_nonneg_of_pos _ h,Int.fmod_lt_of_pos _ h⟩
theorem Vn {d:Nat}{a:Addr}{fz:List Addr}{Q:MQ}{μ:MH}{ns:List Int}{k:Int}(hΓ:Γ "_law_of" = some Fd) (hd:1≤d) (ha:μ a=some (.list (ns.map .int))) (hn:ns.length≤63) (hk:0≤k)
  (h:∀ μ',Ext μ μ'->Q (.int (at0 ns k)) μ'):calls G Γ d "_law_of" [.ref a,.int k] fz Q X0 μ:=by
 refine Q8 hΓ rfl hd (seq ?_)
 ((try dsimp only[Fc,Qz,kr1,kz0,Qu,Q6,Qh,X8,Q0,zlc,Q2,zln,Nat.reduceAdd,D9,Nv,Q1,args0,zgs,zgz]);(try simp (discharger:=decide) only[Option.some.injEq,Zj,true_and,exists_eq_left',Qb]))
 refine sl_list rfl rfl rfl (by simp) ha (by simp[fits];exact ar94 hn) fun c hc hcf cc hca hcf2=>?_
 rw[pick_one _ hk] at hca ⊢
 have ne:c≠cc:=Qr (o:=.list ((List.map MV.int ns).drop k.toNat |>.take 1)) (by simp[Q5]) hca
 refine Rv (by rw[Q9 ne,Q5]) Q5 (fit (by simp;exact ar95)) fun cb hc3 hcf3=>?_
 refine⟨_,?_,h _ ((Ext.upd hc).trans ((Ext.upd hca).trans (Ext.upd hc3)))⟩
 rw[Zp Q5 (by simp;exact ar96),J5 (by exact Int.natCast_nonneg _)]
 simp only[Int.toNat_zero]
 by_cases hlt:k.toNat<ns.length
 ·rw[List.drop_eq_getElem_cons (by simpa using hlt)]
  simp[at0,List.getD_eq_getElem?_getD,hlt]
 ·rw[List.drop_eq_nil_of_le (by simp;exact ar97 hlt)]
  simp[at0,List.getD_eq_getElem?_getD,List.getElem?_eq_none (show ns.length≤k.toNat by lia)]
theorem Dy {d:Nat}{i:Int}{fz:List Addr}{Q:MQ}{μ:MH}(hΓ:Γ "_law_whole" = some Vu) (hd:1≤d) (h:Q (.bool true) μ):calls G Γ d "_law_whole" [.int i] fz Q X0 μ:=by
 refine Q8 hΓ rfl (by exact dl hd rfl) (seq ?_)
 ((try dsimp only[Oa,Qz,kr1,kz0,e_and,Nx,Fy,e_not,e_isinst,ty_i,Yd,Q1,args0,zgz]);(try simp (discharger:=decide) only[Option.some.injEq,exists_eq_left']))
 simpa[ty_i] using h
end Mine
end
section
namespace Mine
open PySem
variable {G:String->Option MV}{Γ:String->Option MFun}
noncomputable def GoodN (s:Str):Prop:=2≤s.length∧s.length≤8∧∀ c∈s.cps.toList,97≤c∧c≤122
abbrev S (x:String):Str:=Str.ofString x
noncomputable def GoodE (names:List Str) (number:Int) (e:MV):Prop:=
 (∃ j,e=.tup [.str (S "undo"),.int j]∧1≤j∧j<number) ∨
 (∃ nm lo hi,e=.tup [.str (S "clear"),.str nm,.int lo,.int hi]∧nm∈names∧0≤lo∧lo≤hi∧hi≤1000000) ∨
 (∃ nm lo hi nm',e=.tup [.str (S "like"),.str nm,.int lo,.int hi,.str nm']∧nm∈names∧nm'∈names∧0≤lo∧lo≤hi∧hi≤1000000) ∨
 (∃ nm lo hi v,e=.tup [.str (S "tell"),.str nm,.int lo,.int hi,.int v]∧nm∈names∧0≤lo∧lo≤hi∧hi≤1000000∧-1000000000≤v∧v≤1000000000)
theorem lit {μ:MH}{c:Addr}(l:List Int) {k:Int}(h0:0≤k) (h1:k<l.length) (hl:l.length≤1000) {Q:MV->Prop}(h:Q (.int (sel l k))):∃ v,idxM (upd μ c (.list (l.map .int))) (.ref c) (.int k)=some v∧Q v:=
 ⟨_,by rw[Zp Q5 (by simp;exact ar98 hl)];exact sel_at h0 h1,h⟩
theorem atS {μ:MH}{p:Addr}{names:List Str}{k:Int}(hp:μ p=some (.list (names.map .str))) (hl:names.length≤1000) (h0:0≤k) (h1:k<names.length) {Q:MV->Prop}(h:∀ nm∈names,Q (.str nm)):∃ v,idxM μ (.ref p) (.int k)=some v∧Q v:=by
 have hk:k.toNat<names.length:=by exact ar91 h0 h1
 refine⟨.str names[k.toNat],?_,h _ (List.getElem_mem hk)⟩
 rw[Zp hp (by simp;exact ar98 hl),J5 h0]
 simp[hk]
theorem at3 {μ:MH}{p:Addr}{names:List Str}{n:Int}(hp:μ p=some (.list (names.map .str))) (hl:names.length=3) {Q:MV->Prop}(h:∀ nm∈names,Q (.str nm)):∃ v,idxM μ (.ref p) (.int (n.fmod 3))=some v∧Q v:=
 atS hp (by simp[*]) (fm (by decide)).1 (by have:=(fm (a:=n) (b:=3) (by decide)).2;simp[*]) h
theorem entry_tail {Φ:CallSpec}{p:Addr}{fz:List Addr}{Q:MQ}{μ:MH}{names:List Str}{n number lo hi:Int}{nm:Str}{V:MVars}(hp:μ p=some (.list (names.map .str))) (h3:names.length=3) (hnm:nm∈names) (hlo:0≤lo) (hhi:lo≤hi) (hm:hi≤1000000)
  (v0:V 0=some (.ref p)) (v2:V 2=some (.int n)) (v4:V 4=some (.int lo)) (v5:V 5=some (.int hi)) (v6:V 6=some (.str nm)) (h:∀ e μ',Ext μ μ'->GoodE names number e->Q e μ'):
  exs G Φ X0 [Kg,Kf,Ke] fz V (kz Q) μ:=by
 refine seq ?_
 ((try dsimp only[Kg,x_ite,Y2,Qk,Yd,Q6,Qh,Q1]);(try simp (discharger:=decide) only[v2,Option.some.injEq,exists_eq_left',X9,Nc]))
 split
 ·refine seq ?_
  ((try dsimp only[Vc,Qz,kr1,kz0,Qn,Q0,zlc,Q2,zln,Nat.reduceAdd,Q1,Qp]);(repeat (first|refine⟨_,v6,?_⟩|refine⟨_,v4,?_⟩|refine⟨_,v5,?_⟩|refine⟨fit (Nat.le_of_ble_eq_true rfl),?_⟩|dsimp only[Qz,kr1,kz0,Qn,Q0,Q2,Q1,Qp,kr0,Qb,Qc])))
  exact h _ _ .refl (.inr (.inl ⟨nm,lo,hi,rfl,hnm,hlo,hhi,hm⟩))
 skip
 refine Qt (seq ?_)
 ((try dsimp only[Kf,x_ite,Y2,Qk,Yd,Qn,Q0,List.length_cons,Q2,List.length_nil,Nat.reduceAdd,Q6,Qh,Q1]);(repeat (first|refine⟨_,v2,?_⟩|refine⟨fit (Nat.le_of_ble_eq_true rfl),?_⟩|refine Eq.mpr (X9 (by decide)) ?_|dsimp only[x_ite,Y2,Qk,Qn,Q0,Q2,Q6,Qh,Q1,kr0,Qb,Qc])))
 have hd1:deep μ 9 (.tup [.int 4,.int 5])=some (.tuple [.int 4,.int 5]):=dp_t (Pd dp_i (Pd dp_i rfl))
 have hd2:deep μ 9 (.int (n.fmod 8))=some (.int (n.fmod 8)):=dp_i
 have hin:cmpM .isin μ (.int (n.fmod 8)) (.tup [.int 4,.int 5])=some (4 == n.fmod 8 || 5 == n.fmod 8):=by
  show anyT (deep μ 9 (.tup [.int 4,.int 5])) (deep μ 9 (.int (n.fmod 8)))=_
  rw[hd1,hd2]
  show some (PyData.eqv (.int 4) (.int (n.fmod 8)) || (PyData.eqv (.int 5) (.int (n.fmod 8)) || false))=_
  rw[Bool.or_false];rfl
 ((try simp (discharger:=decide) only[hin,Option.some.injEq,exists_eq_left']))
 split
 ·refine seq ?_
  ((try dsimp only[Vb,Qz,kr1,kz0,Qn,Q0,zlc,Q2,zln,Nat.reduceAdd,Qu,Qh,Q6,Q1,Qp]);(try simp (discharger:=decide) only[v6,Option.some.injEq,v4,v5,v0,v2,Zj,true_and,exists_eq_left',Xu,X9]))
  refine at3 hp h3 fun nm' hnm'=>?_
  exact h _ _ .refl (.inr (.inr (.inl ⟨nm,lo,hi,nm',rfl,hnm,hnm',hlo,hhi,hm⟩)))
 skip
 refine Qt (seq ?_)
 ((try dsimp only[Ke,Qz,kr1,kz0,Qn,Q0,zlc,Q2,zln,Nat.reduceAdd,Qu,Qh,Q6,Q1,X8,e_neg,Qp]);(try simp (discharger:=decide) only[v6,Option.some.injEq,v4,v5,MV.int.injEq,v2,Zj,true_and,exists_eq_left',Xu,X9,Qc]))
 intro c hc hcf
 refine lit [1,2,1,0,-1,n.fmod 2000000001-1000000000] (fm (b:=6) (by decide)).1 (fm (b:=6) (by decide)).2 (by simp) ?_
 have hs:=sel_mem (l:=[1,2,1,0,-1,n.fmod 2000000001-1000000000]) (k:=(n.fdiv 1920).fmod 6) (fm (b:=6) (by decide)).1 (fm (b:=6) (by decide)).2
 generalize sel [1,2,1,0,-1,n.fmod 2000000001-1000000000] ((n.fdiv 1920).fmod 6)=w at hs ⊢
 have:=fm (a:=n) (b:=2000000001) (by decide)
 simp only[List.mem_cons,List.not_mem_nil,or_false] at hs
 have hb:-1000000000≤n.fmod 2000000001-1000000000∧n.fmod 2000000001-1000000000≤1000000000:=⟨Int.sub_le_sub_right this.1 1000000000,Int.sub_le_sub_right (b:=2000000000) (Int.le_of_lt_add_one this.2) 1000000000⟩
 have hwb:-1000000000≤w∧w≤1000000000:=by
  rcases hs with e|e|e|e|e|e <;> rw[e]
  ·decide
  ·decide
  ·decide
  ·decide
  ·decide
  ·exact hb
 exact h _ _ (Ext.upd hc) (.inr (.inr (.inr ⟨nm,lo,hi,w,rfl,hnm,hlo,hhi,hm,hwb.1,hwb.2⟩)))
theorem F0 {d:Nat}{p:Addr}{fz:List Addr}{Q:MQ}{μ:MH}{names:List Str}{base na number:Int}(hΓ:Γ "_law_entry" = some Vz) (hd:1≤d) (hp:μ p=some (.list (names.map .str))) (h3:names.length=3)
  (hb:0≤base∧base≤1000000) (hnum:1≤number∧number≤1000) (h:∀ e μ',Ext μ μ'->GoodE names number e->Q e μ'):calls G Γ d "_law_entry" [.ref p,.int base,.int na,.int number] fz Q X0 μ:=by
 refine Q8 hΓ rfl hd (seq ?_)
 ((try dsimp only[Oj,Q3,kr0,Qh,Q6,Q1,args0,zgs,zgz]);(try simp (discharger:=decide) only[Option.some.injEq,exists_eq_left',b_mulr,X9]))
 have hnn:=fm (a:=na*48271) (b:=2147483647) (by decide)
 generalize (na*48271).fmod 2147483647=n at hnn ⊢
 refine seq ?_
 ((try dsimp only[Oi,Q3,kr0,Xl,Q0,Q2,Qh,Qu,Y2,Qk,G7,Q6,Q1,X8,zlc,zln,Nat.reduceAdd]);(try simp (discharger:=decide) only[Q4,args0,List.getElem?_cons_succ,List.getElem?_cons_zero,Option.some.injEq,Qa,Zj,exists_eq_left',Xu,X9,Nc,true_and]))
 intro c hc hcf
 refine lit [10,900000] (by split <;> exact Int.natCast_nonneg _) (by simp only[List.length_cons,List.length_nil];split <;> exact Int.natCast_nonneg _) (by simp) ?_
 have hs:sel [10,900000] (if ((n.fdiv 11520).fmod 5 == 1)=true then 1 else 0)=10∨sel [10,900000] (if ((n.fdiv 11520).fmod 5 == 1)=true then 1 else 0)=900000:=by split <;> simp[sel]
 generalize sel [10,900000] (if ((n.fdiv 11520).fmod 5 == 1)=true then 1 else 0)=w at hs ⊢
 have hw:0<w:=by rcases hs with e|e <;> rw[e] <;> decide
 rw[X9 hw]
 ((try dsimp only[Qb,bi_min2]))
 have hlo:0≤min 1000000 (base+(n.fdiv 24).fmod w)∧min 1000000 (base+(n.fdiv 24).fmod w)≤1000000:=by
  exact⟨Int.le_min.mpr ⟨by decide,Int.add_nonneg hb.1 (fm (a:=n.fdiv 24) hw).1⟩,Int.min_le_left _ _⟩
 generalize min 1000000 (base+(n.fdiv 24).fmod w)=lo at hlo ⊢
 refine seq ?_
 ((try dsimp only[Oh,Q3,kr0,Xl,Q0,Q2,Qh,Qu,Q6,Q1,X8,zlc,zln,Nat.reduceAdd]);(try simp (discharger:=decide) only[Qa,Option.some.injEq,Zj,Q4,exists_eq_left',Xu,X9,true_and]))
 intro cc hca hcf2
 refine lit [0,1,3,9,35,700,1000000,9] (fm (b:=8) (by decide)).1 (fm (b:=8) (by decide)).2 (by simp) ?_
 have hs2:=sel_mem (l:=[0,1,3,9,35,700,1000000,9]) (k:=(n.fdiv 240).fmod 8) (fm (b:=8) (by decide)).1 (fm (b:=8) (by decide)).2
 generalize sel [0,1,3,9,35,700,1000000,9] ((n.fdiv 240).fmod 8)=w2 at hs2 ⊢
 have hw2:0≤w2:=of_decide_eq_true (all_of (P:=fun y=>decide (0≤y)) hs2 rfl)
 ((try dsimp only[Qb,bi_min2]))
 have hhi:lo≤min 1000000 (lo+w2)∧min 1000000 (lo+w2)≤1000000:=⟨Int.le_min.mpr ⟨hlo.2,Int.le_add_of_nonneg_right hw2⟩,Int.min_le_left _ _⟩
 generalize min 1000000 (lo+w2)=hi at hhi ⊢
 refine gen ((Ext.upd hc).trans (Ext.upd hca)) fun μb x2=>?_
 have hp2:=x2 _ _ hp
 refine seq ?_
 ((try dsimp only[Og,Q3,kr0,Qu,Qh,Q6,Q1]);(repeat (first|refine⟨_,Qa,?_⟩|refine⟨_,rfl,?_⟩|refine⟨_,(Q4 (by decide)).trans Qa,?_⟩|refine⟨_,(Q4 (by decide)).trans rfl,?_⟩|refine Eq.mpr (X9 (by decide)) ?_|refine Eq.mpr (Xu (by decide)) ?_|dsimp only[Q3,kr0,Qu,Qh,Q6,Q1,Qb,Qc])))
 refine at3 hp2 h3 fun nm hnm=>?_
 refine seq ?_
 ((try dsimp only[Of,x_ite,e_and,Nx,Fy,Y2,Qk,Yd,Q6,Q1,Qh]);(try simp (discharger:=decide) only[Q4,Qa,Option.some.injEq,args0,List.getElem?_cons_succ,List.getElem?_cons_zero,exists_eq_left',c_gt,X9]))
 have rest:=entry_tail (G:=G) (Φ:=calls G Γ (d-1)) (fz:=fz) (Q:=Q) (n:=n) (number:=number) (V:=(setv (setv (setv (setv (args0 [MV.ref p,MV.int base,MV.int na,MV.int number]) 2 (MV.int n)) 4 (MV.int lo)) 5 (MV.int hi)) 6 (MV.str nm))) hp2 h3 hnm hlo.1 hhi.1 hhi.2 rfl rfl rfl rfl rfl (fun e μ' x g=>h e μ' (x2.trans x) g)
 split
 ·split
  ·rename_i hgt
   simp only[decide_eq_true_eq] at hgt
   refine seq ?_
   ((try dsimp only[Vd,Qz,kr1,kz0,Qn,Q0,zlc,Q2,zln,Nat.reduceAdd,Qh,Q6,Q1,Qp]);(try simp (discharger:=decide) only[Q4,Qa,Option.some.injEq,args0,List.getElem?_cons_succ,List.getElem?_cons_zero,Zj,true_and,exists_eq_left',Qc,Xu]))
   rw[X9 (by exact ar99 hgt)]
   ((try dsimp only[Qb]))
   have:=fm (a:=n.fdiv 8) (b:=number-1) (by exact ar99 hgt)
   exact h _ _ x2 (.inl ⟨_,rfl,by exact ar100 this,by exact ar101 this⟩)
  ·exact Qt rest
 ·exact Qt rest
end Mine
end
section
namespace Mine
open PySem
variable {G:String->Option MV}{Γ:String->Option MFun}
noncomputable def Low (s:Str):Prop:=∀ c∈s.cps.toList,97≤c∧c≤122
theorem Low.ok {s:Str}(h:Low s):PyData.strOk s=true:=by
 unfold PyData.strOk
 rw[Array.all_eq_true']
 intro c hc
 have:=h c (Array.mem_toList_iff.mpr hc)
 simp only[decide_eq_true_eq];exact ar102 this
theorem G0 (x y:Str):(x++y).cps.toList=x.cps.toList++y.cps.toList:=by
 show (Str.append x y).cps.toList=_
 simp[Str.append]
theorem Uh (x:Str):x.length=x.cps.toList.length:=by simp[Str.length]
theorem Xv (x y:Str):(x++y).length=x.length+y.length:=by simp only[Uh,G0,List.length_append]
theorem Low.append {x y:Str}(hx:Low x) (hy:Low y):Low (x++y):=fun c hc=>by
 rw[G0] at hc
 rcases List.mem_append.mp hc with h|h
 ·exact hx c h
 ·exact hy c h
theorem e0:(S "").cps.toList=[]:=by decide +kernel
theorem Low.join {ss:List Str}(h:∀ s∈ss,Low s):Low (Txt.join (S "") ss):=by
 have e:Txt.join (S "") ss=Str.join (S "") ss:=StrLaws.glued_eq_join _ _
 rw[e]
 clear e
 induction ss with
 | nil=>intro c hc;simp[Str.join,Str.empty] at hc
 | cons x ss ih=>
  cases ss with
  | nil=>exact h x (.head _)
  | cons y ss=>exact((h x (.head _)).append (by intro c hc;rw[e0] at hc;cases hc)).append (ih fun s hs=>h s (.tail _ hs))
theorem len_join {ss:List Str}(h:∀ s∈ss,s.length=1):(Txt.join (S "") ss).length=ss.length:=by
 have e:Txt.join (S "") ss=Str.join (S "") ss:=StrLaws.glued_eq_join _ _
 rw[e]
 clear e
 induction ss with
 | nil=>rfl
 | cons x ss ih=>
  cases ss with
  | nil=>exact h x (.head _)
  | cons y ss=>
   show (x++S "" ++ Str.join _ (y::ss)).length=_
   rw[Xv,Xv,h x (.head _),ih fun s hs=>h s (.tail _ hs)]
   simp only[List.length_cons]
   have:(S "").length=0:=by decide
   exact ar103 this
noncomputable def AB:Str:=S "abcdefghijklmnopqrstuvwxy"
theorem AB_len:AB.length=25:=by decide +kernel
theorem AB_low:Low AB:=by unfold Low;decide +kernel
noncomputable def signS (k:Int):Str:=⟨#[AB.cps.toList.getD k.toNat 0]⟩
theorem sign_get {k:Int}(h0:0≤k) (h1:k<25):AB.cps.toList[k.toNat]?=some (AB.cps.toList.getD k.toNat 0):=by
 have hk:k.toNat<AB.cps.toList.length:=by rw[← Uh,AB_len];exact(Int.toNat_lt h0).mpr h1
 rw[List.getD_eq_getElem?_getD,List.getElem?_eq_getElem hk];rfl
theorem sign_AB {μ:MH}{k:Int}(h0:0≤k) (h1:k<25):idxM μ (.str AB) (.int k)=some (.str (signS k)):=by
 rw[i_str (by rw[AB_len];decide),J5 h0,sign_get h0 h1];rfl
theorem sign_low {k:Int}(h0:0≤k) (h1:k<25):Low (signS k):=fun c hc=>by
 obtain rfl:c=AB.cps.toList.getD k.toNat 0:=by simpa[signS] using hc
 exact AB_low _ (List.mem_of_getElem? (sign_get h0 h1))
theorem V5 {Z:Type}{fz:List Addr}{t:MT}{vars:MVars}{T:MVars->(Bool->MH->Prop)->MH->Prop}{Bd:MVars->MQ->MH->Prop}{Q:MQ}{μ:MH}(enc:Z->MV) (p:Z->Bool) (g:Z->MV) {zs:List Z}:∀ {acc:List MV},
  (∀ z∈zs,∃ vars',bindT t (enc z) vars=some vars'∧(∀ F:Bool->MH->Prop,F (p z) μ->T vars' F μ)∧∀ F:MQ,F (g z) μ->Bd vars' F μ)->
  (∀ c,μ c=none->c∉fz->Q (.ref c) (upd μ c (.list (acc++(zs.filter p).map g))))->compM fz t vars T Bd Q (zs.map enc) acc μ:=by
 induction zs with
 | nil=>
  intro acc _ h c hc hcz
  have:=h c hc hcz
  rw[List.filter_nil,List.map_nil,List.append_nil] at this
  exact this
 | cons z zs ih=>
  intro acc hv h
  obtain⟨vars',hb,hT,hB⟩:=hv z (.head _)
  refine⟨vars',hb,hT _ ?_⟩
  cases q:p z with
  | false=>
   rw[if_neg Bool.false_ne_true]
   rw[List.filter_cons_of_neg (by rw[q];decide)] at h
   exact ih (fun u hu=>hv u (.tail _ hu)) h
  | true=>
   rw[if_pos rfl]
   rw[List.filter_cons_of_pos q,List.map_cons] at h
   exact hB _ (ih (fun u hu=>hv u (.tail _ hu)) fun c hc hcz=>by rw[List.append_assoc];exact h c hc hcz)
theorem Ou:∀ (ss:List Str),strsOf (ss.map .str)=some ss
 | []=>rfl
 | s::ss=>by
  have:=Ou ss
  unfold strsOf at this ⊢
  rw[List.map_cons,List.mapM_cons,this];rfl
theorem Low.take {x:Str}(h:Low x) (n:Nat):Low ⟨(x.cps.toList.take n).toArray⟩:=fun c hc=>h c (List.mem_of_mem_take (by simpa using hc))
theorem Low.drop {x:Str}(h:Low x) (n:Nat):Low ⟨(x.cps.toList.drop n).toArray⟩:=fun c hc=>h c (List.mem_of_mem_drop (by simpa using hc))
theorem Low.rev {x:Str}(h:Low x):Low ⟨x.cps.toList.reverse.toArray⟩:=fun c hc=>h c (by simpa using hc)
theorem z_len:(Str.ofString "z").length=1:=by decide +kernel
theorem z_low:Low (S "z"):=by unfold Low;decide +kernel
structure NV (cell:Int) (c:Addr) (V:MVars):Prop where
 v0:V 0=some (.int cell)
 v2:V 2=some (.str AB)
 v3:V 3=some (.ref c)
theorem NV.set {cell:Int}{c:Addr}{V:MVars}(x:NV cell c V) {i:Nat}(h:4≤i) (v:MV):NV cell c (setv V i v):=
 ⟨(Q4 (by first|exact nei h rfl|decide)).trans x.v0,(Q4 (by first|exact nei h rfl|decide)).trans x.v2,(Q4 (by first|exact nei h rfl|decide)).trans x.v3⟩
noncomputable def wordL (more:Int):List Str:=(rangeL 0 (more.fmod 7) 1).map fun j=>signS ((more.fdiv 7+6*j).fmod 25)
noncomputable def wordF (more:Int):Str:=Txt.join (S "") (wordL more)
noncomputable def moreF (cell k:Int):Int:=cell.fdiv 2+k*48271*cell.fmod 2
noncomputable def putF (word:Str) (pl:Nat) (y:Str):Str:={ cps:=(word.cps.toList.take pl).toArray }++S "z" ++ y++{ cps:=(word.cps.toList.drop pl).toArray }
noncomputable def nameF (cell k:Int):Str:=putF (wordF (moreF cell k)) (((moreF cell k).fdiv 175).fmod ((wordF (moreF cell k)).length+1)).toNat (signS k)
theorem word_signs {more:Int}:∀ s∈wordL more,Low s∧s.length=1:=fun s hs=>by
 obtain⟨j,_,rfl⟩:=List.mem_map.mp hs
 exact⟨sign_low (fm (by decide)).1 (fm (by decide)).2,rfl⟩
theorem word_len (more:Int):(wordL more).length≤6:=by
 unfold wordL
 rw[List.length_map,Z9]
 have:=fm (a:=more) (b:=7) (by decide)
 exact ar104 this
set_option maxHeartbeats 4000000 in
theorem Oy {Φ:CallSpec}{fz:List Addr}{μc μ:MH}{cell k:Int}{c:Addr}{V:MVars}{names:List Str}{R:MFlow->MVars->MH->Prop}(x:NV cell c V) (v4:V 4=some (.int k)) (hk:0≤k∧k<25) (hc0:μc c=none) (hcf:c∉fz)
  (hx:Ext μc μ) (hc:μ c=some (.list (names.map .str))) (hn:names.length≤100) (h:∀ μ' V',GoodN (nameF cell k)->NV cell c V'->Ext μc μ'->μ' c=some (.list ((names++[nameF cell k]).map .str))->R .next V' μ'):
  exs G Φ X0 [Zt,Zs,Ya,Y9] fz V R μ:=by
 refine seq ?_
 ((try dsimp only[Zt,Q3,kr0,Qh,Q6,Q1]);(try simp (discharger:=decide) only[x.v0,Option.some.injEq,v4,exists_eq_left',X9,b_mulr,Xu]))
 have hc2:=fm (a:=cell) (b:=2) (by decide)
 rw[b_mulr (by exact ar105 hc2)]
 ((try dsimp only[Qb]))
 unfold nameF at h
 replace h:∀ μ' V',GoodN (putF (wordF (cell.fdiv 2+k*48271*cell.fmod 2)) (((cell.fdiv 2+k*48271*cell.fmod 2).fdiv 175).fmod ((wordF (cell.fdiv 2+k*48271*cell.fmod 2)).length+1)).toNat (signS k))->NV cell c V'->Ext μc μ'->μ' c=some (.list ((names++[putF (wordF (cell.fdiv 2+k*48271*cell.fmod 2)) (((cell.fdiv 2+k*48271*cell.fmod 2).fdiv 175).fmod ((wordF (cell.fdiv 2+k*48271*cell.fmod 2)).length+1)).toNat (signS k)]).map .str))->R .next V' μ':=h
 generalize cell.fdiv 2+k*48271*cell.fmod 2=more at h ⊢
 replace x:=x.set (i:=5) (by decide) (.int more)
 have v4':setv V 5 (.int more) 4=some (.int k):=(Q4 (by first|exact nei h rfl|decide)).trans v4
 have v5:setv V 5 (.int more) 5=some (.int more):=Qa
 generalize setv V 5 (.int more)=V at x v4' v5
 refine seq ?_
 have hm7:=fm (a:=more) (b:=7) (by decide)
 ((try dsimp only[Zs,Q3,kr0,Pc,Q0,Q2,e_comp,eIfs_nil,Qu,Qh,Q6,Q1,Qp]);(try simp (discharger:=decide) only[v5,Option.some.injEq,exists_eq_left',X9]))
 refine⟨rfl,.ints (rangeL 0 (more.fmod 7) 1),_,?_,rfl,?_,?_⟩
 ·exact sr_of (by simp only[in62,Bool.and_eq_true,decide_eq_true_eq];exact ar106 hm7)
 ·rw[List.length_map,Z9];exact fit (by exact ar107 hm7)
 refine V5 MV.int (fun _=>true) (fun j=>.str (signS ((more.fdiv 7+6*j).fmod 25))) (fun j _=>⟨_,rfl,fun F hF=>hF,fun F hF=>?_⟩) fun cc hca hcf2=>?_
 ·((repeat (first|refine⟨_,x.v2,?_⟩|refine⟨_,v5,?_⟩|refine⟨_,Qa,?_⟩|refine⟨_,(Q4 (by decide)).trans x.v2,?_⟩|refine⟨_,(Q4 (by decide)).trans v5,?_⟩|refine⟨_,(Q4 (by decide)).trans Qa,?_⟩|refine⟨_,(Q4 (by decide)).trans rfl,?_⟩|refine Eq.mpr (X9 (by decide)) ?_|refine Eq.mpr (Xu (by decide)) ?_|refine Eq.mpr (b_mull (by decide)) ?_|dsimp only[Qb,kr0,Qc])))
  exact⟨_,sign_AB (fm (by decide)).1 (fm (by decide)).2,hF⟩
 have hss:=word_signs (more:=more)
 have hsl:=word_len more
 have hwd:wordF more=Txt.join (S "") (wordL more):=rfl
 rw[hwd] at h
 have hcl:([]++((rangeL 0 (more.fmod 7) 1).filter fun _=>true).map fun j=>MV.str (signS ((more.fdiv 7+6*j).fmod 25)))=(wordL more).map .str:=by
  rw[List.nil_append,List.filter_eq_self.mpr fun _ _=>rfl]
  unfold wordL
  rw[List.map_map];rfl
 rw[hcl]
 generalize wordL more=ss at hss hsl h ⊢
 have hsum:(ss.map (·.length)).sum=ss.length:=by
  clear hsl h hcl hwd
  induction ss with
  | nil=>rfl
  | cons s ss ih=>simp only[List.map_cons,List.sum_cons,List.length_cons,(hss s (.head _)).2,ih fun s hs=>hss s (.tail _ hs)];exact ar108
 refine⟨ss.map .str,ss,Zo Q5,Ou ss,by decide,by exact ar109 hsl hsum,?_⟩
 have hwl:Low (Txt.join (S "") ss):=Low.join fun s hs=>(hss s hs).1
 have hwn:(Txt.join (S "") ss).length=ss.length:=len_join fun s hs=>(hss s hs).2
 generalize Txt.join (S "") ss=word at hwl hwn h ⊢
 have hcc:c≠cc:=Qr hc hca
 have hx':Ext μc (upd μ cc (.list (ss.map .str))):=hx.trans (Ext.upd hca)
 have hc':upd μ cc (.list (ss.map .str)) c=some (.list (names.map .str)):=by rw[Q9 hcc];exact hc
 replace x:=x.set (i:=6) (by decide) (.str word)
 have w4:setv V 6 (.str word) 4=some (.int k):=(Q4 (by first|exact nei h rfl|decide)).trans v4'
 have w5:setv V 6 (.str word) 5=some (.int more):=(Q4 (by first|exact nei h rfl|decide)).trans v5
 have w6:setv V 6 (.str word) 6=some (.str word):=Qa
 show exs G Φ X0 [Ya,Y9] fz (setv V 6 (.str word)) R _
 generalize setv V 6 (.str word)=V at x w4 w5 w6 ⊢
 generalize upd μ cc (.list (ss.map .str))=μ at hx' hc' ⊢
 refine seq ?_
 ((try dsimp only[Ya,Q3,kr0,Qh,Q6,Xl,Q0,Q2,Q1]);(repeat (first|refine⟨_,w5,?_⟩|refine⟨_,w6,?_⟩|refine Eq.mpr (Xu (by decide)) ?_|dsimp only[Q3,kr0,Qh,Q6,Xl,Q0,Q2,Q1,Qb,Qc])))
 rw[bi_len_str]
 refine⟨fit (by exact ar110 hsl hwn),?_⟩
 ((try dsimp only[Qb]))
 rw[X9 (by simp)]
 have hat:=fm (a:=more.fdiv 175) (b:=(word.length:Int)+1) (by simp)
 generalize (more.fdiv 175).fmod ((word.length:Int)+1)=pl at hat h ⊢
 replace x:=x.set (i:=7) (by decide) (.int pl)
 have u4:setv V 7 (.int pl) 4=some (.int k):=(Q4 (by first|exact nei h rfl|decide)).trans w4
 have u6:setv V 7 (.int pl) 6=some (.str word):=(Q4 (by first|exact nei h rfl|decide)).trans w6
 have u7:setv V 7 (.int pl) 7=some (.int pl):=Qa
 generalize setv V 7 (.int pl)=V at x u4 u6 u7 ⊢
 refine seq ?_
 ((try dsimp only[Y9,U8,kr0,Pc,Q0,Q2,Qh,D9,Nv,Q1,Qu,Qp]);(try simp (discharger:=decide) only[x.v3,Option.some.injEq,u6,u7,x.v2,u4,exists_eq_left']))
 refine⟨D5 hc',?_⟩
 have hwc:=Uh word
 refine Im rfl rfl rfl (by simp) (fit (by lia)) ?_
 rw[pick_take _ hat.1 (by exact ar111 hat hwc),b_adds]
 have l1:Str.length ⟨(word.cps.toList.take pl.toNat).toArray⟩=pl.toNat:=by simp[Uh];rw[Uh] at hat;simp at hat;exact ar112 hat
 have lz:(Str.ofString "z").length=1:=z_len
 refine⟨fit (by rw[l1,lz];exact ar113 hsl hwn hat),?_⟩
 refine⟨_,sign_AB hk.1 hk.2,?_⟩
 have hy:=sign_low hk.1 hk.2
 have hyl:(signS k).length=1:=rfl
 unfold putF at h
 generalize signS k=y at hy hyl h ⊢
 rw[b_adds]
 refine⟨fit (by rw[Xv,l1,hyl,lz];exact ar114 hsl hwn hat),?_⟩
 refine Im rfl rfl rfl (by simp) (fit (by lia)) ?_
 rw[pick_drop _ hat.1 (by lia),b_adds]
 have l2:Str.length ⟨(word.cps.toList.drop pl.toNat).toArray⟩=word.length-pl.toNat:=by simp[Uh]
 have hlen:(({ cps:=(word.cps.toList.take pl.toNat).toArray }++S "z" ++ y++{ cps:=(word.cps.toList.drop pl.toNat).toArray }:Str)).length=word.length+2:=by
  rw[Xv,Xv,Xv,l1,l2,hyl,lz];exact ar115 hat
 refine⟨fit (by rw[Xv,Xv,l1,l2,hyl,lz];exact ar116 hsl hwn hat),?_⟩
 have hlow:Low ({ cps:=(word.cps.toList.take pl.toNat).toArray }++S "z" ++ y++{ cps:=(word.cps.toList.drop pl.toNat).toArray }:Str):=(((hwl.take _).append z_low).append hy).append (hwl.drop _)
 generalize ({ cps:=(word.cps.toList.take pl.toNat).toArray }++S "z" ++ y++{ cps:=(word.cps.toList.drop pl.toNat).toArray }:Str)=w at hlen hlow h ⊢
 refine⟨_,hc',hcf,fit (by simp;exact ar117 hn),?_⟩
 (try dsimp only[])
 refine Qt (h _ V ⟨by rw[hlen];simp,by rw[hlen];exact ar118 hsl hwn,hlow⟩ x ?_ ?_)
 ·intro b o e
  rw[Q9 (Qr e hc0)];exact hx' b o e
 ·rw[Q5];simp
end Mine
end
section
namespace Mine
open PySem
variable {G:String->Option MV}{Γ:String->Option MFun}
theorem GoodN.rev {x:Str}(h:GoodN x):GoodN ⟨x.cps.toList.reverse.toArray⟩:=by
 obtain⟨h1,h2,h3⟩:=h
 refine⟨?_,?_,fun c hc=>h3 c (by simpa using hc)⟩
 ·simpa[Str.length] using h1
 ·simpa[Str.length] using h2
theorem GoodN.ok {x:Str}(h:GoodN x):PyData.strOk x=true:=Low.ok (s:=x) h.2.2
theorem I5 {μ:MH}{n:Nat}:∀ {ss:List Str},(∀ s∈ss,PyData.strOk s=true)->(ss.map MV.str).mapM (deep μ n)=some (ss.map PyData.str)
 | []=>fun _=>rfl
 | s::ss=>fun h=>by
  have ih:=I5 (μ:=μ) (n:=n) fun s hs=>h s (.tail _ hs)
  rw[List.map_cons,List.mapM_cons,ih]
  have:deep μ n (.str s)=some (.str s):=J4 (h s (.head _))
  rw[this];rfl
noncomputable def names3 (cell:Int):List Str:=[nameF cell 0,nameF cell 1,nameF cell 2]
noncomputable def revS (x:Str):Str:=⟨x.cps.toList.reverse.toArray⟩
noncomputable def swapF (cell:Int):Bool:=(cell.fmod 5 == 3) && !((names3 cell).map PyData.str).any (fun y=>PyData.eqv y (.str (revS (nameF cell 0))))
noncomputable def namesF (cell:Int):List Str:=if swapF cell then (names3 cell).set 1 (revS (nameF cell 0)) else names3 cell
theorem R7 {d:Nat}{fz:List Addr}{Q:MQ}{μ:MH}{cell:Int}(hΓ:Γ "_law_names" = some K1) (hd:1≤d)
  (h:∀ (c:Addr) (μ':MH),Ext μ μ'->μ c=none->c∉fz->μ' c=some (.list ((namesF cell).map .str))->(namesF cell).length=3->(∀ nm∈namesF cell,GoodN nm)->Q (.ref c) μ'):calls G Γ d "_law_names" [.int cell,.int 3] fz Q X0 μ:=by
 refine Q8 hΓ rfl hd (seq ?_)
 ((try dsimp only[Oe,Q3,kr0,Qp]))
 refine seq ?_
 ((try dsimp only[Od,Q3,kr0,X8,Q2,List.length_nil]);(repeat (first|refine⟨fit (Nat.le_of_ble_eq_true rfl),?_⟩|dsimp only[Q3,kr0,X8,Q2,Qb,Qc])))
 intro c hc hcf
 refine seq ?_
 ((try dsimp only[Oc,Zf,Q0,Q2,Q1]);(repeat (first|refine⟨_,rfl,?_⟩|refine⟨_,(Q4 (by decide)).trans Qa,?_⟩|refine⟨_,(Q4 (by decide)).trans rfl,?_⟩|dsimp only[Zf,Q0,Q2,Q1,kr0,Qb,Qc])))
 refine⟨.ints [0,1,2],_,rfl,rfl,fit (by decide),?_⟩
 simp only[List.map_cons,List.map_nil,Za,Xi,sh_v,sh_i,List.nil_append]
 refine⟨_,rfl,?_⟩
 refine Oy (names:=[]) (c:=c) (cell:=cell) ⟨rfl,rfl,rfl⟩ Qa (by decide) hc hcf (Ext.upd hc) Q5 (by decide) fun μ0 V0 g0 x0 e0 c0=>?_
 refine⟨_,rfl,?_⟩
 refine Oy (x0.set (by exact Nat.le_refl _) _) Qa (by decide) hc hcf e0 c0 (by simp) fun μ1 V1 g1 x1 e1 c1=>?_
 refine⟨_,rfl,?_⟩
 refine Oy (x1.set (by exact Nat.le_refl _) _) Qa (by decide) hc hcf e1 c1 (by simp) fun μ2 V2 g2 x2 e2 c2=>?_
 unfold namesF swapF names3 at h
 replace c2:μ2 c=some (.list ([nameF cell 0,nameF cell 1,nameF cell 2].map .str)):=c2
 clear c1 c0 e1 e0 x1 x0
 generalize nameF cell 0=w0 at g0 c2 h
 generalize nameF cell 1=w1 at g1 c2 h
 generalize nameF cell 2=w2 at g2 c2 h
 have hall:∀ nm∈[w0,w1,w2],GoodN nm:=by
  intro nm hm;simp only[List.mem_cons,List.not_mem_nil,or_false] at hm;rcases hm with rfl|rfl|rfl <;> assumption
 have i0:idxM μ2 (.ref c) (.int 0)=some (.str w0):=by rw[Zp c2 (show 3≤2 ^ 20 by decide)];rfl
 have fin:∀ b:Bool,((cell.fmod 5 == 3) && !([w0,w1,w2].map PyData.str).any fun y=>PyData.eqv y (.str (revS w0)))=b->b=false->exs G (calls G Γ (d-1)) X0 [Zd] fz V2 (kz Q) μ2:=fun b hb hf=>by
  rw[hb,hf] at h
  refine seq ?_
  ((try dsimp only[Zd,Qz,kr1,kz0,Q1]);(repeat (first|refine⟨_,x2.v3,?_⟩|dsimp only[Qz,kr1,kz0,Q1,kr0,Qb,Qc])))
  exact h c μ2 e2 hc hcf c2 rfl hall
 refine seq ?_
 ((try dsimp only[Ob,x_ite,e_and,Nx,Fy,Y2,Qk,Yd,Q1,D9,e_neg,Q6,Nv,Qu,Qh]);(try simp (discharger:=decide) only[x2.v0,Option.some.injEq,x2.v3,MV.int.injEq,exists_eq_left',X9,Nc]))
 cases q5:(cell.fmod 5 == 3) with
 | false=>
  simp only[Bool.false_eq_true,if_false]
  exact Qt (fin _ rfl (by rw[q5];rfl))
 | true=>
  simp only[if_true]
  ((repeat (first|refine⟨_,i0,?_⟩|dsimp only[kr0,Qb,Qc])))
  refine Im rfl rfl rfl (by simp) (fit (Nat.le_trans g0.2.1 (by decide))) ?_
  rw[pick_rev]
  have hr:=g0.rev
  replace h:∀ (c:Addr) (μ':MH),Ext μ μ'->μ c=none->c∉fz->μ' c=some (.list ((if ((cell.fmod 5 == 3) && !([w0,w1,w2].map PyData.str).any fun y=>PyData.eqv y (.str ⟨w0.cps.toList.reverse.toArray⟩))=true then [w0,w1,w2].set 1 ⟨w0.cps.toList.reverse.toArray⟩ else [w0,w1,w2]).map .str))->(if ((cell.fmod 5 == 3) && !([w0,w1,w2].map PyData.str).any fun y=>PyData.eqv y (.str ⟨w0.cps.toList.reverse.toArray⟩))=true then [w0,w1,w2].set 1 ⟨w0.cps.toList.reverse.toArray⟩ else [w0,w1,w2]).length=3->(∀ nm∈if ((cell.fmod 5 == 3) && !([w0,w1,w2].map PyData.str).any fun y=>PyData.eqv y (.str ⟨w0.cps.toList.reverse.toArray⟩))=true then [w0,w1,w2].set 1 ⟨w0.cps.toList.reverse.toArray⟩ else [w0,w1,w2],GoodN nm)->Q (.ref c) μ':=h
  have hd1:deep μ2 9 (.ref c)=some (.list ([w0,w1,w2].map .str)):=by
   exact dp_l (Zo c2) (I5 fun s hs=>(hall s hs).ok)
  have hd2:deep μ2 9 (.str ⟨w0.cps.toList.reverse.toArray⟩)=some (.str ⟨w0.cps.toList.reverse.toArray⟩):=J4 hr.ok
  refine⟨_,congrArg (Option.map (!·)) (in_list c2 hd1 hd2),?_⟩
  cases q:([w0,w1,w2].map PyData.str).any fun y=>PyData.eqv y (.str ⟨w0.cps.toList.reverse.toArray⟩) with
  | true=>
   simp only[Bool.not_true,Bool.false_eq_true,if_false]
   exact Qt (fin _ rfl (by rw[show revS w0=⟨w0.cps.toList.reverse.toArray⟩ from rfl,q,Bool.not_true,Bool.and_false]))
  | false=>
   rw[q5,q] at h
   simp only[Bool.not_false,if_true]
   refine seq ?_
   ((try dsimp only[Va,x_setidx,kr0,Q6,Q1,D9,e_neg,Nv,Qu]);(try simp (discharger:=decide) only[x2.v3,Option.some.injEq,MV.int.injEq,exists_eq_left',i0]))
   refine Im rfl rfl rfl (by simp) (fit (Nat.le_trans g0.2.1 (by decide))) ?_
   rw[pick_rev]
   clear fin hd1 hd2 q
   generalize (⟨w0.cps.toList.reverse.toArray⟩:Str)=rv at hr h ⊢
   refine set_list c2 hcf (fit (show 3≤100000 by decide)) (by decide) (show (1:Int)<3 by decide) (Qt (seq ?_))
   ((try dsimp only[Zd,Qz,kr1,kz0,Q1]);(repeat (first|refine⟨_,x2.v3,?_⟩|dsimp only[Qz,kr1,kz0,Q1,kr0,Qb,Qc])))
   refine h c _ (fun b o e=>by rw[Q9 (Qr e hc)];exact e2 b o e) hc hcf (by rw[Q5];rfl) rfl fun nm hm=>?_
   rcases List.mem_or_eq_of_mem_set hm with q|rfl
   ·exact hall _ q
   ·exact hr
theorem Dz {d:Nat}{fz:List Addr}{Q:MQ}{μ:MH}{cell:Int}(hΓ:Γ "_law_names" = some K1) (hd:1≤d)
  (h:∀ (c:Addr) (μ':MH) (names:List Str),Ext μ μ'->μ c=none->c∉fz->μ' c=some (.list (names.map .str))->names.length=3->(∀ nm∈names,GoodN nm)->Q (.ref c) μ'):calls G Γ d "_law_names" [.int cell,.int 3] fz Q X0 μ:=
 R7 hΓ hd fun c μ'=>h c μ' (namesF cell)
end Mine
end
section
namespace Mine
open PySem
variable {G:String->Option MV}{Γ:String->Option MFun}
noncomputable def manyOf (ns:List Int) (many:Int):Nat:=(min many ((ns.length:Int)-4)).toNat
noncomputable def rowV (p:Int×MV):MV:=.tup [.int p.1,p.2]
theorem Do:∀ (l:List (Int×MV)),pairsI (l.map rowV)=some l
 | []=>rfl
 | p::l=>by
  have:=Do l
  unfold pairsI at this ⊢
  rw[List.map_cons,List.mapM_cons,this];rfl
theorem put_new {K:Type} [DecidableEq K] {l:List (K×MV)}{k:K}{v:MV}(h:k∉l.map (·.1)):putI l k v=l++[(k,v)]:=by
 unfold putI
 rw[if_neg]
 simp only[List.any_eq_true,decide_eq_true_eq,not_exists,not_and]
 exact fun p hp e=>h (e▸List.mem_map_of_mem hp)
theorem put_all {K:Type} [DecidableEq K]:∀ {l acc:List (K×MV)},((acc++l).map (·.1)).Nodup->l.foldl (fun d kv=>putI d kv.1 kv.2) acc=acc++l
 | [],acc=>fun _=>by simp
 | p::l,acc=>fun h=>by
  have hp:p.1∉acc.map (·.1):=by
   rw[List.map_append,List.nodup_append] at h
   exact fun m=>h.2.2 _ m _ (by simp) rfl
  rw[List.foldl_cons,put_new hp,put_all (by simpa using h)]
  simp
theorem at_script {μ:MH}{a:Addr}{ns:List Int}{k:Int}(ha:μ a=some (.list (ns.map .int))) (hn:ns.length≤63) (h0:0≤k) (h1:k<ns.length) {Q:MV->Prop}(h:Q (.int (at0 ns k))):∃ v,idxM μ (.ref a) (.int k)=some v∧Q v:=
 ⟨_,by rw[Zp ha (by simp;exact ar94 hn)];exact sel_at h0 h1,h⟩
theorem Jc {n:Int}:(rangeL 0 n 1).map MV.int=(List.range' 0 n.toNat).map fun (k:Nat)=>MV.int k:=by
 unfold rangeL
 rw[List.map_map,List.range_eq_range']
 have:((n-0+1-1) / 1).toNat=n.toNat:=by simp
 rw[this]
 refine List.map_congr_left fun k _=>?_
 simp
end Mine
end
section
namespace Mine
open PySem
variable {G:String->Option MV}{Γ:String->Option MFun}
noncomputable def Atom (v:MV):Prop:=(∃ i,v=.int i)∨∃ s,v=.str s∧PyData.strOk s=true
noncomputable def EntOk (e:MV):Prop:=(∃ j,e=.tup [.str (S "undo"),.int j])∨∃ s rest,e=.tup (.str s::rest)∧s≠S "undo"∧PyData.strOk s=true∧rest.length≤10∧∀ v∈rest,Atom v
noncomputable def undoJ (l:List MV):Option Int:=match l with
 | [.int j]=>some j
 | _=>none
noncomputable def undoOf (e:MV):Option Int:=match e with
 | .tup (.str s::r)=>if s=S "undo" then undoJ r else none
 | _=>none
noncomputable def undoAt (kvs:List (Int×MV)) (k:Int):Option Int:=(lookI kvs k).bind undoOf
theorem D1:PyData.strOk (S "undo")=true:=by decide +kernel
theorem EntOk.other {s:Str}{rest:List MV}(h:s≠S "undo"):undoOf (.tup (.str s::rest))=none:=if_neg h
theorem EntOk.undo {j:Int}:undoOf (.tup [.str (S "undo"),.int j])=some j:=(if_pos rfl:(if S "undo" = S "undo" then undoJ [.int j] else none)=undoJ [.int j])
theorem Fz {μ:MH}{n:Nat}:∀ {l:List MV},(∀ v∈l,Atom v)->∃ ds,l.mapM (deep μ n)=some ds
 | []=>fun _=>⟨[],rfl⟩
 | v::l=>fun h=>by
  obtain⟨ds,hd⟩:=Fz (μ:=μ) (n:=n) fun v hv=>h v (.tail _ hv)
  have:∃ d,deep μ n v=some d:=by
   rcases h v (.head _) with ⟨i,rfl⟩|⟨s,rfl,hs⟩
   ·exact⟨.int i,dp_i⟩
   ·exact⟨.str s,J4 hs⟩
  obtain⟨d,hv⟩:=this
  exact⟨d::ds,by rw[List.mapM_cons,hv,hd];rfl⟩
theorem look_mem {K:Type} [DecidableEq K] {kvs:List (K×MV)}(hn:(kvs.map (·.1)).Nodup) {p:K×MV}(hp:p∈kvs):lookI kvs p.1=some p.2:=by
 induction kvs with
 | nil=>cases hp
 | cons q l ih=>
  simp only[List.map_cons,List.nodup_cons] at hn
  unfold lookI
  rw[List.find?_cons]
  rcases List.mem_cons.mp hp with rfl|hp'
  ·simp
  ·have:q.1≠p.1:=fun e=>hn.1 (e▸List.mem_map_of_mem hp')
   simp only[this,decide_false]
   exact ih hn.2 hp'
end Mine
end
section
namespace Mine
open PySem
variable {G:String->Option MV}{Γ:String->Option MFun}
noncomputable def cntF (kvs:List (Int×MV)) (n:Int):List Int->List Int->List Int
 | [],_=>[]
 | k::ks,u=>if k≤n∧k∉u then k::cntF kvs n ks (match undoAt kvs k with|some j=>j::u|none=>u) else cntF kvs n ks u
theorem G1 {kvs:List (Int×MV)}{n k:Int}{ks u:List Int}:cntF kvs n (k::ks) u=if k≤n∧k∉u then k::cntF kvs n ks (match undoAt kvs k with|some j=>j::u|none=>u) else cntF kvs n ks u:=rfl
theorem look_put {l:List (Int×MV)}{j k:Int}{v:MV}:(lookI (putI l j v) k).isSome=(decide (k=j) || (lookI l k).isSome):=by
 unfold lookI putI
 simp only[Option.isSome_map,List.find?_isSome]
 split
 ·rename_i h
  simp only[List.any_eq_true,decide_eq_true_eq] at h
  rw[Bool.eq_iff_iff]
  simp only[Bool.or_eq_true,decide_eq_true_eq,List.find?_isSome]
  constructor
  ·rintro⟨x,hx,e⟩
   obtain⟨y,hy,rfl⟩:=List.mem_map.mp hx
   refine .inr ⟨y,hy,?_⟩
   split at e <;> exact e
  ·rintro (rfl|⟨x,hx,e⟩)
   ·obtain⟨x,hx,e⟩:=h
    exact⟨_,List.mem_map.mpr ⟨x,hx,rfl⟩,by split <;> exact e⟩
   ·exact⟨_,List.mem_map.mpr ⟨x,hx,rfl⟩,by split <;> exact e⟩
 ·rw[Bool.eq_iff_iff]
  simp only[Bool.or_eq_true,decide_eq_true_eq,List.find?_isSome,List.mem_append,List.mem_singleton]
  constructor
  ·rintro⟨x,hx|rfl,e⟩
   ·exact .inr ⟨x,hx,e⟩
   ·exact .inl e.symm
  ·rintro (rfl|⟨x,hx,e⟩)
   ·exact⟨_,.inr rfl,rfl⟩
   ·exact⟨x,.inl hx,e⟩
theorem put_len {l:List (Int×MV)}{j:Int}{v:MV}:(putI l j v).length≤l.length+1:=by
 unfold putI;split <;> simp
theorem Kt:∀ (l:List Int),intsOf (l.map .int)=some l
 | []=>rfl
 | i::l=>by
  have:=Kt l
  unfold intsOf at this ⊢
  rw[List.map_cons,List.mapM_cons,this];rfl
theorem J6 (l:List Int):(sortI l).length=l.length:=by unfold sortI;exact List.length_mergeSort ..
theorem bi_sortedR {fz:List Addr}{Q:MQ}{μ:MH}{v:MV}(l:List MV) (ns:List Int) (h0:isStrV v=false) (h1:items μ v=some l) (h2:intsOf l=some ns) (h3:l.length<64) (hq:∀ c,μ c=none->c∉fz->Q (.ref c) (upd μ c (.list ((sortI ns).reverse.map .int)))):biM fz .sortedR [v] Q μ:=by
 exact⟨l,ns,h0,h1,h2,h3,hq⟩
theorem bi_sorted {fz:List Addr}{Q:MQ}{μ:MH}{v:MV}(l:List MV) (ns:List Int) (h0:isStrV v=false) (h1:items μ v=some l) (h2:intsOf l=some ns) (h3:l.length<64) (hq:∀ c,μ c=none->c∉fz->Q (.ref c) (upd μ c (.list ((sortI ns).map .int)))):biM fz .sorted [v] Q μ:=by
 exact⟨l,ns,h0,h1,h2,h3,hq⟩
structure CV (b u f:Addr) (n:Int) (V:MVars):Prop where
 v0:V 0=some (.ref b)
 v1:V 1=some (.int n)
 v2:V 2=some (.ref u)
 v3:V 3=some (.ref f)
theorem CV.set {b u f:Addr}{n:Int}{V:MVars}(x:CV b u f n V) {i:Nat}(h:4≤i) (v:MV):CV b u f n (setv V i v):=
 ⟨(Q4 (by first|exact nei h rfl|decide)).trans x.v0,(Q4 (by first|exact nei h rfl|decide)).trans x.v1,(Q4 (by first|exact nei h rfl|decide)).trans x.v2,(Q4 (by first|exact nei h rfl|decide)).trans x.v3⟩
theorem H0 {Φ:CallSpec}{b u f:Addr}{n:Int}{kvs:List (Int×MV)}{fz:List Addr}{μa:MH}{R:MFlow->MVars->MH->Prop}(hnd:(kvs.map (·.1)).Nodup) (hent:∀ p∈kvs,EntOk p.2) (hb:μa b=some (.idict kvs)) (hu:μa u=none) (hf:μa f=none) (huf:u≠f) (hu':u∉fz) (hf':f∉fz) (ks:List Int):
  ∀ (V:MVars) (μ:MH) (ul:List (Int×MV)) (us fl:List Int),(∀ k∈ks,k∈kvs.map (·.1))->CV b u f n V->Ext μa μ->μ u=some (.idict ul)->(∀ k,(lookI ul k).isSome=decide (k∈us))->μ f=some (.list (fl.map .int))->ul.length+ks.length≤100->fl.length+ks.length≤100->
   (∀ V' μ',CV b u f n V'->Ext μa μ'->μ' f=some (.list ((fl++cntF kvs n ks us).map .int))->R .next V' μ')->
   loopM (.one 4) (fun vs F μ=>exs G Φ X0 [Jp] fz vs F μ) R (ks.map .int) V μ:=by
 induction ks with
 | nil=>exact fun V μ ul us fl _ x hx h1 h2 h3 _ _ h=>h V μ x hx (by show _=some (MO.list ((fl++[]).map MV.int));rw[List.append_nil];exact h3)
 | cons k ks ih=>
  intro V μ ul us fl hk x hx h1 h2 h3 hl1 hl2 h
  rw[List.map_cons,Xi]
  refine⟨_,rfl,?_⟩
  rw[List.length_cons] at hl1 hl2
  replace x:=x.set (i:=4) (by decide) (.int k)
  have v4:setv V 4 (.int k) 4=some (.int k):=Qa
  generalize setv V 4 (.int k)=V at x v4 ⊢
  have hks:∀ k∈ks,k∈kvs.map (·.1):=fun k hk'=>hk k (.tail _ hk')
  obtain⟨p,hp,hpk⟩:=List.mem_map.mp (hk k (.head _))
  have hlook:lookI kvs k=some p.2:=by rw[← hpk];exact look_mem hnd hp
  have hund:undoAt kvs k=undoOf p.2:=by unfold undoAt;rw[hlook];rfl
  have t1:∀ F:Bool->MH->Prop,F (decide (k≤n)) μ->evB G Φ (.cmp (.var 4) [.le] [.var 1]) fz V F μ:=Yx (Xa v4) (Xa x.v1) c_le
  have t2:∀ F:Bool->MH->Prop,F (!decide (k∈us)) μ->evB G Φ (.cmp (.var 4) [.notin] [.var 2]) fz V F μ:=Yx (Xa v4) (Xa x.v2) (by rw[show cmpM .notin μ (.int k) (.ref u)=(inM μ (.int k) (.ref u)).map (!·) from rfl,in_dict h1,h2];rfl)
  generalize hL:loopM (.one 4) (fun vs F μ=>exs G Φ X0 [Jp] fz vs F μ) R (ks.map .int)=L at ih ⊢
  clear hL
  have stay:¬(k≤n∧k∉us)->L V μ:=fun q=>ih V μ ul us fl hks x hx h1 h2 h3 (by exact Nat.le_of_lt (by assumption)) (by exact Nat.le_of_lt (by assumption)) fun V' μ' x' hx' hm'=>h V' μ' x' hx' (by rw[hm',G1,if_neg q])
  by_cases q1:k≤n
  rotate_left
  ·rw[decide_eq_false q1] at t1
   exact seq (Jy (Cn t1) (stay fun z=>q1 z.1))
  rw[decide_eq_true q1] at t1
  by_cases q2:k∈us
  ·rw[decide_eq_true q2] at t2
   exact seq (Jy (B1 t1 t2) (stay fun z=>z.2 q2))
  rw[decide_eq_false q2] at t2
  clear stay
  refine seq (Vo (B1 t1 t2) (seq ?_))
  clear t1 t2
  rw[U3,U8]
  refine⟨_,x.v3,D5 h3,_,v4,_,h3,hf',fit (by rw[List.length_map];exact ar119 hl2),?_⟩
  have hx2:Ext μa (upd μ f (.list (fl.map .int++[.int k]))):=fun c o e=>(Q9 (Qr e hf)).trans (hx c o e)
  have hu2:upd μ f (.list (fl.map .int++[.int k])) u=some (.idict ul):=(Q9 huf).trans h1
  have hf2:upd μ f (.list (fl.map .int++[.int k])) f=some (.list ((fl++[k]).map .int)):=by rw[Q5,List.map_append];rfl
  dsimp only[kr0]
  generalize upd μ f (.list (fl.map .int++[.int k]))=μb at hx2 hu2 hf2 ⊢
  have pw:∀ Q:MQ,Q p.2 μb->ev G Φ X0 (.idx (.var 0) (.var 4)) fz V Q μb:=Yk (Xa x.v0) (Xa v4) ((F4 (hx2 _ _ hb)).trans hlook)
  have hc:∀ (w:Option Int) (us':List Int),undoOf p.2=w->(w.elim us (·::us))=us'->fl++[k]++cntF kvs n ks us'=fl++cntF kvs n (k::ks) us:=fun w us' hw he=>by
   rw[G1,if_pos ⟨q1,q2⟩,hund,hw,List.append_assoc,← he]
   cases w <;> rfl
  rcases hent p hp with ⟨j,hj⟩|⟨s,rest,hs,hne,hok,hrl,_⟩
  ·rw[hj] at pw
   have j0:idxM μb (.tup [.str (S "undo"),.int j]) (.int 0)=some (.str (S "undo")):=by rw[Zi (Nat.le_of_ble_eq_true rfl)];rfl
   have j1:idxM μb (.tup [.str (S "undo"),.int j]) (.int 1)=some (.int j):=by rw[Zi (Nat.le_of_ble_eq_true rfl)];rfl
   refine seq (Vo (Yx (Yk pw Xj j0) Ye (by rw[K5 D1 D1,beq_self_eq_true])) (seq ⟨_,x.v2,Yk pw Xj j1 _ (Po hu2 hu' (fit (by exact ar119 hl1)) ?_)⟩))
   refine ih V _ (putI ul j (.bool true)) (j::us) (fl++[k]) hks x (fun c o e=>(Q9 (Qr e hu)).trans (hx2 c o e)) Q5 (fun k'=>?_) ((Q9 (Ne.symm huf)).trans hf2) ?_ ?_ fun V' μ' x' hx' hm'=>h V' μ' x' hx' ?_
   ·rw[look_put,h2,Bool.eq_iff_iff];simp[List.mem_cons]
   ·have:=put_len (l:=ul) (j:=j) (v:=.bool true);exact ar120 hl1 this
   ·rw[List.length_append];show fl.length+1+ks.length≤100;exact ar121 hl2
   ·rw[hm',hc (some j) (j::us) (by rw[hj];exact EntOk.undo) rfl]
  ·rw[hs] at pw
   have i0:idxM μb (.tup (.str s::rest)) (.int 0)=some (.str s):=by rw[Zi (by rw[List.length_cons];exact Nat.lt_of_le_of_lt (by assumption) (by decide))];rfl
   refine seq (Jy (Yx (Yk pw Xj i0) Ye (by rw[K5 hok D1,beq_eq_false_iff_ne.mpr hne])) ?_)
   refine ih V _ ul us (fl++[k]) hks x hx2 hu2 h2 hf2 (by exact Nat.le_of_lt (by assumption)) (by rw[List.length_append];show fl.length+1+ks.length≤100;lia) fun V' μ' x' hx' hm'=>h V' μ' x' hx' ?_
   rw[hm',hc none us (by rw[hs];exact EntOk.other hne) rfl]
noncomputable def cntOf (kvs:List (Int×MV)) (n:Int):List Int:=sortI (cntF kvs n (sortI (kvs.map (·.1))).reverse [])
theorem Aw {kvs:List (Int×MV)}{n:Int}:∀ (ks us:List Int),(cntF kvs n ks us).length≤ks.length
 | []=>fun _=>Nat.le_refl _
 | k::ks=>fun us=>by
  rw[G1]
  split
  ·simp only[List.length_cons];exact Nat.succ_le_succ (Aw ks _)
  ·exact Nat.le_succ_of_le (Aw ks us)
theorem Ki {d:Nat}{b:Addr}{n:Int}{kvs:List (Int×MV)}{fz:List Addr}{Q:MQ}{μ:MH}(hΓ:Γ "counting" = some Xg) (hd:1≤d) (hnd:(kvs.map (·.1)).Nodup) (hlen:kvs.length<64) (hent:∀ p∈kvs,EntOk p.2) (hb:μ b=some (.idict kvs))
  (h:∀ (c:Addr) (μ':MH),Ext μ μ'->μ c=none->c∉fz->μ' c=some (.list ((cntOf kvs n).map .int))->Q (.ref c) μ'):calls G Γ d "counting" [.ref b,.int n] fz Q X0 μ:=by
 refine Q8 hΓ rfl hd (seq ?_)
 ((try dsimp only[Ak,Q3,kr0,e_dict0]))
 intro u hu huz
 refine seq ?_
 ((try dsimp only[Aj,Q3,kr0,X8,Q2,List.length_nil]);(repeat (first|refine⟨fit (Nat.le_of_ble_eq_true rfl),?_⟩|dsimp only[Q3,kr0,X8,Q2,Qb,Qc])))
 intro f hf hfz
 refine seq ?_
 ((try dsimp only[Ai,Zf,Q0,Q2,Xl,Pc,Q1]);(repeat (first|refine⟨_,rfl,?_⟩|refine⟨_,(Q4 (by decide)).trans Qa,?_⟩|refine⟨_,(Q4 (by decide)).trans rfl,?_⟩|dsimp only[Zf,Q0,Q2,Xl,Pc,Q1,kr0,Qb,Qc])))
 have hf0:μ f=none:=by
  cases q:μ f with
  | none=>rfl
  | some o=>rw[Ext.upd hu _ _ q] at hf;cases hf
 have huf:u≠f:=Qr (o:=.idict []) Q5 hf
 have hbu:b≠u:=Qr hb hu
 have hbf:b≠f:=Qr hb hf0
 have hb2:upd (upd μ u (.idict [])) f (.list []) b=some (.idict kvs):=by rw[Q9 hbf,Q9 hbu];exact hb
 refine⟨Pr hb2,Pr hb2,?_⟩
 refine bi_sortedR (kvs.map fun kv=>.int kv.1) (kvs.map (·.1)) rfl ((it_k (hb2))) (by have:=Kt (kvs.map (·.1));rwa [List.map_map] at this) (by simpa using hlen) fun c hc hcz=>?_
 have hc0:μ c=none:=by
  cases q:μ c with
  | none=>rfl
  | some o=>rw[Ext.upd hf _ _ (Ext.upd hu _ _ q)] at hc;cases hc
 refine⟨.val (.ref c),((sortI (kvs.map (·.1))).reverse.map MV.int),rfl,(Gd (Q5)),fit (by simp[J6];exact ar122 hlen),?_⟩
 have hcu:u≠c:=Qr (o:=.idict []) (by rw[Q9 huf,Q5]) hc
 have hcf:f≠c:=Qr (o:=.list []) Q5 hc
 have hsl:=J6 (kvs.map (·.1))
 simp only[List.length_map] at hsl
 refine H0 (μa:=upd μ c (.list ((sortI (kvs.map (·.1))).reverse.map .int))) hnd hent (by rw[Q9 (Qr hb hc0)];exact hb) (by rw[Q9 hcu];exact hu) (by rw[Q9 hcf];exact hf0) huf (by simp[sh_v,sh_i,hcu,huz]) (by simp[sh_v,sh_i,hcf,hfz]) _ _ _ [] [] [] ?_ ⟨rfl,rfl,rfl,rfl⟩ ?_ ?_ ?_ ?_ ?_ ?_ fun V μb x hx hm=>?_
 ·intro k hk
  rw[List.mem_reverse] at hk
  unfold sortI at hk
  exact List.mem_mergeSort.mp hk
 ·intro a o e
  by_cases q:a=c
  ·subst q;rw[Q5] at e ⊢;exact e
  ·rw[Q9 q] at e ⊢
   exact Ext.upd hf _ _ (Ext.upd hu _ _ e)
 ·rw[Q9 hcu,Q9 huf,Q5]
 ·intro k;simp[lookI]
 ·rw[Q9 hcf,Q5];rfl
 ·simp;exact ar123 hlen hsl
 ·simp;lia
 ·refine seq ?_
  ((try dsimp only[Ah,Qz,kr1,kz0,Xl,Q0,Q2,Q1]);(repeat (first|refine⟨_,x.v3,?_⟩|dsimp only[Qz,kr1,kz0,Xl,Q0,Q2,Q1,kr0,Qb,Qc])))
  have hfl:=Aw (kvs:=kvs) (n:=n) (sortI (kvs.map (·.1))).reverse []
  rw[List.length_reverse,hsl] at hfl
  rw[List.nil_append] at hm
  refine bi_sorted _ (cntF kvs n (sortI (kvs.map (·.1))).reverse []) rfl ((it_l (hm))) (Kt _) (by simp;exact ar124 hlen hfl) fun c' hc' hcz'=>?_
  have xx:Ext μ μb:=(Ext.upd hc0).trans hx
  refine h c' _ (xx.trans (Ext.upd hc')) ?_ hcz' Q5
  cases q:μ c' with
  | none=>rfl
  | some o=>rw[xx _ _ q] at hc';cases hc'
end Mine
end
section
namespace Mine
open PySem
variable {G:String->Option MV}{Γ:String->Option MFun}
theorem Jb (l:List Int):(sortI l).Perm l:=List.mergeSort_perm ..
theorem Df (l:List Int):(sortI l).Pairwise (·≤·):=by
 have:=List.pairwise_mergeSort (le:=fun (a b:Int)=>decide (a≤b)) (by intro a b c;simp;solve_by_elim (maxDepth:=3) only[*,Int.le_trans,Int.lt_of_lt_of_le,Int.lt_of_le_of_lt,Int.le_of_lt]) (by intro a b;simp;exact ar23) l
 exact this.imp (by simp)
theorem sortI_uniq {a b:List Int}(ha:a.Pairwise (·≤·)) (hb:b.Pairwise (·≤·)) (h:a.Perm b):a=b:=
 h.eq_of_pairwise (fun a b _ _ x y=>by exact ar24 x y) ha hb
theorem sortI_lt {l:List Int}(h:l.Nodup):(sortI l).Pairwise (·<·):=by
 have h1:=Df l
 have h2:(sortI l).Nodup:=(Jb l).nodup_iff.mpr h
 have:=h1.and h2
 exact this.imp fun {a b} ⟨x,y⟩=>by have:a≠b:=y;exact ar125 (by assumption)
theorem eqv_str {μ:MH}{n:Nat}{s:Str}{d:PyData}(h:deep μ n (.str s)=some d):PyData.eqv d d=true:=by
 replace h:(if PyData.strOk s=true then some (PyData.str s) else none)=some d:=by cases n <;> exact h
 by_cases q:PyData.strOk s=true
 ·rw[if_pos q] at h;cases h;exact beq_self_eq_true s
 ·rw[if_neg q] at h;cases h
theorem eqv_self {μ:MH}:∀ (n:Nat) {v:MV}{d:PyData},deep μ n v=some d->PyData.eqv d d=true:=by
 have hall:∀ (n:Nat),(∀ {v:MV}{d:PyData},deep μ n v=some d->PyData.eqv d d=true)->∀ {l:List MV}{ds:List PyData},l.mapM (deep μ n)=some ds->PyData.eqvAll ds ds=true:=by
  intro n ih l
  induction l with
  | nil=>intro ds h;simp at h;subst h;rfl
  | cons v l il=>
   intro ds h
   rw[List.mapM_cons] at h
   cases h1:deep μ n v with
   | none=>rw[h1] at h;cases h
   | some d=>
    cases h2:l.mapM (deep μ n) with
    | none=>rw[h1,h2] at h;cases h
    | some es=>
     rw[h1,h2] at h
     cases h
     simp only[PyData.eqvAll,ih h1,il h2,Bool.and_self]
 intro n
 induction n with
 | zero=>
  intro v d h
  cases v with
  | none=>obtain rfl:=Option.some.inj h;rfl
  | bool b=>obtain rfl:=Option.some.inj h;cases b <;> rfl
  | int i=>obtain rfl:=Option.some.inj h;exact beq_self_eq_true i
  | str s=>exact eqv_str h
  | _=>cases h
 | succ n ih=>
  intro v d h
  cases v with
  | tup l=>
   obtain⟨ds,h',rfl⟩:=Option.map_eq_some_iff.mp h
   exact hall n ih h'
  | ref a=>
   obtain⟨l,_,h⟩:=Option.bind_eq_some_iff.mp h
   obtain⟨ds,h',rfl⟩:=Option.map_eq_some_iff.mp h
   exact hall n ih h'
  | none=>obtain rfl:=Option.some.inj h;rfl
  | bool b=>obtain rfl:=Option.some.inj h;cases b <;> rfl
  | int i=>obtain rfl:=Option.some.inj h;exact beq_self_eq_true i
  | str s=>exact eqv_str h
  | keys b=>cases h
theorem Fw {μ:MH}{v:MV}(h:∃ d,deep μ 9 v=some d):eqD μ v v=some true:=by
 obtain⟨d,h⟩:=h
 exact(Bo h h).trans (congrArg some (eqv_self 9 h))
theorem EntOk.deep {μ:MH}{e:MV}(h:EntOk e):∃ d,deep μ 9 e=some d:=by
 rcases h with ⟨j,rfl⟩|⟨s,rest,rfl,hs,ho,_,ha⟩
 ·exact⟨.tuple [.str (S "undo"),.int j],dp_t (Pd (J4 D1) (Pd dp_i rfl))⟩
 ·obtain⟨ds,hds⟩:=Fz (μ:=μ) (n:=8) ha
  exact⟨.tuple (.str s::ds),dp_t (Pd (J4 ho) hds)⟩
theorem Hk {α:Type}{f:α->Option Bool}:∀ {l:List α},(∀ x∈l,f x=some true)->l.mapM f=some (l.map fun _=>true)
 | []=>fun _=>rfl
 | x::l=>fun h=>by rw[List.mapM_cons,h x (.head _),Hk fun y hy=>h y (.tail _ hy)];rfl
theorem eq_dict {μ:MH}{b e:Addr}{kvs:List (Int×MV)}(hb:μ b=some (.idict kvs)) (he:μ e=some (.idict kvs)) (hnd:(kvs.map (·.1)).Nodup) (h:∀ p∈kvs,∃ d,deep μ 9 p.2=some d):eqM μ (.ref b) (.ref e)=some true:=by
 show eqO μ (μ b) (μ e) _=_
 rw[hb,he]
 refine(if_pos rfl).trans ?_
 rw[Hk]
 ·simp[List.all_map]
 ·intro p hp
  rw[look_mem hnd hp];exact Fw (h p hp)
theorem eqM_l {μ:MH}{p q:Addr}{l:List MV}(h:μ p=some (.list l)):eqM μ (.ref p) (.ref q)=eqD μ (.ref p) (.ref q):=congrArg (fun o=>eqO μ o (μ q) (eqD μ (.ref p) (.ref q))) h
theorem Da (kvs:List (Int×MV)) (n:Int):(cntOf kvs n).length≤kvs.length:=by
 unfold cntOf
 rw[J6]
 refine Nat.le_trans (Aw _ _) ?_
 rw[List.length_reverse,J6,List.length_map];exact Nat.le_refl _
theorem Br:∀ (l:List Bool),boolsOf (l.map .bool)=some l
 | []=>rfl
 | i::l=>by
  have:=Br l
  unfold boolsOf at this ⊢
  rw[List.map_cons,List.mapM_cons,this];rfl
end Mine
end
section
namespace Mine
open PySem
variable {G:String->Option MV}{Γ:String->Option MFun}
section
variable {μ:MH}{a b c d e:MV}
theorem ix2_0:idxM μ (.tup [a,b]) (.int 0)=some a:=(Zi (Nat.le_of_ble_eq_true rfl)).trans rfl
theorem ix2_1:idxM μ (.tup [a,b]) (.int 1)=some b:=(Zi (Nat.le_of_ble_eq_true rfl)).trans rfl
theorem ix3_0:idxM μ (.tup [a,b,c]) (.int 0)=some a:=(Zi (Nat.le_of_ble_eq_true rfl)).trans rfl
theorem ix3_2:idxM μ (.tup [a,b,c]) (.int 2)=some c:=(Zi (Nat.le_of_ble_eq_true rfl)).trans rfl
theorem Hp:idxM μ (.tup [a,b,c,d]) (.int 0)=some a:=(Zi (Nat.le_of_ble_eq_true rfl)).trans rfl
theorem ix4_1:idxM μ (.tup [a,b,c,d]) (.int 1)=some b:=(Zi (Nat.le_of_ble_eq_true rfl)).trans rfl
theorem ix4_2:idxM μ (.tup [a,b,c,d]) (.int 2)=some c:=(Zi (Nat.le_of_ble_eq_true rfl)).trans rfl
theorem ix4_3:idxM μ (.tup [a,b,c,d]) (.int 3)=some d:=(Zi (Nat.le_of_ble_eq_true rfl)).trans rfl
theorem Kq:idxM μ (.tup [a,b,c,d,e]) (.int 0)=some a:=(Zi (Nat.le_of_ble_eq_true rfl)).trans rfl
theorem ix5_1:idxM μ (.tup [a,b,c,d,e]) (.int 1)=some b:=(Zi (Nat.le_of_ble_eq_true rfl)).trans rfl
theorem ix5_2:idxM μ (.tup [a,b,c,d,e]) (.int 2)=some c:=(Zi (Nat.le_of_ble_eq_true rfl)).trans rfl
theorem ix5_3:idxM μ (.tup [a,b,c,d,e]) (.int 3)=some d:=(Zi (Nat.le_of_ble_eq_true rfl)).trans rfl
theorem ix5_4:idxM μ (.tup [a,b,c,d,e]) (.int 4)=some e:=(Zi (Nat.le_of_ble_eq_true rfl)).trans rfl
theorem Jv:PyData.strOk (S "undo")=true:=by decide +kernel
theorem Xp:PyData.strOk (S "clear")=true:=by decide +kernel
theorem Jw:PyData.strOk (S "like")=true:=by decide +kernel
theorem Yl:PyData.strOk (S "tell")=true:=by decide +kernel
theorem Ui:cmpM .eq μ (.str (S "undo")) (.str (S "undo"))=some true:=by rw[K5 Jv Jv];simp
theorem Ul:cmpM .ne μ (.str (S "undo")) (.str (S "undo"))=some false:=by
 have h:eqM μ (.str (S "undo")) (.str (S "undo"))=some true:=Ui
 exact congrArg (Option.map (!·)) h
theorem Gj:cmpM .eq μ (.str (S "undo")) (.str (S "clear"))=some false:=by rw[K5 Jv Xp];exact congrArg some (beq_eq_false_iff_ne.mpr (by decide +kernel))
theorem K8:cmpM .eq μ (.str (S "clear")) (.str (S "undo"))=some false:=by rw[K5 Xp Jv];exact congrArg some (beq_eq_false_iff_ne.mpr (by decide +kernel))
theorem K9:cmpM .ne μ (.str (S "clear")) (.str (S "undo"))=some true:=by
 have h:eqM μ (.str (S "clear")) (.str (S "undo"))=some false:=K8
 exact congrArg (Option.map (!·)) h
theorem Gk:cmpM .eq μ (.str (S "clear")) (.str (S "tell"))=some false:=by rw[K5 Xp Yl];exact congrArg some (beq_eq_false_iff_ne.mpr (by decide +kernel))
theorem Jf:cmpM .eq μ (.str (S "clear")) (.str (S "clear"))=some true:=by rw[K5 Xp Xp];simp
theorem Uk:cmpM .eq μ (.str (S "like")) (.str (S "undo"))=some false:=by rw[K5 Jw Jv];exact congrArg some (beq_eq_false_iff_ne.mpr (by decide +kernel))
theorem Un:cmpM .ne μ (.str (S "like")) (.str (S "undo"))=some true:=by
 have h:eqM μ (.str (S "like")) (.str (S "undo"))=some false:=Uk
 exact congrArg (Option.map (!·)) h
theorem Pw:cmpM .eq μ (.str (S "like")) (.str (S "tell"))=some false:=by rw[K5 Jw Yl];exact congrArg some (beq_eq_false_iff_ne.mpr (by decide +kernel))
theorem K7:cmpM .eq μ (.str (S "like")) (.str (S "clear"))=some false:=by rw[K5 Jw Xp];exact congrArg some (beq_eq_false_iff_ne.mpr (by decide +kernel))
theorem Uj:cmpM .eq μ (.str (S "tell")) (.str (S "undo"))=some false:=by rw[K5 Yl Jv];exact congrArg some (beq_eq_false_iff_ne.mpr (by decide +kernel))
theorem Um:cmpM .ne μ (.str (S "tell")) (.str (S "undo"))=some true:=by
 have h:eqM μ (.str (S "tell")) (.str (S "undo"))=some false:=Uj
 exact congrArg (Option.map (!·)) h
theorem Pv:cmpM .eq μ (.str (S "tell")) (.str (S "tell"))=some true:=by rw[K5 Yl Yl];simp
theorem O4:cmpM .eq μ (.str (S "tell")) (.str (S "clear"))=some false:=by rw[K5 Yl Xp];exact congrArg some (beq_eq_false_iff_ne.mpr (by decide +kernel))
end
inductive Ent where
 | undo (j:Int)
 | clear (nm:Str) (lo hi:Int)
 | like (nm:Str) (lo hi:Int) (nm':Str)
 | tell (nm:Str) (lo hi v:Int)
noncomputable def Ent.mv:Ent->MV
 | .undo j=>.tup [.str (S "undo"),.int j]
 | .clear nm lo hi=>.tup [.str (S "clear"),.str nm,.int lo,.int hi]
 | .like nm lo hi nm'=>.tup [.str (S "like"),.str nm,.int lo,.int hi,.str nm']
 | .tell nm lo hi v=>.tup [.str (S "tell"),.str nm,.int lo,.int hi,.int v]
noncomputable def Ent.ok:Ent->Prop
 | .undo _=>True
 | .clear nm _ _=>PyData.strOk nm=true
 | .like nm _ _ nm'=>PyData.strOk nm=true∧PyData.strOk nm'=true
 | .tell nm _ _ _=>PyData.strOk nm=true
noncomputable def Ent.good (names:List Str) (k:Int):Ent->Prop
 | .undo j=>1≤j∧j<k
 | .clear nm lo hi=>nm∈names∧0≤lo∧lo≤hi∧hi≤1000000
 | .like nm lo hi nm'=>nm∈names∧nm'∈names∧0≤lo∧lo≤hi∧hi≤1000000
 | .tell nm lo hi v=>nm∈names∧0≤lo∧lo≤hi∧hi≤1000000∧-1000000000≤v∧v≤1000000000
theorem Ent.good.ok {names:List Str}{k:Int}{e:Ent}(hn:∀ nm∈names,GoodN nm) (h:e.good names k):e.ok:=by
 cases e with
 | undo j=>trivial
 | clear nm lo hi=>exact(hn _ h.1).ok
 | like nm lo hi nm'=>exact⟨(hn _ h.1).ok,(hn _ h.2.1).ok⟩
 | tell nm lo hi v=>exact(hn _ h.1).ok
theorem Ent.ok.ent {e:Ent}(h:e.ok):EntOk e.mv:=by
 have a1:S "clear" ≠ S "undo":=by decide +kernel
 have a2:S "like" ≠ S "undo":=by decide +kernel
 have a3:S "tell" ≠ S "undo":=by decide +kernel
 have hi:∀ i,Atom (.int i):=fun i=>.inl ⟨i,rfl⟩
 cases e with
 | undo j=>exact .inl ⟨j,rfl⟩
 | clear nm lo hi'=>exact .inr ⟨_,_,rfl,a1,Xp,by simp,by simpa[hi] using .inr ⟨_,rfl,h⟩⟩
 | like nm lo hi' nm'=>
  have h1:Atom (.str nm):=.inr ⟨_,rfl,h.1⟩
  have h2:Atom (.str nm'):=.inr ⟨_,rfl,h.2⟩
  exact .inr ⟨_,_,rfl,a2,Jw,by simp,by simp[hi,h1,h2]⟩
 | tell nm lo hi' v=>exact .inr ⟨_,_,rfl,a3,Yl,by simp,by simpa[hi] using .inr ⟨_,rfl,h⟩⟩
theorem GoodE.to {names:List Str}{k:Int}{v:MV}(h:GoodE names k v):∃ e:Ent,v=e.mv∧e.good names k:=by
 rcases h with ⟨j,rfl,h⟩|⟨nm,lo,hi,rfl,h⟩|⟨nm,lo,hi,nm',rfl,h⟩|⟨nm,lo,hi,v,rfl,h⟩
 ·exact⟨.undo j,rfl,h⟩
 ·exact⟨.clear nm lo hi,rfl,h⟩
 ·exact⟨.like nm lo hi nm',rfl,h⟩
 ·exact⟨.tell nm lo hi v,rfl,h⟩
abbrev Book:=List (Int×Ent)
noncomputable def Book.mv (B:Book):List (Int×MV):=B.map fun p=>(p.1,p.2.mv)
noncomputable def Book.keys (B:Book):List Int:=B.map (·.1)
noncomputable def Book.at (B:Book) (k:Int):Option Ent:=(B.find? fun p=>p.1=k).map (·.2)
theorem Book.mv_keys (B:Book):(Book.mv B).map (·.1)=B.keys:=by simp[Book.mv,Book.keys,List.map_map,Function.comp_def]
theorem Book.mv_len (B:Book):(Book.mv B).length=B.length:=by simp[Book.mv]
theorem Book.look (B:Book) (k:Int):lookI (Book.mv B) k=(Book.at B k).map Ent.mv:=by
 unfold lookI Book.mv Book.at
 induction B with
 | nil=>rfl
 | cons p B ih=>
  simp only[List.map_cons,List.find?_cons]
  by_cases h:p.1=k
  ·simp[h]
  ·simpa[h] using ih
theorem Book.at_mem {B:Book}(hn:B.keys.Nodup) {p:Int×Ent}(hp:p∈B):Book.at B p.1=some p.2:=by
 induction B with
 | nil=>cases hp
 | cons q l ih=>
  simp only[Book.keys,List.map_cons,List.nodup_cons] at hn
  unfold Book.at
  rw[List.find?_cons]
  rcases List.mem_cons.mp hp with rfl|hp'
  ·simp
  ·have:q.1≠p.1:=fun e=>hn.1 (e▸List.mem_map_of_mem hp')
   simp only[this,decide_false]
   exact ih hn.2 hp'
theorem Book.at_some {B:Book}{k:Int}{e:Ent}(h:Book.at B k=some e):(k,e)∈B:=by
 unfold Book.at at h
 rw[Option.map_eq_some_iff] at h
 obtain⟨p,hp,rfl⟩:=h
 have h1:=List.find?_some hp
 have h2:=List.mem_of_find?_eq_some hp
 simp only[decide_eq_true_eq] at h1
 rw[← h1];exact h2
theorem Book.at_key {B:Book}{k:Int}(h:k∈B.keys):∃ e,Book.at B k=some e:=by
 unfold Book.keys at h
 obtain⟨p,hp,rfl⟩:=List.mem_map.mp h
 cases q:Book.at B p.1 with
 | some e=>exact⟨e,rfl⟩
 | none=>
  unfold Book.at at q
  rw[Option.map_eq_none_iff,List.find?_eq_none] at q
  exact absurd (by simp) (q p hp)
structure BOk (B:Book):Prop where
 nodup:B.keys.Nodup
 ok:∀ p∈B,p.2.ok
 len:B.length≤40
theorem BOk.nodup' {B:Book}(h:BOk B):((Book.mv B).map (·.1)).Nodup:=by rw[Book.mv_keys];exact h.nodup
theorem BOk.ent {B:Book}(h:BOk B):∀ p∈Book.mv B,EntOk p.2:=by
 intro p hp
 obtain⟨q,hq,rfl⟩:=List.mem_map.mp hp
 exact(h.ok q hq).ent
end Mine
end
section
namespace Mine
open PySem
variable {G:String->Option MV}{Γ:String->Option MFun}
noncomputable def Ent.sp:Ent->Option (Str×Int×Int)
 | .undo _=>none
 | .clear nm lo hi=>some (nm,lo,hi)
 | .like nm lo hi _=>some (nm,lo,hi)
 | .tell nm lo hi _=>some (nm,lo,hi)
noncomputable def about (e:Ent) (x:Str) (day:Int):Bool:=match e.sp with
 | none=>false
 | some (nm,lo,hi)=>nm == x && (decide (lo≤day) && decide (day≤hi))
theorem Pg {Φ:CallSpec}{V:MVars}{v:MV}{wd nm x:Str}{lo hi day:Int}{fz:List Addr}{μ:MH}(i0:idxM μ v (.int 0)=some (.str wd)) (k0:cmpM .ne μ (.str wd) (.str (S "undo"))=some true) (i1:idxM μ v (.int 1)=some (.str nm)) (i2:idxM μ v (.int 2)=some (.int lo)) (i3:idxM μ v (.int 3)=some (.int hi)) (hn:PyData.strOk nm=true) (hx:PyData.strOk x=true) (v0:V 0=some v) (v1:V 1=some (.str x)) (v2:V 2=some (.int day)) {R:MFlow->MVars->MH->Prop}
  (h:R (.ret (.bool (nm == x && (decide (lo≤day) && decide (day≤hi))))) V μ):ex G Φ X0 Ae fz V R μ:=by
 have c1:∀ Q:MQ,Q (.bool true) μ->ev G Φ X0 (.cmp (.idx (.var 0) (.cint 0)) [.ne] [.cstr "undo"]) fz V Q μ:=p_cmp (Yk (Xa v0) Xj i0) Ye k0
 have c2:∀ Q:MQ,Q (.bool (nm == x)) μ->ev G Φ X0 (.cmp (.idx (.var 0) (.cint 1)) [.eq] [.var 1]) fz V Q μ:=p_cmp (Yk (Xa v0) Xj i1) (Xa v1) (K5 hn hx)
 cases q1:nm == x with
 | false=>rw[q1] at h c2;exact x_rtP (Pq c1 (Iv c2)) h
 | true=>
  rw[q1] at h c2
  cases q2:decide (lo≤day) with
  | false=>rw[q2] at h;exact x_rtP (Pq c1 (Pq c2 (p_and_1 (p_cmp2_f (Yk (Xa v0) Xj i2) (Xa v2) (congrArg some q2))))) h
  | true=>rw[q2] at h;exact x_rtP (Pq c1 (Pq c2 (p_and_1 (p_cmp2_t (Yk (Xa v0) Xj i2) (Xa v2) (Yk (Xa v0) Xj i3) (congrArg some q2) c_le)))) h
theorem Go {d:Nat}{e:Ent}{x:Str}{day:Int}{fz:List Addr}{Q:MQ}{μ:MH}(hΓ:Γ "is_about" = some Xc) (hd:1≤d) (he:e.ok) (hx:PyData.strOk x=true) (h:Q (.bool (about e x day)) μ):calls G Γ d "is_about" [e.mv,.str x,.int day] fz Q X0 μ:=by
 refine Q8 hΓ rfl hd (seq ?_)
 cases e with
 | undo j=>exact x_rtP (Iv (p_cmp (Yk (Xa rfl) Xj ix2_0) Ye Ul)) h
 | clear nm lo hi=>exact Pg Hp K9 ix4_1 ix4_2 ix4_3 he hx rfl rfl rfl h
 | like nm lo hi nm'=>exact Pg Kq Un ix5_1 ix5_2 ix5_3 he.1 hx rfl rfl rfl h
 | tell nm lo hi v=>exact Pg Kq Um ix5_1 ix5_2 ix5_3 he hx rfl rfl rfl h
noncomputable def wEf (f:Str->MV):Ent->MV
 | .tell _ _ _ v=>.int v
 | .clear _ _ _=>.none
 | .like _ _ _ nm'=>f nm'
 | .undo _=>.none
noncomputable def wF (B:Book) (day:Int):List Int->Str->MV
 | [],_=>.none
 | k::r,x=>(Book.at B k).elim .none fun e=>if about e x day then wEf (wF B day r) e else wF B day r x
noncomputable def wE (B:Book) (day:Int) (r:List Int):Ent->MV:=wEf (wF B day r)
theorem wF_at {B:Book}{day k:Int}{r:List Int}{x:Str}{e:Ent}(he:Book.at B k=some e):wF B day (k::r) x=if about e x day then wE B day r e else wF B day r x:=by
 show (Book.at B k).elim _ _=_
 rw[he];rfl
theorem O1 {d:Nat}{B:Book}{b p:Addr}{l:List Int}{x:Str}{day:Int}{fz:List Addr}{Q:MQ}{μ:MH}(hΓ1:Γ "is_about" = some Xc) (hΓ:Γ "worth_by" = some Xf) (hd:2≤d) (hB:BOk B) (hb:μ b=some (.idict (Book.mv B))) (hp:μ p=some (.list (l.map .int))) (hl:∀ k∈l,k∈B.keys) (hlen:l.length≤1000) (hx:PyData.strOk x=true)
  (h:Q (wF B day l.reverse x) μ):calls G Γ d "worth_by" [.ref b,.ref p,.str x,.int day] fz Q X0 μ:=by
 refine Q8 hΓ rfl (by exact dl hd rfl) ?_
 show exs G (calls G Γ (d-1)) X0 [Uq,Zz] _ _ _ _
 generalize hR:(kz Q)=R
 have hRr:∀ v V,Q v μ->R (.ret v) V μ:=by subst hR;intro v V h;exact h
 clear hR
 refine seq ?_
 ((try dsimp only[Uq,Zf,Q0,Q2,Q1,args0,zgs,zgz]);(try simp (discharger:=decide) only[Option.some.injEq,exists_eq_left']))
 refine⟨.rev (.ref p),(l.reverse).map .int,rfl,((si_r hp).trans (congrArg some List.map_reverse.symm)),fit (by simp;exact ar126 hlen),?_⟩
 have hl':∀ k∈l.reverse,k∈B.keys:=fun k hk=>hl k (List.mem_reverse.mp hk)
 generalize l.reverse=r at h hl' ⊢
 have loop:∀ (r:List Int) (x:Str) (V:MVars),(∀ k∈r,k∈B.keys)->PyData.strOk x=true->Q (wF B day r x) μ->V 0=some (.ref b)->V 2=some (.str x)->V 3=some (.int day)->
   loopM (.one 4) (fun vs F μ=>exs G (calls G Γ (d-1)) X0 [Vs,Vr] ((Src.rev (.ref p)).held++fz) vs F μ) (kr G (calls G Γ (d-1)) X0 [Zz] fz R) (r.map .int) V μ:=by
  intro r
  induction r with
  | nil=>
   intro x V _ hx h v0 v2 v3
   simp only[List.map_nil,Za,Xi]
   refine seq ?_
   ((try dsimp only[Zz,Qz,kr1,Nv]))
   exact hRr _ _ h
  | cons k r ih=>
   intro x V hk hx h v0 v2 v3
   simp only[List.map_cons,Za,Xi]
   refine⟨_,rfl,?_⟩
   have hkr:∀ k∈r,k∈B.keys:=fun k hk'=>hk k (.tail _ hk')
   obtain⟨e,he⟩:=Book.at_key (hk k (.head _))
   have heo:=hB.ok _ (Book.at_some he)
   have w0:setv V 4 (.int k) 0=some (.ref b):=(Q4 (by first|exact nei h rfl|decide)).trans v0
   have w2:setv V 4 (.int k) 2=some (.str x):=(Q4 (by first|exact nei h rfl|decide)).trans v2
   have w3:setv V 4 (.int k) 3=some (.int day):=(Q4 (by first|exact nei h rfl|decide)).trans v3
   have w4:setv V 4 (.int k) 4=some (.int k):=Qa
   generalize setv V 4 (.int k)=V at w0 w2 w3 w4 ⊢
   generalize hL:loopM (.one 4) _ _ (r.map .int)=L at ih ⊢
   refine seq (x_asP (Yk (Xa w0) (Xa w4) (show idxM μ (.ref b) (.int k)=some e.mv by rw[F4 hb,Book.look,he];rfl)) ?_)
   (try dsimp only[kr0])
   replace w0:setv V 5 e.mv 0=some (.ref b):=(Q4 (by decide)).trans w0
   replace w2:setv V 5 e.mv 2=some (.str x):=(Q4 (by decide)).trans w2
   replace w3:setv V 5 e.mv 3=some (.int day):=(Q4 (by decide)).trans w3
   have w5:setv V 5 e.mv 5=some e.mv:=Qa
   generalize setv V 5 e.mv=V at w0 w2 w3 w5 ⊢
   have ta:∀ F:Bool->MH->Prop,F (about e x day) μ->evB G (calls G Γ (d-1)) (.call "is_about" [.var 5,.var 2,.var 3]) ((Src.rev (.ref p)).held++fz) V F μ:=fun F hF=>Ju ⟨_,w5,_,w2,_,w3,Go hΓ1 (by exact dn hd rfl) heo hx ⟨_,rfl,hF⟩⟩
   rw[wF_at he] at h
   cases q:about e x day with
   | false=>
    rw[q] at h ta
    exact seq (Jy ta (ih x V hkr hx h w0 w2 w3))
   | true=>
    rw[q] at h ta
    refine seq (Vo ta ?_)
    cases e with
    | undo j=>cases q
    | tell nm lo hi v=>exact seq (Vo (Yx (Yk (Xa w5) Xj Kq) Ye Pv) (seq (x_rtP (Yk (Xa w5) Xj ix5_4) (hRr _ _ h))))
    | clear nm lo hi=>exact seq (Jy (Yx (Yk (Xa w5) Xj Hp) Ye Gk) (seq (Vo (Yx (Yk (Xa w5) Xj Hp) Ye Jf) (seq (K6 (hRr _ _ h))))))
    | like nm lo hi nm'=>
     refine seq (Jy (Yx (Yk (Xa w5) Xj Kq) Ye Pw) (seq (Jy (Yx (Yk (Xa w5) Xj Kq) Ye K7) (seq (x_asP (Yk (Xa w5) Xj ix5_4) ?_)))))
     refine ih nm' _ hkr heo.2 h ?_ Qa ?_
     ·rw[Q4 (by decide)];exact w0
     ·rw[Q4 (by decide)];exact w3
 exact loop r x _ hl' hx h rfl rfl rfl
end Mine
end
section
namespace Mine
open PySem
variable {G:String->Option MV}{Γ:String->Option MFun}
theorem Na {kvs:List (Int×MV)}{n:Int}:∀ (ks us:List Int),(cntF kvs n ks us).Sublist ks
 | []=>fun _=>List.Sublist.refl _
 | k::ks=>fun us=>by
  simp only[G1]
  split
  ·exact(Na ks _).cons_cons k
  ·exact(Na ks us).cons k
theorem cntOf_rev (kvs:List (Int×MV)) (n:Int):cntOf kvs n=(cntF kvs n (sortI (kvs.map (·.1))).reverse []).reverse:=by
 unfold cntOf
 refine sortI_uniq (Df _) ?_ ((Jb _).trans (List.reverse_perm _).symm)
 rw[List.pairwise_reverse]
 refine List.Pairwise.sublist (Na _ _) ?_
 rw[List.pairwise_reverse]
 exact Df _
theorem Ic (kvs:List (Int×MV)) (n:Int):(cntOf kvs n).Sublist (sortI (kvs.map (·.1))):=by
 rw[cntOf_rev]
 have:=(Na (kvs:=kvs) (n:=n) (sortI (kvs.map (·.1))).reverse []).reverse
 simpa using this
end Mine
end
section
namespace Mine
open PySem
variable {G:String->Option MV}{Γ:String->Option MFun}
noncomputable def sayE (day:Int) (T:Str->MV) (e:Ent):Str->MV:=match e with
 | .undo _=>T
 | .clear nm lo hi=>if lo≤day∧day≤hi then fun x=>if x=nm then .none else T x else T
 | .like nm lo hi nm'=>if lo≤day∧day≤hi then fun x=>if x=nm then T nm' else T x else T
 | .tell nm lo hi v=>if lo≤day∧day≤hi then fun x=>if x=nm then .int v else T x else T
noncomputable def sayF (B:Book) (day:Int) (T:Str->MV) (k:Int):Str->MV:=match Book.at B k with
 | none=>T
 | some e=>sayE day T e
noncomputable def T0:Str->MV:=fun _=>.none
noncomputable def saidOf (B:Book) (n day:Int):Str->MV:=(cntOf (Book.mv B) n).foldl (sayF B day) T0
theorem wF_said {B:Book}{day:Int}:∀ (r:List Int) (x:Str),(∀ k∈r,k∈B.keys)->wF B day r x=(r.reverse.foldl (sayF B day) T0) x
 | []=>fun x _=>rfl
 | k::r=>fun x hk=>by
  obtain⟨e,he⟩:=Book.at_key (hk k (.head _))
  have ih:=fun x=>wF_said (B:=B) (day:=day) r x fun k hk'=>hk k (.tail _ hk')
  rw[List.reverse_cons,List.foldl_append,List.foldl_cons,List.foldl_nil]
  generalize r.reverse.foldl (sayF B day) T0=T at ih ⊢
  rw[wF_at he]
  unfold wE wEf sayF
  rw[he]
  simp only
  cases e with
  | undo j=>simp[about,Ent.sp,sayE,ih]
  | clear nm lo hi=>
   simp only[about,Ent.sp,sayE]
   by_cases q:lo≤day∧day≤hi
   ·rw[if_pos q]
    by_cases q2:x=nm
    ·subst q2;simp[q]
    ·have:(nm == x)=false:=beq_eq_false_iff_ne.mpr (Ne.symm q2)
     simp[this,q2,ih]
   ·rw[if_neg q]
    have:(decide (lo≤day) && decide (day≤hi))=false:=by simpa using q
    simp[this,ih]
  | like nm lo hi nm'=>
   simp only[about,Ent.sp,sayE]
   by_cases q:lo≤day∧day≤hi
   ·rw[if_pos q]
    by_cases q2:x=nm
    ·subst q2;simp[q,ih]
    ·have:(nm == x)=false:=beq_eq_false_iff_ne.mpr (Ne.symm q2)
     simp[this,q2,ih]
   ·rw[if_neg q]
    have:(decide (lo≤day) && decide (day≤hi))=false:=by simpa using q
    simp[this,ih]
  | tell nm lo hi v=>
   simp only[about,Ent.sp,sayE]
   by_cases q:lo≤day∧day≤hi
   ·rw[if_pos q]
    by_cases q2:x=nm
    ·subst q2;simp[q]
    ·have:(nm == x)=false:=beq_eq_false_iff_ne.mpr (Ne.symm q2)
     simp[this,q2,ih]
   ·rw[if_neg q]
    have:(decide (lo≤day) && decide (day≤hi))=false:=by simpa using q
    simp[this,ih]
theorem N9 {B:Book}{n:Int}{k:Int}(h:k∈cntOf (Book.mv B) n):k∈B.keys:=by
 have:=(Ic _ _).subset h
 rw[Book.mv_keys] at this
 exact(Jb _).mem_iff.mp this
theorem wF_cnt {B:Book}{n day:Int}{x:Str}:wF B day (cntOf (Book.mv B) n).reverse x=saidOf B n day x:=by
 rw[wF_said _ _ fun k hk=>N9 (List.mem_reverse.mp hk),List.reverse_reverse];rfl
noncomputable def Wth (v:MV):Prop:=v=.none∨∃ i,v=.int i
theorem sayE_wth {day:Int}{T:Str->MV}{e:Ent}(h:∀ x,Wth (T x)) (x:Str):Wth (sayE day T e x):=by
 cases e <;> simp only[sayE]
 ·exact h x
 ·split
  ·dsimp only
   split
   ·exact .inl rfl
   ·exact h x
  ·exact h x
 ·split
  ·dsimp only
   split
   ·exact h _
   ·exact h x
  ·exact h x
 ·split
  ·dsimp only
   split
   ·exact .inr ⟨_,rfl⟩
   ·exact h x
  ·exact h x
theorem sayF_wth {B:Book}{day:Int}:∀ (l:List Int) (T:Str->MV),(∀ x,Wth (T x))->∀ x,Wth (l.foldl (sayF B day) T x)
 | []=>fun _ h=>h
 | k::l=>fun T h=>sayF_wth l _ fun x=>by
  unfold sayF
  cases Book.at B k with
  | none=>exact h x
  | some e=>exact sayE_wth h x
theorem said_wth {B:Book}{n day:Int}(x:Str):Wth (saidOf B n day x):=sayF_wth _ _ (fun _=>.inl rfl) x
end Mine
end
section
namespace Mine
open PySem
variable {G:String->Option MV}{Γ:String->Option MFun}
theorem Gc {d:Nat}{B:Book}{b:Addr}{x:Str}{n day:Int}{fz:List Addr}{Q:MQ}{μ:MH}(hΓ1:Γ "is_about" = some Xc) (hΓ2:Γ "worth_by" = some Xf) (hΓ3:Γ "counting" = some Xg) (hΓ:Γ "worth_of" = some P1) (hd:3≤d) (hB:BOk B) (hb:μ b=some (.idict (Book.mv B))) (hx:PyData.strOk x=true)
  (h:∀ μ',Ext μ μ'->Q (saidOf B n day x) μ'):calls G Γ d "worth_of" [.ref b,.int n,.str x,.int day] fz Q X0 μ:=by
 refine Q8 hΓ rfl (by exact dl hd rfl) (seq ?_)
 ((try dsimp only[A2,Qz,kr1,kz0,Qf,Q0,Q2,Q1,args0,zgs,zgz]);(try simp (discharger:=decide) only[Option.some.injEq,exists_eq_left']))
 have hl:=hB.len
 have hcl:=Da (Book.mv B) n
 rw[Book.mv_len] at hcl
 refine Ki hΓ3 (by exact dn hd rfl) hB.nodup' (by rw[Book.mv_len];exact Nat.lt_of_le_of_lt (by assumption) (by decide)) hB.ent hb fun c μa xa hc hcz hm=>?_
 skip
 refine O1 hΓ1 hΓ2 (by exact dn hd rfl) hB (xa _ _ hb) hm (fun k hk=>N9 hk) (by exact ar127 hl hcl) hx ?_
 rw[wF_cnt]
 exact h _ xa
theorem Wth.deep {μ:MH}{v:MV}(h:Wth v):∃ d,deep μ 9 v=some d:=by
 rcases h with rfl|⟨i,rfl⟩
 ·exact⟨.none,dp_n⟩
 ·exact⟨.int i,dp_i⟩
end Mine
end
section
namespace Mine
open PySem
variable {G:String->Option MV}{Γ:String->Option MFun}
noncomputable def weq:MV->MV->Bool
 | .none,.none=>true
 | .int i,.int j=>i == j
 | _,_=>false
theorem eqM_wth2 {μ:MH}{v u:MV}(hv:Wth v) (hu:Wth u):eqM μ v u=some (weq v u):=by
 rcases hv with rfl|⟨i,rfl⟩ <;> rcases hu with rfl|⟨j,rfl⟩ <;> rfl
theorem last_at {μ:MH}{c:Addr}{pre:List MV}{v:MV}(h:μ c=some (.list (pre++[v]))) (hl:pre.length≤10000):idxM μ (.ref c) (.int (-1))=some v:=by
 rw[Zp h (by simp;exact Nat.le_trans (by assumption) (by decide))]
 unfold atI
 rw[if_neg (by decide),if_pos (by simp;exact ar128),show ((-1:Int)+((pre++[v]).length:Nat)).toNat=pre.length by simp;exact ar129]
 simp
theorem U6 {fz:List Addr}{t:MT}{vars:MVars}{T:MVars->(Bool->MH->Prop)->MH->Prop}{Bd:MVars->MQ->MH->Prop}{Q:MQ}{μ:MH}(p:MV->Bool) (g:MV->MV):∀ (all acc:List MV),
  (∀ v∈all,∃ vars',bindT t v vars=some vars'∧(∀ F:Bool->MH->Prop,F (p v) μ->T vars' F μ)∧∀ F:MQ,F (g v) μ->Bd vars' F μ)->
  (∀ c,μ c=none->c∉fz->Q (.ref c) (upd μ c (.list (acc++(all.filter p).map g))))->compM fz t vars T Bd Q all acc μ
 | []=>fun acc _ h=>by
  intro c hc hcz
  have:=h c hc hcz
  simpa using this
 | v::all=>fun acc hv h=>by
  obtain⟨vars',hb,hT,hB⟩:=hv v (.head _)
  refine⟨vars',hb,hT _ ?_⟩
  cases q:p v with
  | false=>
   simp only[Bool.false_eq_true,if_false]
   exact U6 p g all acc (fun u hu=>hv u (.tail _ hu)) (by simpa[List.filter_cons,q] using h)
  | true=>
   simp only[if_true]
   exact hB _ (U6 p g all (acc++[g v]) (fun u hu=>hv u (.tail _ hu)) (by simpa[List.filter_cons,q] using h))
end Mine
end
section
namespace Mine
open PySem
structure Seg (W:Type) where
 s:Int
 e:Int
 w:W
section
variable {W:Type} [DecidableEq W]
noncomputable def stR (R:List (Seg W)) (x:Seg W):List (Seg W):=match R with
 | []=>[x]
 | y::r=>if y.w=x.w then ⟨y.s,x.e,x.w⟩::r else x::y::r
inductive Part (f:Int->W) (lo:Int):Int->List (Seg W)->Prop
 | nil:Part f lo lo []
 | cons {s e:Int}{w:W}{r:List (Seg W)}:s≤e->(∀ d,s≤d->d≤e->f d=w)->(∀ y r',r=y::r'->y.w≠w)->Part f lo s r->Part f lo (e+1) (⟨s,e,w⟩::r)
noncomputable def stretch (hi:Int):List (Int×W)->List (Seg W)->List (Seg W)
 | [],R=>R
 | [(b,w)],R=>stR R ⟨b,hi,w⟩
 | (b,w)::(b',w')::r,R=>stretch hi ((b',w')::r) (stR R ⟨b,b' - 1,w⟩)
noncomputable def dayR (keep:W->Bool) (f:Int->W) (R:List (Seg W)) (d:Int):List (Seg W):=
 if keep (f d) then (match R with
  | []=>[⟨d,d,f d⟩]
  | y::r=>if y.e=d-1∧y.w=f d then ⟨y.s,d,f d⟩::r else ⟨d,d,f d⟩::y::r) else R
noncomputable def days (lo:Int) (n:Nat):List Int:=(List.range n).map fun (k:Nat)=>lo+k
variable {keep:W->Bool}
structure HiOk (low high:Int):Prop where
 ge:low≤high
 le:high≤1000000
 gap:high-low≤17
structure SegOk (f:Int->W) (lo hi:Int) (x:Seg W):Prop where
 le:x.s≤x.e
 glo:lo≤x.s
 ghi:x.e<hi
 eq:∀ d,x.s≤d->d≤x.e->f d=x.w
 pre:lo<x.s->f (x.s-1)≠x.w
 post:x.e+1<hi->f (x.e+1)≠x.w
end
end Mine
end
section
namespace Mine
open PySem
variable {G:String->Option MV}{Γ:String->Option MFun}
noncomputable def ofI:MV->Int
 | .int k=>k
 | _=>0
noncomputable def brk (low high:Int) (e:Ent):List Int:=match e.sp with
 | some (_,lo,hi)=>[lo,hi+1].filter fun d=>decide (low<d) && decide (d≤high)
 | none=>[]
theorem brk_len (low high:Int) (e:Ent):(brk low high e).length≤2:=by
 unfold brk
 split
 ·exact List.length_filter_le ..
 ·exact Nat.zero_le _
noncomputable def foundOf (B:Book) (low high:Int):List Int:=low::B.flatMap fun p=>brk low high p.2
theorem Hx (B:Book) (low high:Int):(foundOf B low high).length≤1+2*B.length:=by
 unfold foundOf
 rw[List.length_cons]
 have:∀ l:Book,(l.flatMap fun p=>brk low high p.2).length≤2*l.length:=fun l=>by
  induction l with
  | nil=>exact Nat.le_refl _
  | cons p l ih=>
   rw[List.flatMap_cons,List.length_append,List.length_cons]
   have:=brk_len low high p.2
   exact ar130 ih this
 have:=this B
 exact ar131 this
structure GV (b:Addr) (low high:Int) (c:Addr) (V:MVars):Prop where
 v0:V 0=some (.ref b)
 v1:V 1=some (.int low)
 v2:V 2=some (.int high)
 v3:V 3=some (.ref c)
theorem GV.set {b:Addr}{low high:Int}{c:Addr}{V:MVars}(y:GV b low high c V) {i:Nat}(h:4≤i) (v:MV):GV b low high c (setv V i v):=
 ⟨(Q4 (by first|exact nei h rfl|decide)).trans y.v0,(Q4 (by first|exact nei h rfl|decide)).trans y.v1,(Q4 (by first|exact nei h rfl|decide)).trans y.v2,(Q4 (by first|exact nei h rfl|decide)).trans y.v3⟩
theorem Cm {Φ:CallSpec}{B:Book}{b c:Addr}{low high:Int}{fz:List Addr}{μa:MH}{R:MFlow->MVars->MH->Prop}(hB:BOk B) (hb:μa b=some (.idict (Book.mv B))) (hc:μa c=none) (hcz:c∉fz):
  ∀ (ps:Book) (V:MVars) (μ:MH) (acc:List Int),(∀ p∈ps,p∈B)->GV b low high c V->Ext μa μ->μ c=some (.list (acc.map .int))->acc.length+2*ps.length≤1000->
   (∀ V' μ',GV b low high c V'->Ext μa μ'->μ' c=some (.list ((acc++ps.flatMap fun p=>brk low high p.2).map .int))->R .next V' μ')->
   loopM (.one 4) (fun vs F μ=>exs G Φ X0 [Zu,Ve] fz vs F μ) R (ps.map fun p=>.int p.1) V μ
 | []=>fun V μ acc _ y hx hm _ h=>by
  simp only[List.map_nil,Za,Xi]
  exact h V μ y hx (by simpa using hm)
 | p::ps=>fun V μ acc hp y hx hm hl h=>by
  simp only[List.map_cons,Za,Xi]
  refine⟨_,rfl,?_⟩
  simp only[List.length_cons] at hl
  replace y:=y.set (i:=4) (by decide) (.int p.1)
  have v4:setv V 4 (.int p.1) 4=some (.int p.1):=Qa
  generalize setv V 4 (.int p.1)=V at y v4 ⊢
  have go:∀ (V:MVars) (μ:MH) (acc:List Int),GV b low high c V->Ext μa μ->μ c=some (.list (acc.map .int))->acc.length+2*ps.length≤1000->(∀ V' μ',GV b low high c V'->Ext μa μ'->μ' c=some (.list ((acc++ps.flatMap fun p=>brk low high p.2).map .int))->R .next V' μ')->_:=fun V μ acc=>Cm (Φ:=Φ) hB hb hc hcz ps V μ acc fun p hp'=>hp p (.tail _ hp')
  generalize loopM (.one 4) _ R (ps.map fun p=>.int p.1)=L at go ⊢
  have hlook:lookI (Book.mv B) p.1=some p.2.mv:=by rw[Book.look,Book.at_mem hB.nodup (hp p (.head _))];rfl
  refine seq ?_
  ((try dsimp only[Zu,Q3,kr0,Qu,Q1]);(repeat (first|refine⟨_,y.v0,?_⟩|refine⟨_,v4,?_⟩|dsimp only[Q3,kr0,Qu,Q1,Qb,Qc])))
  refine⟨p.2.mv,by rw[F4 (hx _ _ hb)];exact hlook,?_⟩
  replace y:=y.set (i:=5) (by decide) p.2.mv
  have v5:setv V 5 p.2.mv 5=some p.2.mv:=Qa
  generalize setv V 5 p.2.mv=V at y v5 ⊢
  (try simp only[kr0,kr1,kl0,kl1,kz0])
  have fin:∀ e:Ent,e=p.2->acc++(p::ps).flatMap (fun p=>brk low high p.2)=(acc++brk low high e)++ps.flatMap (fun p=>brk low high p.2):=fun e he=>by rw[List.flatMap_cons,he,List.append_assoc]
  have main:∀ (lo hi:Int),brk low high p.2=[lo,hi+1].filter (fun d=>decide (low<d) && decide (d≤high))->(∀ μ',idxM μ' p.2.mv (.int 2)=some (.int lo))->(∀ μ',idxM μ' p.2.mv (.int 3)=some (.int hi))->
    exs G Φ X0 [Yr] fz V (kr G Φ X0 [] fz (kl L R)) μ:=by
   intro lo hi hbr i2 i3
   refine seq ?_
   rw[Yr,U8,Pc]
   refine Y4 y.v3 ⟨D5 hm,?_⟩
   refine D7 (Y7 ?_)
   ((try dsimp only[Q1,Qn,Q0,zlc,Q2,zln,Nat.reduceAdd,Qh,Q6,Qu]);(try simp (discharger:=decide) only[v5,Option.some.injEq,Zj,true_and,exists_eq_left',i3,Qb,i2]))
   refine⟨.val (.tup [.int lo,.int (hi+1)]),[.int lo,.int (hi+1)],rfl,rfl,fit (show 2≤100000 by decide),?_⟩
   refine U6 (fun v=>decide (low<ofI v) && decide (ofI v≤high)) id _ _ (fun v hv=>?_) fun c2 hc2 hcz2=>?_
   ·obtain⟨k,rfl⟩:∃ k,v=.int k:=by
     simp only[List.mem_cons,List.not_mem_nil,or_false] at hv
     rcases hv with rfl|rfl <;> exact⟨_,rfl⟩
    have w6:setv V 6 (.int k) 6=some (.int k):=Qa
    refine⟨_,rfl,fun F hF=>?_,fun F hF=>⟨_,w6,hF⟩⟩
    ((try dsimp only[Zn,Y2,Nw,Qk,Yd,Q1]);(try simp (discharger:=decide) only[Q4,y.v1,Option.some.injEq,Qa,y.v2,exists_eq_left',c_le,Cz]))
    by_cases q:low<k
    ·simp only[q,decide_true,if_true]
     have:F (decide (low<k) && decide (k≤high)) μ:=hF
     simpa only[q,decide_true,Bool.true_and] using this
    ·simp only[q,decide_false,Bool.false_eq_true,if_false]
     have:F (decide (low<k) && decide (k≤high)) μ:=hF
     simpa only[q,decide_false,Bool.false_and] using this
   ·have hcc:c≠c2:=Qr hm hc2
    have hl2:([]++([MV.int lo,.int (hi+1)].filter fun v=>decide (low<ofI v) && decide (ofI v≤high)).map id)=(brk low high p.2).map MV.int:=by
     rw[hbr,List.nil_append,List.map_id]
     rw[show [MV.int lo,MV.int (hi+1)]=[lo,hi+1].map MV.int from rfl,List.filter_map]
     rfl
    rw[hl2]
    have hbl:=brk_len low high p.2
    refine⟨acc.map .int,(brk low high p.2).map .int,Ext.upd hc2 _ _ hm,hcz,Zo Q5,hcc,fit (by simp;exact ar132 hl hbl),?_⟩
    (try dsimp only[kr0])
    refine Qt (Di ?_)
    refine go V _ (acc++brk low high p.2) y (fun b' o e=>by rw[Q9 (Qr e hc)];exact Ext.upd hc2 _ _ (hx _ _ e)) (by rw[Q5,List.map_append]) (by rw[List.length_append];exact ar133 hl hbl) fun V' μ' y' x' hm'=>h V' μ' y' x' ?_
    rw[hm',fin p.2 rfl]
  refine seq (Qi (Q7 ?_))
  cases he:p.2 with
  | undo j=>
   rw[he] at v5
   ((try dsimp only[Qp,Qu,Q6,Q1]);(repeat (first|refine⟨_,v5,?_⟩|refine⟨_,Ent.mv,?_⟩|refine⟨_,ix2_0,?_⟩|refine⟨_,Ul,?_⟩|dsimp only[Qp,Qu,Q6,Q1,kr0,Qb,Qc])))
   simp only[Bool.false_eq_true,if_false]
   skip
   refine Qt (Di (go V μ acc y hx hm (by exact ar134 hl) fun V' μ' y' x' hm'=>h V' μ' y' x' ?_))
   rw[hm',fin p.2 rfl,he]
   show some (MO.list ((acc++_).map .int))=some (MO.list (((acc++[])++_).map .int))
   rw[List.append_nil]
  | clear s lo hi=>
   have v5':=v5
   rw[he] at v5'
   rw[he] at main
   ((try dsimp only[Qp,Qu,Q6,Q1]);(repeat (first|refine⟨_,v5',?_⟩|refine⟨_,Ent.mv,?_⟩|refine⟨_,Hp,?_⟩|refine⟨_,K9,?_⟩|dsimp only[Qp,Qu,Q6,Q1,kr0,Qb,Qc])))
   simp only[if_true]
   exact main lo hi rfl (fun _=>ix4_2) (fun _=>ix4_3)
  | like s lo hi s'=>
   have v5':=v5
   rw[he] at v5'
   rw[he] at main
   ((try dsimp only[Qp,Qu,Q6,Q1]);(repeat (first|refine⟨_,v5',?_⟩|refine⟨_,Ent.mv,?_⟩|refine⟨_,Kq,?_⟩|refine⟨_,Un,?_⟩|dsimp only[Qp,Qu,Q6,Q1,kr0,Qb,Qc])))
   simp only[if_true]
   exact main lo hi rfl (fun _=>ix5_2) (fun _=>ix5_3)
  | tell s lo hi w=>
   have v5':=v5
   rw[he] at v5'
   rw[he] at main
   ((try dsimp only[Qp,Qu,Q6,Q1]);(repeat (first|refine⟨_,v5',?_⟩|refine⟨_,Ent.mv,?_⟩|refine⟨_,Kq,?_⟩|refine⟨_,Um,?_⟩|dsimp only[Qp,Qu,Q6,Q1,kr0,Qb,Qc])))
   simp only[if_true]
   exact main lo hi rfl (fun _=>ix5_2) (fun _=>ix5_3)
theorem G8 {d:Nat}{B:Book}{b:Addr}{low high:Int}{fz:List Addr}{Q:MQ}{μ:MH}(hΓ:Γ "begins_of" = some Xe) (hd:1≤d) (hB:BOk B) (hl:B.length≤30) (hb:μ b=some (.idict (Book.mv B)))
  (h:∀ (c:Addr) (μ':MH),Ext μ μ'->μ c=none->c∉fz->μ' c=some (.list ((sortI (ddup (foundOf B low high))).map .int))->Q (.ref c) μ'):calls G Γ d "begins_of" [.ref b,.int low,.int high] fz Q X0 μ:=by
 refine Q8 hΓ rfl hd (seq ?_)
 ((try dsimp only[On,Q3,kr0,X8,Q0,zlc,Q2,zln,Nat.reduceAdd,Q1,args0,zgs,zgz]);(try simp (discharger:=decide) only[Option.some.injEq,Zj,true_and,exists_eq_left']))
 intro c hc hcz
 have y:GV b low high c (setv (args0 [.ref b,.int low,.int high]) 3 (.ref c)):=⟨rfl,rfl,rfl,rfl⟩
 generalize setv (args0 [.ref b,.int low,.int high]) 3 (.ref c)=V at y ⊢
 have xa:Ext μ (upd μ c (.list [.int low])):=Ext.upd hc
 have hm:upd μ c (.list [.int low]) c=some (.list ([low].map .int)):=Q5
 generalize upd μ c (.list [.int low])=μa at xa hm ⊢
 refine seq ?_
 ((try dsimp only[Om,Zf,Q0,Q2,Q1]);(repeat (first|refine⟨_,y.v0,?_⟩|dsimp only[Zf,Q0,Q2,Q1,kr0,Qb,Qc])))
 have hit:(Book.mv B).map (fun kv=>MV.int kv.1)=B.map fun p=>.int p.1:=by unfold Book.mv;rw[List.map_map];rfl
 refine⟨.val (.ref b),B.map fun p=>.int p.1,rfl,((si_d (xa _ _ hb)).trans (congrArg some hit)),fit (by simp;exact ar135 hl),?_⟩
 have hcb:c≠b:=Ne.symm (Qr hb hc)
 refine Cm (μa:=μ) hB hb hc ?_ B V μa [low] (fun p hp=>hp) y xa hm (by simp;exact ar136 hl) fun V' μ' y' x' hm'=>?_
 ·simp only[sh_v,sh_i,List.cons_append,List.nil_append,List.mem_cons,not_or];exact⟨hcb,hcz⟩
 (try simp only[kr0,kr1,kl0,kl1,kz0])
 refine seq ?_
 ((try dsimp only[Ol,Qz,kr1,kz0,Xl,Q0,Q2,Q1]);(repeat (first|refine⟨_,y'.v3,?_⟩|dsimp only[Qz,kr1,kz0,Xl,Q0,Q2,Q1,kr0,Qb,Qc])))
 have hfl:=Hx B low high
 refine⟨_,foundOf B low high,Zo hm',Kt _,by rw[List.length_map];exact Nat.lt_of_le_of_lt hfl (by exact ar137 hl),fun c2 hc2 hcz2=>?_⟩
 refine h c2 _ (x'.trans (Ext.upd hc2)) ?_ hcz2 Q5
 cases q:μ c2 with
 | none=>rfl
 | some o=>rw[x' _ _ q] at hc2;cases hc2
end Mine
end
section
namespace Mine
open PySem
variable {G:String->Option MV}{Γ:String->Option MFun}
theorem set_last {μ:MH}{fz:List Addr}{c:Addr}{pre:List MV}{u v:MV}{Q:MH->Prop}(h:μ c=some (.list (pre++[u]))) (hf:c∉fz) (hl:pre.length≤1000) (hq:Q (upd μ c (.list (pre++[v])))):setM fz (.ref c) (.int (-1)) v Q μ:=by
 refine⟨hf,?_⟩
 rw[h]
 refine⟨fit (by simp;exact Nat.le_trans (by assumption) (by decide)),_,?_,hq⟩
 unfold setAt
 rw[if_neg (by decide),if_pos (by simp;exact ar128),show ((-1:Int)+((pre++[u]).length:Nat)).toNat=pre.length by simp;exact ar129]
 simp
noncomputable def segMV {W:Type}(enc:W->MV) (x:Seg W):MV:=.tup [.int x.s,.int x.e,enc x.w]
structure TV (p q c:Addr) (high:Int) (V:MVars):Prop where
 v0:V 0=some (.ref p)
 v1:V 1=some (.int high)
 v2:V 2=some (.ref q)
 v3:V 3=some (.ref c)
theorem TV.set {p q c:Addr}{high:Int}{V:MVars}(y:TV p q c high V) {i:Nat}(h:4≤i) (v:MV):TV p q c high (setv V i v):=
 ⟨(Q4 (by first|exact nei h rfl|decide)).trans y.v0,(Q4 (by first|exact nei h rfl|decide)).trans y.v1,(Q4 (by first|exact nei h rfl|decide)).trans y.v2,(Q4 (by first|exact nei h rfl|decide)).trans y.v3⟩
theorem Il {W:Type} [DecidableEq W] (R:List (Seg W)) (x:Seg W):(stR R x).length≤R.length+1:=by
 cases R with
 | nil=>exact Nat.le_refl _
 | cons y r=>
  show (if y.w=x.w then ({ s:=y.s,e:=x.e,w:=x.w }:Seg W)::r else x::y::r).length≤_
  split <;> simp
theorem Ij {Φ:CallSpec}{W:Type} [DecidableEq W] {enc:W->MV}(heq:∀ μ a b,cmpM .eq μ (enc a) (enc b)=some (decide (a=b))) {p q c:Addr}{high last b:Int}{w:W}{k:Nat}{bs:List Int}{ws:List W}{fz:List Addr}{V:MVars}{μ:MH}{R:List (Seg W)}{Q:MFlow->MVars->MH->Prop}
  (y:TV p q c high V) (v4:V 4=some (.int k)) (v5:V 5=some (.int last)) (hp:μ p=some (.list (bs.map .int))) (hq:μ q=some (.list (ws.map enc))) (hc:μ c=some (.list (R.reverse.map (segMV enc)))) (hcz:c∉fz) (hbl:bs.length≤1000) (hwl:ws.length≤1000) (hRl:R.length≤999) (hb:bs[k]?=some b) (hw:ws[k]?=some w)
  (h:∀ μ',(∀ a,a≠c->μ' a=μ a)->μ' c=some (.list ((stR R ⟨b,last,w⟩).reverse.map (segMV enc)))->Q .next V μ'):exs G Φ X0 [Xm] fz V Q μ:=by
 have ib:idxM μ (.ref p) (.int k)=some (.int b):=by rw[Zp hp (by rw[List.length_map];exact ar138 hbl),J5 (by exact Int.natCast_nonneg _),Int.toNat_natCast,List.getElem?_map,hb];rfl
 have iw:idxM μ (.ref q) (.int k)=some (enc w):=by rw[Zp hq (by rw[List.length_map];exact ar138 hwl),J5 (by exact Int.natCast_nonneg _),Int.toNat_natCast,List.getElem?_map,hw];rfl
 have app:stR R ⟨b,last,w⟩=⟨b,last,w⟩::R->exs G Φ X0 [Xq] fz V (kr G Φ X0 [] fz Q) μ:=fun e=>by
  refine seq ?_
  ((try dsimp only[Xq,U8,kr0,Pc,Q0,Q2,Qn,List.length_cons,List.length_nil,Nat.reduceAdd,Qu,Q1]);(try simp (discharger:=decide) only[y.v3,Option.some.injEq,y.v0,v4,v5,y.v2,Zj,true_and,exists_eq_left',iw,ib]))
  refine⟨D5 hc,_,hc,hcz,fit (by simp;exact ar139 hRl),?_⟩
  (try dsimp only[])
  refine Qt (Di (h _ (fun a ha=>Q9 ha) ?_))
  rw[Q5,e,List.reverse_cons,List.map_append];rfl
 refine seq (Qi (Ar (Q7 ?_)))
 ((try dsimp only[Q6,Xl,Q0,Q2,Q1]);(repeat (first|refine⟨_,y.v3,?_⟩|dsimp only[Q6,Xl,Q0,Q2,Q1,kr0,Qb,Qc])))
 refine Qx hc (fit (by simp;exact ar139 hRl)) ?_
 ((try dsimp only[c_gt]);(try simp (discharger:=decide) only[Option.some.injEq,exists_eq_left']))
 cases R with
 | nil=>
  simp only[List.reverse_nil,List.map_nil,List.length_nil]
  exact app rfl
 | cons z r=>
  have hc':μ c=some (.list (r.reverse.map (segMV enc)++[segMV enc z])):=by rw[hc,List.reverse_cons,List.map_append];rfl
  have hl2:(r.reverse.map (segMV enc)).length≤1000:=by simp at hRl ⊢;exact Nat.le_trans (by assumption) (by decide)
  have hgt:decide ((((z::r).reverse.map (segMV enc)).length:Int) > 0)=true:=by simp
  rw[hgt]
  simp only[if_true]
  refine Aq (Q7 ?_)
  ((try dsimp only[Qu,Q1,Q6,e_neg]);(try simp (discharger:=decide) only[y.v3,Option.some.injEq,MV.int.injEq,y.v2,v4,exists_eq_left']))
  refine⟨_,last_at hc' (by exact ar140 hl2),_,ix3_2,_,iw,_,heq _ _ _,?_⟩
  by_cases e:z.w=w
  ·simp only[e,decide_true,if_true]
   refine seq ?_
   ((try dsimp only[Zk,x_setidx,kr0,e_neg,Q6,Q1,Qn,Q0,zlc,Q2,zln,Nat.reduceAdd,Qu]);(try simp (discharger:=decide) only[y.v3,Option.some.injEq,MV.int.injEq,v5,y.v2,v4,Zj,exists_eq_left',true_and]))
   refine⟨_,last_at hc' (by exact ar140 hl2),_,ix3_0,_,iw,?_⟩
   skip
   refine set_last hc' hcz hl2 ?_
   skip
   refine Qt (Di (h _ (fun a ha=>Q9 ha) ?_))
   rw[Q5]
   show _=some (MO.list ((if z.w=w then ({ s:=z.s,e:=last,w:=w }:Seg W)::r else ⟨b,last,w⟩::z::r).reverse.map (segMV enc)))
   rw[if_pos e,List.reverse_cons,List.map_append];rfl
  ·simp only[e,decide_false,Bool.false_eq_true,if_false]
   exact app (by
    show (if z.w=w then ({ s:=z.s,e:=last,w:=w }:Seg W)::r else ⟨b,last,w⟩::z::r)=_
    rw[if_neg e])
theorem Vi {Φ:CallSpec}{W:Type} [DecidableEq W] {enc:W->MV}(heq:∀ μ a b,cmpM .eq μ (enc a) (enc b)=some (decide (a=b))) {p q c:Addr}{high:Int}{bs:List Int}{ws:List W}{fz:List Addr}{μa:MH}{Q:MFlow->MVars->MH->Prop}
  (hp:μa p=some (.list (bs.map .int))) (hq:μa q=some (.list (ws.map enc))) (hc0:μa c=none) (hcz:c∉fz) (hbl:bs.length≤900) (hwl:ws.length=bs.length):
  ∀ (m k:Nat) (V:MVars) (μ:MH) (R:List (Seg W)),k+m=bs.length->TV p q c high V->Ext μa μ->μ c=some (.list (R.reverse.map (segMV enc)))->R.length≤k->
   (∀ V' μ',TV p q c high V'->Ext μa μ'->μ' c=some (.list ((stretch high ((bs.zip ws).drop k) R).reverse.map (segMV enc)))->Q .next V' μ')->
   loopM (.one 4) (fun vs F μ=>exs G Φ X0 [Yf,Jg,Xm] fz vs F μ) Q ((List.range' k m).map fun (k:Nat)=>MV.int k) V μ
 | 0=>fun k V μ R hk y hx hm hR h=>by
  simp only[List.range'_zero,List.map_nil,Za,Xi]
  refine h V μ y hx ?_
  rw[List.drop_eq_nil_of_le (by rw[List.length_zip];exact ar141 hk)]
  exact hm
 | m+1=>fun k V μ R hk y hx hm hR h=>by
  rw[List.range'_succ,List.map_cons]
  refine⟨_,rfl,?_⟩
  replace y:=y.set (i:=4) (by decide) (.int k)
  have v4:setv V 4 (.int k) 4=some (.int k):=Qa
  generalize setv V 4 (.int k)=V at y v4 ⊢
  have go:∀ (V:MVars) (μ:MH) (R:List (Seg W)),TV p q c high V->Ext μa μ->μ c=some (.list (R.reverse.map (segMV enc)))->R.length≤k+1->(∀ V' μ',TV p q c high V'->Ext μa μ'->μ' c=some (.list ((stretch high ((bs.zip ws).drop (k+1)) R).reverse.map (segMV enc)))->Q .next V' μ')->_:=fun V μ R=>Vi (Φ:=Φ) heq hp hq hc0 hcz hbl hwl m (k+1) V μ R (by exact ar30 hk)
  generalize loopM (.one 4) _ Q ((List.range' (k+1) m).map fun (k:Nat)=>MV.int k)=L at go ⊢
  have hkb:k<bs.length:=by exact ar28 hk
  have hkw:k<ws.length:=by simp[*]
  have hb:bs[k]?=some bs[k]:=List.getElem?_eq_getElem hkb
  have hw:ws[k]?=some ws[k]:=List.getElem?_eq_getElem hkw
  have hd:(bs.zip ws).drop k=(bs[k],ws[k])::(bs.zip ws).drop (k+1):=by
   rw[List.drop_eq_getElem_cons (by rw[List.length_zip];exact ar142 hwl hk),List.getElem_zip]
  have body:∀ (last:Int) (V:MVars),TV p q c high V->V 4=some (.int k)->V 5=some (.int last)->stretch high ((bs.zip ws).drop k) R=stretch high ((bs.zip ws).drop (k+1)) (stR R ⟨bs[k],last,ws[k]⟩)->
    exs G Φ X0 [Xm] fz V (kl L Q) μ:=fun last V y v4 v5 e=>by
   refine Ij heq y v4 v5 (hx _ _ hp) (hx _ _ hq) hm hcz (by exact Nat.le_trans (by assumption) (by decide)) (by exact ar143 hbl hwl) (by exact ar144 hbl hk hR) hb hw fun μ' hk' hm'=>?_
   refine go V μ' _ y (fun a o e'=>by rw[hk' a (Qr e' hc0)];exact hx _ _ e') hm' (Nat.le_trans (Il _ _) (by exact Nat.succ_le_succ (by assumption))) fun V' μ'' y' x' hm''=>h V' μ'' y' x' ?_
   rw[hm'',e]
  clear go
  refine seq ?_
  ((try dsimp only[Yf,Q3,kr0,Q1]);(repeat (first|refine⟨_,y.v1,?_⟩|dsimp only[Q3,kr0,Q1,Qb,Qc])))
  have y5:=y.set (i:=5) (by decide) (.int high)
  have w4:setv V 5 (.int high) 4=some (.int k):=(Q4 (by first|exact nei h rfl|decide)).trans v4
  have w5:setv V 5 (.int high) 5=some (.int high):=Qa
  generalize setv V 5 (.int high)=V at y5 w4 w5 ⊢
  refine seq (Qi (Q7 ?_))
  ((try dsimp only[Xl,Q0,Q2,Q1,Qh,Q6]);(repeat (first|refine⟨_,w4,?_⟩|refine⟨_,y5.v0,?_⟩|dsimp only[Xl,Q0,Q2,Q1,Qh,Q6,Qb,kr0,Qc])))
  refine Qx (hx _ _ hp) (fit (by rw[List.length_map];exact ar145 hbl)) ?_
  rw[List.length_map]
  ((try dsimp only[Cz]);(try simp (discharger:=decide) only[Option.some.injEq,exists_eq_left']))
  by_cases hlt:k+1<bs.length
  ·have ht:decide ((k:Int)+1<(bs.length:Int))=true:=decide_eq_true (by exact Int.ofNat_lt.mpr (by assumption))
   rw[ht]
   simp only[if_true]
   have hb1:bs[k+1]?=some bs[k+1]:=List.getElem?_eq_getElem hlt
   have ib:idxM μ (.ref p) (.int ((k:Int)+1))=some (.int bs[k+1]):=by
    rw[Zp (hx _ _ hp) (by rw[List.length_map];exact Nat.le_trans (by assumption) (by decide)),J5 (by exact Int.natCast_nonneg _),show ((k:Int)+1).toNat=k+1 by rfl,List.getElem?_map,hb1];rfl
   refine seq ?_
   ((try dsimp only[Zl,Q3,kr0,Qh,Q6,Qu,Q1]);(try simp (discharger:=decide) only[y5.v0,Option.some.injEq,w4,exists_eq_left',Qb,ib,Qc]))
   skip
   refine Qt (body (bs[k+1] - 1) _ (y5.set (by decide) _) ((Q4 (by first|exact nei h rfl|decide)).trans w4) Qa ?_)
   rw[hd,List.drop_eq_getElem_cons (by rw[List.length_zip];exact ar146 hwl hlt),List.getElem_zip]
   rfl
  ·have ht:decide ((k:Int)+1<(bs.length:Int))=false:=decide_eq_false (by exact ar147 hlt)
   rw[ht]
   simp only[Bool.false_eq_true,if_false]
   skip
   refine Qt (body high V y5 w4 w5 ?_)
   rw[hd,List.drop_eq_nil_of_le (by rw[List.length_zip];exact ar148 hlt)]
   rfl
theorem Pk {d:Nat}{W:Type} [DecidableEq W] {enc:W->MV}(heq:∀ μ a b,cmpM .eq μ (enc a) (enc b)=some (decide (a=b))) {p q:Addr}{high:Int}{bs:List Int}{ws:List W}{fz:List Addr}{Q:MQ}{μ:MH}(hΓ:Γ "stretches_of" = some Qq) (hd:1≤d)
  (hp:μ p=some (.list (bs.map .int))) (hq:μ q=some (.list (ws.map enc))) (hbl:bs.length≤900) (hwl:ws.length=bs.length)
  (h:∀ (c:Addr) (μ':MH),Ext μ μ'->μ c=none->c∉fz->μ' c=some (.list ((stretch high (bs.zip ws) []).reverse.map (segMV enc)))->Q (.ref c) μ'):calls G Γ d "stretches_of" [.ref p,.int high,.ref q] fz Q X0 μ:=by
 refine Q8 hΓ rfl hd (seq ?_)
 ((try dsimp only[Kx,Q3,kr0,X8,Q2,List.length_nil]);(repeat (first|refine⟨fit (Nat.le_of_ble_eq_true rfl),?_⟩|dsimp only[Q3,kr0,X8,Q2,Qb,Qc])))
 intro c hc hcz
 have y:TV p q c high (setv (args0 [.ref p,.int high,.ref q]) 3 (.ref c)):=⟨rfl,rfl,rfl,rfl⟩
 generalize setv (args0 [.ref p,.int high,.ref q]) 3 (.ref c)=V at y ⊢
 have xa:Ext μ (upd μ c (.list [])):=Ext.upd hc
 have hm:upd μ c (.list []) c=some (.list []):=Q5
 generalize upd μ c (.list [])=μa at xa hm ⊢
 refine seq ?_
 ((try dsimp only[Kw,Zf,Q0,Q2,Xl,Q1]);(repeat (first|refine⟨_,y.v0,?_⟩|dsimp only[Zf,Q0,Q2,Xl,Q1,kr0,Qb,Qc])))
 refine Qx (xa _ _ hp) (fit (by rw[List.length_map];exact ar145 hbl)) ?_
 rw[List.length_map]
 have hin:in62 (bs.length:Int)=true:=by unfold in62;simp;exact ar149 hbl
 refine⟨.ints (rangeL 0 bs.length 1),(rangeL 0 bs.length 1).map .int,sr_of hin,rfl,fit (by rw[List.length_map,Z9];simp;exact ar145 hbl),?_⟩
 rw[Jc,Int.toNat_natCast]
 refine Vi (μa:=μ) (enc:=enc) heq hp hq hc hcz hbl hwl bs.length 0 V μa [] (Nat.zero_add _) y xa hm (Nat.le_refl _) fun V' μ' y' x' hm'=>?_
 (try simp only[kr0,kr1,kl0,kl1,kz0])
 refine seq ?_
 ((try dsimp only[Kv,Qz,kr1,kz0,Q1]);(repeat (first|refine⟨_,y'.v3,?_⟩|dsimp only[Qz,kr1,kz0,Q1,kr0,Qb,Qc])))
 rw[List.drop_zero] at hm'
 exact h c μ' x' hc hcz hm'
end Mine
end
section
namespace Mine
open PySem
variable {G:String->Option MV}{Γ:String->Option MFun}
noncomputable def encO:Option Int->MV
 | none=>.none
 | some i=>.int i
noncomputable def sO (B:Book) (n day:Int) (x:Str):Option Int:=match saidOf B n day x with
 | .int i=>some i
 | _=>none
theorem said_enc {B:Book}{n day:Int}{x:Str}:saidOf B n day x=encO (sO B n day x):=by
 unfold sO
 rcases said_wth (B:=B) (n:=n) (day:=day) x with e|⟨i,e⟩ <;> rw[e] <;> rfl
theorem encO_wth (o:Option Int):Wth (encO o):=by
 cases o with
 | none=>exact .inl rfl
 | some i=>exact .inr ⟨i,rfl⟩
theorem weq_enc (a b:Option Int):weq (encO a) (encO b)=decide (a=b):=by
 cases a with
 | none=>cases b <;> rfl
 | some i=>
  cases b with
  | none=>rfl
  | some j=>
   by_cases q:i=j
   ·subst q;exact(beq_self_eq_true i).trans (decide_eq_true rfl).symm
   ·exact(beq_eq_false_iff_ne.mpr q).trans (decide_eq_false fun z=>q (Option.some.inj z)).symm
theorem eqM_encO {μ:MH}{a b:Option Int}:eqM μ (encO a) (encO b)=some (decide (a=b)):=by rw[eqM_wth2 (encO_wth a) (encO_wth b),weq_enc]
theorem heqO (μ:MH) (a b:Option Int):cmpM .eq μ (encO a) (encO b)=some (decide (a=b)):=eqM_encO
noncomputable def bsOf (B:Book) (low high:Int):List Int:=sortI (ddup (foundOf B low high))
theorem bsOf_len (B:Book) (low high:Int):(bsOf B low high).length≤1+2*B.length:=by
 unfold bsOf
 rw[J6]
 exact Nat.le_trans (Av _) (Hx B low high)
noncomputable def Rof (B:Book) (n:Int) (x:Str) (low high:Int):List (Seg (Option Int)):=stretch high ((bsOf B low high).map fun c=>(c,sO B n c x)) []
theorem By {W:Type} [DecidableEq W] {hi:Int}:∀ (l:List (Int×W)) (R:List (Seg W)),(stretch hi l R).length≤l.length+R.length
 | []=>fun R=>Nat.le_of_eq (Nat.zero_add _).symm
 | [(b,w)]=>fun R=>by have:=Il R ⟨b,hi,w⟩;show (stR R ⟨b,hi,w⟩).length≤1+R.length;exact ar155 this
 | (b,w)::(b',w')::r=>fun R=>by
  have h1:=Il R ⟨b,b' - 1,w⟩
  have h2:=By ((b',w')::r) (stR R ⟨b,b' - 1,w⟩) (hi:=hi)
  show (stretch hi ((b',w')::r) (stR R ⟨b,b' - 1,w⟩)).length≤_
  simp only[List.length_cons] at h2 ⊢
  exact ar156 h1 h2
theorem Rof_len (B:Book) (n:Int) (x:Str) (low high:Int):(Rof B n x low high).length≤1+2*B.length:=by
 unfold Rof
 refine Nat.le_trans (By _ _) ?_
 rw[List.length_map,List.length_nil]
 exact bsOf_len B low high
noncomputable def runsL (B:Book) (n:Int) (x:Str) (low high:Int):List MV:=((Rof B n x low high).filter fun z=>z.w.isSome).reverse.map (segMV encO)
theorem Zy {d:Nat}{B:Book}{b:Addr}{x:Str}{n low high:Int}{fz:List Addr}{Q:MQ}{μ:MH}(hΓ1:Γ "is_about" = some Xc) (hΓ2:Γ "worth_by" = some Xf) (hΓ3:Γ "counting" = some Xg) (hΓ4:Γ "begins_of" = some Xe) (hΓ5:Γ "stretches_of" = some Qq) (hΓ:Γ "runs_of" = some Yh) (hd:4≤d) (hB:BOk B) (hl:B.length≤30) (hb:μ b=some (.idict (Book.mv B))) (hx:PyData.strOk x=true)
  (h:∀ (c:Addr) (μ':MH),Ext μ μ'->μ c=none->c∉fz->μ' c=some (.list (runsL B n x low high))->Q (.ref c) μ'):calls G Γ d "runs_of" [.ref b,.int n,.str x,.int low,.int high] fz Q X0 μ:=by
 refine Q8 hΓ rfl (by exact dl hd rfl) (seq ?_)
 ((try dsimp only[Cd,Q3,kr0,Qf,Q0,Q2,Q1,args0,zgs,zgz]);(try simp (discharger:=decide) only[Option.some.injEq,exists_eq_left']))
 refine G8 hΓ4 (by exact dn hd rfl) hB hl hb fun ca μa xa hc1 _ hmb=>?_
 have hbl:=bsOf_len B low high
 replace hmb:μa ca=some (.list ((bsOf B low high).map .int)):=hmb
 refine seq ?_
 ((try dsimp only[Cc,Q3,kr0,Qf,Q0,Q2,Q1]);(repeat (first|refine⟨_,rfl,?_⟩|refine⟨_,(Q4 (by decide)).trans Qa,?_⟩|refine⟨_,(Q4 (by decide)).trans rfl,?_⟩|dsimp only[Q3,kr0,Qf,Q0,Q2,Q1,Qb,Qc])))
 have hcl:=Da (Book.mv B) n
 rw[Book.mv_len] at hcl
 refine Ki hΓ3 (by exact dn hd rfl) hB.nodup' (by rw[Book.mv_len];exact Nat.lt_of_le_of_lt (by assumption) (by decide)) hB.ent (xa _ _ hb) fun cc μb xb _ _ hmc=>?_
 refine seq ?_
 rw[Cb,Q3]
 refine Y7 (Y4 (v:=.ref ca) rfl ⟨.val (.ref ca),(bsOf B low high).map .int,rfl,(Gd (xb _ _ hmb)),fit (by rw[List.length_map];exact ar157 hl hbl),?_⟩)
 have hbb:=xb _ _ (xa _ _ hb)
 refine U6 (fun _=>true) (fun v=>encO (sO B n (ofI v) x)) _ _ (fun v hv=>?_) fun cb hc3 _=>?_
 ·obtain⟨k,hk,rfl⟩:=List.mem_map.mp hv
  refine⟨_,rfl,fun F hF=>hF,fun F hF=>?_⟩
  ((try dsimp only[Qf,Q0,Q2,Q1]);(repeat (first|refine⟨_,Qa,?_⟩|refine⟨_,rfl,?_⟩|refine⟨_,(Q4 (by decide)).trans Qa,?_⟩|refine⟨_,(Q4 (by decide)).trans rfl,?_⟩|dsimp only[Qf,Q0,Q2,Q1,kr0,Qb,Qc])))
  refine O1 hΓ1 hΓ2 (by exact dn hd rfl) hB hbb hmc (fun k hk=>N9 hk) (by exact ar158 hl hcl) hx ?_
  rw[wF_cnt,said_enc]
  exact hF
 have hws:([]++(((bsOf B low high).map MV.int).filter fun _=>true).map fun v=>encO (sO B n (ofI v) x))=((bsOf B low high).map fun c=>sO B n c x).map encO:=by
  rw[List.nil_append,List.filter_eq_self.mpr (fun _ _=>rfl),List.map_map,List.map_map];rfl
 rw[hws]
 have x3:=Ext.upd (o:=.list (((bsOf B low high).map fun c=>sO B n c x).map encO)) hc3
 have hm3:upd μb cb (.list (((bsOf B low high).map fun c=>sO B n c x).map encO)) cb=some (.list (((bsOf B low high).map fun c=>sO B n c x).map encO)):=Q5
 generalize upd μb cb (.list (((bsOf B low high).map fun c=>sO B n c x).map encO))=μ3 at x3 hm3 ⊢
 (try simp only[kr0,kr1,kl0,kl1,kz0])
 refine seq ?_
 rw[C9,Qz]
 refine Y7 ?_
 ((try dsimp only[Q1,Qf,Q0,Q2]);(try simp (discharger:=decide) only[Q4,Qa,Option.some.injEq,exists_eq_left']))
 refine⟨.int high,rfl,?_⟩
 refine Pk heqO hΓ5 (by exact dn hd rfl) (x3 _ _ (xb _ _ hmb)) hm3 (by exact ar159 hl hbl) (by rw[List.length_map]) fun ce μ4 xe _ _ hm4=>?_
 have hz:(bsOf B low high).zip ((bsOf B low high).map fun c=>sO B n c x)=(bsOf B low high).map fun c=>(c,sO B n c x):=by
  have:∀ l:List Int,l.zip (l.map fun c=>sO B n c x)=l.map fun c=>(c,sO B n c x):=fun l=>by
   induction l with
   | nil=>rfl
   | cons a l ih=>simp only[List.map_cons,List.zip_cons_cons,ih]
  exact this _
 rw[hz] at hm4
 replace hm4:μ4 ce=some (.list ((Rof B n x low high).reverse.map (segMV encO))):=hm4
 have hRl:=Rof_len B n x low high
 refine⟨.val (.ref ce),(Rof B n x low high).reverse.map (segMV encO),rfl,(Gd (hm4)),fit (by simp;exact ar157 hl hRl),?_⟩
 refine U6 (fun v=>match v with | .tup [_,_,.none]=>false|_=>true) id _ _ (fun v hv=>?_) fun cg hc5 hcz5=>?_
 ·obtain⟨z,_,rfl⟩:=List.mem_map.mp hv
  refine⟨_,rfl,fun F hF=>?_,fun F hF=>⟨_,Qa,hF⟩⟩
  ((try dsimp only[segMV,Zn,Y2,Qk,Yd,Nv,Qu,Q6,Q1]);(try simp (discharger:=decide) only[Qa,Option.some.injEq,exists_eq_left',ix3_2]))
  obtain⟨zs,ze,zw⟩:=z
  cases zw with
  | none=>exact⟨false,rfl,hF⟩
  | some i=>exact⟨true,rfl,hF⟩
 have hres:([]++(((Rof B n x low high).reverse.map (segMV encO)).filter fun v=>match v with | .tup [_,_,.none]=>false|_=>true).map id)=runsL B n x low high:=by
  rw[List.nil_append,List.map_id,List.filter_map,List.filter_reverse]
  unfold runsL
  congr 2
  refine List.filter_congr fun z _=>?_
  obtain⟨zs,ze,zw⟩:=z
  cases zw <;> rfl
 rw[hres]
 have xx:=xa.trans (xb.trans (x3.trans xe))
 refine h cg _ (xx.trans (Ext.upd hc5)) ?_ hcz5 Q5
 cases q:μ cg with
 | none=>rfl
 | some o=>rw[xx _ _ q] at hc5;cases hc5
end Mine
end
section
namespace Mine
open PySem
variable {G:String->Option MV}{Γ:String->Option MFun}
noncomputable def Sub (B:Book) (ks:List Int):Book:=ks.filterMap fun k=>(Book.at B k).map fun e=>(k,e)
theorem sub_cons {B:Book}{k:Int}{ks:List Int}{e:Ent}(h:Book.at B k=some e):Sub B (k::ks)=(k,e)::Sub B ks:=by
 unfold Sub
 rw[List.filterMap_cons,h];rfl
theorem De {B:Book}{ks:List Int}(h:∀ k∈ks,k∈B.keys):(Sub B ks).keys=ks:=by
 induction ks with
 | nil=>rfl
 | cons k ks ih=>
  obtain⟨e,he⟩:=Book.at_key (h k (.head _))
  rw[sub_cons he]
  exact congrArg (k::·) (ih fun k hk=>h k (.tail _ hk))
theorem sub_mem {B:Book}{ks:List Int}{p:Int×Ent}(h:p∈Sub B ks):p∈B:=by
 obtain⟨k,_,e⟩:=List.mem_filterMap.mp h
 obtain⟨x,hx,rfl⟩:=Option.map_eq_some_iff.mp e
 exact Book.at_some hx
theorem Pj (B:Book) (ks:List Int):(Sub B ks).length≤ks.length:=List.length_filterMap_le ..
theorem sub_ok {B:Book}{ks:List Int}(hB:BOk B) (hn:ks.Nodup) (h:∀ k∈ks,k∈B.keys) (hl:ks.length≤40):BOk (Sub B ks):=
 ⟨by rw[De h];exact hn,fun p hp=>hB.ok p (sub_mem hp),Nat.le_trans (Pj B ks) hl⟩
theorem cntF_filter {kvs:List (Int×MV)}{n:Int}{ks:List Int}:∀ {u:List Int},cntF kvs n ks u=cntF kvs n (ks.filter fun k=>decide (k≤n)) u:=by
 induction ks with
 | nil=>exact rfl
 | cons k ks ih=>
  intro u
  by_cases q:k≤n
  ·rw[List.filter_cons_of_pos (by simpa using q)]
   simp only[G1]
   rw[ih,ih]
  ·rw[List.filter_cons_of_neg (by simpa using q),← ih]
   exact if_neg fun c=>q c.1
noncomputable def upTo (B:Book) (n:Int):List Int:=sortI (B.keys.filter fun k=>decide (k≤n))
theorem upTo_mem {B:Book}{n k:Int}(h:k∈upTo B n):k∈B.keys∧k≤n:=by
 have:=List.mem_filter.mp ((Jb _).mem_iff.mp h)
 exact⟨this.1,of_decide_eq_true this.2⟩
theorem upTo_lt {B:Book}{n:Int}(hB:BOk B):(upTo B n).Pairwise (·<·):=sortI_lt (hB.nodup.sublist List.filter_sublist)
theorem Vh {B:Book}{n:Int}:(upTo B n).length≤B.length:=by
 unfold upTo
 rw[J6]
 exact Nat.le_trans (List.length_filter_le ..) (Nat.le_of_eq (List.length_map _))
theorem Ps {l:List Int}(h:l.Pairwise (·<·)):l.Nodup:=List.Pairwise.imp (fun {a b} (q:a<b) (e:a=b)=>Int.lt_irrefl b (e▸q)) h
noncomputable def Agree (B B':Book) (n:Int) (x:Str) (low high:Int):Prop:=∀ d,low≤d->d≤high->sO B' n d x=sO B n d x
noncomputable def segs (B:Book) (n:Int) (x:Str) (low high:Int):List (Seg (Option Int)):=((Rof B n x low high).filter fun z=>z.w.isSome).reverse
section
variable {tst:List Int->Bool}
noncomputable def rm1 (tst:List Int->Bool) (L:List Int) (k:Int):List Int:=if tst (L.filter fun j=>decide (j≠k)) then L.filter fun j=>decide (j≠k) else L
theorem rm1_sub {L:List Int}{k:Int}:(rm1 tst L k).Sublist L:=by
 unfold rm1
 split
 ·exact List.filter_sublist
 ·exact .refl _
theorem A1 {ks:List Int}:∀ {L:List Int},(ks.foldl (rm1 tst) L).Sublist L:=by
 induction ks with
 | nil=>exact .refl _
 | cons k ks ih=>exact ih.trans rm1_sub
noncomputable def fixL (tst:List Int->Bool):Nat->List Int->List Int
 | 0,L=>L
 | m+1,L=>if (L.foldl (rm1 tst) L).length<L.length then fixL tst m (L.foldl (rm1 tst) L) else L.foldl (rm1 tst) L
theorem fixL_s {tst:List Int->Bool}{m:Nat}{L:List Int}:fixL tst (m+1) L=if (L.foldl (rm1 tst) L).length<L.length then fixL tst m (L.foldl (rm1 tst) L) else L.foldl (rm1 tst) L:=rfl
theorem fix_sub {m:Nat}:∀ {L:List Int},(fixL tst m L).Sublist L:=by
 induction m with
 | zero=>exact .refl _
 | succ m ih=>
  intro L
  rw[fixL_s]
  split
  ·exact ih.trans A1
  ·exact A1
end
end Mine
end
section
namespace Mine
open PySem
variable {G:String->Option MV}{Γ:String->Option MFun}
structure Coded {Z:Type}(enc:Z->MV) (dd:Z->PyData):Prop where
 deep:∀ μ n z,deep μ (n+2) (enc z)=some (dd z)
 eqv:∀ a b,PyData.eqv (dd a) (dd b)=true↔a=b
section
variable {Z:Type}{enc:Z->MV}{dd:Z->PyData}
theorem Coded.list (C:Coded enc dd) {μ:MH}{p:Addr}{xs:List Z}{n:Nat}(h:μ p=some (.list (xs.map enc))):Mine.deep μ (n+3) (.ref p)=some (.list (xs.map dd)):=by
 have e:(xs.map enc).mapM (Mine.deep μ (n+2))=some (xs.map dd):=by
  clear h
  induction xs with
  | nil=>rfl
  | cons x xs ih=>rw[List.map_cons,List.mapM_cons,C.deep,ih];rfl
 exact dp_l (Zo h) e
noncomputable def same (dd:Z->PyData) (xs ys:List Z):Bool:=PyData.eqvAll (xs.map dd) (ys.map dd)
theorem Coded.eqM (C:Coded enc dd) {μ:MH}{p q:Addr}{xs ys:List Z}(hp:μ p=some (.list (xs.map enc))) (hq:μ q=some (.list (ys.map enc))):eqM μ (.ref p) (.ref q)=some (same dd xs ys):=by
 exact(eqM_l hp).trans (Bo (C.list hp) (C.list hq))
end
noncomputable def dO:Option Int->PyData
 | none=>.none
 | some i=>.int i
theorem codeO:Coded encO dO:=⟨fun μ n o=>by cases o <;> rfl,fun a b=>by
 cases a with
 | none=>cases b with
  | none=>exact⟨fun _=>rfl,fun _=>rfl⟩
  | some j=>exact Iff.intro (fun h=>nomatch h) (fun h=>nomatch h)
 | some i=>cases b with
  | none=>exact Iff.intro (fun h=>nomatch h) (fun h=>nomatch h)
  | some j=>
   show (i == j)=true↔_
   rw[beq_iff_eq,Option.some.injEq]⟩
noncomputable def dS (z:Seg (Option Int)):PyData:=.tuple [.int z.s,.int z.e,dO z.w]
theorem codeS:Coded (segMV encO) dS:=⟨fun μ n z=>by
 show ([MV.int z.s,MV.int z.e,encO z.w].mapM (Mine.deep μ (n+1))).map PyData.tuple=_
 have e:Mine.deep μ (n+1) (encO z.w)=some (dO z.w):=by cases z.w <;> rfl
 rw[List.mapM_cons,List.mapM_cons,List.mapM_cons,e];rfl,fun a b=>by
 show ((a.s == b.s) && ((a.e == b.e) && (PyData.eqv (dO a.w) (dO b.w) && true)))=true↔_
 rw[Bool.and_true,Bool.and_eq_true,Bool.and_eq_true,codeO.eqv,beq_iff_eq,beq_iff_eq]
 obtain⟨s,e,w⟩:=a
 obtain⟨s',e',w'⟩:=b
 constructor
 ·rintro⟨h1,h2,h3⟩
  obtain rfl:s=s':=h1
  obtain rfl:e=e':=h2
  obtain rfl:w=w':=h3
  rfl
 ·intro h;cases h;exact⟨rfl,rfl,rfl⟩⟩
theorem sub_rows {B:Book}{ks:List Int}(h:∀ k∈ks,k∈B.keys):ks.map (fun k=>rowV (k,(lookI (Book.mv B) k).getD .none))=(Book.mv (Sub B ks)).map rowV:=by
 induction ks with
 | nil=>rfl
 | cons k ks ih=>
  obtain⟨e,he⟩:=Book.at_key (h k (.head _))
  rw[List.map_cons,ih fun k hk=>h k (.tail _ hk),sub_cons he,Book.look,he];rfl
theorem D4 {μ μa:MH}{la:Addr}(x:Ext μ μa) (hn:μa la=none):μ la=none:=by
 cases q:μ la with
 | none=>rfl
 | some o=>rw[x _ _ q] at hn;cases hn
theorem sub_new {d:Nat}{nm:String}{B:Book}{ks:List Int}{b f:Addr}{fz:List Addr}{Q:MQ}{μ:MH}(hΓ:Γ nm=some Yi) (hd:1≤d) (hk:∀ k∈ks,k∈B.keys) (hn:ks.Nodup) (hl:ks.length≤1000) (hb:μ b=some (.idict (Book.mv B))) (hf:μ f=some (.list (ks.map .int)))
  (h:∀ (c:Addr) (μ':MH),Ext μ μ'->μ c=none->c∉fz->μ' c=some (.idict (Book.mv (Sub B ks)))->Q (.ref c) μ'):calls G Γ d nm [.ref b,.ref f] fz Q X0 μ:=by
 refine Q8 hΓ rfl hd (seq ?_)
 rw[Cj,Qz,Xl]
 refine D7 (Y7 (Y4 (v:=.ref f) rfl ⟨.val (.ref f),ks.map .int,rfl,(Gd (hf)),fit (by rw[List.length_map];exact Nat.le_trans hl (by decide)),?_⟩))
 refine V5 MV.int (fun _=>true) (fun k=>rowV (k,(lookI (Book.mv B) k).getD .none)) (fun k hk'=>?_) fun ca hc1 _=>?_
 ·obtain⟨e,he⟩:=Book.at_key (hk k hk')
  have hlk:lookI (Book.mv B) k=some e.mv:=by rw[Book.look,he];rfl
  refine⟨_,rfl,fun F hF=>hF,fun F hF=>?_⟩
  ((try dsimp only[Qn,Q0,List.length_cons,Q2,List.length_nil,Nat.reduceAdd,Qu,Q1]);(try simp (discharger:=decide) only[Qa,Option.some.injEq,Q4,args0,List.getElem?_cons_zero,Zj,true_and,exists_eq_left']))
  refine⟨e.mv,by rw[F4 hb];exact hlk,?_⟩
  rw[hlk] at hF
  exact hF
 rw[List.nil_append,List.filter_eq_self.mpr fun _ _=>rfl,sub_rows hk]
 have hnd:((Book.mv (Sub B ks)).map (·.1)).Nodup:=by rw[Book.mv_keys,De hk];exact hn
 refine bi_dict_l Q5 ⟨_,Do _,fit (by rw[List.length_map,Book.mv_len];exact Nat.le_trans (Pj B ks) (Nat.le_trans hl (by decide))),fun cc hca hze=>?_⟩
 rw[put_all (by rw[List.nil_append];exact hnd),List.nil_append]
 exact h cc _ ((Ext.upd hc1).trans (Ext.upd hca)) (D4 (Ext.upd hc1) hca) hze Q5
theorem nek {j k:Int}:decide (j≠k)=!(j == k):=by
 rw[Bool.eq_iff_iff,decide_eq_true_eq,Bool.not_eq_true',beq_eq_false_iff_ne]
theorem sub_spec {d:Nat}{nm:String}{B:Book}{ks:List Int}{b f:Addr}{fz:List Addr}{Q:MQ}{μ:MH}(hΓ:Γ nm=some Yi) (hd:1≤d) (hk:∀ k∈ks,k∈B.keys) (hn:ks.Nodup) (hl:ks.length≤1000) (hb:μ b=some (.idict (Book.mv B))) (hf:μ f=some (.list (ks.map .int)))
  (h:∀ (c:Addr) (μ':MH),Ext μ μ'->μ' c=some (.idict (Book.mv (Sub B ks)))->Q (.ref c) μ'):calls G Γ d nm [.ref b,.ref f] fz Q X0 μ:=
 sub_new hΓ hd hk hn hl hb hf fun c μ' x _ _=>h c μ' x
structure New (fz:List Addr) (μ μ':MH) (la:Addr) (A:List Int):Prop where
 new:μ la=none
 free:la∉fz
 is:μ' la=some (.list (A.map .int))
theorem New.ext {fz:List Addr}{μ μa μb:MH}{la:Addr}{A:List Int}(h:New fz μ μa la A) (x:Ext μa μb):New fz μ μb la A:=⟨h.new,h.free,x _ _ h.is⟩
theorem New.of {fz:List Addr}{μ μa:MH}{la:Addr}{A:List Int}(x:Ext μ μa) (hn:μa la=none) (hz:la∉fz):New fz μ (upd μa la (.list (A.map .int))) la A:=⟨D4 x hn,hz,Q5⟩
end Mine
end
section
namespace Mine
open PySem
variable {G:String->Option MV}{Γ:String->Option MFun}
noncomputable def tst (B:Book) (n:Int) (x:Str) (low high:Int) (L:List Int):Bool:=same dS (segs (Sub B L) n x low high) (segs B n x low high)
noncomputable def hangF (B:Book) (n:Int) (x:Str) (low high:Int):List Int:=if same dS (segs B n x low high) [] then [] else fixL (tst B n x low high) 41 (upTo B n)
structure HV (b du:Addr) (n:Int) (x:Str) (low high:Int) (V:MVars):Prop where
 v0:V 0=some (.ref b)
 v1:V 1=some (.int n)
 v2:V 2=some (.str x)
 v3:V 3=some (.int low)
 v4:V 4=some (.int high)
 v5:V 5=some (.ref du)
theorem HV.set {b du:Addr}{n:Int}{x:Str}{low high:Int}{V:MVars}(y:HV b du n x low high V) {i:Nat}(h:6≤i) (v:MV):HV b du n x low high (setv V i v):=
 ⟨(Q4 (by first|exact nei h rfl|decide)).trans y.v0,(Q4 (by first|exact nei h rfl|decide)).trans y.v1,(Q4 (by first|exact nei h rfl|decide)).trans y.v2,(Q4 (by first|exact nei h rfl|decide)).trans y.v3,(Q4 (by first|exact nei h rfl|decide)).trans y.v4,(Q4 (by first|exact nei h rfl|decide)).trans y.v5⟩
structure HM (B:Book) (b du:Addr) (n:Int) (x:Str) (low high:Int) (μ:MH):Prop where
 b:μ b=some (.idict (Book.mv B))
 du:μ du=some (.list (runsL B n x low high))
theorem HM.ext {B:Book}{b du:Addr}{n:Int}{x:Str}{low high:Int}{μ μ':MH}(H:HM B b du n x low high μ) (k:Ext μ μ'):HM B b du n x low high μ':=⟨k _ _ H.b,k _ _ H.du⟩
theorem hang_for {d:Nat}{B:Book}{b du:Addr}{x:Str}{n low high:Int}{fz fz0:List Addr}{μa:MH}{R:MFlow->MVars->MH->Prop}(hΓ1:Γ "is_about" = some Xc) (hΓ2:Γ "worth_by" = some Xf) (hΓ3:Γ "counting" = some Xg) (hΓ4:Γ "begins_of" = some Xe) (hΓ5:Γ "stretches_of" = some Qq) (hΓ6:Γ "runs_of" = some Yh) (hΓ:Γ "book_of" = some Yi) (hd:4≤d) (hB:BOk B) (hl:B.length≤30) (hx:PyData.strOk x=true) (H:HM B b du n x low high μa) (hz:∀ a∈fz0,a∈fz):
  ∀ (ks:List Int) (V:MVars) (μ:MH) (A:List Int) (la:Addr) (many:Int),A.Sublist (upTo B n)->HV b du n x low high V->V 6=some (.ref la)->V 7=some (.int many)->Ext μa μ->New fz0 μa μ la A->
   (∀ V' μ' la',HV b du n x low high V'->V' 6=some (.ref la')->V' 7=some (.int many)->Ext μa μ'->New fz0 μa μ' la' (ks.foldl (rm1 (tst B n x low high)) A)->R .next V' μ')->
   loopM (.one 8) (fun vs F μ=>exs G (calls G Γ d) X0 [Z8,U2] fz vs F μ) R (ks.map .int) V μ
 | []=>fun V μ A la many _ y v6 v7 hx' hm h=>by
  simp only[List.map_nil,Za,Xi]
  exact h V μ la y v6 v7 hx' hm
 | k::ks=>fun V μ A la many hA y v6 v7 hx' hm h=>by
  simp only[List.map_cons,Za,Xi]
  refine⟨_,rfl,?_⟩
  have hkA:∀ j∈A,j∈B.keys:=fun j hj=>(upTo_mem (hA.subset hj)).1
  have hAl:A.length≤30:=Nat.le_trans hA.length_le (Nat.le_trans Vh hl)
  replace y:=y.set (i:=8) (by decide) (.int k)
  have v8:setv V 8 (.int k) 8=some (.int k):=Qa
  replace v6:setv V 8 (.int k) 6=some (.ref la):=(Q4 (by first|exact nei h rfl|decide)).trans v6
  replace v7:setv V 8 (.int k) 7=some (.int many):=(Q4 (by first|exact nei h rfl|decide)).trans v7
  generalize setv V 8 (.int k)=V at y v6 v7 v8 ⊢
  have go:∀ (V:MVars) (μ:MH) (A:List Int) (la:Addr),A.Sublist (upTo B n)->HV b du n x low high V->V 6=some (.ref la)->V 7=some (.int many)->Ext μa μ->New fz0 μa μ la A->(∀ V' μ' la',HV b du n x low high V'->V' 6=some (.ref la')->V' 7=some (.int many)->Ext μa μ'->New fz0 μa μ' la' (ks.foldl (rm1 (tst B n x low high)) A)->R .next V' μ')->_:=fun V μ A la=>hang_for (fz:=fz) hΓ1 hΓ2 hΓ3 hΓ4 hΓ5 hΓ6 hΓ hd hB hl hx H hz ks V μ A la many
  generalize loopM (.one 8) _ R (ks.map .int)=L at go ⊢
  refine seq ?_
  rw[Z8,Q3]
  refine Y7 (Y4 v6 ⟨.val (.ref la),A.map .int,rfl,(Gd (hm.is)),fit (by rw[List.length_map];exact Nat.le_trans hAl (by decide)),?_⟩)
  refine V5 MV.int (fun j=>decide (j≠k)) MV.int (fun j _=>?_) fun ca hc1 hzd=>?_
  ·have w11:setv V 11 (.int j) 11=some (.int j):=Qa
   refine⟨_,rfl,fun F hF=>?_,fun F hF=>⟨_,w11,hF⟩⟩
   ((try dsimp only[Zn,Y2,Qk,Yd,Q1]);(try simp (discharger:=decide) only[Qa,Option.some.injEq,Q4,v8,exists_eq_left',Az]))
   exact nek▸hF
  rw[List.nil_append]
  have hFs:(A.filter fun j=>decide (j≠k)).Sublist (upTo B n):=List.filter_sublist.trans hA
  have hT:rm1 (tst B n x low high) A k=if tst B n x low high (A.filter fun j=>decide (j≠k)) then A.filter fun j=>decide (j≠k) else A:=rfl
  replace h:∀ V' μ' la',HV b du n x low high V'->V' 6=some (.ref la')->V' 7=some (.int many)->Ext μa μ'->New fz0 μa μ' la' (ks.foldl (rm1 (tst B n x low high)) (rm1 (tst B n x low high) A k))->R .next V' μ':=h
  generalize A.filter (fun j=>decide (j≠k))=A' at hFs hT ⊢
  have hkF:∀ j∈A',j∈B.keys:=fun j hj=>(upTo_mem (hFs.subset hj)).1
  have hFl:A'.length≤30:=Nat.le_trans hFs.length_le (Nat.le_trans Vh hl)
  have hFn:A'.Nodup:=(Ps (upTo_lt hB)).sublist hFs
  have xa:=Ext.upd (o:=.list (A'.map .int)) hc1
  have hmb:New fz0 μa (upd μ ca (.list (A'.map .int))) ca A':=.of hx' hc1 fun m=>hzd (hz _ m)
  generalize upd μ ca (.list (A'.map .int))=μb at xa hmb ⊢
  replace hm:=hm.ext xa
  replace xa:=hx'.trans xa
  have y9:=y.set (i:=9) (by decide) (.ref ca)
  have w6:setv V 9 (.ref ca) 6=some (.ref la):=(Q4 (by first|exact nei h rfl|decide)).trans v6
  have w7:setv V 9 (.ref ca) 7=some (.int many):=(Q4 (by first|exact nei h rfl|decide)).trans v7
  have w9:setv V 9 (.ref ca) 9=some (.ref ca):=Qa
  generalize setv V 9 (.ref ca)=V at y9 w6 w7 w9 ⊢
  (try simp only[kr0,kr1,kl0,kl1,kz0])
  refine seq (Qi (Q7 ?_))
  ((try dsimp only[Q1,Qf,Q0,Q2]);(try simp (discharger:=decide) only[y9.v0,Option.some.injEq,w9,y9.v1,y9.v2,y9.v3,y9.v4,y9.v5,exists_eq_left']))
  refine sub_spec hΓ (by exact dl hd rfl) hkF hFn (Nat.le_trans hFl (by decide)) (xa _ _ H.b) hmb.is fun cc μ3 xb hmc=>?_
  skip
  refine Zy hΓ1 hΓ2 hΓ3 hΓ4 hΓ5 hΓ6 hd (sub_ok hB hFn hkF (Nat.le_trans hFl (by decide))) (Nat.le_trans (Pj B A') hFl) hmc hx fun cb μ4 x3 _ _ hm3=>?_
  skip
  have xx:=xa.trans (xb.trans x3)
  refine⟨_,codeS.eqM hm3 (xx _ _ H.du),?_⟩
  show if tst B n x low high A'=true then _ else _
  cases q:tst B n x low high A' with
  | true=>
   rw[if_pos q] at hT
   simp only[if_true]
   refine seq ?_
   ((try dsimp only[Jm,Q3,kr0,Q1]);(repeat (first|refine⟨_,w9,?_⟩|dsimp only[Q3,kr0,Q1,Qb,Qc])))
   exact Qt (Di (go _ _ A' ca hFs (y9.set (by decide) _) Qa ((Q4 (by first|exact nei h rfl|decide)).trans w7) xx ((hmb.ext xb).ext x3) (hT▸h)))
  | false=>
   rw[if_neg (by rw[q];decide)] at hT
   simp only[Bool.false_eq_true,if_false]
   exact Qt (Di (go V _ A la hA y9 w6 w7 xx ((hm.ext xb).ext x3) (hT▸h)))
end Mine
end
section
namespace Mine
open PySem
variable {G:String->Option MV}{Γ:String->Option MFun}
noncomputable def hangW (G:String->Option MV) (Φ:CallSpec) (fz:List Addr) (R:MFlow->MVars->MH->Prop) (k:Nat) (V:MVars) (μ:MH):Prop:=
 whileM (fun vs F μ=>evB G Φ (.cmp (.bi .len [(.var 6)]) [.lt] [(.var 7)]) fz vs F μ) (fun vs F μ=>exs G Φ X0 [Jo,Jn] fz vs F μ) R k V μ
theorem hang_end {Φ:CallSpec}{fz:List Addr}{R:MFlow->MVars->MH->Prop}{k:Nat}{V:MVars}{μ:MH}{A:List Int}{la:Addr}{many:Int}(hAl:A.length≤30) (hlt:¬ (A.length:Int)<many) (v6:V 6=some (.ref la)) (v7:V 7=some (.int many)) (hm:μ la=some (.list (A.map .int))) (h:R .next V μ):hangW G Φ fz R (k+1) V μ:=by
 refine Q7 ?_
 ((try dsimp only[Q1,Xl,Q0,Q2]);(try simp (discharger:=decide) only[v6,Option.some.injEq,v7,exists_eq_left']))
 refine Qx hm (fit (by rw[List.length_map];exact Nat.le_trans hAl (by decide))) ?_
 rw[List.length_map]
 ((try dsimp only[Cz]);(try simp (discharger:=decide) only[Option.some.injEq,exists_eq_left']))
 rw[decide_eq_false hlt]
 simp only[Bool.false_eq_true,if_false]
 exact h
theorem Ht {d:Nat}{B:Book}{b du:Addr}{x:Str}{n low high:Int}{fz:List Addr}{μa:MH}{R:MFlow->MVars->MH->Prop}{k:Nat}{V:MVars}{μ:MH}{A:List Int}{la:Addr}{many:Int}(hΓ1:Γ "is_about" = some Xc) (hΓ2:Γ "worth_by" = some Xf) (hΓ3:Γ "counting" = some Xg) (hΓ4:Γ "begins_of" = some Xe) (hΓ5:Γ "stretches_of" = some Qq) (hΓ6:Γ "runs_of" = some Yh) (hΓ:Γ "book_of" = some Yi) (hd:4≤d) (hB:BOk B) (hl:B.length≤30) (hx:PyData.strOk x=true) (H:HM B b du n x low high μa) (hA:A.Sublist (upTo B n)) (hlt:(A.length:Int)<many) (y:HV b du n x low high V) (v6:V 6=some (.ref la)) (v7:V 7=some (.int many)) (hx':Ext μa μ) (hm:New fz μa μ la A)
  (h:∀ V' μ' la',HV b du n x low high V'->V' 6=some (.ref la')->V' 7=some (.int A.length)->Ext μa μ'->New fz μa μ' la' (A.foldl (rm1 (tst B n x low high)) A)->hangW G (calls G Γ d) fz R k V' μ'):hangW G (calls G Γ d) fz R (k+1) V μ:=by
 have hAl:A.length≤30:=Nat.le_trans hA.length_le (Nat.le_trans Vh hl)
 refine Q7 ?_
 ((try dsimp only[Q1,Xl,Q0,Q2]);(try simp (discharger:=decide) only[v6,Option.some.injEq,v7,exists_eq_left']))
 refine Qx hm.is (fit (by rw[List.length_map];exact Nat.le_trans hAl (by decide))) ?_
 rw[List.length_map]
 ((try dsimp only[Cz]);(try simp (discharger:=decide) only[Option.some.injEq,exists_eq_left']))
 rw[decide_eq_true hlt]
 simp only[if_true]
 refine seq ?_
 ((try dsimp only[Jo,Q3,kr0,Xl,Q0,Q2,Q1]);(repeat (first|refine⟨_,v6,?_⟩|dsimp only[Q3,kr0,Xl,Q0,Q2,Q1,Qb,Qc])))
 refine Qx hm.is (fit (by rw[List.length_map];exact Nat.le_trans hAl (by decide))) ?_
 rw[List.length_map]
 replace y:=y.set (i:=7) (by decide) (.int A.length)
 replace v6:setv V 7 (.int A.length) 6=some (.ref la):=(Q4 (by first|exact nei h rfl|decide)).trans v6
 replace v7:setv V 7 (.int A.length) 7=some (.int A.length):=Qa
 clear hlt many
 generalize setv V 7 (.int A.length)=V at y v6 v7 ⊢
 (try simp only[kr0,kr1,kl0,kl1,kz0])
 refine seq ?_
 ((try dsimp only[Jn,Zf,Q0,Q2,Xl,Q1]);(repeat (first|refine⟨_,v6,?_⟩|dsimp only[Zf,Q0,Q2,Xl,Q1,kr0,Qb,Qc])))
 refine⟨A.map .int,rfl,(it_l (hm.is)),fit (by rw[List.length_map];exact Nat.le_trans hAl (by decide)),fun c hc hcz=>?_⟩
 refine⟨.val (.ref c),A.map .int,rfl,(Gd (Q5)),fit (by rw[List.length_map];exact Nat.le_trans hAl (by decide)),?_⟩
 have xa:=Ext.upd (o:=.list (A.map .int)) hc
 refine hang_for hΓ1 hΓ2 hΓ3 hΓ4 hΓ5 hΓ6 hΓ hd hB hl hx H (fun a m=>List.mem_append_right _ m) A V _ A la A.length hA y v6 v7 (hx'.trans xa) (hm.ext xa) fun V' μ' la' y' v6' v7' k' hm'=>?_
 (try simp only[kr0,kr1,kl0,kl1,kz0])
 exact Qt (h V' μ' la' y' v6' v7' k' hm')
theorem hang_while {d:Nat}{B:Book}{b du:Addr}{x:Str}{n low high:Int}{fz:List Addr}{μa:MH}{R:MFlow->MVars->MH->Prop}(hΓ1:Γ "is_about" = some Xc) (hΓ2:Γ "worth_by" = some Xf) (hΓ3:Γ "counting" = some Xg) (hΓ4:Γ "begins_of" = some Xe) (hΓ5:Γ "stretches_of" = some Qq) (hΓ6:Γ "runs_of" = some Yh) (hΓ:Γ "book_of" = some Yi) (hd:4≤d) (hB:BOk B) (hl:B.length≤30) (hx:PyData.strOk x=true) (H:HM B b du n x low high μa) {m:Nat}:
  ∀ {V:MVars}{μ:MH}{A:List Int}{la:Addr}{many:Int},A.Sublist (upTo B n)->A.length≤m->(A.length:Int)<many->HV b du n x low high V->V 6=some (.ref la)->V 7=some (.int many)->Ext μa μ->New fz μa μ la A->
   (∀ V' μ' la',V' 6=some (.ref la')->Ext μa μ'->New fz μa μ' la' (fixL (tst B n x low high) (m+1) A)->R .next V' μ')->hangW G (calls G Γ d) fz R (m+2) V μ:=by
 induction m with
 | zero=>
  intro V μ A la many hA hAm hlt y v6 v7 hx' hm h
  refine Ht hΓ1 hΓ2 hΓ3 hΓ4 hΓ5 hΓ6 hΓ hd hB hl hx H hA hlt y v6 v7 hx' hm fun V' μ' la' y' v6' v7' k' hm'=>?_
  obtain rfl:=List.length_eq_zero_iff.mp (Nat.le_zero.mp hAm)
  exact hang_end (A:=[]) (by decide) (by decide) v6' v7' hm'.is (h V' μ' la' v6' k' hm')
 | succ m ih=>
  intro V μ A la many hA hAm hlt y v6 v7 hx' hm h
  refine Ht hΓ1 hΓ2 hΓ3 hΓ4 hΓ5 hΓ6 hΓ hd hB hl hx H hA hlt y v6 v7 hx' hm fun V' μ' la' y' v6' v7' k' hm'=>?_
  have hA':(A.foldl (rm1 (tst B n x low high)) A).Sublist A:=A1
  have hf:fixL (tst B n x low high) (m+1+1) A=if (A.foldl (rm1 (tst B n x low high)) A).length<A.length then fixL (tst B n x low high) (m+1) (A.foldl (rm1 (tst B n x low high)) A) else A.foldl (rm1 (tst B n x low high)) A:=rfl
  rw[hf] at h
  generalize A.foldl (rm1 (tst B n x low high)) A=A' at hA' hm' h
  by_cases q:A'.length<A.length
  ·rw[if_pos q] at h
   exact ih (hA'.trans hA) (Nat.le_of_lt_succ (Nat.lt_of_lt_of_le q hAm)) (Int.ofNat_lt.mpr q) y' v6' v7' k' hm' h
  ·rw[if_neg q] at h
   exact hang_end (Nat.le_trans hA'.length_le (Nat.le_trans hA.length_le (Nat.le_trans Vh hl))) (fun c=>q (Int.ofNat_lt.mp c)) v6' v7' hm'.is (h V' μ' la' v6' k' hm')
theorem Gq {d:Nat}{B:Book}{b:Addr}{x:Str}{n low high:Int}{fz:List Addr}{Q:MQ}{μ:MH}(hΓ1:Γ "is_about" = some Xc) (hΓ2:Γ "worth_by" = some Xf) (hΓ3:Γ "counting" = some Xg) (hΓ4:Γ "begins_of" = some Xe) (hΓ5:Γ "stretches_of" = some Qq) (hΓ6:Γ "runs_of" = some Yh) (hΓ7:Γ "book_of" = some Yi) (hΓ:Γ "hangs_on" = some P7) (hd:5≤d) (hB:BOk B) (hl:B.length≤30) (hb:μ b=some (.idict (Book.mv B))) (hx:PyData.strOk x=true)
  (h:∀ (c:Addr) (μ':MH),Ext μ μ'->New fz μ μ' c (hangF B n x low high)->Q (.ref c) μ'):calls G Γ d "hangs_on" [.ref b,.int n,.str x,.int low,.int high] fz Q X0 μ:=by
 refine Q8 hΓ rfl (by exact dl hd rfl) (seq ?_)
 ((try dsimp only[Ag,Q3,kr0,Qf,Q0,Q2,Q1,args0,zgs,zgz]);(try simp (discharger:=decide) only[Option.some.injEq,exists_eq_left']))
 refine Zy hΓ1 hΓ2 hΓ3 hΓ4 hΓ5 hΓ6 (by exact dn hd rfl) hB hl hb hx fun du μa xa hdu0 _ hdu=>?_
 have hds:μa du=some (.list ((segs B n x low high).map (segMV encO))):=hdu
 refine seq (Qi (Q7 ?_))
 ((try dsimp only[X8,Q2,List.length_nil,Q1]);(repeat (first|refine⟨_,Qa,?_⟩|refine⟨fit (Nat.le_of_ble_eq_true rfl),?_⟩|dsimp only[X8,Q2,Q1,kr0,Qb,Qc])))
 intro cc hca _
 have xb:=Ext.upd (o:=.list []) hca
 refine⟨_,codeS.eqM (ys:=[]) (xb _ _ hds) Q5,?_⟩
 generalize upd μa cc (.list [])=μb at xb
 unfold hangF at h
 cases q:same dS (segs B n x low high) [] with
 | true=>
  rw[if_pos q] at h
  simp only[if_true]
  refine seq ?_
  ((try dsimp only[N5,Qz,kr1,kz0,X8,Q2,List.length_nil]);(repeat (first|refine⟨fit (Nat.le_of_ble_eq_true rfl),?_⟩|dsimp only[Qz,kr1,kz0,X8,Q2,kr0,Qb,Qc])))
  exact fun cb hc3 hz3=>h cb _ ((xa.trans xb).trans (Ext.upd hc3)) (.of (A:=[]) (xa.trans xb) hc3 hz3)
 | false=>
  rw[if_neg (by rw[q];decide)] at h
  simp only[Bool.false_eq_true,if_false]
  skip
  refine Qt (seq ?_)
  have H:HM B b du n x low high μb:=⟨xb _ _ (xa _ _ hb),xb _ _ hdu⟩
  have hit:(Book.mv B).map (fun kv=>MV.int kv.1)=B.keys.map .int:=by rw[← Book.mv_keys,List.map_map];rfl
  have hkl:B.keys.length≤30:=Nat.le_trans (Nat.le_of_eq (List.length_map _)) hl
  rw[Af,Q3,Xl]
  refine D7 (Y7 (Y4 (v:=.ref b) rfl ⟨.val (.ref b),B.keys.map .int,rfl,((si_d (H.b)).trans (congrArg some hit)),fit (by rw[List.length_map];exact Nat.le_trans hkl (by decide)),?_⟩))
  refine V5 MV.int (fun k=>decide (k≤n)) MV.int (fun k _=>?_) fun cb hc3 _=>?_
  ·refine⟨_,rfl,fun F hF=>?_,fun F hF=>?_⟩
   ·((try dsimp only[Zn,Y2,Qk,Yd,Q1]);(repeat (first|refine⟨_,Qa,?_⟩|refine⟨_,c_le,?_⟩|refine⟨_,rfl,?_⟩|refine⟨_,(Q4 (by decide)).trans Qa,?_⟩|refine⟨_,(Q4 (by decide)).trans rfl,?_⟩|dsimp only[Zn,Y2,Qk,Q1,kr0,Qb,Qc])))
    exact hF
   ·((try dsimp only[Q1]);(repeat (first|refine⟨_,Qa,?_⟩|dsimp only[Q1,kr0,Qb,Qc])))
    exact hF
  rw[List.nil_append]
  refine⟨(B.keys.filter fun k=>decide (k≤n)).map .int,B.keys.filter fun k=>decide (k≤n),rfl,(it_l (Q5)),Kt _,by rw[List.length_map];exact Nat.lt_of_le_of_lt (Nat.le_trans (List.length_filter_le ..) hkl) (by decide),fun ce hc4 hz4=>?_⟩
  have xe:=(Ext.upd (o:=.list ((B.keys.filter fun k=>decide (k≤n)).map .int)) hc3).trans (Ext.upd (o:=.list ((upTo B n).map .int)) hc4)
  show kr G (calls G Γ (d-1)) X0 [Uz,Uy,J3] fz (kz Q) .next _ (upd (upd μb cb _) ce (.list ((upTo B n).map .int)))
  have hm4:New fz μb (upd (upd μb cb (.list ((B.keys.filter fun k=>decide (k≤n)).map .int))) ce (.list ((upTo B n).map .int))) ce (upTo B n):=.of (Ext.upd hc3) hc4 hz4
  generalize upd (upd μb cb (.list ((B.keys.filter fun k=>decide (k≤n)).map .int))) ce (.list ((upTo B n).map .int))=μ3 at xe hm4 ⊢
  have hul:(upTo B n).length≤30:=Nat.le_trans Vh hl
  refine seq ?_
  ((try dsimp only[Uz,Q3,kr0,Qh,Q6,Xl,Q0,Q2,Q1]);(repeat (first|refine⟨_,Qa,?_⟩|dsimp only[Q3,kr0,Qh,Q6,Xl,Q0,Q2,Q1,Qb,Qc])))
  refine Qx hm4.is (fit (by rw[List.length_map];exact Nat.le_trans hul (by decide))) ?_
  rw[List.length_map]
  ((try dsimp only[Qb]))
  have fin:∀ V:MVars,HV b du n x low high V->V 6=some (.ref ce)->V 7=some (.int ((upTo B n).length+1))->exs G (calls G Γ (d-1)) X0 [Uy,J3] fz V (kz Q) μ3:=fun V y v6 v7=>by
   refine seq ?_
   refine⟨42,hang_while (m:=40) hΓ1 hΓ2 hΓ3 hΓ4 hΓ5 hΓ6 hΓ7 (by exact dn hd rfl) hB hl hx H (.refl _) (Nat.le_trans hul (by decide)) (Int.lt_succ _) y v6 v7 xe hm4 fun V' μ' la' v6' k' hm'=>?_⟩
   (try simp only[kr0,kr1,kl0,kl1,kz0])
   refine seq ?_
   ((try dsimp only[J3,Qz,kr1,kz0,Q1]);(repeat (first|refine⟨_,v6',?_⟩|dsimp only[Qz,kr1,kz0,Q1,kr0,Qb,Qc])))
   have xx:=xa.trans xb
   refine h la' μ' (xx.trans k') ⟨D4 xx hm'.new,hm'.free,hm'.is⟩
  exact fin _ ⟨rfl,rfl,rfl,rfl,rfl,rfl⟩ rfl rfl
end Mine
end
section
namespace Mine
open PySem
variable {G:String->Option MV}{Γ:String->Option MFun}
noncomputable def Ent.nu:Ent->Bool
 | .undo _=>false
 | _=>true
noncomputable def nuAt (B:Book) (k:Int):Bool:=match Book.at B k with
 | some e=>e.nu
 | none=>true
noncomputable def left0 (B:Book) (n:Int):List Int:=(cntOf (Book.mv B) n).filter (nuAt B)
theorem cnt_lt {B:Book}{n:Int}(hB:BOk B):(cntOf (Book.mv B) n).Pairwise (·<·):=by
 have:=Ic (Book.mv B) n
 rw[Book.mv_keys] at this
 exact(sortI_lt hB.nodup).sublist this
theorem cnt_le {B:Book}{n k:Int}(h:k∈cntOf (Book.mv B) n):k≤n:=by
 unfold cntOf at h
 have h:=(Jb _).mem_iff.mp h
 rw[cntF_filter] at h
 exact of_decide_eq_true (List.mem_filter.mp ((Na _ _).subset h)).2
theorem Dx {B:Book}{n:Int}(hB:BOk B):(left0 B n).Pairwise (·<·):=(cnt_lt hB).sublist List.filter_sublist
theorem B7 {B:Book}{n k:Int}(h:k∈left0 B n):k∈B.keys∧k≤n∧nuAt B k=true:=by
 obtain⟨h1,h2⟩:=List.mem_filter.mp h
 exact⟨N9 h1,cnt_le h1,h2⟩
theorem J7 {B:Book}{n:Int}:(left0 B n).length≤B.length:=by
 refine Nat.le_trans (List.length_filter_le ..) ?_
 have:=Da (Book.mv B) n
 rwa [Book.mv_len] at this
noncomputable def entNames (B:Book):List Str:=B.filterMap fun p=>p.2.sp.map (·.1)
noncomputable def lastDay:Int:=1000000
noncomputable def dL (l:List (Seg (Option Int))):PyData:=.list (l.map dS)
noncomputable def tstN (B:Book) (n:Int) (N:List Str) (L:List Int):Bool:=same dL (N.map fun x=>segs (Sub B L) n x 0 1000000) (N.map fun x=>segs B n x 0 1000000)
noncomputable def shortL (B:Book) (n:Int):List Int:=fixL (tstN B n (entNames B)) 41 (left0 B n)
structure ShortOk (B:Book) (n:Int) (L:List Int):Prop where
 sub:L.Sublist (left0 B n)
 agree:∀ x,Agree B (Sub B L) n x 0 1000000
 min:∀ k∈L,∃ x∈entNames B,¬ Agree B (Sub B (L.filter fun j=>decide (j≠k))) n x 0 1000000
structure DaysOk (B:Book) (D:List Int):Prop where
 rng:∀ d∈D,0≤d∧d≤1000000
 all:∀ c∈bsOf B 0 1000000,c∈D
end Mine
end
section
namespace Mine
open PySem
variable {G:String->Option MV}{Γ:String->Option MFun}
section
variable {Z:Type}{enc:Z->MV}{dd:Z->PyData}
inductive At (enc:Z->MV) (μ:MH):List Addr->List (List Z)->Prop
 | nil:At enc μ [] []
 | cons {r:Addr}{xs:List Z}{rs:List Addr}{xss:List (List Z)}:μ r=some (.list (xs.map enc))->At enc μ rs xss->At enc μ (r::rs) (xs::xss)
theorem At.ext {μ μ':MH}{rs:List Addr}{xss:List (List Z)}(h:At enc μ rs xss) (x:Ext μ μ'):At enc μ' rs xss:=by
 induction h with
 | nil=>exact .nil
 | cons e _ ih=>exact .cons (x _ _ e) ih
theorem At.snoc {μ:MH}{rs:List Addr}{xss:List (List Z)}(h:At enc μ rs xss) {r:Addr}{xs:List Z}(e:μ r=some (.list (xs.map enc))):At enc μ (rs++[r]) (xss++[xs]):=by
 induction h with
 | nil=>exact .cons e .nil
 | cons e' _ ih=>exact .cons e' ih
noncomputable def Nest (enc:Z->MV) (μ:MH) (c:Addr) (xss:List (List Z)):Prop:=∃ rs:List Addr,μ c=some (.list (rs.map .ref))∧At enc μ rs xss
theorem Nest.ext {μ μ':MH}{c:Addr}{xss:List (List Z)}(h:Nest enc μ c xss) (x:Ext μ μ'):Nest enc μ' c xss:=by
 obtain⟨rs,h1,h2⟩:=h
 exact⟨rs,x _ _ h1,h2.ext x⟩
theorem Nest.deep {μ:MH}{c:Addr}{xss:List (List Z)}(C:Coded enc dd) (h:Nest enc μ c xss):deep μ 9 (.ref c)=some (.list (xss.map fun xs=>.list (xs.map dd)))∧∃ l,μ c=some (.list l):=by
 obtain⟨rs,h1,h2⟩:=h
 have e:(rs.map MV.ref).mapM (Mine.deep μ 8)=some (xss.map fun xs=>PyData.list (xs.map dd)):=by
  clear h1
  induction h2 with
  | nil=>rfl
  | cons e _ ih=>rw[List.map_cons,List.mapM_cons,C.list (n:=5) e,ih];rfl
 refine⟨?_,_,h1⟩
 exact dp_l (Zo h1) e
theorem Nest.eqM {μ:MH}{c c':Addr}{xss yss:List (List Z)}(C:Coded enc dd) (h:Nest enc μ c xss) (h':Nest enc μ c' yss):eqM μ (.ref c) (.ref c')=some (same (fun xs=>PyData.list (xs.map dd)) xss yss):=by
 obtain⟨d1,l1,e1⟩:=h.deep C
 obtain⟨d2,l2,e2⟩:=h'.deep C
 exact(eqM_l e1).trans (Bo d1 d2)
theorem comp_nest {I:Type}{fz:List Addr}{t:MT}{vars:MVars}{T:MVars->(Bool->MH->Prop)->MH->Prop}{Bd:MVars->MQ->MH->Prop}{Q:MQ}{μa:MH}(encI:I->MV) (val:I->List Z) {is:List I}:∀ {acc:List Addr}{xss:List (List Z)}{μ:MH},Ext μa μ->At enc μ acc xss->
  (∀ i∈is,∃ vars',bindT t (encI i) vars=some vars'∧∀ μ,Ext μa μ->(∀ F:Bool->MH->Prop,F true μ->T vars' F μ)∧∀ F:MQ,(∀ c μ',Ext μ μ'->μ' c=some (.list ((val i).map enc))->F (.ref c) μ')->Bd vars' F μ)->
  (∀ c μ',Ext μa μ'->Nest enc μ' c (xss++is.map val)->Q (.ref c) μ')->compM fz t vars T Bd Q (is.map encI) (acc.map .ref) μ:=by
 induction is with
 | nil=>
  intro acc xss μ x ha _ h c hc hcz
  rw[List.map_nil,List.append_nil] at h
  exact h c _ (x.trans (Ext.upd hc)) ⟨acc,Q5,ha.ext (Ext.upd hc)⟩
 | cons i is ih=>
  intro acc xss μ x ha hv h
  obtain⟨vars',hb,hv'⟩:=hv i (.head _)
  refine⟨vars',hb,(hv' μ x).1 _ ?_⟩
  rw[if_pos rfl]
  refine(hv' μ x).2 _ fun c μ' x' e=>?_
  have:=ih (acc:=acc++[c]) (xss:=xss++[val i]) (x.trans x') ((ha.ext x').snoc e) (fun u hu=>hv u (.tail _ hu)) fun c μ'' x'' q=>h c μ'' x'' (by rw[List.map_cons,List.append_cons];exact q)
  rw[List.map_append] at this
  exact this
end
theorem O2 {d:Nat}{B:Book}{b nm:Addr}{N:List Str}{n:Int}{fz:List Addr}{Q:MQ}{μ:MH}(hG:G "MOST_DAY" = some (.int 1000000)) (hΓ1:Γ "is_about" = some Xc) (hΓ2:Γ "worth_by" = some Xf) (hΓ3:Γ "counting" = some Xg) (hΓ4:Γ "begins_of" = some Xe) (hΓ5:Γ "stretches_of" = some Qq) (hΓ6:Γ "runs_of" = some Yh) (hΓ:Γ "state_of" = some P4) (hd:5≤d) (hB:BOk B) (hl:B.length≤30) (hb:μ b=some (.idict (Book.mv B))) (hnm:μ nm=some (.list (N.map .str))) (hNl:N.length≤1000) (hN:∀ x∈N,PyData.strOk x=true)
  (h:∀ (c:Addr) (μ':MH),Ext μ μ'->Nest (segMV encO) μ' c (N.map fun x=>segs B n x 0 1000000)->Q (.ref c) μ'):calls G Γ d "state_of" [.ref b,.ref nm,.int n] fz Q X0 μ:=by
 refine Q8 hΓ rfl (by exact dl hd rfl) (seq ?_)
 rw[A3,Qz]
 refine Y7 (Y4 (v:=.ref nm) rfl ⟨.val (.ref nm),N.map .str,rfl,(Gd (hnm)),fit (by rw[List.length_map];exact Nat.le_trans hNl (by decide)),?_⟩)
 refine comp_nest (enc:=segMV encO) (acc:=[]) (xss:=[]) MV.str (fun x=>segs B n x 0 1000000) Ext.refl .nil (fun x hx=>⟨_,rfl,fun μ' x'=>⟨fun F hF=>hF,fun F hF=>?_⟩⟩) fun c μ' x' hc=>h c μ' x' hc
 ((try dsimp only[Qf,Q0,Q2,e_glob,Q6,Q1]);(repeat (first|refine⟨_,hG,?_⟩|refine⟨_,Qa,?_⟩|refine⟨_,rfl,?_⟩|refine⟨_,(Q4 (by decide)).trans hG,?_⟩|refine⟨_,(Q4 (by decide)).trans Qa,?_⟩|refine⟨_,(Q4 (by decide)).trans rfl,?_⟩|dsimp only[Qf,Q0,Q2,e_glob,Q6,Q1,kr0,Qb,Qc])))
 refine Zy hΓ1 hΓ2 hΓ3 hΓ4 hΓ5 hΓ6 (by exact dn hd rfl) hB hl (x' _ _ hb) (hN x hx) fun c μ'' x'' _ _ hc=>hF c μ'' x'' hc
structure ShV (b nm du:Addr) (n:Int) (V:MVars):Prop where
 v0:V 0=some (.ref b)
 v1:V 1=some (.int n)
 v2:V 2=some (.ref nm)
 v3:V 3=some (.ref du)
theorem ShV.set {b nm du:Addr}{n:Int}{V:MVars}(y:ShV b nm du n V) {i:Nat}(h:4≤i) (v:MV):ShV b nm du n (setv V i v):=
 ⟨(Q4 (by first|exact nei h rfl|decide)).trans y.v0,(Q4 (by first|exact nei h rfl|decide)).trans y.v1,(Q4 (by first|exact nei h rfl|decide)).trans y.v2,(Q4 (by first|exact nei h rfl|decide)).trans y.v3⟩
structure ShM (B:Book) (N:List Str) (b nm du:Addr) (n:Int) (μ:MH):Prop where
 b:μ b=some (.idict (Book.mv B))
 nm:μ nm=some (.list (N.map .str))
 du:Nest (segMV encO) μ du (N.map fun x=>segs B n x 0 1000000)
structure Gs (G:String->Option MV) (Γ:String->Option MFun):Prop where
 day:G "MOST_DAY" = some (.int 1000000)
 about:Γ "is_about" = some Xc
 worth:Γ "worth_by" = some Xf
 cnt:Γ "counting" = some Xg
 beg:Γ "begins_of" = some Xe
 str:Γ "stretches_of" = some Qq
 runs:Γ "runs_of" = some Yh
 book:Γ "book_of" = some Yi
 state:Γ "state_of" = some P4
structure NOk (N:List Str):Prop where
 len:N.length≤1000
 ok:∀ x∈N,PyData.strOk x=true
theorem Ha {d:Nat}{B:Book}{N:List Str}{b nm du:Addr}{n:Int}{fz fz0:List Addr}{μa:MH}{R:MFlow->MVars->MH->Prop}(g:Gs G Γ) (hd:5≤d) (hB:BOk B) (hl:B.length≤30) (hN:NOk N) (H:ShM B N b nm du n μa) (hz:∀ a∈fz0,a∈fz):
  ∀ (ks:List Int) (V:MVars) (μ:MH) (A:List Int) (la:Addr) (many:Int),A.Sublist (left0 B n)->ShV b nm du n V->V 4=some (.ref la)->V 5=some (.int many)->Ext μa μ->New fz0 μa μ la A->
   (∀ V' μ' la',ShV b nm du n V'->V' 4=some (.ref la')->V' 5=some (.int many)->Ext μa μ'->New fz0 μa μ' la' (ks.foldl (rm1 (tstN B n N)) A)->R .next V' μ')->
   loopM (.one 6) (fun vs F μ=>exs G (calls G Γ d) X0 [Yo,Jz] fz vs F μ) R (ks.map .int) V μ
 | []=>fun V μ A la many _ y v4 v5 hx' hm h=>by
  simp only[List.map_nil,Za,Xi]
  exact h V μ la y v4 v5 hx' hm
 | k::ks=>fun V μ A la many hA y v4 v5 hx' hm h=>by
  simp only[List.map_cons,Za,Xi]
  refine⟨_,rfl,?_⟩
  have hAl:A.length≤30:=Nat.le_trans hA.length_le (Nat.le_trans J7 hl)
  replace y:=y.set (i:=6) (by decide) (.int k)
  have v6:setv V 6 (.int k) 6=some (.int k):=Qa
  replace v4:setv V 6 (.int k) 4=some (.ref la):=(Q4 (by first|exact nei h rfl|decide)).trans v4
  replace v5:setv V 6 (.int k) 5=some (.int many):=(Q4 (by first|exact nei h rfl|decide)).trans v5
  generalize setv V 6 (.int k)=V at y v4 v5 v6 ⊢
  have go:∀ (V:MVars) (μ:MH) (A:List Int) (la:Addr),A.Sublist (left0 B n)->ShV b nm du n V->V 4=some (.ref la)->V 5=some (.int many)->Ext μa μ->New fz0 μa μ la A->(∀ V' μ' la',ShV b nm du n V'->V' 4=some (.ref la')->V' 5=some (.int many)->Ext μa μ'->New fz0 μa μ' la' (ks.foldl (rm1 (tstN B n N)) A)->R .next V' μ')->_:=fun V μ A la=>Ha (fz:=fz) g hd hB hl hN H hz ks V μ A la many
  generalize loopM (.one 6) _ R (ks.map .int)=L at go ⊢
  refine seq ?_
  rw[Yo,Q3]
  refine Y7 (Y4 v4 ⟨.val (.ref la),A.map .int,rfl,(Gd (hm.is)),fit (by rw[List.length_map];exact Nat.le_trans hAl (by decide)),?_⟩)
  refine V5 MV.int (fun j=>decide (j≠k)) MV.int (fun j _=>?_) fun ca hc1 hzd=>?_
  ·have w10:setv V 10 (.int j) 10=some (.int j):=Qa
   refine⟨_,rfl,fun F hF=>?_,fun F hF=>⟨_,w10,hF⟩⟩
   ((try dsimp only[Zn,Y2,Qk,Yd,Q1]);(try simp (discharger:=decide) only[Qa,Option.some.injEq,Q4,v6,exists_eq_left',Az]))
   exact nek▸hF
  rw[List.nil_append]
  have hFs:(A.filter fun j=>decide (j≠k)).Sublist (left0 B n):=List.filter_sublist.trans hA
  have hT:rm1 (tstN B n N) A k=if tstN B n N (A.filter fun j=>decide (j≠k)) then A.filter fun j=>decide (j≠k) else A:=rfl
  replace h:∀ V' μ' la',ShV b nm du n V'->V' 4=some (.ref la')->V' 5=some (.int many)->Ext μa μ'->New fz0 μa μ' la' (ks.foldl (rm1 (tstN B n N)) (rm1 (tstN B n N) A k))->R .next V' μ':=h
  generalize A.filter (fun j=>decide (j≠k))=A' at hFs hT ⊢
  have hkF:∀ j∈A',j∈B.keys:=fun j hj=>(B7 (hFs.subset hj)).1
  have hFl:A'.length≤30:=Nat.le_trans hFs.length_le (Nat.le_trans J7 hl)
  have hFn:A'.Nodup:=(Ps (Dx hB)).sublist hFs
  have xa:=Ext.upd (o:=.list (A'.map .int)) hc1
  have hmb:New fz0 μa (upd μ ca (.list (A'.map .int))) ca A':=.of hx' hc1 fun m=>hzd (hz _ m)
  generalize upd μ ca (.list (A'.map .int))=μb at xa hmb ⊢
  replace hm:=hm.ext xa
  replace xa:=hx'.trans xa
  have y7:=y.set (i:=7) (by decide) (.ref ca)
  have w4:setv V 7 (.ref ca) 4=some (.ref la):=(Q4 (by first|exact nei h rfl|decide)).trans v4
  have w5:setv V 7 (.ref ca) 5=some (.int many):=(Q4 (by first|exact nei h rfl|decide)).trans v5
  have w7:setv V 7 (.ref ca) 7=some (.ref ca):=Qa
  generalize setv V 7 (.ref ca)=V at y7 w4 w5 w7 ⊢
  (try simp only[kr0,kr1,kl0,kl1,kz0])
  refine seq (Qi (Q7 ?_))
  ((try dsimp only[Q1,Qf,Q0,Q2]);(try simp (discharger:=decide) only[y7.v0,Option.some.injEq,w7,y7.v2,y7.v1,y7.v3,exists_eq_left']))
  refine sub_spec g.book (by exact dl hd rfl) hkF hFn (Nat.le_trans hFl (by decide)) (xa _ _ H.b) hmb.is fun cc μ3 xb hmc=>?_
  skip
  refine O2 g.day g.about g.worth g.cnt g.beg g.str g.runs g.state (by exact dl hd rfl) (sub_ok hB hFn hkF (Nat.le_trans hFl (by decide))) (Nat.le_trans (Pj B A') hFl) hmc (xb _ _ (xa _ _ H.nm)) hN.len hN.ok fun cb μ4 x3 hm3=>?_
  skip
  have xx:=xa.trans (xb.trans x3)
  refine⟨_,hm3.eqM codeS (H.du.ext xx),?_⟩
  show if tstN B n N A'=true then _ else _
  cases q:tstN B n N A' with
  | true=>
   rw[if_pos q] at hT
   simp only[if_true]
   refine seq ?_
   ((try dsimp only[Zv,Q3,kr0,Q1]);(repeat (first|refine⟨_,w7,?_⟩|dsimp only[Q3,kr0,Q1,Qb,Qc])))
   exact Qt (Di (go _ _ A' ca hFs (y7.set (by decide) _) Qa ((Q4 (by first|exact nei h rfl|decide)).trans w5) xx ((hmb.ext xb).ext x3) (hT▸h)))
  | false=>
   rw[if_neg (by rw[q];decide)] at hT
   simp only[Bool.false_eq_true,if_false]
   exact Qt (Di (go V _ A la hA y7 w4 w5 xx ((hm.ext xb).ext x3) (hT▸h)))
noncomputable def shortW (G:String->Option MV) (Φ:CallSpec) (fz:List Addr) (R:MFlow->MVars->MH->Prop) (k:Nat) (V:MVars) (μ:MH):Prop:=
 whileM (fun vs F μ=>evB G Φ (.cmp (.bi .len [(.var 4)]) [.lt] [(.var 5)]) fz vs F μ) (fun vs F μ=>exs G Φ X0 [Zr,Zq] fz vs F μ) R k V μ
theorem Hb {Φ:CallSpec}{fz:List Addr}{R:MFlow->MVars->MH->Prop}{k:Nat}{V:MVars}{μ:MH}{A:List Int}{la:Addr}{many:Int}(hAl:A.length≤30) (hlt:¬ (A.length:Int)<many) (v4:V 4=some (.ref la)) (v5:V 5=some (.int many)) (hm:μ la=some (.list (A.map .int))) (h:R .next V μ):shortW G Φ fz R (k+1) V μ:=by
 refine Q7 ?_
 ((try dsimp only[Q1,Xl,Q0,Q2]);(try simp (discharger:=decide) only[v4,Option.some.injEq,v5,exists_eq_left']))
 refine Qx hm (fit (by rw[List.length_map];exact Nat.le_trans hAl (by decide))) ?_
 rw[List.length_map]
 ((try dsimp only[Cz]);(try simp (discharger:=decide) only[Option.some.injEq,exists_eq_left']))
 rw[decide_eq_false hlt]
 simp only[Bool.false_eq_true,if_false]
 exact h
theorem Dh {d:Nat}{B:Book}{N:List Str}{b nm du:Addr}{n:Int}{fz:List Addr}{μa:MH}{R:MFlow->MVars->MH->Prop}{k:Nat}{V:MVars}{μ:MH}{A:List Int}{la:Addr}{many:Int}(g:Gs G Γ) (hd:5≤d) (hB:BOk B) (hl:B.length≤30) (hN:NOk N) (H:ShM B N b nm du n μa) (hA:A.Sublist (left0 B n)) (hlt:(A.length:Int)<many) (y:ShV b nm du n V) (v4:V 4=some (.ref la)) (v5:V 5=some (.int many)) (hx':Ext μa μ) (hm:New fz μa μ la A)
  (h:∀ V' μ' la',ShV b nm du n V'->V' 4=some (.ref la')->V' 5=some (.int A.length)->Ext μa μ'->New fz μa μ' la' (A.foldl (rm1 (tstN B n N)) A)->shortW G (calls G Γ d) fz R k V' μ'):shortW G (calls G Γ d) fz R (k+1) V μ:=by
 have hAl:A.length≤30:=Nat.le_trans hA.length_le (Nat.le_trans J7 hl)
 refine Q7 ?_
 ((try dsimp only[Q1,Xl,Q0,Q2]);(try simp (discharger:=decide) only[v4,Option.some.injEq,v5,exists_eq_left']))
 refine Qx hm.is (fit (by rw[List.length_map];exact Nat.le_trans hAl (by decide))) ?_
 rw[List.length_map]
 ((try dsimp only[Cz]);(try simp (discharger:=decide) only[Option.some.injEq,exists_eq_left']))
 rw[decide_eq_true hlt]
 simp only[if_true]
 refine seq ?_
 ((try dsimp only[Zr,Q3,kr0,Xl,Q0,Q2,Q1]);(repeat (first|refine⟨_,v4,?_⟩|dsimp only[Q3,kr0,Xl,Q0,Q2,Q1,Qb,Qc])))
 refine Qx hm.is (fit (by rw[List.length_map];exact Nat.le_trans hAl (by decide))) ?_
 rw[List.length_map]
 replace y:=y.set (i:=5) (by decide) (.int A.length)
 replace v4:setv V 5 (.int A.length) 4=some (.ref la):=(Q4 (by first|exact nei h rfl|decide)).trans v4
 replace v5:setv V 5 (.int A.length) 5=some (.int A.length):=Qa
 clear hlt many
 generalize setv V 5 (.int A.length)=V at y v4 v5 ⊢
 (try simp only[kr0,kr1,kl0,kl1,kz0])
 refine seq ?_
 ((try dsimp only[Zq,Zf,Q0,Q2,Xl,Q1]);(repeat (first|refine⟨_,v4,?_⟩|dsimp only[Zf,Q0,Q2,Xl,Q1,kr0,Qb,Qc])))
 refine⟨A.map .int,rfl,(it_l (hm.is)),fit (by rw[List.length_map];exact Nat.le_trans hAl (by decide)),fun c hc hcz=>?_⟩
 refine⟨.val (.ref c),A.map .int,rfl,(Gd (Q5)),fit (by rw[List.length_map];exact Nat.le_trans hAl (by decide)),?_⟩
 have xa:=Ext.upd (o:=.list (A.map .int)) hc
 refine Ha g hd hB hl hN H (fun a m=>List.mem_append_right _ m) A V _ A la A.length hA y v4 v5 (hx'.trans xa) (hm.ext xa) fun V' μ' la' y' v4' v5' k' hm'=>?_
 (try simp only[kr0,kr1,kl0,kl1,kz0])
 exact Qt (h V' μ' la' y' v4' v5' k' hm')
theorem short_while {d:Nat}{B:Book}{N:List Str}{b nm du:Addr}{n:Int}{fz:List Addr}{μa:MH}{R:MFlow->MVars->MH->Prop}(g:Gs G Γ) (hd:5≤d) (hB:BOk B) (hl:B.length≤30) (hN:NOk N) (H:ShM B N b nm du n μa) {m:Nat}:
  ∀ {V:MVars}{μ:MH}{A:List Int}{la:Addr}{many:Int},A.Sublist (left0 B n)->A.length≤m->(A.length:Int)<many->ShV b nm du n V->V 4=some (.ref la)->V 5=some (.int many)->Ext μa μ->New fz μa μ la A->
   (∀ V' μ' la',ShV b nm du n V'->V' 4=some (.ref la')->Ext μa μ'->New fz μa μ' la' (fixL (tstN B n N) (m+1) A)->R .next V' μ')->shortW G (calls G Γ d) fz R (m+2) V μ:=by
 induction m with
 | zero=>
  intro V μ A la many hA hAm hlt y v4 v5 hx' hm h
  refine Dh g hd hB hl hN H hA hlt y v4 v5 hx' hm fun V' μ' la' y' v4' v5' k' hm'=>?_
  obtain rfl:=List.length_eq_zero_iff.mp (Nat.le_zero.mp hAm)
  exact Hb (A:=[]) (by decide) (by decide) v4' v5' hm'.is (h V' μ' la' y' v4' k' hm')
 | succ m ih=>
  intro V μ A la many hA hAm hlt y v4 v5 hx' hm h
  refine Dh g hd hB hl hN H hA hlt y v4 v5 hx' hm fun V' μ' la' y' v4' v5' k' hm'=>?_
  have hA':(A.foldl (rm1 (tstN B n N)) A).Sublist A:=A1
  have hf:fixL (tstN B n N) (m+1+1) A=if (A.foldl (rm1 (tstN B n N)) A).length<A.length then fixL (tstN B n N) (m+1) (A.foldl (rm1 (tstN B n N)) A) else A.foldl (rm1 (tstN B n N)) A:=rfl
  rw[hf] at h
  generalize A.foldl (rm1 (tstN B n N)) A=A' at hA' hm' h
  by_cases q:A'.length<A.length
  ·rw[if_pos q] at h
   exact ih (hA'.trans hA) (Nat.le_of_lt_succ (Nat.lt_of_lt_of_le q hAm)) (Int.ofNat_lt.mpr q) y' v4' v5' k' hm' h
  ·rw[if_neg q] at h
   exact Hb (Nat.le_trans hA'.length_le (Nat.le_trans hA.length_le (Nat.le_trans J7 hl))) (fun c=>q (Int.ofNat_lt.mp c)) v4' v5' hm'.is (h V' μ' la' y' v4' k' hm')
end Mine
end
section
namespace Mine
open PySem
variable {G:String->Option MV}{Γ:String->Option MFun}
noncomputable def Ent.word:Ent->Str
 | .undo _=>S "undo"
 | .clear _ _ _=>S "clear"
 | .like _ _ _ _=>S "like"
 | .tell _ _ _ _=>S "tell"
noncomputable def Ent.snd:Ent->MV
 | .undo j=>.int j
 | .clear nm _ _=>.str nm
 | .like nm _ _ _=>.str nm
 | .tell nm _ _ _=>.str nm
theorem I4 {μ:MH}{e:Ent}:idxM μ e.mv (.int 0)=some (.str e.word):=by
 cases e with
 | undo j=>exact ix2_0
 | clear nm lo hi=>exact Hp
 | like nm lo hi nm'=>exact Kq
 | tell nm lo hi v=>exact Kq
theorem I3 {μ:MH}{e:Ent}:idxM μ e.mv (.int 1)=some e.snd:=by
 cases e with
 | undo j=>exact ix2_1
 | clear nm lo hi=>exact ix4_1
 | like nm lo hi nm'=>exact ix5_1
 | tell nm lo hi v=>exact ix5_1
theorem word_ne {μ:MH}{e:Ent}:cmpM .ne μ (.str e.word) (.str (S "undo"))=some e.nu:=by
 cases e with
 | undo j=>exact Ul
 | clear nm lo hi=>exact K9
 | like nm lo hi nm'=>exact Un
 | tell nm lo hi v=>exact Um
theorem names_snd (B:Book):(B.filter fun p=>p.2.nu).map (fun p=>p.2.snd)=(entNames B).map .str:=by
 unfold entNames
 induction B with
 | nil=>rfl
 | cons p B ih=>
  obtain⟨k,e⟩:=p
  cases e with
  | undo j=>exact ih
  | clear nm lo hi=>exact congrArg (MV.str nm::·) ih
  | like nm lo hi nm'=>exact congrArg (MV.str nm::·) ih
  | tell nm lo hi v=>exact congrArg (MV.str nm::·) ih
theorem names_ok {B:Book}(hB:BOk B):∀ x∈entNames B,PyData.strOk x=true:=fun x hx=>by
 obtain⟨⟨k,e⟩,hp,hs⟩:=List.mem_filterMap.mp hx
 have ok:=hB.ok _ hp
 cases e with
 | undo j=>cases hs
 | clear nm lo hi=>cases hs;exact ok
 | like nm lo hi nm'=>cases hs;exact ok.1
 | tell nm lo hi v=>cases hs;exact ok
theorem Hh (B:Book):(entNames B).length≤B.length:=List.length_filterMap_le ..
theorem keys_map {B:Book}:(Book.mv B).map (fun kv=>MV.int kv.1)=B.map fun p=>MV.int p.1:=by
 unfold Book.mv
 rw[List.map_map];rfl
theorem Dg {d:Nat}{B:Book}{b:Addr}{n:Int}{fz:List Addr}{Q:MQ}{μ:MH}(g:Gs G Γ) (hΓ:Γ "shortened" = some Vt) (hd:7≤d) (hB:BOk B) (hl:B.length≤30) (hn:maxI (0::B.keys)=some n) (hb:μ b=some (.idict (Book.mv B)))
  (h:∀ (c:Addr) (μ':MH) (L:List Int),Ext μ μ'->μ c=none->c∉fz->L.Sublist (left0 B n)->μ' c=some (.idict (Book.mv (Sub B L)))->Q (.ref c) μ'):calls G Γ d "shortened" [.ref b] fz Q X0 μ:=by
 have look:∀ {μ':MH}{p:Int×Ent},μ' b=some (.idict (Book.mv B))->p∈B->idxM μ' (.ref b) (.int p.1)=some p.2.mv:=fun hb' hp=>by rw[F4 hb',Book.look,Book.at_mem hB.nodup hp];rfl
 have hkl:B.keys.length≤30:=Nat.le_trans (Nat.le_of_eq (List.length_map _)) hl
 refine Q8 hΓ rfl (by exact dl hd rfl) (seq ?_)
 ((try dsimp only[O9,Q3,kr0,Xl,Q0,Q2,Qh,Pc,Q1,args0,zgz,X8,zlc,zln,Nat.reduceAdd,Q6]);(try simp (discharger:=decide) only[Zj,Option.some.injEq,exists_eq_left',true_and]))
 intro ca hc1 _
 have xa:=Ext.upd (o:=.list [.int 0]) hc1
 have hba:=xa _ _ hb
 refine⟨Pr hba,Pr hba,?_⟩
 have hmb:upd μ ca (.list [.int 0]) ca=some (.list [.int 0]):=Q5
 generalize upd μ ca (.list [.int 0])=μa at xa hba hmb ⊢
 refine⟨B.keys.map .int,rfl,(it_k hba).trans (by rw[← Book.mv_keys,List.map_map];rfl),fit (by rw[List.length_map];exact Nat.le_trans hkl (by decide)),fun cc hca _=>?_⟩
 have xb:=Ext.upd (o:=.list (B.keys.map .int)) hca
 refine Rv (xb _ _ hmb) Q5 (fit (by rw[List.length_map];exact Nat.le_trans (Nat.add_le_add_left hkl 1) (by decide))) fun cb hc3 _=>?_
 have x3:=xa.trans (xb.trans (Ext.upd (o:=.list ([MV.int 0]++B.keys.map .int)) hc3))
 refine⟨(0::B.keys).map .int,0::B.keys,n,rfl,(it_l (Q5)),Kt _,fit (by rw[List.length_map];exact Nat.le_trans (Nat.succ_le_succ hkl) (by decide)),hn,?_⟩
 generalize upd (upd μa cc (.list (B.keys.map .int))) cb (.list ([MV.int 0]++B.keys.map .int))=μ3 at x3 ⊢
 have hb3:=x3 _ _ hb
 clear xa xb hba hmb hc3 hca μa
 refine seq ?_
 rw[O8,Q3,Xl]
 refine D7 (Y7 (Y4 (v:=.ref b) rfl ⟨.val (.ref b),B.map fun p=>.int p.1,rfl,((si_d (hb3)).trans (congrArg some keys_map)),fit (by rw[List.length_map];exact Nat.le_trans hl (by decide)),?_⟩))
 refine V5 (fun p:Int×Ent=>MV.int p.1) (fun p=>p.2.nu) (fun p=>p.2.snd) (fun p hp=>?_) fun ce hc4 _=>?_
 ·refine⟨_,rfl,fun F hF=>?_,fun F hF=>?_⟩
  ·((try dsimp only[Zn,Y2,Qk,Yd,Qp,Qu,Q6,Q1]);(try simp (discharger:=decide) only[Q4,args0,List.getElem?_cons_zero,Option.some.injEq,Qa,exists_eq_left',look hb3 hp,I4]))
   exact⟨_,word_ne,hF⟩
  ·((try dsimp only[Qu,Q6,Q1]);(repeat (first|refine⟨_,look hb3 hp,?_⟩|refine⟨_,I3,?_⟩|refine⟨_,Qa,?_⟩|refine⟨_,rfl,?_⟩|refine⟨_,(Q4 (by decide)).trans look hb3 hp,?_⟩|refine⟨_,(Q4 (by decide)).trans I3,?_⟩|refine⟨_,(Q4 (by decide)).trans Qa,?_⟩|refine⟨_,(Q4 (by decide)).trans rfl,?_⟩|dsimp only[Qu,Q6,Q1,kr0,Qb,Qc])))
   exact hF
 rw[List.nil_append,names_snd]
 have xe:=x3.trans (Ext.upd (o:=.list ((entNames B).map .str)) hc4)
 refine⟨_,entNames B,Zo Q5,Ou _,by rw[List.length_map];exact Nat.lt_of_le_of_lt (Nat.le_trans (Hh B) hl) (by decide),fun N hN nm hnm _=>?_⟩
 have hNm:∀ x,x∈N↔x∈entNames B:=fun x=>hN.mem_iff.trans ddup_mem
 have hNo:NOk N:=⟨Nat.le_trans (Nat.le_of_eq hN.length_eq) (Nat.le_trans (Av _) (Nat.le_trans (Hh B) (Nat.le_trans hl (by decide)))),fun x hx=>names_ok hB x ((hNm x).mp hx)⟩
 have x5:=xe.trans (Ext.upd (o:=.list (N.map .str)) hnm)
 have hm5:upd (upd μ3 ce (.list ((entNames B).map .str))) nm (.list (N.map .str)) nm=some (.list (N.map .str)):=Q5
 show kr G (calls G Γ (d-1)) X0 [Kc,Kb,Zc,Zb,Y5] fz (kz Q) .next _ (upd (upd μ3 ce (.list ((entNames B).map .str))) nm (.list (N.map .str)))
 generalize upd (upd μ3 ce (.list ((entNames B).map .str))) nm (.list (N.map .str))=μ5 at x5 hm5 ⊢
 clear x3 xe hb3 hc4 hnm μ3
 refine seq ?_
 ((try dsimp only[Kc,Q3,kr0,Qf,Q0,Q2,Q1]);(repeat (first|refine⟨_,Qa,?_⟩|refine⟨_,rfl,?_⟩|refine⟨_,(Q4 (by decide)).trans Qa,?_⟩|refine⟨_,(Q4 (by decide)).trans rfl,?_⟩|dsimp only[Q3,kr0,Qf,Q0,Q2,Q1,Qb,Qc])))
 refine O2 g.day g.about g.worth g.cnt g.beg g.str g.runs g.state (by exact dn hd rfl) hB hl (x5 _ _ hb) hm5 hNo.len hNo.ok fun du μ6 x6 hdu=>?_
 replace hm5:=x6 _ _ hm5
 replace x6:=x5.trans x6
 have hb6:=x6 _ _ hb
 clear x5
 refine seq ?_
 rw[Kb,Q3]
 refine Y7 ?_
 ((try dsimp only[Q1,Qf,Q0,Q2]);(try simp (discharger:=decide) only[Q4,Qa,Option.some.injEq,exists_eq_left']))
 refine⟨_,rfl,?_⟩
 refine Ki g.cnt (by exact dn hd rfl) hB.nodup' (by rw[Book.mv_len];exact Nat.lt_of_le_of_lt hl (by decide)) hB.ent hb6 fun c7 μ7 xf _ _ hmd=>?_
 have hb7:=xf _ _ hb6
 have hcl:(cntOf (Book.mv B) n).length≤30:=Nat.le_trans (Da _ _) (by rw[Book.mv_len];exact hl)
 refine⟨.val (.ref c7),(cntOf (Book.mv B) n).map .int,rfl,(Gd (hmd)),fit (by rw[List.length_map];exact Nat.le_trans hcl (by decide)),?_⟩
 refine V5 MV.int (nuAt B) MV.int (fun k hk=>?_) fun c8 hc8 hz8=>?_
 ·obtain⟨e,he⟩:=Book.at_key (N9 hk)
  have hlk:=look hb7 (Book.at_some he)
  refine⟨_,rfl,fun F hF=>?_,fun F hF=>?_⟩
  ·((try dsimp only[Zn,Y2,Qk,Yd,Qp,Qu,Q6,Q1]);(try simp (discharger:=decide) only[Q4,args0,List.getElem?_cons_zero,Option.some.injEq,Qa,exists_eq_left',hlk,I4]))
   unfold nuAt at hF
   rw[he] at hF
   exact⟨_,word_ne,hF⟩
  ·((repeat (first|refine⟨_,Qa,?_⟩|dsimp only[kr0,Qb,Qc])))
   exact hF
 rw[List.nil_append]
 have x8:=x6.trans xf
 have H:ShM B N b nm du n μ7:=⟨hb7,xf _ _ hm5,hdu.ext xf⟩
 have hm8:New fz μ7 (upd μ7 c8 (.list ((left0 B n).map .int))) c8 (left0 B n):=.of Ext.refl hc8 hz8
 have x9:=Ext.upd (o:=.list ((left0 B n).map .int)) hc8
 show kr G (calls G Γ (d-1)) X0 [Zc,Zb,Y5] fz (kz Q) .next _ (upd μ7 c8 (.list ((left0 B n).map .int)))
 generalize upd μ7 c8 (.list ((left0 B n).map .int))=μ8 at hm8 x9 ⊢
 have hul:(left0 B n).length≤30:=Nat.le_trans J7 hl
 refine seq ?_
 ((try dsimp only[Zc,Q3,kr0,Qh,Q6,Xl,Q0,Q2,Q1]);(repeat (first|refine⟨_,Qa,?_⟩|dsimp only[Q3,kr0,Qh,Q6,Xl,Q0,Q2,Q1,Qb,Qc])))
 refine Qx hm8.is (fit (by rw[List.length_map];exact Nat.le_trans hul (by decide))) ?_
 rw[List.length_map]
 ((try dsimp only[Qb]))
 have fin:∀ V:MVars,ShV b nm du n V->V 4=some (.ref c8)->V 5=some (.int ((left0 B n).length+1))->exs G (calls G Γ (d-1)) X0 [Zb,Y5] fz V (kz Q) μ8:=fun V y v4 v5=>by
  refine seq ?_
  refine⟨42,short_while (m:=40) g (by exact dn hd rfl) hB hl hNo H (.refl _) (Nat.le_trans hul (by decide)) (Int.lt_succ _) y v4 v5 x9 hm8 fun V' μ' la' y' v4' k' hm'=>?_⟩
  (try simp only[kr0,kr1,kl0,kl1,kz0])
  refine seq ?_
  ((try dsimp only[Y5,Qz,kr1,kz0,Qf,Q0,Q2,Q1]);(repeat (first|refine⟨_,y'.v0,?_⟩|refine⟨_,v4',?_⟩|dsimp only[Qz,kr1,kz0,Qf,Q0,Q2,Q1,kr0,Qb,Qc])))
  have hLs:(fixL (tstN B n N) 41 (left0 B n)).Sublist (left0 B n):=fix_sub
  have hm':=hm'.is
  refine sub_new g.book (by exact dn hd rfl) (fun k hk=>(B7 (hLs.subset hk)).1) ((Ps (Dx hB)).sublist hLs) (Nat.le_trans hLs.length_le (Nat.le_trans hul (by decide))) (k' _ _ hb7) hm' fun c μ'' x'' hc hz hm=>?_
  have xx:=x8.trans k'
  exact h c μ'' _ (xx.trans x'') (D4 xx hc) hz hLs hm
 exact fin _ ⟨rfl,rfl,rfl,rfl⟩ rfl rfl
end Mine
end
section
namespace Mine
open PySem PySem.Calls PyProof.Rows PySem.W
theorem V6 {P:ME->Prop}:∀ e∈([]:List ME),P e:=fun e h=>by cases h
theorem Qw {P:ME->Prop}{a:ME}{l:List ME}(ha:P a) (hl:∀ e∈l,P e):∀ e∈a::l,P e:=fun e h=>(List.mem_cons.mp h).elim (fun q=>q▸ha) (hl e)
section
variable {prog:Program}{w:World}{G:String->Option MV}{Γ:String->Option MFun}{h₀:Heap}{mg mb:Str->Option Value}{Φ:CallSpec}{d:Dp}
theorem sx_plain {i:Nat}{a:ME}(ha:SE prog w G h₀ Φ d a) (hn:a.tag≠.lc):SX prog w G h₀ Φ d (.assign i a):=fun S x env vars fz μ s R A E h hA C hq=>by
 replace h:=C8 h;obtain⟨x,px,v,p,rfl,h1,h2⟩:=h
 refine wpAny_Assign_Name (wpAny_mono (ha S _ env vars fz μ s _ A E h2 hA C hq) (fun u s1 h₁=>?_) fun _ _ e=>e) (Ot (Pz h2▸hn) (by rw[Pz h2];exact H6 h2) _ _ _)
 obtain⟨mv,μa,hq1,rv,rc,gb⟩:=h₁
 exact Kk (C.grow gb rc) h1 rv fun sd C₂ gc kf lg=>⟨.next,_,μa,hq1,rfl,C₂,gb.toS.trans gc⟩
theorem word_sx (pg:PG prog w G Γ h₀ mg mb):SXs prog w G h₀ Φ d Yg.body:=by
 have ix:∀ c,SS prog w G h₀ Φ d (.isx (.var 0) c):=fun c=>.of_plain rfl (se_isx pg (Io 0))
 have v1:SE prog w G h₀ Φ d (.var 1):=Io 1
 have cs:∀ t,SS prog w G h₀ Φ d (.cstr t):=fun t=>.of_plain rfl (se_cstr t)
 have tr:∀ e∈[ME.cbool true],SS prog w G h₀ Φ d e:=Qw (.of_plain rfl (se_cbool true)) V6
 refine U9 (sx_plain (D2 (Qw (ix _) (Qw (ix _) (Qw (ix _) (Qw (ix _) V6))))) (by intro q;cases (congrArg Tg.no q))) ?_
 refine U9 (sx_plain (se_bin v1 (D2 (Qw (ix _) (Qw (ix _) (Qw (ix _) V6))))) (by intro q;cases (congrArg Tg.no q))) ?_
 refine U9 (sx_ite (st_or (Qw (st_cmp (Ir v1 tr) (Qw (se_cint 1) V6)) (Qw (st_not (ix _).2) V6))) (U9 (Ih (Dj (Qw (cs _) V6))) Dc) Dc) ?_
 refine U9 (Ih (Dj (Qw (.of_plain rfl (se_idx (D2 (Qw (cs _) (Qw (cs _) (Qw (cs _) (Qw (cs _) (Qw (cs _) (Qw (cs _) (Qw (cs _) V6)))))))) (Ir v1 tr))) V6))) Dc
end
noncomputable def x7:List String:=["BadEntry", "Closed", "NoEntry", "TooMany", "Gone", "BadBook", "BadText"]
structure X7 (G:String->Option MV) (k:Nat->Addr):Prop where
 g:∀ (i:Nat) (c:String),x7[i]?=some c->c∈xNames∧G c=some (.ref (k i))
 inj:∀ i j,i<7->j<7->k i=k j->i=j
noncomputable def wordS (i:Nat):Str:=S (["bad", "closed", "none", "many", "gone", "book", "text"].getD i "")
section
variable {G:String->Option MV}{Γ:String->Option MFun}{Φ:CallSpec}{fz:List Addr}{vars:MVars}{Q:MQ}{μ:MH}{k:Nat->Addr}
theorem P0 (x:X7 G k) {e:Addr}{i j:Nat}{c:String}(hv:vars 0=some (.ref e)) (hm:μ e=some (.exn (k i))) (hi:i<7) (hj:j<7) (hc:x7[j]?=some c) (h:Q (.bool (decide (i=j))) μ):ev G Φ X0 (.isx (.var 0) c) fz vars Q μ:=by
 obtain⟨g1,g2⟩:=x.g j c hc
 have hi':∃ ci,x7[i]?=some ci:=⟨x7[i],List.getElem?_eq_getElem hi⟩
 obtain⟨ci,hci⟩:=hi'
 refine⟨_,hv,k i,_,hm,⟨⟨ci,(x.g i ci hci).1,(x.g i ci hci).2⟩,.inr ⟨g1,k j,g2,rfl⟩⟩,?_⟩
 have:decide (k i=k j)=decide (i=j):=by
  by_cases q:i=j
  ·subst q;simp
  ·rw[decide_eq_false q,decide_eq_false fun z=>q (x.inj i j hi hj z)]
 rw[this];exact h
theorem isx_val (x:X7 G k) {e:Addr}{i:Nat}(hv:vars 0=some (.ref e)) (hm:μ e=some (.exn (k i))) (hi:i<7) (h:Q (.bool true) μ):ev G Φ X0 (.isx (.var 0) "ValueError") fz vars Q μ:=by
 obtain⟨ci,hci⟩:∃ ci,x7[i]?=some ci:=⟨x7[i],List.getElem?_eq_getElem hi⟩
 exact⟨_,hv,k i,_,hm,⟨⟨ci,(x.g i ci hci).1,(x.g i ci hci).2⟩,.inl ⟨rfl,rfl⟩⟩,h⟩
noncomputable def seven (i:Nat):List Bool:=[decide (i=0),decide (i=1),decide (i=2),decide (i=3),decide (i=4),decide (i=5),decide (i=6)]
theorem seven_cnt {i:Nat}(hi:i<7):(seven i).countP id=1∧(seven i).any id=true∧(seven i).findIdx id=i:=by
 have:∀ i<7,(seven i).countP id=1∧(seven i).any id=true∧(seven i).findIdx id=i:=by decide
 exact this i hi
noncomputable def words7:List MV:=[.str (S "bad"),.str (S "closed"),.str (S "none"),.str (S "many"),.str (S "gone"),.str (S "book"),.str (S "text")]
theorem word_at:∀ {i:Nat},i<7->words7[i]?=some (.str (wordS i))
 | 0=>fun _=>rfl
 | 1=>fun _=>rfl
 | 2=>fun _=>rfl
 | 3=>fun _=>rfl
 | 4=>fun _=>rfl
 | 5=>fun _=>rfl
 | 6=>fun _=>rfl
 | n+7=>fun h=>absurd h (Nat.not_lt_of_le (Nat.le_add_left 7 n))
theorem word_run (x:X7 G k) {e:Addr}{i:Nat}(hm:μ e=some (.exn (k i))) (hi:i<7) (h:∀ μ',Ext μ μ'->Q (.tup [.str (wordS i)]) μ'):exs G Φ X0 Yg.body fz (args0 [.ref e]) (kz Q) μ:=by
 have hv:args0 [.ref e] 0=some (.ref e):=rfl
 generalize args0 [.ref e]=V at hv ⊢
 show exs G Φ X0 [Ur,J2,J1,J0] fz V (kz Q) μ
 refine seq ?_
 dsimp only[Ur,Q3,X8,Q0,Q2]
 refine P0 x hv hm hi (j:=0) (by decide) rfl (P0 x hv hm hi (j:=1) (by decide) rfl (P0 x hv hm hi (j:=2) (by decide) rfl (P0 x hv hm hi (j:=3) (by decide) rfl ⟨fit (Nat.le_of_ble_eq_true rfl),fun c hc hcz=>?_⟩)))
 generalize h4:([.bool (decide (i=0)),.bool (decide (i=1)),.bool (decide (i=2)),.bool (decide (i=3))]:List MV)=l4
 have n4:l4.length=4:=by rw[← h4];rfl
 change exs G Φ X0 [J2,J1,J0] fz (setv V 1 (.ref c)) (kz Q) (upd μ c (.list l4))
 have hv1:setv V 1 (.ref c) 0=some (.ref e):=(Q4 (by decide)).trans hv
 have wb:setv V 1 (.ref c) 1=some (.ref c):=Qa
 have xa:=Ext.upd (o:=.list l4) hc
 have hmb:=xa _ _ hm
 have lf:upd μ c (.list l4) c=some (.list l4):=Q5
 generalize setv V 1 (.ref c)=V at hv1 wb ⊢
 generalize upd μ c (.list l4)=μa at hmb xa lf ⊢
 refine seq ?_
 dsimp only[J2,Q3,Qh,X8,Q0,Q2]
 refine⟨_,wb,P0 x hv1 hmb hi (j:=4) (by decide) rfl (P0 x hv1 hmb hi (j:=5) (by decide) rfl (P0 x hv1 hmb hi (j:=6) (by decide) rfl ⟨fit (Nat.le_of_ble_eq_true rfl),fun cc hca _=>?_⟩))⟩
 generalize h3:([.bool (decide (i=4)),.bool (decide (i=5)),.bool (decide (i=6))]:List MV)=l3
 have n3:l3.length=3:=by rw[← h3];rfl
 have h7:l4++l3=(seven i).map .bool:=by rw[← h4,← h3];rfl
 clear h4 h3
 have nj:c≠cc:=fun q=>by rw[q,hca] at lf;cases lf
 refine Rv ((Q9 nj).trans lf) Q5 (by rw[n4,n3];exact fit (Nat.le_of_ble_eq_true rfl)) fun cb hc3 _=>?_
 rw[h7]
 have x3:=(xa.trans (Ext.upd (o:=.list l3) hca)).trans (Ext.upd (o:=.list ((seven i).map .bool)) hc3)
 have hm3:=x3 _ _ hm
 have ld:upd (upd μa cc (.list l3)) cb (.list ((seven i).map .bool)) cb=some (.list ((seven i).map .bool)):=Q5
 have hv3:setv V 1 (.ref cb) 0=some (.ref e):=(Q4 (by decide)).trans hv1
 have wa:setv V 1 (.ref cb) 1=some (.ref cb):=Qa
 change exs G Φ X0 [J1,J0] fz (setv V 1 (.ref cb)) (kz Q) (upd (upd μa cc (.list l3)) cb (.list ((seven i).map .bool)))
 generalize setv V 1 (.ref cb)=V at hv3 wa ⊢
 generalize upd (upd μa cc (.list l3)) cb (.list ((seven i).map .bool))=μ3 at hm3 x3 ld ⊢
 have s7:(seven i).length=7:=rfl
 have cnt:=seven_cnt hi
 have mk:mmKind .count μ3 (.ref cb)=true:=by show isListO (μ3 cb)=true;rw[ld];rfl
 have mk':mmKind .index μ3 (.ref cb)=true:=mk
 refine seq (Qi (Xz (Q7 ⟨_,wa,mk,(seven i).map .bool,seven i,Zo ld,Br _,fit (Nat.le_of_ble_eq_true rfl),rfl,_,Az,?_⟩)))
 rw[cnt.1]
 show if (!((1:Nat):Int) == 1)=true then _ else _
 rw[if_neg (by decide)]
 refine Yb (X6 ?_)
 refine isx_val x hv3 hm3 hi ⟨true,rfl,?_⟩
 show if (!true)=true then _ else _
 rw[if_neg (by decide)]
 refine Qt (seq ?_)
 refine⟨fit (Nat.le_of_ble_eq_true rfl),fun ce hc4 _=>⟨_,wa,?_⟩⟩
 have ng:cb≠ce:=fun q=>by rw[q,hc4] at ld;cases ld
 have xe:=x3.trans (Ext.upd (o:=.list words7) hc4)
 refine⟨by show isListO (upd μ3 ce _ cb)=true;rw[Q9 ng,ld];rfl,(seven i).map .bool,seven i,Zo ((Q9 ng).trans ld),Br _,fit (Nat.le_of_ble_eq_true rfl),rfl,cnt.2.1,.str (wordS i),?_,fit (Nat.le_of_ble_eq_true rfl),h _ xe⟩
 rw[cnt.2.2]
 refine(Zp (l:=words7) Q5 (by decide)).trans ?_
 rw[J5 (Int.natCast_nonneg i),Int.toNat_natCast]
 exact word_at hi
end
section
variable {prog:Program}{w:World}{G:String->Option MV}{Γ:String->Option MFun}{h₀:Heap}{mg mb:Str->Option Value}{d:Nat}{fz:List Addr}{vars:MVars}{μ:MH}{R:MFlow->MVars->MH->Prop}{k:Nat->Addr}
noncomputable def ΦW (G:String->Option MV):CallSpec:=fun f vs fz Q _ μ=>f = "_law_word"∧vs.length=1∧exs G (fun _ _ _ _ _ _=>False) X0 Yg.body fz (args0 vs) (kz Q) μ
theorem sc_word (pg:PG prog w G Γ h₀ mg mb) (hΓ:Γ "_law_word" = some Yg):SC prog w h₀ (ΦW G) ⟨d+1,false⟩:=fun f vs vals fz μ s Q A E fa hA B r fi ff rv hfn h=>by
 obtain⟨rfl,hn,hex⟩:=h
 refine wpAny_call (enter pg hΓ hn hA B r fi ff rv hfn fun S env body s1 hb C hA' en=>?_)
 refine wpAny_mono (word_sx pg _ body _ _ fz μ s1 _ _ _ hb hA' C hex) (fun fl sd h₂=>?_) fun _ _ e=>e
 obtain⟨mf,vars2,μb,hq2,hf,C₂,gc⟩:=h₂
 have ne:∀ {b c:Addr}{o:Obj},s.heap.get? b=some o->s.heap.get? c=none->b≠c:=fun e n q=>by rw[q,n] at e;cases e
 have g:Grow fz μ s μb sd:=⟨fun b o f e=>gc.keep b o f (ne e en.new) (fun y c hc=>ne e (en.cells y c hc)) (en.keep b o e),gc.os.trans en.os,gc.gens.trans en.gens⟩
 cases mf with
 | next=>simp only[RepFl] at hf;subst hf;exact⟨.none,μb,hq2,rfl,C₂.heap,g⟩
 | brk=>exact hq2.elim
 | cont=>exact hq2.elim
 | ret mv=>simp only[RepFl] at hf;obtain⟨v,rfl,hv⟩:=hf;exact⟨mv,μb,hq2,hv,C₂.heap,g⟩
theorem hx_word (pg:PG prog w G Γ h₀ mg mb) (hΓ:Γ "_law_word" = some Yg) (x:X7 G k) {e:Addr}{i ei:Nat}(hd:1≤d) (hv:vars ei=some (.ref e)) (hm:μ e=some (.exn (k i))) (hi:i<7) (h:∀ μ',Ext μ μ'->R (.ret (.tup [.str (wordS i)])) vars μ'):HX prog w h₀ d [.ret (.call "_law_word" [.var ei])] fz vars R μ:=fun S xs env s A E hx hA C=>by
 obtain⟨n,rfl⟩:∃ n,d=n+1:=⟨d-1,by exact ar160 hd⟩
 refine U9 (G:=G) (Φ:=ΦW G) (Ih (se_call (sc_word pg hΓ) (Qw (.of_plain rfl (Io ei)) V6))) Dc S xs env vars fz μ s R A E hx hA C ?_
 exact⟨_,hv,rfl,rfl,word_run x hm hi fun μ' x'=>h μ' x'⟩
end
end Mine
end
section
namespace Mine
open PySem
variable {G:String->Option MV}{Γ:String->Option MFun}
noncomputable def EB:Ent->Prop
 | .undo _=>True
 | .clear nm _ _=>nm.length≤60
 | .like nm _ _ nm'=>nm.length≤60∧nm'.length≤60
 | .tell nm _ _ _=>nm.length≤60
noncomputable def nameP:MV->Bool
 | .str s=>decide (1≤s.length) && decide (s.length≤8) && s.cps.toList.all fun c=>(S "abcdefghijklmnopqrstuvwxyz").cps.toList.contains c
 | _=>false
noncomputable def wholeP:MV->Int->Int->Bool
 | .int i,lo,hi=>decide (lo≤i) && decide (i≤hi)
 | _,_,_=>false
structure Ks (G:String->Option MV) (Γ:String->Option MFun):Prop where
 gm:G "MOST" = some (.int 30)
 gs:G "MOST_SIGNS" = some (.int 8)
 gw:G "MOST_WORTH" = some (.int 1000000000)
 gl:G "LETTERS" = some (.str (S "abcdefghijklmnopqrstuvwxyz"))
 g:Gs G Γ
 gd:G "MOST_DAY" = some (.int 1000000)
 whole:Γ "is_whole" = some Fk
 name:Γ "is_name" = some I1
 day:Γ "is_day" = some f_is_day
 worth:Γ "is_worth" = some Fj
 entry:Γ "is_entry" = some Fs
 need:Γ "need_entry" = some A4
 worthof:Γ "worth_of" = some P1
 hangs:Γ "hangs_on" = some P7
 short:Γ "shortened" = some Vt
 kinit:Γ "Keeper.__init__" = some Vf
 kadd:Γ "Keeper.add" = some Ap
 kshort:Γ "Keeper.shorten" = some U4
 kneed:Γ "Keeper.need_known" = some Zw
 kworth:Γ "Keeper.worth" = some N6
 kruns:Γ "Keeper.runs" = some Oo
 kwhy:Γ "Keeper.why" = some Ao
 klast:Γ "Keeper.last" = some Op
 kfloor:Γ "Keeper.floor" = some N7
 kbook:Γ "Keeper.book" = some Oq
 of:Γ "_law_of" = some Fd
 names:Γ "_law_names" = some K1
 lentry:Γ "_law_entry" = some Vz
 lwhole:Γ "_law_whole" = some Vu
 word:Γ "_law_word" = some Yg
 due:Γ "_law_due" = some Hz
 odd:Γ "_law_odd" = some Hy
 full:Γ "_law_full" = some Fg
 taken:Γ "_law_taken_then" = some Ky
 law:Γ "law" = some f_law
section
variable {d:Nat}{fz:List Addr}{Q:MQ}{μ:MH}
theorem Ka (K:Ks G Γ) {i:Int}(hd:1≤d) (h:Q (.bool true) μ):calls G Γ d "is_whole" [.int i] fz Q X0 μ:=
 Q8 K.whole rfl hd (seq ⟨_,rfl,true,rfl,true,rfl,Xk ⟨_,rfl,false,rfl,false,rfl,h⟩⟩)
theorem chain_ev {Φ:CallSpec}{vars:MVars}{es:ME}{lo hi i:Int}{k:Nat}(hv:vars k=some (.int i)) (he:∀ Q:MQ,Q (.int hi) μ->ev G Φ X0 es fz vars Q μ) (h:Q (.bool (wholeP (.int i) lo hi)) μ):evCmp G Φ X0 [.var k,es] [.le,.le] (.int lo) fz vars Q μ:=by
 rw[Nw]
 refine⟨_,hv,decide (lo≤i),rfl,?_⟩
 change Q (.bool (decide (lo≤i) && decide (i≤hi))) μ at h
 by_cases q:lo≤i
 ·rw[if_pos (decide_eq_true q),Qk]
  rw[decide_eq_true q,Bool.true_and] at h
  exact he _ ⟨_,rfl,h⟩
 ·rw[if_neg (by rw[decide_eq_false q];exact Bool.false_ne_true)]
  rw[decide_eq_false q,Bool.false_and] at h
  exact h
theorem C4 (K:Ks G Γ) {i:Int}(hd:2≤d) (h:Q (.bool (wholeP (.int i) 0 1000000)) μ):calls G Γ d "is_day" [.int i] fz Q X0 μ:=
 Q8 K.day rfl (by exact dl hd rfl) (seq ⟨_,rfl,Ka K (by exact dn hd rfl) ⟨_,rfl,Xk (chain_ev rfl (fun Q hq=>⟨_,K.gd,hq⟩) h)⟩⟩)
theorem Gm (K:Ks G Γ) {i:Int}(hd:2≤d) (h:Q (.bool (wholeP (.int i) (-1000000000) 1000000000)) μ):calls G Γ d "is_worth" [.int i] fz Q X0 μ:=
 Q8 K.worth rfl (by exact dl hd rfl) (seq ⟨_,rfl,Ka K (by exact dn hd rfl) ⟨_,rfl,Xk ⟨_,K.gw,chain_ev rfl (fun Q hq=>⟨_,K.gw,hq⟩) h⟩⟩⟩)
theorem chars_len {x:Str}(h:x.length≤100):fits (chars x).length:=by
 unfold chars
 rw[List.length_map,← Uh];exact fit (by exact ar117 h)
theorem sign_in {c:Nat}{y:Str}:strIn (.str ⟨#[c]⟩) y=some (y.cps.toList.contains c):=by
 show (if (⟨#[c]⟩:Str).length=1 then some (y.cps.toList.contains c) else none)=_
 exact if_pos rfl
theorem Hi {Φ:CallSpec}{R:MFlow->MVars->MH->Prop}{y:Str}(hg:G "LETTERS" = some (.str y)):∀ (cs:List Nat) (V:MVars),(cs.all (fun c=>y.cps.toList.contains c)=true->∀ V',R .next V' μ)->(cs.all (fun c=>y.cps.toList.contains c)=false->∀ V',R (.ret (.bool false)) V' μ)->
  loopM (.one 1) (fun vs F μ=>exs G Φ X0 [Ok] fz vs F μ) R (cs.map fun c=>.str ⟨#[c]⟩) V μ
 | []=>fun V h1 _=>h1 rfl V
 | c::cs=>fun V h1 h2=>by
  rw[List.map_cons,Xi]
  have q':cmpM .notin μ (.str ⟨#[c]⟩) (.str y)=some (!y.cps.toList.contains c):=by
   show (strIn (.str ⟨#[c]⟩) y).map (!·)=_
   rw[sign_in];rfl
  refine⟨_,rfl,seq (Qi (Q7 ⟨_,Qa,_,hg,_,q',?_⟩))⟩
  rw[List.all_cons] at h1 h2
  cases q:y.cps.toList.contains c with
  | true=>
   rw[q,Bool.true_and] at h1 h2
   exact Qo (Hi hg cs _ h1 h2)
  | false=>
   rw[q,Bool.false_and] at h2
   exact Xk (seq (K6 (h2 rfl _)))
theorem Py (K:Ks G Γ) {s:Str}(hd:1≤d) (hl:s.length≤60) (h:Q (.bool (nameP (.str s))) μ):calls G Γ d "is_name" [.str s] fz Q X0 μ:=by
 refine Q8 K.name rfl hd (seq (Qi (Xz (X6 (Zm (Y4 rfl ⟨true,rfl,Qo (Yb (X6 (evB_cmp2 (Kh (Y4 rfl ⟨fit (by exact Nat.le_trans (by assumption) (by decide)),decide ((1:Int)≤s.length),rfl,tstB (fun q1=>?_) fun q1=>?_⟩)))))⟩))))))
 all_goals change Q (.bool (decide (1≤s.length) && decide (s.length≤8) && s.cps.toList.all fun c=>(S "abcdefghijklmnopqrstuvwxyz").cps.toList.contains c)) μ at h
 ·have q1:=of_decide_eq_true q1
  rw[decide_eq_true (show 1≤s.length by exact Int.ofNat_le.mp (by assumption)),Bool.true_and] at h
  refine⟨_,K.gs,decide ((s.length:Int)≤8),rfl,?_⟩
  by_cases q2:s.length≤8
  ·rw[decide_eq_true (show (s.length:Int)≤8 by exact Int.ofNat_le.mpr (by assumption))]
   rw[decide_eq_true q2,Bool.true_and] at h
   refine Qo (Qt (seq (x_for1 (Y4 rfl ⟨.val (.str s),chars s,rfl,rfl,chars_len (by exact Nat.le_trans (by assumption) (by decide)),?_⟩))))
   refine Hi K.gl s.cps.toList _ (fun q V'=>?_) fun q V'=>?_
   ·rw[q] at h;exact seq h
   ·rw[q] at h;exact h
  ·rw[decide_eq_false (show ¬ (s.length:Int)≤8 by exact ar161 q2)]
   rw[decide_eq_false q2,Bool.false_and] at h
   exact Xk (seq (K6 h))
 ·have q1:=of_decide_eq_false q1
  rw[decide_eq_false (show ¬ 1≤s.length by exact ar162 q1),Bool.false_and,Bool.false_and] at h
  exact Xk (seq (K6 h))
end
theorem ixn {μ:MH}{l:List MV}{k:Nat}{v:MV}(hl:l.length≤100) (h:l[k]?=some v):idxM μ (.tup l) (.int (k:Int))=some v:=by
 rw[Zi (by exact Nat.le_trans (by assumption) (by decide))]
 unfold atI
 rw[if_pos (Int.natCast_nonneg k)];exact h
theorem in_kinds {μ:MH}{s:Str}(h:s=S "tell"∨s=S "clear"∨s=S "like"):cmpM .notin μ (.str s) (.tup [.str (S "tell"),.str (S "clear"),.str (S "like")])=some false:=by
 have ht:deep μ 9 (.tup [.str (S "tell"),.str (S "clear"),.str (S "like")])=some (.tuple [.str (S "tell"),.str (S "clear"),.str (S "like")]):=dp_t (Pd (J4 Yl) (Pd (J4 Xp) (Pd (J4 Jw) rfl)))
 have hs:deep μ 9 (.str s)=some (.str s):=by rcases h with rfl|rfl|rfl <;> first|exact J4 Yl|exact J4 Xp|exact J4 Jw
 show (anyT (deep μ 9 (.tup [.str (S "tell"),.str (S "clear"),.str (S "like")])) (deep μ 9 (.str s))).map (!·)=some false
 rw[ht,hs]
 rcases h with rfl|rfl|rfl <;> decide +kernel
noncomputable def midK (nm:Str) (lo hi:Int):Bool:=nameP (.str nm) && (wholeP (.int lo) 0 1000000 && (wholeP (.int hi) 0 1000000 && decide (lo≤hi)))
noncomputable def okE:Ent->Bool
 | .undo j=>decide (j≥1)
 | .clear nm lo hi=>midK nm lo hi
 | .like nm lo hi nm'=>midK nm lo hi && nameP (.str nm')
 | .tell nm lo hi v=>midK nm lo hi && wholeP (.int v) (-1000000000) 1000000000
section
variable {Φ:CallSpec}{d:Nat}{fz:List Addr}{V:MVars}{R:MFlow->MVars->MH->Prop}{μ:MH}{r:List MS}
theorem D8 {s:Str}{l:List MV}(v0:V 0=some (.tup (.str s::l))) (h1:1≤l.length) (h2:l.length≤10) (h:exs G Φ X0 r fz V R μ):exs G Φ X0 (Ux::r) fz V R μ:=
 seq (Qi (Xz (X6 (Zm (Y4 v0 ⟨true,rfl,Qo (Xz (Q7 ⟨_,v0,fit (by rw[List.length_cons];exact Nat.lt_of_le_of_lt (by assumption) (by decide)),_,Cz,by
  rw[decide_eq_false (show ¬ (((MV.str s::l).length:Nat):Int)<2 by rw[List.length_cons];exact ar163 h1)]
  exact Qo (Yb (X6 (Zm ⟨_,v0,_,ixn (k:=0) (by rw[List.length_cons];exact Nat.lt_of_le_of_lt (by assumption) (by decide)) rfl,true,rfl,Qo (Qt h)⟩)))⟩))⟩)))))
theorem Rp {s nm:Str}{lo hi:Int}{l:List MV}(v0:V 0=some (.tup (.str s::.str nm::.int lo::.int hi::l))) (h2:l.length≤7) (hs:cmpM .eq μ (.str s) (.str (S "undo"))=some false) (hk:s=S "tell"∨s=S "clear"∨s=S "like") (h:exs G Φ X0 r fz V R μ):exs G Φ X0 (Uw::Uv::r) fz V R μ:=by
 have hl:(MV.str s::.str nm::.int lo::.int hi::l).length≤100:=by simp only[List.length_cons];exact ar164 h2
 refine seq (Qi (Q7 ⟨_,v0,_,ixn (k:=0) hl rfl,false,hs,Qo (Qt (seq (Qi (Xz (Q7 ⟨_,v0,_,ixn (k:=0) hl rfl,fit (lb rfl),false,in_kinds hk,Qo (Yb (Q7 ⟨_,v0,fit (by exact ar117 hl),_,Cz,?_⟩))⟩)))))⟩))
 rw[decide_eq_false (show ¬ (((MV.str s::.str nm::.int lo::.int hi::l).length:Nat):Int)<4 by simp only[List.length_cons];exact ar165)]
 exact Qo (Qt h)
theorem Ro (K:Ks G Γ) {s nm:Str}{lo hi:Int}{l:List MV}(v0:V 0=some (.tup (.str s::.str nm::.int lo::.int hi::l))) (h2:l.length≤7) (hd:2≤d) (hn:nm.length≤60) (h1:midK nm lo hi=true->exs G (calls G Γ d) X0 r fz V R μ) (h0:midK nm lo hi=false->R (.ret (.bool false)) V μ):exs G (calls G Γ d) X0 (Uu::r) fz V R μ:=by
 have hl:(MV.str s::.str nm::.int lo::.int hi::l).length≤100:=by simp only[List.length_cons];exact ar164 h2
 unfold midK at h1 h0
 refine seq (Qi (Xz (X6 (Ju ⟨_,v0,_,ixn (k:=1) hl rfl,Py K (by exact dl hd rfl) hn ⟨_,rfl,?_⟩⟩))))
 cases q1:nameP (.str nm) with
 | false=>rw[q1] at h0;exact Xk (Xk (seq (K6 (h0 rfl))))
 | true=>
 rw[q1,Bool.true_and] at h0 h1
 refine Qo (Xz (X6 (Ju ⟨_,v0,_,ixn (k:=2) hl rfl,C4 K (by exact dl hd rfl) ⟨_,rfl,?_⟩⟩)))
 cases q2:wholeP (.int lo) 0 1000000 with
 | false=>rw[q2] at h0;exact Xk (Xk (seq (K6 (h0 rfl))))
 | true=>
 rw[q2,Bool.true_and] at h0 h1
 refine Qo (Xz (X6 (Ju ⟨_,v0,_,ixn (k:=3) hl rfl,C4 K (by exact dl hd rfl) ⟨_,rfl,?_⟩⟩)))
 cases q3:wholeP (.int hi) 0 1000000 with
 | false=>rw[q3] at h0;exact Xk (Xk (seq (K6 (h0 rfl))))
 | true=>
 rw[q3,Bool.true_and] at h0 h1
 refine Qo (Yb (Q7 ⟨_,v0,_,ixn (k:=2) hl rfl,_,v0,_,ixn (k:=3) hl rfl,_,c_gt,?_⟩))
 by_cases q4:lo≤hi
 ·rw[decide_eq_false (show ¬ lo > hi by exact ar166 q4)]
  exact Qo (Qt (h1 (decide_eq_true q4)))
 ·rw[decide_eq_true (show lo > hi by exact ar167 q4)]
  exact Xk (seq (K6 (h0 (decide_eq_false q4))))
end
theorem O5 {d:Nat}{fz:List Addr}{Q:MQ}{μ:MH}(K:Ks G Γ) {e:Ent}(hd:3≤d) (he:EB e) (h:Q (.bool (okE e)) μ):calls G Γ d "is_entry" [e.mv] fz Q X0 μ:=by
 refine Q8 K.entry rfl (by exact dl hd rfl) ?_
 show exs G (calls G Γ (d-1)) X0 [Ux,Uw,Uv,Uu,Ad,Ac,Ab,Aa] _ _ _ _
 cases e with
 | undo j=>
  refine D8 rfl (lb rfl) (lb rfl) (seq (Qi (Q7 ⟨_,rfl,_,ix2_0,true,Ui,Xk (seq ?_)⟩)))
  exact⟨_,rfl,fit (lb rfl),true,rfl,true,rfl,Xk ⟨_,rfl,_,ix2_1,Ka K (by exact dn hd rfl) ⟨true,rfl,Xk ⟨_,rfl,_,ix2_1,_,rfl,h⟩⟩⟩⟩
 | clear nm lo hi=>
  refine D8 rfl (lb rfl) (lb rfl) (Rp rfl (lb rfl) K8 (.inr (.inl rfl)) (Ro K rfl (lb rfl) (by exact dn hd rfl) (by first|exact he|exact he.1) (fun q=>?_) fun q=>?_))
  ·have h:Q (.bool (midK nm lo hi)) μ:=h
   rw[q] at h
   exact seq (Qi (Q7 ⟨_,rfl,_,Hp,true,Jf,Xk (seq ⟨_,rfl,fit (lb rfl),true,rfl,h⟩)⟩))
  ·have h:Q (.bool (midK nm lo hi)) μ:=h
   rw[q] at h;exact h
 | like nm lo hi nm'=>
  refine D8 rfl (lb rfl) (lb rfl) (Rp rfl (lb rfl) Uk (.inr (.inr rfl)) (Ro K rfl (lb rfl) (by exact dn hd rfl) (by first|exact he|exact he.1) (fun q=>?_) fun q=>?_))
  ·have h:Q (.bool (midK nm lo hi && nameP (.str nm'))) μ:=h
   rw[q] at h
   refine seq (Qi (Q7 ⟨_,rfl,_,Kq,false,K7,Qo (Qt (seq (Qi (Q7 ⟨_,rfl,fit (lb rfl),false,rfl,Qo (Qt (seq ?_))⟩))))⟩))
   exact Qi (Q7 ⟨_,rfl,_,Kq,false,Pw,Qo (Qt (seq ⟨_,rfl,_,ix5_4,Py K (by exact dn hd rfl) he.2 h⟩))⟩)
  ·have h:Q (.bool (midK nm lo hi && nameP (.str nm'))) μ:=h
   rw[q] at h;exact h
 | tell nm lo hi v=>
  refine D8 rfl (lb rfl) (lb rfl) (Rp rfl (lb rfl) Uj (.inl rfl) (Ro K rfl (lb rfl) (by exact dn hd rfl) (by first|exact he|exact he.1) (fun q=>?_) fun q=>?_))
  ·have h:Q (.bool (midK nm lo hi && wholeP (.int v) (-1000000000) 1000000000)) μ:=h
   rw[q] at h
   refine seq (Qi (Q7 ⟨_,rfl,_,Kq,false,O4,Qo (Qt (seq (Qi (Q7 ⟨_,rfl,fit (lb rfl),false,rfl,Qo (Qt (seq ?_))⟩))))⟩))
   exact Qi (Q7 ⟨_,rfl,_,Kq,true,Pv,Xk (seq ⟨_,rfl,_,ix5_4,Gm K (by exact dn hd rfl) h⟩)⟩)
  ·have h:Q (.bool (midK nm lo hi && wholeP (.int v) (-1000000000) 1000000000)) μ:=h
   rw[q] at h;exact h
end Mine
end
section
namespace Mine
open PySem
variable {G:String->Option MV}{Γ:String->Option MFun}
noncomputable def kat (h:Addr) (gr gv:Int):List (Str×MV):=[(S "held",.ref h),(S "ground",.int gr),(S "given",.int gv)]
theorem hg_ne:¬ S "held" = S "ground":=by decide +kernel
theorem hv_ne:¬ S "held" = S "given":=by decide +kernel
theorem gv_ne:¬ S "ground" = S "given":=by decide +kernel
section
variable {h h':Addr}{gr gv x:Int}
theorem lk_held:lookI (kat h gr gv) (S "held")=some (.ref h):=by simp[lookI,kat]
theorem lk_ground:lookI (kat h gr gv) (S "ground")=some (.int gr):=by simp[lookI,kat,hg_ne]
theorem lk_given:lookI (kat h gr gv) (S "given")=some (.int gv):=by simp[lookI,kat,hv_ne,gv_ne]
theorem lk_none {n:Str}(h1:¬ S "held" = n) (h2:¬ S "ground" = n) (h3:¬ S "given" = n):lookI (kat h gr gv) n=none:=by simp[lookI,kat,h1,h2,h3]
theorem pt_given:putI (kat h gr gv) (S "given") (.int x)=kat h gr x:=by simp[putI,kat,hv_ne,gv_ne]
theorem pt_ground:putI (kat h gr gv) (S "ground") (.int x)=kat h x gv:=by simp[putI,kat,hg_ne,Ne.symm gv_ne]
theorem pt_held:putI (kat h gr gv) (S "held") (.ref h')=kat h' gr gv:=by simp[putI,kat,Ne.symm hg_ne,Ne.symm hv_ne]
end
structure Kp (G:String->Option MV) (k dk h:Addr) (B:Book) (gr gv:Int) (μ:MH):Prop where
 cls:∃ C,G "Keeper" = some (.ref C)∧μ k=some (.inst C dk)
 at':μ dk=some (.attrs (kat h gr gv))
 held:μ h=some (.idict (Book.mv B))
theorem Kp.ext {k dk h:Addr}{B:Book}{gr gv:Int}{μ μ':MH}(K:Kp G k dk h B gr gv μ) (x:Ext μ μ'):Kp G k dk h B gr gv μ':=by
 obtain⟨C,c1,c2⟩:=K.cls
 exact⟨⟨C,c1,x _ _ c2⟩,x _ _ K.at',x _ _ K.held⟩
noncomputable def Ch (dk h h':Addr) (μ μ':MH):Prop:=∀ b o,μ b=some o->b≠dk->b≠h->μ' b=some o∧b≠h'
theorem Ch.of_ext {dk h:Addr}{μ μ':MH}(x:Ext μ μ'):Ch dk h h μ μ':=fun b o e _ n=>⟨x b o e,n⟩
theorem Ch.trans {dk h h' h'':Addr}{μ μ' μ'':MH}(x:Ch dk h h' μ μ') (y:Ch dk h' h'' μ' μ''):Ch dk h h'' μ μ'':=fun b o e n1 n2=>by
 obtain⟨e',n'⟩:=x b o e n1 n2
 exact y b o e' n1 n'
section
variable {k dk h:Addr}{B:Book}{gr gv:Int}{μ:MH}
theorem Kp.list (K:Kp G k dk h B gr gv μ) {a:Addr}{l:List MV}(e:μ a=some (.list l)):a≠dk∧a≠h:=
 ⟨fun q=>(by rw[q,K.at'] at e;cases e),fun q=>(by rw[q,K.held] at e;cases e)⟩
theorem Ch.list {h':Addr}{μ':MH}(c:Ch dk h h' μ μ') (K:Kp G k dk h B gr gv μ) {a:Addr}{l:List MV}(e:μ a=some (.list l)):μ' a=some (.list l):=(c a _ e (K.list e).1 (K.list e).2).1
theorem Kp.ne (K:Kp G k dk h B gr gv μ):dk≠h∧k≠dk∧k≠h:=by
 obtain⟨C,c1,c2⟩:=K.cls
 exact⟨fun q=>(by have:=K.at';rw[q,K.held] at this;cases this),fun q=>(by rw[q,K.at'] at c2;cases c2),fun q=>(by rw[q,K.held] at c2;cases c2)⟩
variable {Φ:CallSpec}{X:MX}{fz:List Addr}{vars:MVars}{Q:MQ}{i:Nat}
theorem Yz (K:Kp G k dk h B gr gv μ) (hv:vars i=some (.ref k)) (hq:Q (.ref h) μ):ev G Φ X (.attr (.var i) "held") fz vars Q μ:=by
 obtain⟨C,c1,c2⟩:=K.cls
 exact⟨_,hv,C,dk,_,c1,c2,K.at',rfl,_,lk_held,hq⟩
theorem Bu (K:Kp G k dk h B gr gv μ) (hv:vars i=some (.ref k)) (hq:Q (.int gr) μ):ev G Φ X (.attr (.var i) "ground") fz vars Q μ:=by
 obtain⟨C,c1,c2⟩:=K.cls
 exact⟨_,hv,C,dk,_,c1,c2,K.at',rfl,_,lk_ground,hq⟩
theorem Z0 (K:Kp G k dk h B gr gv μ) (hv:vars i=some (.ref k)) (hq:Q (.int gv) μ):ev G Φ X (.attr (.var i) "given") fz vars Q μ:=by
 obtain⟨C,c1,c2⟩:=K.cls
 exact⟨_,hv,C,dk,_,c1,c2,K.at',rfl,_,lk_given,hq⟩
noncomputable def noAt (n:String):Bool:=decide (¬ S "held" = S n) && (decide (¬ S "ground" = S n) && decide (¬ S "given" = S n))
theorem Kp.meth (K:Kp G k dk h B gr gv μ) {n:String}(e:noAt n=true):instM G μ k fun _ l=>lookI l (Str.ofString n)=none:=by
 obtain⟨C,c1,c2⟩:=K.cls
 obtain⟨e1,e2⟩:=and2 e
 obtain⟨e2,e3⟩:=and2 e2
 exact⟨C,dk,_,c1,c2,K.at',lk_none (of_decide_eq_true e1) (of_decide_eq_true e2) (of_decide_eq_true e3)⟩
theorem Y6 {n m:String}{l:List ME}(K:Kp G k dk h B gr gv μ) (hv:vars i=some (.ref k)) (e:noAt n=true) (hm:"Keeper." ++ n=m) (hq:evs G Φ X l fz vars (fun vs μ'=>Φ m (.ref k::vs) fz Q X μ') μ):ev G Φ X (.mcall n (.var i) l) fz vars Q μ:=by
 subst hm
 exact⟨_,hv,K.meth e,hq⟩
theorem Ik {u:MV}{n:String}{R:MFlow->MVars->MH->Prop}(K:Kp G k dk h B gr gv μ) (hv:vars i=some (.ref k)) (hn:attrName n=true) (hz:dk∉fz) (hr:R .next vars (upd μ dk (.attrs (putI (kat h gr gv) (S n) u)))):
  ev G Φ X (.var i) fz vars (fun x μb=>refV x fun a=>instM G μb a fun d l=>d∉fz∧attrName n=true∧fits l.length∧R .next vars (upd μb d (.attrs (putI l (Str.ofString n) u)))) μ:=by
 obtain⟨C,c1,c2⟩:=K.cls
 exact⟨_,hv,C,dk,_,c1,c2,K.at',hz,hn,fit (Nat.le_of_ble_eq_true rfl),hr⟩
theorem U7 {o e:ME}{n:String}{R:MFlow->MVars->MH->Prop}(hq:ev G Φ X e fz vars (fun v μa=>ev G Φ X o fz vars (fun x μb=>refV x fun a=>instM G μb a fun d l=>d∉fz∧attrName n=true∧fits l.length∧R .next vars (upd μb d (.attrs (putI l (Str.ofString n) v)))) μa) μ):ex G Φ X (.setattr o n e) fz vars R μ:=hq
end
section
variable {k dk h:Addr}{B:Book}{gr gv x:Int}{μ:MH}
theorem Kp.setGiven (K:Kp G k dk h B gr gv μ):Kp G k dk h B gr x (upd μ dk (.attrs (kat h gr x))):=by
 obtain⟨C,c1,c2⟩:=K.cls
 exact⟨⟨C,c1,(Q9 K.ne.2.1).trans c2⟩,Q5,(Q9 (Ne.symm K.ne.1)).trans K.held⟩
theorem Kp.setGround (K:Kp G k dk h B gr gv μ):Kp G k dk h B x gv (upd μ dk (.attrs (kat h x gv))):=by
 obtain⟨C,c1,c2⟩:=K.cls
 exact⟨⟨C,c1,(Q9 K.ne.2.1).trans c2⟩,Q5,(Q9 (Ne.symm K.ne.1)).trans K.held⟩
theorem Kp.setHeld (K:Kp G k dk h B gr gv μ) {h':Addr}{B':Book}(e:μ h'=some (.idict (Book.mv B'))):Kp G k dk h' B' gr gv (upd μ dk (.attrs (kat h' gr gv))):=by
 obtain⟨C,c1,c2⟩:=K.cls
 have n:h'≠dk:=fun q=>by rw[q,K.at'] at e;cases e
 exact⟨⟨C,c1,(Q9 K.ne.2.1).trans c2⟩,Q5,(Q9 n).trans e⟩
theorem Kp.setBook (K:Kp G k dk h B gr gv μ) {B':Book}:Kp G k dk h B' gr gv (upd μ h (.idict (Book.mv B'))):=by
 obtain⟨C,c1,c2⟩:=K.cls
 exact⟨⟨C,c1,(Q9 K.ne.2.2).trans c2⟩,(Q9 K.ne.1).trans K.at',Q5⟩
theorem Ch.atD {o:MO}:Ch dk h h μ (upd μ dk o):=fun b o e n1 n2=>⟨(Q9 n1).trans e,n2⟩
theorem Ch.atH {o:MO}:Ch dk h h μ (upd μ h o):=fun b o e n1 n2=>⟨(Q9 n2).trans e,n2⟩
end
section
variable {d:Nat}{fz:List Addr}{Q:MQ}{k dk h:Addr}{B:Book}{gr gv:Int}{μ:MH}
theorem R6 (kp:Kp G k dk h B gr gv μ) (hl:B.length≤30) (hq:Q (.int (B.length:Int)) μ):biM fz .len [.ref h] Q μ:=by
 show lenO (μ h) (fun n=>Q (.int n) μ)
 rw[kp.held]
 exact⟨fit (by rw[Book.mv_len];exact ar135 hl),by rw[Book.mv_len];exact hq⟩
theorem Ho (K:Ks G Γ) (hd:1≤d) (kp:Kp G k dk h B gr gv μ) (hq:Q (.int gv) μ):calls G Γ d "Keeper.last" [.ref k] fz Q X0 μ:=
 Q8 K.klast rfl hd (seq (K6 (Z0 kp rfl hq)))
theorem F6 (K:Ks G Γ) (hd:1≤d) (kp:Kp G k dk h B gr gv μ) (hq:Q (.int gr) μ):calls G Γ d "Keeper.floor" [.ref k] fz Q X0 μ:=
 Q8 K.kfloor rfl hd (seq (K6 (Bu kp rfl hq)))
theorem Bs (K:Ks G Γ) (hd:1≤d) (kp:Kp G k dk h B gr gv μ) (hl:B.length≤30) (hq:∀ c,μ c=none->c∉fz->Q (.ref c) (upd μ c (.idict (Book.mv B)))):calls G Γ d "Keeper.book" [.ref k] fz Q X0 μ:=by
 refine Q8 K.kbook rfl hd (seq (K6 (Kh (Yz kp rfl ?_))))
 show dictO fz (μ h) _ μ
 rw[kp.held]
 exact⟨fit (by rw[Book.mv_len];exact ar135 hl),hq⟩
theorem init_spec (K:Ks G Γ) (hd:1≤d) {C:Addr}(hC:G "Keeper" = some (.ref C)) (hk:μ k=some (.inst C dk)) (hdk:μ dk=some (.attrs [])) (hz:dk∉fz) (hq:∀ h μ',μ h=none->h∉fz->Kp G k dk h [] 0 0 μ'->Ch dk h h μ μ'->Q .none μ'):calls G Γ d "Keeper.__init__" [.ref k] fz Q X0 μ:=by
 refine Q8 K.kinit rfl hd (seq (U7 (fun h hh hhz=>?_)))
 have n1:k≠h:=fun q=>by rw[q,hh] at hk;cases hk
 have n2:dk≠h:=fun q=>by rw[q,hh] at hdk;cases hdk
 have n3:k≠dk:=fun q=>by rw[q,hdk] at hk;cases hk
 refine⟨_,rfl,C,dk,[],hC,(Q9 n1).trans hk,(Q9 n2).trans hdk,hz,rfl,fit (Nat.le_of_ble_eq_true rfl),?_⟩
 refine seq (U7 ⟨_,rfl,C,dk,_,hC,(Q9 n3).trans ((Q9 n1).trans hk),Q5,hz,rfl,fit (Nat.le_of_ble_eq_true rfl),?_⟩)
 refine seq (U7 ⟨_,rfl,C,dk,_,hC,(Q9 n3).trans ((Q9 n3).trans ((Q9 n1).trans hk)),Q5,hz,rfl,fit (Nat.le_of_ble_eq_true rfl),?_⟩)
 (try dsimp only[kr0])
 refine Qt (hq h _ hh hhz ⟨⟨C,hC,(Q9 n3).trans ((Q9 n3).trans ((Q9 n3).trans ((Q9 n1).trans hk)))⟩,?_,?_⟩ ?_)
 ·have e:putI (putI (putI ([]:List (Str×MV)) (S "held") (.ref h)) (S "ground") (.int 0)) (S "given") (.int 0)=kat h 0 0:=by simp[putI,kat,hg_ne,hv_ne,gv_ne]
  exact Q5.trans (congrArg (fun z=>some (MO.attrs z)) e)
 ·exact(Q9 (Ne.symm n2)).trans ((Q9 (Ne.symm n2)).trans ((Q9 (Ne.symm n2)).trans Q5))
 ·exact fun b o e m1 m2=>⟨(Q9 m1).trans ((Q9 m1).trans ((Q9 m1).trans ((Q9 m2).trans e))),m2⟩
structure BK (B:Book) (gr gv:Int):Prop where
 ok:BOk B
 len:B.length≤30
 key:∀ k∈B.keys,k≤gv
 gr:0≤gr∧gr≤gv
theorem maxI_some (l:List Int):∃ n,maxI (0::l)=some n:=⟨_,rfl⟩
theorem BK.short {n:Int}{L:List Int}(b:BK B gr gv) (ok:L.Sublist (left0 B n)):BK (Sub B L) gv gv:=by
 have hk:∀ k∈L,k∈B.keys:=fun k hk=>(B7 (ok.subset hk)).1
 have hn:=Ps ((Dx b.ok).sublist ok)
 have hl:L.length≤30:=Nat.le_trans ok.length_le (Nat.le_trans J7 b.len)
 refine⟨sub_ok b.ok hn hk (by exact Nat.le_trans (by assumption) (by decide)),Nat.le_trans (Pj _ _) hl,fun j hj=>?_,⟨?_,Int.le_refl _⟩⟩
 ·rw[De hk] at hj;exact b.key j (hk j hj)
 ·have:=b.gr;exact ar168 this
theorem Pn (K:Ks G Γ) (hd:8≤d) (kp:Kp G k dk h B gr gv μ) (b:BK B gr gv) (hz:dk∉fz) (hq:∀ h' μ' B',h'∉fz->BK B' gv gv->Kp G k dk h' B' gv gv μ'->Ch dk h h' μ μ'->Q (.int ((B.length:Int)-(B'.length:Int))) μ'):calls G Γ d "Keeper.shorten" [.ref k] fz Q X0 μ:=by
 obtain⟨n,hn⟩:=maxI_some B.keys
 refine Q8 K.kshort rfl (by exact dl hd rfl) (seq (x_as (Kh (Yz kp rfl (R6 kp b.len ?_)))))
 have w0:setv (args0 [.ref k]) 1 (.int (B.length:Int)) 0=some (.ref k):=rfl
 have w1:setv (args0 [.ref k]) 1 (.int (B.length:Int)) 1=some (.int (B.length:Int)):=rfl
 show exs G (calls G Γ (d-1)) X0 [Js,Jr,Jq] fz (setv (args0 [.ref k]) 1 (.int (B.length:Int))) (kz Q) μ
 generalize setv (args0 [.ref k]) 1 (.int (B.length:Int))=V at w0 w1 ⊢
 refine seq (U7 (ev_call1 (Yz kp w0 (Dg K.g K.short (by exact dn hd rfl) b.ok b.len hn kp.held fun h' μa L xa hn' hz' hL hm=>?_))))
 have kp1:=kp.ext xa
 refine Ik kp1 w0 rfl hz ?_
 rw[pt_held]
 have kp2:=kp1.setHeld hm
 have cc:Ch dk h h' μ (upd μa dk (.attrs (kat h' gr gv))):=fun b o e m1 m2=>⟨(Q9 m1).trans (xa _ _ e),fun q=>by rw[q,hn'] at e;cases e⟩
 generalize upd μa dk (.attrs (kat h' gr gv))=μb at kp2 cc ⊢
 refine seq (U7 (Z0 kp2 w0 (Ik kp2 w0 rfl hz ?_)))
 rw[pt_ground]
 have kp3:=kp2.setGround (x:=gv)
 have cb:=cc.trans (Ch.atD (dk:=dk) (h:=h') (μ:=μb) (o:=.attrs (kat h' gv gv)))
 generalize upd μb dk (.attrs (kat h' gv gv))=μ3 at kp3 cb ⊢
 have bs:=b.short hL
 refine seq (K6 (Fv ⟨_,w1,Kh (Yz kp3 w0 (R6 kp3 bs.len ?_))⟩))
 exact hq h' μ3 _ hz' bs kp3 cb
end
end Mine
end
section
set_option maxRecDepth 100000
namespace Mine
open PySem
inductive Th (μ:MH):MV->Option Ent->Prop
 | ent (e:Ent) (h:EB e) (h':e.ok):Th μ e.mv (some e)
 | lst (a:Addr) (l:List MV) (h:μ a=some (.list l)):Th μ (.ref a) none
noncomputable def okT:Option Ent->Bool
 | some e=>okE e
 | none=>false
noncomputable def undoN:Ent->Option Int
 | .undo j=>some j
 | _=>none
noncomputable def resU (gr gv:Int) (n:Nat):Option Int->Option Nat
 | some j=>if j≤gr then some 1 else if gv<j then some 2 else if 30≤n then some 3 else none
 | none=>if 30≤n then some 3 else none
noncomputable def resE (gr gv:Int) (n:Nat):Option Ent->Option Nat
 | none=>some 0
 | some e=>if okE e=true then resU gr gv n (undoN e) else some 0
theorem res_bad {gr gv:Int}{n:Nat}{en:Option Ent}(h:okT en=false):resE gr gv n en=some 0:=by
 cases en with
 | none=>rfl
 | some e=>exact if_neg (by rw[show okE e=false from h];exact Bool.false_ne_true)
theorem Ig {μ:MH}{e:Ent}:cmpM .eq μ (.str e.word) (.str (S "undo"))=some (!e.nu):=by
 cases e with
 | undo j=>exact Ui
 | clear nm lo hi=>exact K8
 | like nm lo hi nm'=>exact Uk
 | tell nm lo hi v=>exact Uj
theorem mv_app {B:Book}{k:Int}{e:Ent}(h:k∉B.keys):putI (Book.mv B) k e.mv=Book.mv (B++[(k,e)]):=by
 rw[put_new (by rw[Book.mv_keys];exact h)]
 simp[Book.mv]
structure Wd (prog:Program) (w:World) (G:String->Option MV) (Γ:String->Option MFun) (h₀:Heap) (mg mb:Str->Option Value) (k7:Nat->Addr):Prop where
 pg:PG prog w G Γ h₀ mg mb
 nk:NatOk prog w h₀ Γ
 K:Ks G Γ
 x:X7 G k7
 added:Γ "_law_added" = some (Cf fun d vs fz Q μ=>MXC prog w h₀ (d+1) "_law_added" vs fz Q (fun _ _=>False) μ)
 gone:Γ "_law_gone" = some (Ff fun d vs fz Q μ=>MXC prog w h₀ (d+1) "_law_gone" vs fz Q (fun _ _=>False) μ)
section
variable {prog:Program}{w:World}{G:String->Option MV}{Γ:String->Option MFun}{h₀:Heap}{mg mb:Str->Option Value}{k7:Nat->Addr}{d:Nat}{fz:List Addr}{Q:MQ}{X:Addr->MH->Prop}{μ:MH}{R:MFlow->MVars->MH->Prop}{vars:MVars}
 {k dk h:Addr}{B:Book}{gr gv:Int}
theorem Gn (K:Ks G Γ) {v:MV}{en:Option Ent}(hd:3≤d) (T:Th μ v en) (h:Q (.bool (okT en)) μ):calls G Γ d "is_entry" [v] fz Q X0 μ:=by
 cases T with
 | ent e he _=>exact O5 K hd he h
 | lst a l ha=>exact Q8 K.entry rfl (by exact dl hd rfl) (seq (Qi (Xz (X6 (Zm (Y4 rfl ⟨false,by show isTyO .tuple (μ a)=_;rw[ha];rfl,Xk (Xk (seq (K6 h)))⟩))))))
theorem Wd.raise (W:Wd prog w G Γ h₀ mg mb k7) {i:Nat}{bad:String}(hi:x7[i]?=some bad) (h:X (k7 i) μ):MXT prog w h₀ d (.opq (chkRaise bad)) fz vars R X μ:=mt_raise W.pg (W.x.g i bad hi).1 (W.x.g i bad hi).2 h
theorem need_mx (W:Wd prog w G Γ h₀ mg mb k7) {v:MV}{en:Option Ent}(hd:4≤d) (T:Th μ v en) (h1:okT en=true->Q v μ) (h0:okT en=false->X (k7 0) μ):MXC prog w h₀ d "need_entry" [v] fz Q X μ:=by
 obtain⟨n,rfl⟩:∃ n,d=n+1:=⟨d-1,by exact ar169 hd⟩
 refine Jx W.pg W.K.need rfl (Qm (Vk W.pg W.nk (X6 (Ju (Y4 rfl (Gn W.K (by exact dn hd rfl) T ⟨_,rfl,?_⟩))))))
 cases q:okT en with
 | false=>exact Xk (Qm (W.raise (i:=0) rfl (h0 q)))
 | true=>exact Qo (Y3 (Qm (mt_ret (Zg W.pg W.nk ⟨_,rfl,h1 q⟩))))
theorem add_tail (W:Wd prog w G Γ h₀ mg mb k7) {V:MVars}{e:Ent}(kp:Kp G k dk h B gr gv μ) (b:BK B gr gv) (hz:dk∉fz) (hz':h∉fz) (w0:V 0=some (.ref k)) (w1:V 1=some e.mv)
  (hm:30≤B.length->X (k7 3) μ) (hq:B.length<30->∀ μ',Kp G k dk h (B++[(gv+1,e)]) gr (gv+1) μ'->Ch dk h h μ μ'->Q (.int (gv+1)) μ'):MXS prog w h₀ d [Yv,Yu,Yt,Ys] fz V (kz Q) X μ:=by
 refine Qm (Vk W.pg W.nk (Q7 (Kh (Yz kp w0 (R6 kp b.len ⟨_,W.K.gm,_,c_ge,?_⟩)))))
 by_cases q:30≤B.length
 ·rw[decide_eq_true (show (B.length:Int)≥30 by exact Int.ofNat_le.mpr (by assumption))]
  exact Xk (Qm (W.raise (i:=3) rfl (hm q)))
 ·rw[decide_eq_false (show ¬ (B.length:Int)≥30 by exact ar170 q)]
  refine Qo (Y3 (ms_of W.pg W.nk ?_))
  refine seq (U7 (Fv (Z0 kp w0 (Ik (Φ:=calls G Γ d) (X:=X0) (u:=.int (gv+1)) kp w0 rfl hz ?_))))
  rw[pt_given]
  have kp1:=kp.setGiven (x:=gv+1)
  have ca:=Ch.atD (dk:=dk) (h:=h) (μ:=μ) (o:=.attrs (kat h gr (gv+1)))
  generalize upd μ dk (.attrs (kat h gr (gv+1)))=μa at kp1 ca ⊢
  refine seq ⟨_,w1,Yz kp1 w0 (Z0 kp1 w0 (Po kp1.held hz' (fit (by rw[Book.mv_len];exact ar171 q)) ?_))⟩
  rw[mv_app fun m=>by have:=b.key _ m;exact ar172 this]
  have kp2:=kp1.setBook (B':=B++[(gv+1,e)])
  have cc:=ca.trans (Ch.atH (dk:=dk) (h:=h) (μ:=μa) (o:=.idict (Book.mv (B++[(gv+1,e)]))))
  generalize upd μa h (.idict (Book.mv (B++[(gv+1,e)])))=μb at kp2 cc ⊢
  exact seq (K6 (Z0 kp2 w0 (hq (by exact ar173 q) μb kp2 cc)))
theorem undoN_nu {e:Ent}(z:e.nu=true):undoN e=none:=by cases e <;> first|rfl|cases z
theorem undo_of {e:Ent}(z:e.nu=false):∃ j,e=.undo j:=by cases e <;> first|exact⟨_,rfl⟩|cases z
theorem add_mx (W:Wd prog w G Γ h₀ mg mb k7) {v:MV}{en:Option Ent}(hd:5≤d) (kp:Kp G k dk h B gr gv μ) (b:BK B gr gv) (hz:dk∉fz) (hz':h∉fz) (T:Th μ v en)
  (hx:∀ i,resE gr gv B.length en=some i->X (k7 i) μ) (hq:∀ e,en=some e->resE gr gv B.length en=none->∀ μ',Kp G k dk h (B++[(gv+1,e)]) gr (gv+1) μ'->Ch dk h h μ μ'->Q (.int (gv+1)) μ'):MXC prog w h₀ d "Keeper.add" [.ref k,v] fz Q X μ:=by
 obtain⟨n,rfl⟩:∃ n,d=n+1:=⟨d-1,by exact ar174 hd⟩
 refine Jx W.pg W.K.kadd rfl (Qm (Ug (me_call (Xh (Zg W.pg W.nk ⟨_,rfl,Vl (need_mx W (by exact dn hd rfl) T (fun q=>?_) fun q=>hx 0 (res_bad q))⟩)))))
 cases T with
 | lst a l ha=>cases q
 | ent e he hok=>
 have q:okE e=true:=q
 have r0:resE gr gv B.length (some e)=resU gr gv B.length (undoN e):=if_pos q
 rw[r0] at hx hq
 have w0:args0 [.ref k,e.mv] 0=some (.ref k):=rfl
 have w1:args0 [.ref k,e.mv] 1=some e.mv:=rfl
 show MXS prog w h₀ n [Jt,Yv,Yu,Yt,Ys] fz (args0 [.ref k,e.mv]) (kz Q) X μ
 generalize args0 [.ref k,e.mv]=V at w0 w1 ⊢
 refine Qm (Vk W.pg W.nk (Q7 ⟨_,w1,_,I4,_,Ig,?_⟩))
 cases z:e.nu with
 | true=>
  have u:undoN e=none:=undoN_nu z
  rw[u] at hx hq
  exact Qo (Y3 (add_tail W kp b hz hz' w0 w1 (fun m=>hx 3 (if_pos m)) fun m=>hq e rfl (if_neg (by exact ar175 m))))
 | false=>
  obtain⟨j,rfl⟩:=undo_of z
  refine Xk (Qm (Vk W.pg W.nk (Q7 ⟨_,w1,_,I3,Bu kp w0 ⟨_,c_le,?_⟩⟩)))
  by_cases q1:j≤gr
  ·rw[decide_eq_true q1]
   exact Xk (Qm (W.raise (i:=1) rfl (hx 1 (if_pos q1))))
  rw[decide_eq_false q1]
  refine Qo (Y3 (Qm (Vk W.pg W.nk (Q7 ⟨_,w1,_,I3,Z0 kp w0 ⟨_,c_gt,?_⟩⟩))))
  by_cases q2:gv<j
  ·rw[decide_eq_true (show j > gv from q2)]
   exact Xk (Qm (W.raise (i:=2) rfl (hx 2 ((if_neg q1).trans (if_pos q2)))))
  rw[decide_eq_false (show ¬ j > gv from q2)]
  exact Qo (Y3 (Y3 (add_tail W kp b hz hz' w0 w1 (fun m=>hx 3 ((if_neg q1).trans ((if_neg q2).trans (if_pos m)))) fun m=>hq _ rfl ((if_neg q1).trans ((if_neg q2).trans (if_neg (by exact ar175 m)))))))
theorem Z4 (W:Wd prog w G Γ h₀ mg mb k7) {n m:String}{i:Nat}{l:List ME}(kp:Kp G k dk h B gr gv μ) (hv:vars i=some (.ref k)) (e:noAt n=true) (hm:"Keeper." ++ n=m) (hq:MXL prog w h₀ d l fz vars (fun vs μ'=>MXC prog w h₀ d m (.ref k::vs) fz Q X μ') X μ):MXE prog w h₀ d (.mcall n (.var i) l) fz vars Q X μ:=by
 subst hm
 exact me_mcall W.pg W.nk ⟨_,hv,kp.meth e,hq⟩
noncomputable def XI (k7:Nat->Addr) (μ:MH) (P:Nat->Prop):Addr->MH->Prop:=fun K μ'=>∃ i,i<7∧P i∧K=k7 i∧μ'=μ
theorem XI.cls (W:Wd prog w G Γ h₀ mg mb k7) {P:Nat->Prop}{K:Addr}{μ':MH}(x:XI k7 μ P K μ'):∃ g∈xNames,G g=some (.ref K):=by
 obtain⟨i,hi,_,rfl,_⟩:=x
 obtain⟨ci,hci⟩:∃ ci,x7[i]?=some ci:=⟨x7[i],List.getElem?_eq_getElem hi⟩
 exact⟨ci,(W.x.g i ci hci).1,(W.x.g i ci hci).2⟩
theorem Gl {c:Prop} [Decidable c] {a b:Option Nat}{P:Option Nat->Prop}(ha:c->P a) (hb:¬c->P b):P (if c then a else b):=by
 by_cases h:c
 ·rw[if_pos h];exact ha h
 ·rw[if_neg h];exact hb h
theorem Pm {j i:Nat}(hj:j<4) (h:some j=some i):i<4:=Option.some.inj h▸hj
theorem resU_lt {n:Nat}{u:Option Int}:∀ i,resU gr gv n u=some i->i<4:=by
 have k3:∀ i,(if 30≤n then some 3 else none)=some i->i<4:=Gl (P:=fun r=>∀ i,r=some i->i<4) (fun _ i=>Pm (by decide)) fun _ i h=>by cases h
 cases u with
 | none=>exact k3
 | some j=>exact Gl (P:=fun r=>∀ i,r=some i->i<4) (fun _ i=>Pm (by decide)) fun _=>Gl (P:=fun r=>∀ i,r=some i->i<4) (fun _ i=>Pm (by decide)) fun _=>k3
theorem Is {n:Nat}{en:Option Ent}{i:Nat}(h:resE gr gv n en=some i):i<4:=by
 cases en with
 | none=>exact Pm (by decide) h
 | some e=>exact Gl (P:=fun r=>∀ i,r=some i->i<4) (fun _=>resU_lt) (fun _ i=>Pm (by decide)) i h
theorem added_mx (W:Wd prog w G Γ h₀ mg mb k7) {v:MV}{en:Option Ent}(hd:6≤d) (kp:Kp G k dk h B gr gv μ) (b:BK B gr gv) (hz:dk∉fz) (hz':h∉fz) (T:Th μ v en)
  (hx:∀ i,resE gr gv B.length en=some i->∀ μ',Ext μ μ'->Q (.tup [.str (wordS i)]) μ') (hq:∀ e,en=some e->resE gr gv B.length en=none->∀ μ',Kp G k dk h (B++[(gv+1,e)]) gr (gv+1) μ'->Ch dk h h μ μ'->Q (.int (gv+1)) μ'):MXC prog w h₀ d "_law_added" [.ref k,v] fz Q X μ:=by
 obtain⟨n,rfl⟩:∃ n,d=n+1:=⟨d-1,by exact ar176 hd⟩
 refine Jx W.pg W.added rfl (Qm (mt_try (X:=XI k7 μ fun i=>resE gr gv B.length en=some i) W.pg (fun f hf=>?_) rfl (fun K μ' x=>x.cls W) ?_ fun K μ' e x me efz=>?_))
 ·simp only[List.mem_cons,List.not_mem_nil,or_false] at hf
  rcases hf with rfl|rfl
  ·exact⟨_,W.K.kadd⟩
  ·exact⟨_,W.K.word⟩
 ·exact Qm (mt_ret (Z4 W (m:="Keeper.add") kp rfl rfl rfl (Xh (Zg W.pg W.nk ⟨_,rfl,Vl (add_mx W (by exact dn hd rfl) kp b hz hz' T (fun i hi=>⟨i,by have:=Is hi;exact ar177 this,hi,rfl,rfl⟩) hq)⟩))))
 ·obtain⟨i,hi,hr,rfl,rfl⟩:=x
  exact hx_word W.pg W.K.word W.x (by exact dn hd rfl) Qa Q5 hi fun μ'' x''=>⟨_,rfl,hx i hr μ'' ((Ext.upd me).trans x'')⟩
theorem V7 (W:Wd prog w G Γ h₀ mg mb k7) {v:MV}{en:Option Ent}(hd:6≤d) (kp:Kp G k dk h B gr gv μ) (b:BK B gr gv) (hz:dk∉fz) (hz':h∉fz) (T:Th μ v en)
  (hx:∀ i,resE gr gv B.length en=some i->∀ μ',Ext μ μ'->Q (.tup [.str (wordS i)]) μ') (hq:∀ e,en=some e->resE gr gv B.length en=none->∀ μ',Kp G k dk h (B++[(gv+1,e)]) gr (gv+1) μ'->Ch dk h h μ μ'->Q (.int (gv+1)) μ'):calls G Γ d "_law_added" [.ref k,v] fz Q X0 μ:=by
 obtain⟨n,rfl⟩:∃ n,d=n+1:=⟨d-1,by exact ar176 hd⟩
 exact⟨_,W.added,rfl,added_mx W (by exact dl hd rfl) kp b hz hz' T hx hq⟩
theorem F1 (W:Wd prog w G Γ h₀ mg mb k7) {n:Int}(hd:1≤d) (kp:Kp G k dk h B gr gv μ) (h1:gr≤n->Q .none μ) (h0:n<gr->X (k7 4) μ):MXC prog w h₀ d "Keeper.need_known" [.ref k,.int n] fz Q X μ:=by
 obtain⟨m,rfl⟩:∃ m,d=m+1:=⟨d-1,by exact ar160 hd⟩
 refine Jx W.pg W.K.kneed rfl (Qm (Vk W.pg W.nk (Q7 ⟨_,rfl,Bu kp rfl ⟨_,Cz,?_⟩⟩)))
 by_cases q:n<gr
 ·rw[decide_eq_true q];exact Xk (Qm (W.raise (i:=4) rfl (h0 q)))
 ·rw[decide_eq_false q];exact Qo (Y3 (Y3 (h1 (by exact ar178 q))))
theorem a_ok:PyData.strOk (S "a")=true:=by decide +kernel
theorem worth_mx (W:Wd prog w G Γ h₀ mg mb k7) {n day:Int}(hd:5≤d) (kp:Kp G k dk h B gr gv μ) (b:BK B gr gv) (h1:gr≤n->∀ v μ',Ext μ μ'->Q v μ') (h0:n<gr->X (k7 4) μ):MXC prog w h₀ d "Keeper.worth" [.ref k,.int n,.str (S "a"),.int day] fz Q X μ:=by
 obtain⟨m,rfl⟩:∃ m,d=m+1:=⟨d-1,by exact ar174 hd⟩
 refine Jx W.pg W.K.kworth rfl (Qm (Ug (Z4 W (m:="Keeper.need_known") kp rfl rfl rfl (Xh (Zg W.pg W.nk ⟨_,rfl,Vl (F1 W (by exact dn hd rfl) kp (fun q=>?_) h0)⟩)))))
 refine ms_of W.pg W.nk (seq (K6 ?_))
 rw[Qf,Q0]
 refine Yz kp rfl ⟨_,rfl,_,rfl,_,rfl,?_⟩
 exact Gc W.K.g.about W.K.g.worth W.K.g.cnt W.K.worthof (by exact dn hd rfl) b.ok kp.held a_ok fun μ' x=>h1 q _ μ' x
theorem runs_mx (W:Wd prog w G Γ h₀ mg mb k7) {n lo hi:Int}(hd:6≤d) (kp:Kp G k dk h B gr gv μ) (b:BK B gr gv) (h1:gr≤n->∀ v μ',Ext μ μ'->Q v μ') (h0:n<gr->X (k7 4) μ):MXC prog w h₀ d "Keeper.runs" [.ref k,.int n,.str (S "a"),.int lo,.int hi] fz Q X μ:=by
 obtain⟨m,rfl⟩:∃ m,d=m+1:=⟨d-1,by exact ar176 hd⟩
 refine Jx W.pg W.K.kruns rfl (Qm (Ug (Z4 W (m:="Keeper.need_known") kp rfl rfl rfl (Xh (Zg W.pg W.nk ⟨_,rfl,Vl (F1 W (by exact dn hd rfl) kp (fun q=>?_) h0)⟩)))))
 refine ms_of W.pg W.nk (seq (K6 ?_))
 rw[Qf,Q0]
 refine Yz kp rfl ⟨_,rfl,_,rfl,_,rfl,_,rfl,?_⟩
 exact Zy W.K.g.about W.K.g.worth W.K.g.cnt W.K.g.beg W.K.g.str W.K.g.runs (by exact dn hd rfl) b.ok b.len kp.held a_ok fun c μ' x _ _ _=>h1 q _ μ' x
theorem why_mx (W:Wd prog w G Γ h₀ mg mb k7) {n lo hi:Int}(hd:7≤d) (kp:Kp G k dk h B gr gv μ) (b:BK B gr gv) (h1:gr≤n->∀ v μ',Ext μ μ'->Q v μ') (h0:n<gr->X (k7 4) μ):MXC prog w h₀ d "Keeper.why" [.ref k,.int n,.str (S "a"),.int lo,.int hi] fz Q X μ:=by
 obtain⟨m,rfl⟩:∃ m,d=m+1:=⟨d-1,by exact ar179 hd⟩
 refine Jx W.pg W.K.kwhy rfl (Qm (Ug (Z4 W (m:="Keeper.need_known") kp rfl rfl rfl (Xh (Zg W.pg W.nk ⟨_,rfl,Vl (F1 W (by exact dn hd rfl) kp (fun q=>?_) h0)⟩)))))
 refine ms_of W.pg W.nk (seq (K6 ?_))
 rw[Qf,Q0]
 refine Yz kp rfl ⟨_,rfl,_,rfl,_,rfl,_,rfl,?_⟩
 exact Gq W.K.g.about W.K.g.worth W.K.g.cnt W.K.g.beg W.K.g.str W.K.g.runs W.K.g.book W.K.hangs (by exact dn hd rfl) b.ok b.len kp.held a_ok fun c μ' x _=>h1 q _ μ' x
theorem gone_mx (W:Wd prog w G Γ h₀ mg mb k7) {n way:Int}(hd:8≤d) (kp:Kp G k dk h B gr gv μ) (b:BK B gr gv) (h1:gr≤n->∀ μ',Ext μ μ'->Q (.tup []) μ') (h0:n<gr->∀ μ',Ext μ μ'->Q (.tup [.str (wordS 4)]) μ'):MXC prog w h₀ d "_law_gone" [.ref k,.int n,.int way] fz Q X μ:=by
 obtain⟨m,rfl⟩:∃ m,d=m+1:=⟨d-1,by exact ar180 hd⟩
 have x4:n<gr->XI k7 μ (fun i=>i=4∧n<gr) (k7 4) μ:=fun q=>⟨4,by decide,⟨rfl,q⟩,rfl,rfl⟩
 refine Jx W.pg W.gone rfl (Qm (mt_try (X:=XI k7 μ fun i=>i=4∧n<gr) W.pg (fun f hf=>?_) rfl (fun K μ' x=>x.cls W) ?_ fun K μ' e x me efz=>?_))
 ·simp only[List.mem_cons,List.not_mem_nil,or_false] at hf
  rcases hf with rfl|rfl|rfl|rfl
  ·exact⟨_,W.K.kworth⟩
  ·exact⟨_,W.K.kruns⟩
  ·exact⟨_,W.K.kwhy⟩
  ·exact⟨_,W.K.word⟩
 ·have fin:gr≤n->∀ (v:MV) μ',Ext μ μ'->MXS prog w h₀ m [A5] fz (args0 [.ref k,.int n,.int way]) (kz Q) X μ':=fun q v μ' x=>ms_of W.pg W.nk (seq ⟨fit (Nat.le_of_ble_eq_true rfl),h1 q μ' x⟩)
  refine Qm (Vk W.pg W.nk (Q7 ⟨_,rfl,_,Nc,?_⟩))
  by_cases q0:way=0
  ·rw[show (way == 0)=true from beq_iff_eq.mpr q0]
   exact Xk (Qm (Ug (Z4 W (m:="Keeper.worth") kp rfl rfl rfl (Xh (Zg W.pg W.nk ⟨_,rfl,Xh (Zg W.pg W.nk (Xh (Zg W.pg W.nk (Vl (worth_mx W (by exact dn hd rfl) kp b (fun q v μ' x=>Y3 (Y3 (fin q v μ' x))) x4)))))⟩)))))
  rw[show (way == 0)=false from beq_eq_false_iff_ne.mpr q0]
  refine Qo (Qm (Vk W.pg W.nk (Q7 ⟨_,rfl,_,Nc,?_⟩)))
  by_cases q1:way=1
  ·rw[show (way == 1)=true from beq_iff_eq.mpr q1]
   exact Xk (Qm (Ug (Z4 W (m:="Keeper.runs") kp rfl rfl rfl (Xh (Zg W.pg W.nk ⟨_,rfl,Xh (Zg W.pg W.nk (Xh (Zg W.pg W.nk (Xh (Zg W.pg W.nk (Vl (runs_mx W (by exact dn hd rfl) kp b (fun q v μ' x=>Y3 (Y3 (Y3 (fin q v μ' x)))) x4)))))))⟩)))))
  rw[show (way == 1)=false from beq_eq_false_iff_ne.mpr q1]
  exact Qo (Qm (Ug (Z4 W (m:="Keeper.why") kp rfl rfl rfl (Xh (Zg W.pg W.nk ⟨_,rfl,Xh (Zg W.pg W.nk (Xh (Zg W.pg W.nk (Xh (Zg W.pg W.nk (Vl (why_mx W (by exact dn hd rfl) kp b (fun q v μ' x=>Y3 (Y3 (Y3 (fin q v μ' x)))) x4)))))))⟩)))))
 ·obtain⟨i,hi,⟨rfl,hr⟩,rfl,rfl⟩:=x
  exact hx_word W.pg W.K.word W.x (by exact dn hd rfl) Qa Q5 hi fun μ'' x''=>⟨_,rfl,h0 hr μ'' ((Ext.upd me).trans x'')⟩
theorem Hu (W:Wd prog w G Γ h₀ mg mb k7) {n way:Int}(hd:8≤d) (kp:Kp G k dk h B gr gv μ) (b:BK B gr gv) (h1:gr≤n->∀ μ',Ext μ μ'->Q (.tup []) μ') (h0:n<gr->∀ μ',Ext μ μ'->Q (.tup [.str (wordS 4)]) μ'):calls G Γ d "_law_gone" [.ref k,.int n,.int way] fz Q X0 μ:=by
 obtain⟨m,rfl⟩:∃ m,d=m+1:=⟨d-1,by exact ar180 hd⟩
 exact⟨_,W.gone,rfl,gone_mx W (by exact dl hd rfl) kp b h1 h0⟩
end
end Mine
end
section
namespace Mine
open PySem
variable {G:String->Option MV}{Γ:String->Option MFun}
noncomputable def resV (gv:Int):Option Nat->MV
 | none=>.int (gv+1)
 | some i=>.tup [.str (wordS i)]
noncomputable def dueOk:Ent->Bool
 | .undo j=>!(j == 0)
 | .clear _ lo hi=>!decide (lo > hi)
 | _=>true
noncomputable def Tame (en:Option Ent):Prop:=∀ e,en=some e->okE e=dueOk e
noncomputable def isCl:Ent->Bool
 | .clear _ _ _=>true
 | _=>false
theorem word_clear {μ:MH}{e:Ent}:cmpM .eq μ (.str e.word) (.str (S "clear"))=some (isCl e):=by
 cases e with
 | undo j=>exact Gj
 | clear nm lo hi=>exact Jf
 | like nm lo hi nm'=>exact K7
 | tell nm lo hi v=>exact O4
theorem in4 {μ:MH}{e:Ent}:cmpM .isin μ (.str e.word) (.tup [.str (S "tell"),.str (S "clear"),.str (S "like"),.str (S "undo")])=some true:=by
 have ht:deep μ 9 (.tup [.str (S "tell"),.str (S "clear"),.str (S "like"),.str (S "undo")])=some (.tuple [.str (S "tell"),.str (S "clear"),.str (S "like"),.str (S "undo")]):=dp_t (Pd (J4 Yl) (Pd (J4 Xp) (Pd (J4 Jw) (Pd (J4 Jv) rfl))))
 have hs:deep μ 9 (.str e.word)=some (.str e.word):=by cases e <;> first|exact J4 Jv|exact J4 Xp|exact J4 Jw|exact J4 Yl
 show anyT (deep μ 9 (.tup [.str (S "tell"),.str (S "clear"),.str (S "like"),.str (S "undo")])) (deep μ 9 (.str e.word))=some true
 rw[ht,hs]
 have hw:e.word=S "tell"∨e.word=S "clear"∨e.word=S "like"∨e.word=S "undo":=by cases e <;> first|exact .inl rfl|exact .inr (.inl rfl)|exact .inr (.inr (.inl rfl))|exact .inr (.inr (.inr rfl))
 generalize e.word=x at hw ⊢
 rcases hw with rfl|rfl|rfl|rfl <;> decide +kernel
section
variable {Φ:CallSpec}{d:Nat}{fz:List Addr}{Q:MQ}{μ:MH}{B:Book}{gr gv:Int}
theorem Dv {r:Addr}(hr:μ r=some (.idict (Book.mv B))) (hl:B.length≤30) (hq:Q (.int (B.length:Int)) μ):biM fz .len [.ref r] Q μ:=by
 show lenO (μ r) (fun n=>Q (.int n) μ)
 rw[hr]
 exact⟨fit (by rw[Book.mv_len];exact ar135 hl),by rw[Book.mv_len];exact hq⟩
theorem due_tail {V:MVars}{r:Addr}(v1:V 1=some (.ref r)) (v2:V 2=some (.int gv)) (hr:μ r=some (.idict (Book.mv B))) (hl:B.length≤30) (h:Q (resV gv (if 30≤B.length then some 3 else none)) μ):exs G Φ X0 [K3,K2] fz V (kz Q) μ:=by
 have ln:∀ Q:MQ,Q (.int (B.length:Int)) μ->ev G Φ X0 (.bi .len [.var 1]) fz V Q μ:=fun Q hq=>Kh ⟨_,v1,Dv hr hl hq⟩
 by_cases q:30≤B.length
 ·rw[if_pos q] at h
  exact seq (Vo (Yx ln Xj (congrArg some (decide_eq_true (show (B.length:Int)≥30 by exact Int.ofNat_le.mpr (by assumption))))) (seq ⟨fit (Nat.le_of_ble_eq_true rfl),h⟩))
 ·rw[if_neg q] at h
  exact seq (Jy (Yx ln Xj (congrArg some (decide_eq_false (show ¬ (B.length:Int)≥30 by exact ar170 q)))) (seq ⟨_,v2,h⟩))
section
variable {V:MVars}{r:Addr}{e:Ent}{c:ME}{R:MFlow->MVars->MH->Prop}
theorem due_w (v0:V 0=some e.mv):∀ Q:MQ,Q (.str e.word) μ->ev G Φ X0 (.idx (.var 0) (.cint 0)) fz V Q μ:=fun Q hq=>⟨_,v0,_,I4,hq⟩
theorem due_j {j:Int}(v0:V 0=some (Ent.undo j).mv):∀ Q:MQ,Q (.int j) μ->ev G Φ X0 (.idx (.var 0) (.cint 1)) fz V Q μ:=fun Q hq=>⟨_,v0,_,I3,hq⟩
theorem due_u (v0:V 0=some e.mv) (F:Bool->MH->Prop) (hF:F (!e.nu) μ):evB G Φ (.cmp (.idx (.var 0) (.cint 0)) [.eq] [.cstr "undo"]) fz V F μ:=Yx (due_w v0) Ye Ig F hF
theorem due_c {t:Bool}(v0:V 0=some e.mv) (ht:isCl e=t) (F:Bool->MH->Prop) (hF:F t μ):evB G Φ (.cmp (.idx (.var 0) (.cint 0)) [.eq] [.cstr "clear"]) fz V F μ:=Yx (due_w v0) Ye (word_clear.trans (congrArg some ht)) F hF
theorem due_undo {j:Int}(v0:V 0=some (Ent.undo j).mv) (v1:V 1=some (.ref r)) (v2:V 2=some (.int gv)) (v3:V 3=some (.int gr)) (v4:V 4=some (.bool true)) (hr:μ r=some (.idict (Book.mv B))) (hl:B.length≤30)
  (h:Q (resV gv (if (!(j == 0))=true then resU gr gv B.length (some j) else some 0)) μ):exs G Φ X0 [N4,N3,N2,K3,K2] fz V (kz Q) μ:=by
 have u:∀ F:Bool->MH->Prop,F true μ->evB G Φ (.cmp (.idx (.var 0) (.cint 0)) [.eq] [.cstr "undo"]) fz V F μ:=due_u v0
 have g:∀ F:Bool->MH->Prop,F false μ->evB G Φ (.not (.var 4)) fz V F μ:=fun F hF=>X6 (Rn v4 rfl hF)
 have z:∀ F:Bool->MH->Prop,F (j == 0) μ->evB G Φ (.cmp (.idx (.var 0) (.cint 1)) [.eq] [.cint 0]) fz V F μ:=Yx (due_j v0) Xj Nc
 have cl:∀ F:Bool->MH->Prop,F false μ->evB G Φ (.cmp (.idx (.var 0) (.cint 0)) [.eq] [.cstr "clear"]) fz V F μ:=due_c v0 rfl
 cases q0:j == 0 with
 | true=>rw[q0] at h z;exact seq (Vo (or_f g (or_t (B1 u z))) (seq ⟨fit (Nat.le_of_ble_eq_true rfl),h⟩))
 | false=>
 rw[q0] at h z
 have h:Q (resV gv (if j≤gr then some 1 else if gv<j then some 2 else if 30≤B.length then some 3 else none)) μ:=h
 refine seq (Jy (or_f g (or_f (B1 u z) (or_1 (Cn cl)))) ?_)
 by_cases q1:j≤gr
 ·rw[if_pos q1] at h
  exact seq (Vo (B1 u (Yx (due_j v0) (Xa v3) (congrArg some (decide_eq_true q1)))) (seq ⟨fit (Nat.le_of_ble_eq_true rfl),h⟩))
 rw[if_neg q1] at h
 refine seq (Jy (B1 u (Yx (due_j v0) (Xa v3) (congrArg some (decide_eq_false q1)))) ?_)
 by_cases q2:gv<j
 ·rw[if_pos q2] at h
  exact seq (Vo (B1 u (Yx (due_j v0) (Xa v2) (congrArg some (decide_eq_true q2)))) (seq ⟨fit (Nat.le_of_ble_eq_true rfl),h⟩))
 rw[if_neg q2] at h
 exact seq (Jy (B1 u (Yx (due_j v0) (Xa v2) (congrArg some (decide_eq_false q2)))) (due_tail v1 v2 hr hl h))
theorem Bp {t:Bool}(hn:e.nu=true) (v0:V 0=some e.mv) (v1:V 1=some (.ref r)) (v2:V 2=some (.int gv)) (v4:V 4=some (.bool true)) (hr:μ r=some (.idict (Book.mv B))) (hl:B.length≤30)
  (hc:∀ F:Bool->MH->Prop,F t μ->evB G Φ (.and [.cmp (.idx (.var 0) (.cint 0)) [.eq] [.cstr "clear"],.cmp (.idx (.var 0) (.cint 2)) [.gt] [.idx (.var 0) (.cint 3)]]) fz V F μ)
  (h:Q (resV gv (if (!t)=true then resU gr gv B.length none else some 0)) μ):exs G Φ X0 [N4,N3,N2,K3,K2] fz V (kz Q) μ:=by
 have u:∀ F:Bool->MH->Prop,F false μ->evB G Φ (.cmp (.idx (.var 0) (.cint 0)) [.eq] [.cstr "undo"]) fz V F μ:=fun F hF=>due_u v0 F (by rw[hn];exact hF)
 have g:∀ F:Bool->MH->Prop,F false μ->evB G Φ (.not (.var 4)) fz V F μ:=fun F hF=>X6 (Rn v4 rfl hF)
 cases t with
 | true=>exact seq (Vo (or_f g (or_f (Cn u) (or_1 hc))) (seq ⟨fit (Nat.le_of_ble_eq_true rfl),h⟩))
 | false=>exact seq (Jy (or_f g (or_f (Cn u) (or_1 hc))) (seq (Jy (Cn u) (seq (Jy (Cn u) (due_tail v1 v2 hr hl h))))))
end
theorem due_spec (K:Ks G Γ) {v:MV}{en:Option Ent}{r:Addr}(hd:1≤d) (T:Th μ v en) (ht:Tame en) (hr:μ r=some (.idict (Book.mv B))) (hl:B.length≤30) (h:Q (resV gv (resE gr gv B.length en)) μ):calls G Γ d "_law_due" [v,.ref r,.int gv,.int gr] fz Q X0 μ:=by
 cases T with
 | lst a l ha=>
  refine Q8 K.due rfl hd (seq (x_asP (Iv (p_inst (Xa rfl) (show isTyO .tuple (μ a)=some false by rw[ha];rfl))) ?_))
  exact seq (Vo (or_t fun F hF=>X6 (Rn Qa rfl hF)) (seq ⟨fit (Nat.le_of_ble_eq_true rfl),h⟩))
 | ent e he hok=>
  have hE:resE gr gv B.length (some e)=if dueOk e=true then resU gr gv B.length (undoN e) else some 0:=by rw[← ht e rfl];rfl
  rw[hE] at h
  refine Q8 K.due rfl hd (seq (x_asP (v:=.bool true) (p_and_t (p_inst (Xa rfl) (by cases e <;> rfl)) (p_cmp (Yk (Xa rfl) Xj I4) (p_tup (D3 Ye (D3 Ye (D3 Ye (D3 Ye pl_nil)))) (fit (Nat.le_of_ble_eq_true rfl))) in4)) ?_))
  cases e with
  | undo j=>exact due_undo rfl rfl rfl rfl rfl hr hl h
  | like nm lo hi nm'=>exact Bp (e:=.like nm lo hi nm') (t:=false) (gr:=gr) rfl rfl rfl rfl rfl hr hl (Cn (due_c (e:=.like nm lo hi nm') rfl rfl)) h
  | tell nm lo hi v=>exact Bp (e:=.tell nm lo hi v) (t:=false) (gr:=gr) rfl rfl rfl rfl rfl hr hl (Cn (due_c (e:=.tell nm lo hi v) rfl rfl)) h
  | clear nm lo hi=>exact Bp (e:=.clear nm lo hi) (t:=decide (lo > hi)) (gr:=gr) rfl rfl rfl rfl rfl hr hl (B1 (due_c (e:=.clear nm lo hi) rfl rfl) (Yx (fun Q hq=>⟨_,rfl,_,ix4_2,hq⟩) (fun Q hq=>⟨_,rfl,_,ix4_3,hq⟩) c_gt)) h
end
end Mine
end
section
namespace Mine
open PySem
variable {G:String->Option MV}{Γ:String->Option MFun}
theorem B2 {j:Int}(h:0≤j):Tame (some (.undo j)):=fun e he=>by
 cases he
 show decide (j≥1)=!(j == 0)
 by_cases q:j=0
 ·subst q;rfl
 ·rw[decide_eq_true (show j≥1 by exact ar181 h q),beq_eq_false_iff_ne.mpr q];rfl
noncomputable def oddL (gr gv k:Int) (a:Addr):List MV:=[(Ent.undo (max 0 (gr-k.fmod 3))).mv,(Ent.undo (gv+1+k.fmod 3)).mv,(Ent.clear (S "a") 4 3).mv,.ref a,(Ent.undo 0).mv]
section
variable {d:Nat}{fz:List Addr}{Q:MQ}{μ:MH}{gr gv:Int}
theorem odd_spec (K:Ks G Γ) {cell k:Int}(hd:1≤d) (h0:0≤gv) (h:∀ v en μ',Ext μ μ'->Th μ' v en->Tame en->Q v μ'):calls G Γ d "_law_odd" [.int cell,.int k,.int gv,.int gr] fz Q X0 μ:=by
 refine Q8 K.odd rfl hd (seq ?_)
 ((try dsimp only[Ce,Q3,kr0,X8,Q0,zlc,Q2,zln,Nat.reduceAdd,Q6,Qp,Qn,Qh,Q1,args0,zgs,zgz,Xl]);(try simp (discharger:=decide) only[Option.some.injEq,Zj,true_and,exists_eq_left',X9,Qb,Qc,bi_max2]))
 refine fun a ha hza c hc hzc=>?_
 have ed:upd (upd μ a (.list [.str (S "undo"),.int 1])) c (.list ((oddL gr gv k a).take 4)) c=some (.list ((oddL gr gv k a).take 4)):=Q5
 have nq:a≠c:=fun q=>by rw[q] at hc;rw[Q5] at hc;cases hc
 have aa:upd (upd μ a (.list [.str (S "undo"),.int 1])) c (.list ((oddL gr gv k a).take 4)) a=some (.list [.str (S "undo"),.int 1]):=(Q9 nq).trans Q5
 have xa:Ext μ (upd (upd μ a (.list [.str (S "undo"),.int 1])) c (.list ((oddL gr gv k a).take 4))):=(Ext.upd ha).trans (Ext.upd hc)
 have w4:setv (args0 [.int cell,.int k,.int gv,.int gr]) 4 (.ref c) 4=some (.ref c):=rfl
 have w0:setv (args0 [.int cell,.int k,.int gv,.int gr]) 4 (.ref c) 0=some (.int cell):=rfl
 show exs G (calls G Γ (d-1)) X0 [Vx] fz (setv (args0 [.int cell,.int k,.int gv,.int gr]) 4 (.ref c)) (kz Q) (upd (upd μ a (.list [.str (S "undo"),.int 1])) c (.list ((oddL gr gv k a).take 4)))
 generalize setv (args0 [.int cell,.int k,.int gv,.int gr]) 4 (.ref c)=V at w4 w0 ⊢
 generalize upd (upd μ a (.list [.str (S "undo"),.int 1])) c (.list ((oddL gr gv k a).take 4))=μa at ed aa xa ⊢
 refine seq ?_
 ((try dsimp only[Vx,Qz,kr1,kz0,Qu,Qh,Q6,Q1,X8,Q0,zlc,Q2,zln,Nat.reduceAdd,Qn,Qp]);(try simp (discharger:=decide) only[w4,Option.some.injEq,Zj,w0,exists_eq_left',X9,true_and]))
 refine fun b hb hzb=>Rv ((Ext.upd hb) _ _ ed) Q5 (fit (Nat.le_of_ble_eq_true rfl)) fun c' hc' hzc'=>?_
 skip
 have xb:=(xa.trans (Ext.upd (o:=.list [(Ent.undo 0).mv]) hb)).trans (Ext.upd (o:=.list (oddL gr gv k a)) hc')
 have ac:=(Ext.upd (o:=.list (oddL gr gv k a)) hc') _ _ ((Ext.upd (o:=.list [(Ent.undo 0).mv]) hb) _ _ aa)
 have hm:=fm (a:=cell) (b:=5) (by decide)
 generalize cell.fmod 5=i at hm ⊢
 refine⟨(oddL gr gv k a).getD i.toNat .none,?_,?_⟩
 ·show idxM (upd _ c' (.list (oddL gr gv k a))) (.ref c') (.int i)=_
  rw[Zp Q5 (Nat.le_of_ble_eq_true rfl),J5 hm.1]
  obtain⟨n,rfl⟩:=Int.eq_ofNat_of_zero_le hm.1
  have hn:n<5:=by exact ar182 hm
  rcases n with _|_|_|_|_|n
  iterate 5 rfl
  exact(ar183 hm).elim
 ·obtain⟨n,rfl⟩:=Int.eq_ofNat_of_zero_le hm.1
  have hn:n<5:=by lia
  have ko:=fm (a:=k) (b:=3) (by decide)
  rcases n with _|_|_|_|_|n
  ·exact h _ _ _ xb (.ent (.undo (max 0 (gr-k.fmod 3))) trivial trivial) (B2 (by exact ar184))
  ·exact h _ _ _ xb (.ent (.undo (gv+1+k.fmod 3)) trivial trivial) (B2 (by exact ar185 h0 ko))
  ·exact h _ _ _ xb (.ent (.clear (S "a") 4 3) (by show (S "a").length≤60;decide +kernel) a_ok) fun e he=>by cases he;decide +kernel
  ·exact h _ _ _ xb (.lst a _ ac) fun e he=>by cases he
  ·exact h _ _ _ xb (.ent (.undo 0) trivial trivial) (B2 (by exact Int.natCast_nonneg _))
  ·exact(ar183 hm).elim
end
theorem let_in {c:Nat}(h1:97≤c) (h2:c≤122):(S "abcdefghijklmnopqrstuvwxyz").cps.toList.contains c=true:=by
 have:∀ c<123,97≤c->(S "abcdefghijklmnopqrstuvwxyz").cps.toList.contains c=true:=by decide +kernel
 exact this c (by exact Nat.succ_le_succ (by assumption)) h1
theorem Ni {x:Str}(h:GoodN x):nameP (.str x)=true:=by
 show (decide (1≤x.length) && decide (x.length≤8) && x.cps.toList.all fun c=>(S "abcdefghijklmnopqrstuvwxyz").cps.toList.contains c)=true
 rw[decide_eq_true (by have:=h.1;exact Nat.le_of_lt (by assumption)),decide_eq_true h.2.1,Bool.true_and,Bool.true_and,List.all_eq_true]
 exact fun c hc=>let_in (h.2.2 c hc).1 (h.2.2 c hc).2
theorem Pi {i lo hi:Int}(h1:lo≤i) (h2:i≤hi):wholeP (.int i) lo hi=true:=by
 show (decide (lo≤i) && decide (i≤hi))=true
 rw[decide_eq_true h1,decide_eq_true h2];rfl
theorem Vm {nm:Str}{lo hi:Int}(hn:nameP (.str nm)=true) (h0:0≤lo) (h1:lo≤hi) (h2:hi≤1000000):midK nm lo hi=true:=by
 unfold midK
 rw[hn,Pi h0 (by exact ar186 h1 h2),Pi (by exact ar187 h0 h1) h2,decide_eq_true h1];rfl
structure Fine (e:Ent):Prop where
 eb:EB e
 ok:e.ok
 yes:okE e=true
 due:dueOk e=true
theorem Fine.tame {e:Ent}(h:Fine e):Tame (some e):=fun e' he=>by cases he;rw[h.yes,h.due]
theorem Fine.of {names:List Str}{k:Int}{e:Ent}(hn:∀ nm∈names,GoodN nm) (h:e.good names k):Fine e:=by
 have l8:∀ nm∈names,nm.length≤60:=fun nm hm=>Nat.le_trans (hn nm hm).2.1 (by decide)
 refine⟨?_,h.ok hn,?_,?_⟩
 ·cases e with
  | undo j=>trivial
  | clear nm lo hi=>exact l8 _ h.1
  | like nm lo hi nm'=>exact⟨l8 _ h.1,l8 _ h.2.1⟩
  | tell nm lo hi v=>exact l8 _ h.1
 ·cases e with
  | undo j=>exact decide_eq_true h.1
  | clear nm lo hi=>exact Vm (Ni (hn _ h.1)) h.2.1 h.2.2.1 h.2.2.2
  | like nm lo hi nm'=>show (midK nm lo hi && nameP (.str nm'))=true;rw[Vm (Ni (hn _ h.1)) h.2.2.1 h.2.2.2.1 h.2.2.2.2,Ni (hn _ h.2.1)];rfl
  | tell nm lo hi v=>show (midK nm lo hi && wholeP (.int v) (-1000000000) 1000000000)=true;rw[Vm (Ni (hn _ h.1)) h.2.1 h.2.2.1 h.2.2.2.1,Pi h.2.2.2.2.1 h.2.2.2.2.2];rfl
 ·cases e with
  | undo j=>have:=h.1;show (!(j == 0))=true;rw[beq_eq_false_iff_ne.mpr (by exact ar188 this)];rfl
  | clear nm lo hi=>have:=h.2.2.1;show (!decide (lo > hi))=true;rw[decide_eq_false (by exact ar166 this)];rfl
  | like nm lo hi nm'=>rfl
  | tell nm lo hi v=>rfl
section
variable {d:Nat}{fz:List Addr}{Q:MQ}{k dk h:Addr}{B:Book}{gr gv:Int}{μ:MH}
theorem BK.app (b:BK B gr gv) {e:Ent}(he:e.ok) (hl:B.length<30):BK (B++[(gv+1,e)]) gr (gv+1):=by
 have hk:(B++[(gv+1,e)]).keys=B.keys++[gv+1]:=by simp[Book.keys]
 refine⟨⟨?_,fun p hp=>?_,by simp;exact ar189 hl⟩,by simp;exact Nat.le_of_succ_le_succ (by assumption),fun k hm=>?_,by have:=b.gr;exact ar190 this⟩
 ·rw[hk,List.nodup_append]
  refine⟨b.ok.nodup,by simp,fun a ha c hc=>?_⟩
  rw[List.mem_singleton] at hc
  have:=b.key a ha
  exact ar191 hc this
 ·rcases List.mem_append.mp hp with hp|hp
  ·exact b.ok.ok p hp
  ·rw[List.mem_singleton] at hp;rw[hp];exact he
 ·rw[hk] at hm
  rcases List.mem_append.mp hm with hm|hm
  ·have:=b.key k hm;exact ar192 this
  ·rw[List.mem_singleton] at hm;simp[*]
theorem add_spec (K:Ks G Γ) {e:Ent}(hd:5≤d) (kp:Kp G k dk h B gr gv μ) (b:BK B gr gv) (hz:dk∉fz) (hz':h∉fz) (hf:Fine e) (hn:e.nu=true) (hl:B.length<30) (hq:∀ μ',Kp G k dk h (B++[(gv+1,e)]) gr (gv+1) μ'->Ch dk h h μ μ'->Q (.int (gv+1)) μ'):calls G Γ d "Keeper.add" [.ref k,e.mv] fz Q X0 μ:=by
 have w0:args0 [.ref k,e.mv] 0=some (.ref k):=rfl
 have w1:args0 [.ref k,e.mv] 1=some e.mv:=rfl
 refine Q8 K.kadd rfl (by exact dl hd rfl) ?_
 show exs G (calls G Γ (d-1)) X0 [N8,Jt,Yv,Yu,Yt,Ys] fz (args0 [.ref k,e.mv]) (kz Q) μ
 generalize args0 [.ref k,e.mv]=V at w0 w1 ⊢
 refine seq ⟨_,w1,?_⟩
 refine Q8 K.need rfl (by exact dn hd rfl) (seq (Qi (X6 (Ju (Y4 rfl (O5 K (by exact ar193 hd) hf.eb ⟨_,rfl,?_⟩))))))
 rw[hf.yes]
 refine Qo (Qt (seq (K6 ⟨_,rfl,?_⟩)))
 refine seq (Qi (Q7 ⟨_,w1,_,I4,_,Ig,?_⟩))
 rw[hn]
 refine Qo (Qt ?_)
 refine seq (Qi (Q7 (Kh (Yz kp w0 (R6 kp b.len ⟨_,K.gm,_,c_ge,?_⟩)))))
 rw[decide_eq_false (show ¬ (B.length:Int)≥30 by exact ar194 hl)]
 refine Qo (Qt ?_)
 refine seq (U7 (Fv (Z0 kp w0 (Ik (Φ:=calls G Γ (d-1)) (X:=X0) (u:=.int (gv+1)) kp w0 rfl hz ?_))))
 rw[pt_given]
 have kp1:=kp.setGiven (x:=gv+1)
 have ca:=Ch.atD (dk:=dk) (h:=h) (μ:=μ) (o:=.attrs (kat h gr (gv+1)))
 generalize upd μ dk (.attrs (kat h gr (gv+1)))=μa at kp1 ca ⊢
 refine seq ⟨_,w1,Yz kp1 w0 (Z0 kp1 w0 (Po kp1.held hz' (fit (by rw[Book.mv_len];exact ar195 hl)) ?_))⟩
 rw[mv_app fun m=>by have:=b.key _ m;exact ar172 this]
 have kp2:=kp1.setBook (B':=B++[(gv+1,e)])
 have cc:=ca.trans (Ch.atH (dk:=dk) (h:=h) (μ:=μa) (o:=.idict (Book.mv (B++[(gv+1,e)]))))
 generalize upd μa h (.idict (Book.mv (B++[(gv+1,e)])))=μb at kp2 cc ⊢
 exact seq (K6 (Z0 kp2 w0 (hq μb kp2 cc)))
end
end Mine
end
section
namespace Mine
open PySem
noncomputable def dayF (k:Int):Int:=k-(k.fmod 7).fdiv 6
theorem day_in {k:Nat}(h:k<31):0≤dayF k∧dayF k≤30:=by
 have:∀ k:Nat,k<31->0≤dayF k∧dayF k≤30:=by decide +kernel
 exact this k h
noncomputable def fullE (d:Int):Ent:=.tell (S "a") (2*d) (2*d+d.fmod 2) d
theorem a_name:nameP (.str (S "a"))=true:=by decide +kernel
theorem b_name:nameP (.str (S "b"))=true:=by decide +kernel
theorem full_fine {d:Int}(h:0≤d∧d≤30):Fine (fullE d):=by
 have m:=fm (a:=d) (b:=2) (by decide)
 refine⟨by show (S "a").length≤60;decide +kernel,a_ok,?_,rfl⟩
 show (midK (S "a") (2*d) (2*d+d.fmod 2) && wholeP (.int d) (-1000000000) 1000000000)=true
 rw[Vm a_name (by exact ar196 h) (by exact ar197 m) (by exact ar198 h m),Pi (by exact ar199 h) (by exact Int.le_trans (And.right (by assumption)) (by decide))];rfl
noncomputable def bE:Ent:=.clear (S "b") 0 0
theorem Rw:Fine bE:=⟨by show (S "b").length≤60;decide +kernel,by show PyData.strOk (S "b")=true;decide +kernel,Vm b_name (by decide) (by decide) (by decide),rfl⟩
theorem word_ok {i:Nat}(h:i<7):PyData.strOk (wordS i)=true:=by
 have:∀ i<7,PyData.strOk (wordS i)=true:=by decide +kernel
 exact this i h
theorem eq_res {μ:MH}{gv:Int}{r:Option Nat}(h:∀ i,r=some i->i<7):cmpM .eq μ (resV gv r) (resV gv r)=some true:=by
 cases r with
 | none=>show cmpM .eq μ (.int (gv+1)) (.int (gv+1))=_;rw[Nc,beq_self_eq_true]
 | some i=>exact Fw (v:=.tup [.str (wordS i)]) ⟨.tuple [.str (wordS i)],dp_t (Pd (J4 (word_ok (h i rfl))) rfl)⟩
theorem R3 {μ:MH}{gv:Int}{r:Option Nat}(h:∀ i,r=some i->i<7):cmpM .ne μ (resV gv r) (resV gv r)=some false:=by
 have:cmpM .eq μ (resV gv r) (resV gv r)=some true:=eq_res h
 show (cmpM .eq μ (resV gv r) (resV gv r)).map (!·)=some false
 rw[this];rfl
section
variable {G:String->Option MV}{Γ:String->Option MFun}{d:Nat}{fz:List Addr}{Q:MQ}{k dk h:Addr}{gr:Int}{μc:MH}
theorem Hv (K:Ks G Γ) {many:Int}{R:MFlow->MVars->MH->Prop}(hd:5≤d) (hz:dk∉fz) (hz':h∉fz):∀ (n i:Nat) (V:MVars) (μ:MH) (B:Book),i+n≤30->B.length=i->Kp G k dk h B 0 i μ->BK B 0 i->V 0=some (.ref k)->V 1=some (.int many)->Ch dk h h μc μ->
  (∀ V' μ' B',V' 1=some (.int many)->Kp G k dk h B' 0 ((i+n:Nat):Int) μ'->BK B' 0 ((i+n:Nat):Int)->Ch dk h h μc μ'->R .next V' μ')->
  loopM (.one 2) (fun vs F μ=>exs G (calls G Γ d) X0 [Jl,Yq] fz vs F μ) R ((List.range' i n).map fun (k:Nat)=>.int k) V μ
 | 0=>fun i V μ B _ _ kp b v0 v1 c hq=>hq V μ B v1 kp b c
 | n+1=>fun i V μ B hi hl kp b v0 v1 c hq=>by
  rw[List.range'_succ,List.map_cons,Xi]
  have w2:setv V 2 (.int i) 2=some (.int i):=Qa
  have w0:setv V 2 (.int i) 0=some (.ref k):=(Q4 (by decide)).trans v0
  have w1:setv V 2 (.int i) 1=some (.int many):=(Q4 (by decide)).trans v1
  refine⟨_,rfl,?_⟩
  generalize setv V 2 (.int i)=V at w0 w1 w2 ⊢
  refine seq ?_
  ((try dsimp only[Jl,Q3,kr0,Qh,Q6,Q1]);(repeat (first|refine⟨_,w2,?_⟩|refine Eq.mpr (X9 (by decide)) ?_|refine Eq.mpr (Xu (by decide)) ?_|dsimp only[Q3,kr0,Qh,Q6,Q1,Qc,Qb])))
  have w3:setv V 3 (.int (dayF i)) 3=some (.int (dayF i)):=Qa
  replace w0:setv V 3 (.int (dayF i)) 0=some (.ref k):=(Q4 (by decide)).trans w0
  replace w1:setv V 3 (.int (dayF i)) 1=some (.int many):=(Q4 (by decide)).trans w1
  change exs G (calls G Γ d) X0 [Yq] fz (setv V 3 (.int (dayF i))) _ μ
  generalize setv V 3 (.int (dayF i))=V at w0 w1 w3 ⊢
  have dy:=day_in (k:=i) (by exact ar200 hi)
  generalize dayF i=dd at w3 dy ⊢
  refine seq ?_
  rw[Yq,U8]
  refine Y6 (m:="Keeper.add") kp w0 rfl rfl ?_
  ((try dsimp only[kr0,Q0,Q2,Qn,zlc,zln,Nat.reduceAdd,Q1,Qh,Q6,Qp]);(repeat (first|refine⟨_,w3,?_⟩|refine⟨fit (Nat.le_of_ble_eq_true rfl),?_⟩|refine Eq.mpr (X9 (by decide)) ?_|refine Eq.mpr (b_mull (by decide)) ?_|dsimp only[kr0,Q0,Q2,Qn,Q1,Qh,Q6,Qp,Qb,Qc])))
  refine add_spec (e:=fullE dd) K hd kp b hz hz' (full_fine dy) rfl (by exact ar201 hi hl) fun μ' kp' c'=>?_
  have e1:((i:Int)+1)=((i+1:Nat):Int):=rfl
  have b':=b.app (e:=fullE dd) a_ok (by lia)
  rw[e1] at kp' b'
  refine Hv K hd hz hz' n (i+1) V μ' _ (by exact ar202 hi) (by rw[List.length_append,hl];rfl) kp' b' w0 w1 (c.trans c') fun V' μ'' B' v' kp'' b'' c''=>?_
  have e2:i+1+n=i+(n+1):=by exact ar44
  rw[e2] at kp'' b''
  exact hq V' μ'' B' v' kp'' b'' c''
theorem full_spec (K:Ks G Γ) {many:Int}(hd:6≤d) (hz:dk∉fz) (hz':h∉fz) (kp:Kp G k dk h [] 0 0 μc) (hm:0≤many∧many≤30) (hq:∀ μ' B',Kp G k dk h B' 0 many μ'->BK B' 0 many->Ch dk h h μc μ'->Q (.int many) μ'):calls G Γ d "_law_full" [.ref k,.int many] fz Q X0 μc:=by
 refine Q8 K.full rfl (by exact dl hd rfl) (seq ?_)
 rw[A7,Zf]
 obtain⟨n,rfl⟩:=Int.eq_ofNat_of_zero_le hm.1
 refine⟨_,rfl,.ints (rangeL 0 n 1),(rangeL 0 n 1).map .int,sr_of (by simp only[in62,Bool.and_eq_true,decide_eq_true_eq];exact ar203 hm),rfl,?_,?_⟩
 ·rw[Jc,List.length_map,List.length_range'];exact fit (by simp;exact ar204 hm)
 rw[Jc,Int.toNat_natCast]
 refine Hv (k:=k) (dk:=dk) (h:=h) (μc:=μc) K (by exact dn hd rfl) hz hz' n 0 _ _ [] (by exact ar205 hm) rfl kp ⟨⟨by simp[Book.keys],fun p hp=>absurd hp List.not_mem_nil,by decide⟩,by decide,by simp[Book.keys],by decide⟩ rfl rfl (.of_ext .refl) fun V' μ' B' v' kp' b' c'=>?_
 rw[Nat.zero_add] at kp' b'
 exact seq (K6 ⟨_,v',hq μ' B' kp' b' c'⟩)
end
end Mine
end
section
namespace Mine
open PySem
section
variable {prog:Program}{w:World}{G:String->Option MV}{Γ:String->Option MFun}{h₀:Heap}{mg mb:Str->Option Value}{k7:Nat->Addr}{d:Nat}{fz:List Addr}{Q:MQ}{R:MFlow->MVars->MH->Prop}
 {k dk h m:Addr}{gr:Int}
theorem res_undo {gv j:Int}{n:Nat}(h0:1≤j) (h1:gr<j) (h2:j≤gv) (h3:n<30):resE gr gv n (some (.undo j))=none:=by
 show (if okE (.undo j)=true then resU gr gv n (some j) else some 0)=none
 rw[if_pos (show okE (.undo j)=true from decide_eq_true h0)]
 exact(if_neg (by simp[*])).trans ((if_neg (by simp[*])).trans (if_neg (by exact ar175 h3)))
theorem res_b {gv:Int}{n:Nat}:resE gr gv n (some bE)=if 30≤n then some 3 else none:=by
 show (if okE bE=true then resU gr gv n (undoN bE) else some 0)=_
 rw[if_pos Rw.yes];rfl
theorem Hn (W:Wd prog w G Γ h₀ mg mb k7) {B:Book}{gv:Int}{μ:MH}{vars:MVars}{i:Nat}(hd:1≤d) (kp:Kp G k dk h B gr gv μ) (b:BK B gr gv) (hv:vars i=some (.ref k)) (hq:∀ μ',Ext μ μ'->Q (.int (B.length:Int)) μ'):ev G (calls G Γ d) X0 (.mcall "book" (.var i) []) fz vars (fun v μ'=>biM fz .len [v] Q μ') μ:=
 Y6 (m:="Keeper.book") kp hv rfl rfl (Bs W.K hd kp b.len fun c hc hz=>Dv Q5 b.len (hq _ (Ext.upd hc)))
theorem Dw (W:Wd prog w G Γ h₀ mg mb k7) {B:Book}{gv:Int}{μ:MH}{vars:MVars}{i:Nat}(hd:1≤d) (kp:Kp G k dk h B gr gv μ) (b:BK B gr gv) (hv:vars i=some (.ref k)) (hq:∀ μ',Ext μ μ'->Q (.int (B.length:Int)) μ'):ev G (calls G Γ d) X0 (.bi .len [.mcall "book" (.var i) []]) fz vars Q μ:=Kh (Hn W hd kp b hv hq)
theorem Os (W:Wd prog w G Γ h₀ mg mb k7) (hd:6≤d) (hz:dk∉fz) (hz':h∉fz) {μc:MH}:∀ (ms:List Int) (V:MVars) (μ:MH) (B:Book) (gv:Int),Kp G k dk h B gr gv μ->BK B gr gv->V 0=some (.ref k)->V 2=some (.int gv)->V 3=some (.int gr)->
  (∀ V' μ' B' gv',Kp G k dk h B' gr gv' μ'->BK B' gr gv'->V' 0=some (.ref k)->V' 2=some (.int gv')->V' 3=some (.int gr)->R .next V' μ')->
  loopM (.one 4) (fun vs F μ=>exs G (calls G Γ d) X0 [Xx] fz vs F μ) R (ms.map .int) V μ
 | []=>fun V μ B gv kp b v0 v2 v3 hq=>hq V μ B gv kp b v0 v2 v3
 | j::ms=>fun V μ B gv kp b v0 v2 v3 hq=>by
  rw[List.map_cons,Xi]
  refine⟨_,rfl,?_⟩
  have w4:setv V 4 (.int j) 4=some (.int j):=Qa
  replace v0:setv V 4 (.int j) 0=some (.ref k):=(Q4 (by decide)).trans v0
  replace v2:setv V 4 (.int j) 2=some (.int gv):=(Q4 (by decide)).trans v2
  replace v3:setv V 4 (.int j) 3=some (.int gr):=(Q4 (by decide)).trans v3
  generalize setv V 4 (.int j)=V at v0 v2 v3 w4 ⊢
  have stay:∀ μ',Ext μ μ'->loopM (.one 4) (fun vs F μ=>exs G (calls G Γ d) X0 [Xx] fz vs F μ) R (ms.map .int) V μ':=fun μ' x=>Os W hd hz hz' (μc:=μc) ms V μ' B gv (kp.ext x) b v0 v2 v3 hq
  refine seq (Qi (Ar (evB_cmp2 ⟨_,v3,_,w4,_,Cz,?_⟩)))
  by_cases q1:gr<j
  ·rw[decide_eq_true q1]
   refine Xk ⟨_,v2,_,c_le,?_⟩
   by_cases q2:j≤gv
   ·rw[decide_eq_true q2]
    refine Xk (Aq (Q7 (Dw W (by exact dl hd rfl) kp b v0 fun μa xa=>⟨_,Cz,?_⟩)))
    by_cases q3:B.length<30
    ·rw[decide_eq_true (show (B.length:Int)<30 by exact Int.ofNat_lt.mpr (by assumption))]
     refine Xk (seq ?_)
     ((try dsimp only[Yp,Q3,kr0,Qh,Q6,Q1]);(repeat (first|refine⟨_,v2,?_⟩|dsimp only[Q3,kr0,Qh,Q6,Q1,Qb,Qc])))
     have w2:setv V 2 (.int (gv+1)) 2=some (.int (gv+1)):=Qa
     replace v0:setv V 2 (.int (gv+1)) 0=some (.ref k):=(Q4 (by decide)).trans v0
     replace v3:setv V 2 (.int (gv+1)) 3=some (.int gr):=(Q4 (by decide)).trans v3
     replace w4:setv V 2 (.int (gv+1)) 4=some (.int j):=(Q4 (by decide)).trans w4
     clear stay
     generalize setv V 2 (.int (gv+1))=V at v0 v3 w2 w4 ⊢
     have g0:=b.gr
     have hr:=res_undo (gr:=gr) (gv:=gv) (j:=j) (n:=B.length) (by exact ar206 q1 g0) q1 q2 q3
     have T:Th μa (Ent.undo j).mv (some (.undo j)):=.ent _ trivial trivial
     refine seq (Qi (Q7 ?_))
     ((try dsimp only[Q1,Qf,Q0,Q2,Qn,zlc,zln,Nat.reduceAdd,Qp]);(repeat (first|refine⟨_,v0,?_⟩|refine⟨_,w4,?_⟩|refine⟨fit (Nat.le_of_ble_eq_true rfl),?_⟩|dsimp only[Q1,Qf,Q0,Q2,Qn,Qp,kr0,Qb,Qc])))
     refine V7 W hd (kp.ext xa) b hz hz' T (fun i hi=>by rw[hr] at hi;cases hi) fun e he _ μb kp2 cc=>⟨_,w2,false,by rw[Az,beq_self_eq_true];rfl,?_⟩
     cases he
     exact Qo (Qt (Di (Di (Os W hd hz hz' (μc:=μc) ms V μb _ _ kp2 (b.app trivial q3) v0 w2 v3 hq))))
    ·rw[decide_eq_false (show ¬ (B.length:Int)<30 by exact ar207 q3)]
     exact Qo (Qt (stay μa xa))
   ·rw[decide_eq_false q2]
    exact Qo (Qo (Qt (stay μ .refl)))
  ·rw[decide_eq_false q1]
   exact Qo (Qo (Qo (Qt (stay μ .refl))))
theorem taken_spec (W:Wd prog w G Γ h₀ mg mb k7) {μ:MH}{B:Book}{gv:Int}{ms:List Int}(hd:9≤d) (hz:dk∉fz) (hz':h∉fz) (kp:Kp G k dk h B gr gv μ) (b:BK B gr gv) (hm:μ m=some (.list (ms.map .int))) (hl:ms.length≤1000) (hq:∀ μ',Q (.bool true) μ'):calls G Γ d "_law_taken_then" [.ref k,.ref m,.int gv,.int gr] fz Q X0 μ:=by
 refine Q8 W.K.taken rfl (by exact dl hd rfl) (seq ?_)
 rw[Jk,Zf]
 have n:=kp.list hm
 refine⟨_,rfl,.val (.ref m),ms.map .int,rfl,by show itemsO (μ m)=_;rw[hm];rfl,fit (by rw[List.length_map];exact ar126 hl),?_⟩
 refine Os (fz:=[m]++fz) (μc:=μ) W (by exact dn hd rfl) (by simp;exact⟨Ne.symm n.1,hz⟩) (by simp;exact⟨Ne.symm n.2,hz'⟩) ms _ _ B gv kp b rfl rfl rfl fun V μ B gv kp b v0 v2 v3=>?_
 clear hm n
 refine seq (Qi (Q7 (Dw W (by exact dn hd rfl) kp b v0 fun μa xa=>⟨_,Cz,?_⟩)))
 by_cases q:B.length<30
 ·rw[decide_eq_true (show (B.length:Int)<30 by exact Int.ofNat_lt.mpr (by assumption))]
  exact Xk (seq (K6 (hq _)))
 rw[decide_eq_false (show ¬ (B.length:Int)<30 by exact ar207 q)]
 refine Qo (Qt (seq (Qi (Q7 ?_))))
 have hr:resE gr gv B.length (some bE)=some 3:=res_b.trans (if_pos (by exact ar208 q))
 have T:∀ μ,Th μ bE.mv (some bE):=fun μ=>.ent _ Rw.eb Rw.ok
 ((try dsimp only[Qn,Q0,List.length_cons,Q2,List.length_nil,Nat.reduceAdd,Qp,Qf,Q6,Q1]);(try simp (discharger:=decide) only[v0,Option.some.injEq,Zj,true_and,exists_eq_left']))
 refine V7 W (by exact dn hd rfl) (kp.ext xa) b hz hz' (T _) (fun i hi μb xb=>?_) fun e he hn=>by rw[hr] at hn;cases hn
 rw[hr] at hi
 cases hi
 skip
 refine⟨false,R3 (gv:=0) (r:=some 3) (fun i hi=>by cases hi;decide),?_⟩
 refine Qo (Qt (seq ?_))
 have kp2:=(kp.ext xa).ext xb
 rw[Jj,U8]
 refine Y6 (m:="Keeper.shorten") kp2 v0 rfl rfl (Pn W.K (by exact dn hd rfl) kp2 b hz fun h' μ3 B' hz3 b' kp3 cb=>?_)
 refine seq ?_
 ((try dsimp only[Ji,Q3,kr0,Qu,Xl,Q0,Q2,Y2,Qk,G7,Q6,X8,List.length_cons,List.length_nil,Nat.reduceAdd,Qn,Qp,Qh,Q1]);(repeat (first|refine⟨_,v2,?_⟩|refine⟨fit (Nat.le_of_ble_eq_true rfl),?_⟩|dsimp only[Q3,kr0,Qu,Xl,Q0,Q2,Y2,Qk,G7,Q6,X8,Qn,Qp,Qh,Q1,Qb,Qc])))
 refine fun c hc hzc=>?_
 have xc:=Ext.upd (o:=.list [.int (gv+1),.tup [.str (S "many")]]) hc
 have ec:upd μ3 c (.list [.int (gv+1),.tup [.str (S "many")]]) c=some (.list [.int (gv+1),.tup [.str (S "many")]]):=Q5
 have kp4:=kp3.ext xc
 change ev G (calls G Γ (d-1)) X0 (.mcall "book" (.var 0) []) fz V _ (upd μ3 c (.list [.int (gv+1),.tup [.str (S "many")]]))
 generalize upd μ3 c (.list [.int (gv+1),.tup [.str (S "many")]])=μ4 at xc ec kp4 ⊢
 refine Hn W (by exact dn hd rfl) kp4 b' v0 fun μ5 x5=>?_
 have kp5:=kp4.ext x5
 have ec5:=x5 _ _ ec
 have hr':resE gv gv B'.length (some bE)=if 30≤B'.length then some 3 else none:=res_b
 have val:∀ {z:Bool},z=((B'.length:Int) == 30)->idxM μ5 (.ref c) (.int (if z=true then 1 else 0))=some (resV gv (resE gv gv B'.length (some bE))):=fun {z} hzz=>by
  rw[hr',Zp ec5 (Nat.le_of_ble_eq_true rfl)]
  have:=b'.len
  by_cases q:B'.length=30
  ·rw[hzz,if_pos (beq_iff_eq.mpr (by simp[*])),if_pos (by simp[*])];rfl
  ·rw[hzz,if_neg (by rw[beq_iff_eq];exact ar209 q),if_neg (by exact ar210 this q)];rfl
 refine⟨_,Nc,_,val rfl,?_⟩
 have w5:setv V 5 (resV gv (resE gv gv B'.length (some bE))) 5=some (resV gv (resE gv gv B'.length (some bE))):=Qa
 have w0:setv V 5 (resV gv (resE gv gv B'.length (some bE))) 0=some (.ref k):=(Q4 (by decide)).trans v0
 generalize setv V 5 (resV gv (resE gv gv B'.length (some bE)))=V at w5 w0 ⊢
 refine seq ?_
 ((try dsimp only[Jh,Qz,kr1,kz0,Y2,Qk,Q1,Qf,Q0,Q2,Qn,zlc,zln,Nat.reduceAdd,Q6,Qp]);(repeat (first|refine⟨_,w0,?_⟩|refine⟨fit (Nat.le_of_ble_eq_true rfl),?_⟩|dsimp only[Qz,kr1,kz0,Y2,Qk,Q1,Qf,Q0,Q2,Qn,Q6,Qp,kr0,Qb,Qc])))
 have fin:∀ μ',ev G (calls G Γ (d-1)) X0 (.var 5) fz V (fun y μ''=>∃ t,cmpM .eq μ'' (resV gv (resE gv gv B'.length (some bE))) y=some t∧Q (.bool t) μ'') μ':=fun μ'=>⟨_,w5,true,eq_res fun i hi=>by have:=Is hi;exact ar177 this,hq μ'⟩
 refine V7 W (by exact dn hd rfl) kp5 b' hz hz3 (T _) (fun i hi μ6 x6=>?_) fun e he hn μ6 kp6 c6=>?_
 ·have:=fin μ6
  rw[hi] at this
  skip
  exact this
 ·have:=fin μ6
  rw[hn] at this
  skip
  exact this
end
end Mine
end
section
namespace Mine
open PySem
structure LS (G:String->Option MV) (fz:List Addr) (ns:List Int) (names:List Str) (a p k dk m h:Addr) (B:Book) (gr gv:Int) (ms:List Int) (V:MVars) (μ:MH):Prop where
 v0:V 0=some (.ref a)
 v1:V 1=some (.ref p)
 v2:V 2=some (.ref k)
 v3:V 3=some (.int gv)
 v4:V 4=some (.int gr)
 v5:V 5=some (.ref m)
 ha:μ a=some (.list (ns.map .int))
 hp:μ p=some (.list (names.map .str))
 hm:μ m=some (.list (ms.map .int))
 kp:Kp G k dk h B gr gv μ
 b:BK B gr gv
 hz:h∉fz
 am:a≠m
 pm:p≠m
section
variable {G:String->Option MV}{fz:List Addr}{ns:List Int}{names:List Str}{a p k dk m h:Addr}{B:Book}{gr gv:Int}{ms:List Int}{V:MVars}{μ:MH}
theorem LS.set (L:LS G fz ns names a p k dk m h B gr gv ms V μ) {i:Nat}(hi:6≤i) (v:MV):LS G fz ns names a p k dk m h B gr gv ms (setv V i v) μ:=
 { L with v0:=(Q4 (by exact ar211 hi)).trans L.v0,v1:=(Q4 (by exact ar212 hi)).trans L.v1,v2:=(Q4 (by exact ar213 hi)).trans L.v2,v3:=(Q4 (by exact ar214 hi)).trans L.v3,v4:=(Q4 (by exact ar215 hi)).trans L.v4,v5:=(Q4 (by exact ar216 hi)).trans L.v5 }
theorem LS.ext (L:LS G fz ns names a p k dk m h B gr gv ms V μ) {μ':MH}(x:Ext μ μ'):LS G fz ns names a p k dk m h B gr gv ms V μ':=
 { L with ha:=x _ _ L.ha,hp:=x _ _ L.hp,hm:=x _ _ L.hm,kp:=L.kp.ext x }
theorem LS.ch (L:LS G fz ns names a p k dk m h B gr gv ms V μ) {h':Addr}{B':Book}{gr' gv':Int}{μ':MH}{V':MVars}(c:Ch dk h h' μ μ') (kp:Kp G k dk h' B' gr' gv' μ') (b:BK B' gr' gv') (hz:h'∉fz) (e0:V' 0=V 0) (e1:V' 1=V 1) (e2:V' 2=V 2) (e5:V' 5=V 5) (w3:V' 3=some (.int gv')) (w4:V' 4=some (.int gr')):LS G fz ns names a p k dk m h' B' gr' gv' ms V' μ':=
 ⟨e0.trans L.v0,e1.trans L.v1,e2.trans L.v2,w3,w4,e5.trans L.v5,c.list L.kp L.ha,c.list L.kp L.hp,c.list L.kp L.hm,kp,b,hz,L.am,L.pm⟩
theorem LS.upd (L:LS G fz ns names a p k dk m h B gr gv ms V μ) {c:Addr}{l:List (Int×MV)}{o:MO}(hc:μ c=some (.idict l)) (n:c≠h):LS G fz ns names a p k dk m h B gr gv ms V (Mine.upd μ c o):=by
 have nl:∀ {x:Addr}{l':List MV},μ x=some (.list l')->Mine.upd μ c o x=some (.list l'):=fun hx=>(Q9 fun q=>by rw[q,hc] at hx;cases hx).trans hx
 obtain⟨C,c1,c2⟩:=L.kp.cls
 refine { L with ha:=nl L.ha,hp:=nl L.hp,hm:=nl L.hm,kp:=⟨⟨C,c1,(Q9 fun q=>?_).trans c2⟩,(Q9 fun q=>?_).trans L.kp.at',(Q9 (Ne.symm n)).trans L.kp.held⟩ }
 ·rw[q,hc] at c2;cases c2
 ·have:=L.kp.at';rw[q,hc] at this;cases this
end
theorem ne_dict {μ:MH}{B:Book}{c r:Addr}(ok:BOk B) (hc:μ c=some (.idict (Book.mv B))) (hr:μ r=some (.idict (Book.mv B))):cmpM .ne μ (.ref c) (.ref r)=some false:=by
 have:eqM μ (.ref c) (.ref r)=some true:=eq_dict hc hr ok.nodup' fun p hp=>(ok.ent p hp).deep
 show (eqM μ (.ref c) (.ref r)).map (!·)=some false
 rw[this];rfl
theorem ne_tup0 {μ:MH}:cmpM .ne μ (.tup []) (.tup [])=some false:=by
 have:eqM μ (.tup []) (.tup [])=some true:=Fw (μ:=μ) (v:=.tup []) ⟨.tuple [],rfl⟩
 show (eqM μ (.tup []) (.tup [])).map (!·)=some false
 rw[this];rfl
section
variable {prog:Program}{w:World}{G:String->Option MV}{Γ:String->Option MFun}{h₀:Heap}{mg mb:Str->Option Value}{k7:Nat->Addr}{d:Nat}{fz:List Addr}{Q:MQ}{R:MFlow->MVars->MH->Prop}
 {ns:List Int}{names:List Str}{a p k dk m h:Addr}{B:Book}{gr gv:Int}{ms:List Int}
theorem H3 (W:Wd prog w G Γ h₀ mg mb k7) (hd:8≤d):∀ (ws:List Int) (V:MVars) (μ:MH),LS G fz ns names a p k dk m h B gr gv ms V μ->(∀ V' μ',LS G fz ns names a p k dk m h B gr gv ms V' μ'->R .next V' μ')->
  loopM (.one 13) (fun vs F μ=>exs G (calls G Γ d) X0 [Ut] fz vs F μ) R (ws.map .int) V μ
 | []=>fun V μ L hq=>hq V μ L
 | j::ws=>fun V μ L hq=>by
  rw[List.map_cons,Xi]
  refine⟨_,rfl,?_⟩
  have w13:setv V 13 (.int j) 13=some (.int j):=Qa
  replace L:=L.set (i:=13) (by decide) (.int j)
  generalize setv V 13 (.int j)=V at L w13 ⊢
  have go:∀ μ',Ext μ μ'->loopM (.one 13) (fun vs F μ=>exs G (calls G Γ d) X0 [Ut] fz vs F μ) R (ws.map .int) V μ':=fun μ' x=>H3 W hd ws V μ' (L.ext x) hq
  refine seq (Qi (Xz (Q7 ?_)))
  ((try dsimp only[Qn,Q2,List.length_nil,Qf,Q0,Q1]);(try simp (discharger:=decide) only[L.v2,Option.some.injEq,L.v4,w13,Zj,true_and,exists_eq_left']))
  refine Hu W hd L.kp L.b (fun _ μa xa=>?_) fun q=>absurd q (Int.lt_irrefl _)
  skip
  refine⟨false,ne_tup0,Qo (Yb (Ar (Q7 ⟨_,L.v4,_,c_gt,?_⟩)))⟩
  by_cases q0:gr > 0
  ·rw[decide_eq_true q0]
   refine Xk (Aq (Q7 ?_))
   ((try dsimp only[Qn,Q0,zlc,Q2,zln,Nat.reduceAdd,Qp,Qf,Q1,Qh,Q6]);(try simp (discharger:=decide) only[L.v2,Option.some.injEq,L.v4,w13,Zj,true_and,exists_eq_left',Qc]))
   refine Hu W hd (L.kp.ext xa) L.b (fun q=>by exact(ar217 q).elim) fun _ μb xb=>?_
   skip
   refine⟨false,R3 (gv:=0) (r:=some 4) (fun i hi=>by cases hi;decide),?_⟩
   exact Qo (Qt (go μb (xa.trans xb)))
  ·rw[decide_eq_false q0]
   exact Qo (Qo (Qt (go μa xa)))
theorem law_ways (W:Wd prog w G Γ h₀ mg mb k7) (hd:8≤d) {V:MVars}{μ:MH}(L:LS G fz ns names a p k dk m h B gr gv ms V μ) (hq:∀ V' μ',LS G fz ns names a p k dk m h B gr gv ms V' μ'->R .next V' μ'):exs G (calls G Γ d) X0 [Xb] fz V R μ:=by
 refine seq ?_
 rw[Xb,Zf]
 exact⟨.ints (rangeL 0 3 1),(rangeL 0 3 1).map .int,rfl,rfl,fit (Nat.le_of_ble_eq_true rfl),H3 W hd _ V μ L fun V' μ' L'=>hq V' μ' L'⟩
theorem law_tail (W:Wd prog w G Γ h₀ mg mb k7) (hd:8≤d) (hz:dk∉fz) {V:MVars}{μ:MH}{r:Addr}{cell:Int}(L:LS G fz ns names a p k dk m h B gr gv ms V μ) (v10:V 10=some (.ref r)) (hr:μ r=some (.idict (Book.mv B))) (hrh:r≠h) (v7:V 7=some (.int cell))
  (hq:∀ V' μ' h' B' gr',LS G fz ns names a p k dk m h' B' gr' gv ms V' μ'->R .next V' μ'):exs G (calls G Γ d) X0 [Xo,Xn,Xb] fz V R μ:=by
 refine seq (Qi (Xz (Q7 (Y6 (m:="Keeper.book") L.kp L.v2 rfl rfl (Bs W.K (by exact dl hd rfl) L.kp L.b.len fun c hc hzc=>⟨_,v10,false,ne_dict L.b.ok Q5 ((Ext.upd hc) _ _ hr),?_⟩)))))
 replace L:=L.ext (Ext.upd (o:=.idict (Book.mv B)) hc)
 replace hr:=(Ext.upd (o:=.idict (Book.mv B)) hc) _ _ hr
 generalize upd μ c (.idict (Book.mv B))=μ at L hr ⊢
 refine Qo (Xz (Q7 (Y6 (m:="Keeper.last") L.kp L.v2 rfl rfl (Ho W.K (by exact dl hd rfl) L.kp ⟨_,L.v3,false,by rw[Az,beq_self_eq_true];rfl,?_⟩))))
 refine Qo (Yb (Q7 (Y6 (m:="Keeper.floor") L.kp L.v2 rfl rfl (F6 W.K (by exact dl hd rfl) L.kp ⟨_,L.v4,false,by rw[Az,beq_self_eq_true];rfl,?_⟩))))
 refine Qo (Qt (seq (Qi (Q7 ?_))))
 ((try dsimp only[Q6,Qh,Q1]);(repeat (first|refine⟨_,v7,?_⟩|refine⟨_,Nc,?_⟩|refine Eq.mpr (X9 (by decide)) ?_|refine Eq.mpr (Xu (by decide)) ?_|dsimp only[Q6,Qh,Q1,kr0,Qb,Qc])))
 refine tstB (fun _=>?_) fun _=>Qt (law_ways W hd L fun V' μ' L'=>hq V' μ' h B gr L')
 refine seq ?_
 rw[A8,Q3]
 refine Y6 (m:="Keeper.shorten") L.kp L.v2 rfl rfl (Pn W.K hd L.kp L.b hz fun h' μa B' hz' b' kp' c'=>?_)
 have hrd:r≠dk:=fun q=>by have:=L.kp.at';rw[← q,hr] at this;cases this
 obtain⟨hra,hrh'⟩:=c' r _ hr hrd hrh
 have w12:setv (setv V 12 (.int ((B.length:Int)-(B'.length:Int)))) 4 (.int gv) 12=some (.int ((B.length:Int)-(B'.length:Int))):=(Q4 (by decide)).trans Qa
 have w10:setv (setv V 12 (.int ((B.length:Int)-(B'.length:Int)))) 4 (.int gv) 10=some (.ref r):=(Q4 (by decide)).trans ((Q4 (by decide)).trans v10)
 have w3:setv V 12 (.int ((B.length:Int)-(B'.length:Int))) 3=some (.int gv):=(Q4 (by decide)).trans L.v3
 have L1:LS G fz ns names a p k dk m h' B' gv gv ms (setv (setv V 12 (.int ((B.length:Int)-(B'.length:Int)))) 4 (.int gv)) μa:=L.ch c' kp' b' hz' rfl rfl rfl rfl w3 Qa
 refine seq (x_as ⟨_,w3,?_⟩)
 dsimp only[kr0]
 generalize setv (setv V 12 (.int ((B.length:Int)-(B'.length:Int)))) 4 (.int gv)=V at L1 w12 w10 ⊢
 refine seq (Qi (Xz (X6 (Ju (Y4 w12 (Dy W.K.lwhole (by exact dl hd rfl) ⟨true,rfl,Qo (Yb (Q7 ⟨_,w12,Fv (Kh ⟨_,w10,Dv hra L.b.len (Dw W (by exact dl hd rfl) L1.kp L1.b L1.v2 fun μb xb=>⟨false,by rw[Az,beq_self_eq_true];rfl,?_⟩)⟩)⟩))⟩))))))
 exact Qo (Qt (law_ways W hd (L1.ext xb) fun V' μ' L'=>hq V' μ' h' B' gv L'))
end
end Mine
end
section
namespace Mine
open PySem
theorem eq_none {μ:MH}{gv:Int}{r:Option Nat}(h:∀ i,r=some i->i<7):cmpM .eq μ (resV gv r) (.tup [.str (S "none")])=some (decide (r=some 2)):=by
 have hn:deep μ 9 (.tup [.str (S "none")])=some (.tuple [.str (S "none")]):=by
  have:PyData.strOk (S "none")=true:=by decide +kernel
  exact dp_t (Pd (J4 this) rfl)
 cases r with
 | none=>
  show eqD μ (.int (gv+1)) (.tup [.str (S "none")])=_
  exact Bo dp_i hn
 | some i=>
  have hi:=h i rfl
  show eqD μ (.tup [.str (wordS i)]) (.tup [.str (S "none")])=_
  have hd:deep μ 9 (.tup [.str (wordS i)])=some (.tuple [.str (wordS i)]):=dp_t (Pd (J4 (word_ok hi)) rfl)
  rw[Bo hd hn]
  have:∀ i<7,PyData.eqv (.tuple [.str (wordS i)]) (.tuple [.str (S "none")])=decide (i=2):=by decide +kernel
  rw[this i hi]
  simp
theorem ty_res {μ:MH}{gv:Int}{r:Option Nat}:isTy μ .tuple (resV gv r)=some r.isSome:=by cases r <;> rfl
theorem res2 {gr gv:Int}{n:Nat}{en:Option Ent}(h:resE gr gv n en=some 2):∃ j,en=some (.undo j):=by
 have k3:(if 30≤n then some 3 else none)≠some 2:=Gl (P:=fun r=>r≠some 2) (fun _=>by decide) fun _=>by decide
 have k0:∀ {p:Prop} [Decidable p],(if p then (if 30≤n then some 3 else none) else some 0)≠some 2:=Gl (P:=fun r=>r≠some 2) (fun _=>k3) fun _=>by decide
 cases en with
 | none=>cases h
 | some e=>
  cases e with
  | undo j=>exact⟨j,rfl⟩
  | clear nm lo hi=>exact absurd h k0
  | like nm lo hi nm'=>exact absurd h k0
  | tell nm lo hi v=>exact absurd h k0
theorem Th.mv {μ:MH}{v:MV}{e:Ent}(h:Th μ v (some e)):v=e.mv:=by cases h;rfl
theorem Th.okk {μ:MH}{v:MV}{e:Ent}(h:Th μ v (some e)):e.ok:=by cases h;assumption
theorem Th.ext {μ μ':MH}{v:MV}{en:Option Ent}(h:Th μ v en) (x:Ext μ μ'):Th μ' v en:=by
 cases h with
 | ent e h h'=>exact .ent e h h'
 | lst a l h=>exact .lst a l (x _ _ h)
section
variable {prog:Program}{w:World}{G:String->Option MV}{Γ:String->Option MFun}{h₀:Heap}{mg mb:Str->Option Value}{k7:Nat->Addr}{d:Nat}{fz:List Addr}{Q:MQ}{R:MFlow->MVars->MH->Prop}
 {ns:List Int}{names:List Str}{a p k dk m h:Addr}{B:Book}{gr gv:Int}{ms:List Int}
structure Cp (fz:List Addr) (h t r:Addr) (v:MV) (B:Book) (cell:Int) (V:MVars) (μ:MH):Prop where
 v7:V 7=some (.int cell)
 v8:V 8=some v
 v9:V 9=some (.ref t)
 v10:V 10=some (.ref r)
 ht:μ t=some (.idict (Book.mv B))
 hr:μ r=some (.idict (Book.mv B))
 th:t≠h
 rh:r≠h
 tr:t≠r
 tz:t∉fz
 rz:r∉fz
theorem mid_some (W:Wd prog w G Γ h₀ mg mb k7) (hd:8≤d) (hz:dk∉fz) (hmz:m∉fz) {V:MVars}{μ μc:MH}{t r:Addr}{v:MV}{en:Option Ent}{cell:Int}{i:Nat}(L:LS G fz ns names a p k dk m h B gr gv ms V μ) (C:Cp fz h t r v B cell V μ) (T:Th μc v en) (hi:resE gr gv B.length en=some i) (v11:V 11=some (resV gv (some i))) (hl:ms.length≤1000)
  (hq:∀ V' μ' h' B' gr' ms',LS G fz ns names a p k dk m h' B' gr' gv ms' V' μ'->ms'.length≤ms.length+1->R .next V' μ'):exs G (calls G Γ d) X0 [Y1,Z7,Xy,Xo,Xn,Xb] fz V R μ:=by
 have hi7:∀ j,some i=some j->j<7:=fun j e=>by cases e;have:=Is hi;exact ar177 this
 refine seq ?_
 rw[Y1,U8]
 refine⟨_,C.v9,by show isDictO (μ t)=true;rw[C.ht];rfl,Book.mv B,C.ht,C.tz,fit (by rw[Book.mv_len];have:=L.b.len;exact ar135 this),?_⟩
 replace L:=L.upd (o:=.idict []) C.ht C.th
 have hr:upd μ t (.idict []) r=some (.idict (Book.mv B)):=(Q9 (Ne.symm C.tr)).trans C.hr
 dsimp only[kr0]
 generalize upd μ t (.idict [])=μ at L hr ⊢
 have fin:∀ ms' μ',LS G fz ns names a p k dk m h B gr gv ms' V μ'->ms'.length≤ms.length+1->μ' r=some (.idict (Book.mv B))->exs G (calls G Γ d) X0 [Xy,Xo,Xn,Xb] fz V R μ':=fun ms' μ' L' hl' hr'=>
  seq (Qi (X6 (Zm ⟨_,v11,true,ty_res,Qo (Qt (law_tail W hd hz L' C.v10 hr' C.rh C.v7 fun V' μ'' h' B' gr' L''=>hq V' μ'' h' B' gr' ms' L'' hl'))⟩)))
 refine seq (Qi (Q7 ⟨_,v11,fit (Nat.le_of_ble_eq_true rfl),_,eq_none hi7,?_⟩))
 by_cases q:some i=some 2
 ·rw[decide_eq_true q]
  cases q
  obtain⟨j,rfl⟩:=res2 hi
  obtain rfl:=T.mv
  refine Xk (seq ?_)
  rw[Cg,U8]
  refine⟨_,L.v5,by show isListO (μ m)=true;rw[L.hm];rfl,_,C.v8,_,I3,ms.map .int,L.hm,hmz,fit (by rw[List.length_map];exact ar126 hl),?_⟩
  have e:ms.map MV.int++[(Ent.undo j).snd]=(ms++[j]).map .int:=by rw[List.map_append];rfl
  rw[e]
  have nm:=L.kp.list L.hm
  have L':LS G fz ns names a p k dk m h B gr gv (ms++[j]) V (upd μ m (.list ((ms++[j]).map .int))):=by
   obtain⟨K0,c1,c2⟩:=L.kp.cls
   exact { L with ha:=(Q9 L.am).trans L.ha,hp:=(Q9 L.pm).trans L.hp,hm:=Q5,kp:=⟨⟨K0,c1,(Q9 fun q=>by rw[q,L.hm] at c2;cases c2).trans c2⟩,(Q9 (Ne.symm nm.1)).trans L.kp.at',(Q9 (Ne.symm nm.2)).trans L.kp.held⟩ }
  (try dsimp only[kr0])
  refine Qt (fin _ _ L' (by simp) ((Q9 fun q=>?_).trans hr))
  rw[q,L.hm] at hr;cases hr
 ·rw[decide_eq_false q]
  exact Qo (Qt (fin ms μ L (by solve_by_elim (maxDepth:=3) only[*,Int.le_trans,Int.lt_of_lt_of_le,Int.lt_of_le_of_lt,Int.le_of_lt]) hr))
theorem mid_none (W:Wd prog w G Γ h₀ mg mb k7) (hd:8≤d) (hz:dk∉fz) {V:MVars}{μ μc:MH}{t r:Addr}{e:Ent}{cell:Int}(L:LS G fz ns names a p k dk m h B gr gv ms V μc) (C:Cp fz h t r e.mv B cell V μc) (kp:Kp G k dk h (B++[(gv+1,e)]) gr (gv+1) μ) (c:Ch dk h h μc μ) (he:e.ok) (hlt:B.length<30) (v11:V 11=some (resV gv none))
  (hq:∀ V' μ' h' B' gr',LS G fz ns names a p k dk m h' B' gr' (gv+1) ms V' μ'->R .next V' μ'):exs G (calls G Γ d) X0 [Y1,Z7,Xy,Xo,Xn,Xb] fz V R μ:=by
 have td:∀ {x:Addr},μc x=some (.idict (Book.mv B))->x≠dk:=fun hx q=>by have:=L.kp.at';rw[← q,hx] at this;cases this
 have ht:=(c t _ C.ht (td C.ht) C.th).1
 have hr:=(c r _ C.hr (td C.hr) C.rh).1
 refine seq ?_
 rw[Y1,U8]
 refine⟨_,C.v9,by show isDictO (μ t)=true;rw[ht];rfl,Book.mv B,ht,C.tz,fit (by rw[Book.mv_len];exact ar195 hlt),?_⟩
 dsimp only[kr0]
 refine seq (Qi (Q7 ⟨_,v11,fit (Nat.le_of_ble_eq_true rfl),false,eq_none (r:=none) (fun i hi=>by cases hi),Qo (Qt ?_)⟩))
 refine seq (Qi (X6 (Zm ⟨_,v11,false,ty_res (r:=none),Xk ?_⟩)))
 refine seq (x_as (Fv ⟨_,L.v3,?_⟩))
 have L1:LS G fz ns names a p k dk m h (B++[(gv+1,e)]) gr (gv+1) ms (setv V 3 (.int (gv+1))) μ:=L.ch c kp (L.b.app he hlt) L.hz rfl rfl rfl rfl Qa ((Q4 (by decide)).trans L.v4)
 replace L1:=L1.upd (o:=.idict []) ht C.th
 have w8:setv V 3 (.int (gv+1)) 8=some e.mv:=(Q4 (by decide)).trans C.v8
 have w10:setv V 3 (.int (gv+1)) 10=some (.ref r):=(Q4 (by decide)).trans C.v10
 have w7:setv V 3 (.int (gv+1)) 7=some (.int cell):=(Q4 (by decide)).trans C.v7
 have hra:upd μ t (.idict []) r=some (.idict (Book.mv B)):=(Q9 (Ne.symm C.tr)).trans hr
 show exs G (calls G Γ d) X0 [A9] fz (setv V 3 (.int (gv+1))) _ (upd μ t (.idict []))
 generalize setv V 3 (.int (gv+1))=V at L1 w8 w10 w7 ⊢
 generalize upd μ t (.idict [])=μ at L1 hra ⊢
 refine seq ⟨_,w8,_,w10,_,L1.v3,Po hra C.rz (fit (by rw[Book.mv_len];lia)) ?_⟩
 rw[mv_app fun m=>by have:=L.b.key _ m;exact ar172 this]
 exact Di (law_tail W hd hz (L1.upd (o:=.idict (Book.mv (B++[(gv+1,e)]))) hra C.rh) w10 Q5 C.rh w7 hq)
end
end Mine
end
section
namespace Mine
open PySem
section
variable {prog:Program}{w:World}{G:String->Option MV}{Γ:String->Option MFun}{h₀:Heap}{mg mb:Str->Option Value}{k7:Nat->Addr}{d:Nat}{fz:List Addr}{Q:MQ}{R:MFlow->MVars->MH->Prop}
 {ns:List Int}{names:List Str}{a p k dk m h:Addr}{B:Book}{gr gv:Int}{ms:List Int}
theorem res_room {n:Nat}{en:Option Ent}(h:resE gr gv n en=none):n<30:=by
 have k3:(if 30≤n then some 3 else none)=none->n<30:=Gl (P:=fun r=>r=none->n<30) (fun _ h=>by cases h) fun q _=>Nat.lt_of_not_le q
 cases en with
 | none=>cases h
 | some e=>
  refine Gl (P:=fun r=>r=none->n<30) (fun _=>?_) (fun _ h=>by cases h) h
  cases undoN e with
  | none=>exact k3
  | some j=>exact Gl (P:=fun r=>r=none->n<30) (fun _ h=>by cases h) fun _=>Gl (P:=fun r=>r=none->n<30) (fun _ h=>by cases h) fun _=>k3
theorem dict_of {t:Addr}{l:List (Int×MV)}{μ:MH}(h:μ t=some (.idict l)) (hl:l.length≤1000) (hq:∀ c,μ c=none->c∉fz->Q (.ref c) (upd μ c (.idict l))):biM fz .dict [.ref t] Q μ:=by
 show dictO fz (μ t) Q μ
 rw[h]
 exact⟨fit (by exact ar126 hl),hq⟩
theorem len_list {t:Addr}{l:List MV}{μ:MH}(h:μ t=some (.list l)) (hl:l.length≤1000) (hq:Q (.int (l.length:Int)) μ):biM fz .len [.ref t] Q μ:=by
 show lenO (μ t) (fun n=>Q (.int n) μ)
 rw[h]
 exact⟨fit (by exact ar126 hl),hq⟩
theorem law_rest (W:Wd prog w G Γ h₀ mg mb k7) (hd:8≤d) (hz:dk∉fz) (hmz:m∉fz) {V:MVars}{μ:MH}{v:MV}{en:Option Ent}{cell:Int}(L:LS G fz ns names a p k dk m h B gr gv ms V μ) (v7:V 7=some (.int cell)) (v8:V 8=some v) (T:Th μ v en) (ht:Tame en) (hl:ms.length≤1000)
  (hq:∀ V' μ' h' B' gr' gv' ms',LS G fz ns names a p k dk m h' B' gr' gv' ms' V' μ'->gv'≤gv+1->ms'.length≤ms.length+1->R .next V' μ'):exs G (calls G Γ d) X0 [U1,Nr,U0,Kz,Y1,Z7,Xy,Xo,Xn,Xb] fz V R μ:=by
 refine seq ?_
 rw[U1,Q3]
 refine Y6 (m:="Keeper.book") L.kp L.v2 rfl rfl (Bs W.K (by exact dl hd rfl) L.kp L.b.len fun t ht1 htz=>?_)
 have nh:∀ {c:Addr}{μ:MH},Kp G k dk h B gr gv μ->μ c=none->c≠h:=fun kp hc q=>by have:=kp.held;rw[← q,hc] at this;cases this
 have th:=nh L.kp ht1
 have xa:=Ext.upd (o:=.idict (Book.mv B)) ht1
 have et:upd μ t (.idict (Book.mv B)) t=some (.idict (Book.mv B)):=Q5
 replace L:=(L.ext xa).set (i:=9) (by decide) (.ref t)
 replace T:=T.ext xa
 replace v7:setv V 9 (.ref t) 7=some (.int cell):=(Q4 (by decide)).trans v7
 replace v8:setv V 9 (.ref t) 8=some v:=(Q4 (by decide)).trans v8
 have v9:setv V 9 (.ref t) 9=some (.ref t):=Qa
 (try dsimp only[kr0])
 generalize setv V 9 (.ref t)=V at L v7 v8 v9 ⊢
 generalize upd μ t (.idict (Book.mv B))=μ at L T et ⊢
 refine seq (x_as (Kh ⟨_,v9,dict_of et (by rw[Book.mv_len];have:=L.b.len;exact Nat.le_trans (by assumption) (by decide)) fun r hr1 hrz=>?_⟩))
 have rh:=nh L.kp hr1
 have tr:t≠r:=fun q=>by rw[q,hr1] at et;cases et
 have xb:=Ext.upd (o:=.idict (Book.mv B)) hr1
 have er:upd μ r (.idict (Book.mv B)) r=some (.idict (Book.mv B)):=Q5
 replace et:=xb _ _ et
 replace L:=(L.ext xb).set (i:=10) (by decide) (.ref r)
 replace T:=T.ext xb
 replace v7:setv V 10 (.ref r) 7=some (.int cell):=(Q4 (by decide)).trans v7
 replace v8:setv V 10 (.ref r) 8=some v:=(Q4 (by decide)).trans v8
 replace v9:setv V 10 (.ref r) 9=some (.ref t):=(Q4 (by decide)).trans v9
 have v10:setv V 10 (.ref r) 10=some (.ref r):=Qa
 (try dsimp only[kr0])
 generalize setv V 10 (.ref r)=V at L v7 v8 v9 v10 ⊢
 generalize upd μ r (.idict (Book.mv B))=μ at L T et er ⊢
 refine seq ?_
 ((try dsimp only[U0,Q3,kr0,Qf,Q0,Q2,Q1]);(repeat (first|refine⟨_,v8,?_⟩|refine⟨_,v10,?_⟩|refine⟨_,L.v3,?_⟩|refine⟨_,L.v4,?_⟩|dsimp only[Q3,kr0,Qf,Q0,Q2,Q1,Qb,Qc])))
 refine due_spec W.K (by exact dl hd rfl) T ht er L.b.len ?_
 have v11:setv V 11 (resV gv (resE gr gv B.length en)) 11=some (resV gv (resE gr gv B.length en)):=Qa
 replace L:=L.set (i:=11) (by decide) (resV gv (resE gr gv B.length en))
 have C:Cp fz h t r v B cell (setv V 11 (resV gv (resE gr gv B.length en))) μ:=⟨(Q4 (by decide)).trans v7,(Q4 (by decide)).trans v8,(Q4 (by decide)).trans v9,(Q4 (by decide)).trans v10,et,er,th,rh,tr,htz,hrz⟩
 show exs G (calls G Γ d) X0 [Kz,Y1,Z7,Xy,Xo,Xn,Xb] fz (setv V 11 (resV gv (resE gr gv B.length en))) R μ
 generalize setv V 11 (resV gv (resE gr gv B.length en))=V at L C v11 ⊢
 clear v7 v8 v9 v10
 refine seq (Qi (Xz (Q7 ?_)))
 ((try dsimp only[Q1,Qf,Q0,Q2]);(repeat (first|refine⟨_,L.v2,?_⟩|refine⟨_,C.v8,?_⟩|dsimp only[Q1,Qf,Q0,Q2,kr0,Qb,Qc])))
 have td:t≠dk:=fun q=>by have:=L.kp.at';rw[← q,et] at this;cases this
 refine V7 W (by exact dl hd rfl) L.kp L.b hz L.hz T (fun i hi μ' x'=>?_) fun e he hn μ' kp' c'=>?_
 ·rw[hi] at v11
  have hi7:∀ j,some i=some j->j<7:=fun j e=>by cases e;have:=Is hi;exact ar177 this
  refine⟨_,v11,false,R3 (r:=some i) hi7,Qo (Yb (X6 (Zm ⟨_,C.v9,true,by show isTyO .dict (μ' t)=_;rw[x' _ _ et];rfl,Qo (Qt ?_)⟩)))⟩
  exact mid_some W hd hz hmz (L.ext x') { C with ht:=x' _ _ C.ht,hr:=x' _ _ C.hr } T hi v11 hl fun V' μ'' h' B' gr' ms' L' hl'=>hq V' μ'' h' B' gr' gv ms' L' (by exact ar218) hl'
 ·have room:=res_room hn
  rw[hn] at v11
  subst he
  obtain rfl:=T.mv
  refine⟨_,v11,false,R3 (r:=none) (fun i hi=>by cases hi),Qo (Yb (X6 (Zm ⟨_,C.v9,true,by show isTyO .dict (μ' t)=_;rw[(c' t _ et td th).1];rfl,Qo (Qt ?_)⟩)))⟩
  exact mid_none W hd hz L C kp' c' T.okk room v11 fun V' μ'' h' B' gr' L'=>hq V' μ'' h' B' gr' (gv+1) ms L' (by exact Int.le_refl _) (by solve_by_elim (maxDepth:=3) only[*,Int.le_trans,Int.lt_of_lt_of_le,Int.lt_of_le_of_lt,Int.le_of_lt])
theorem law_step (W:Wd prog w G Γ h₀ mg mb k7) (hd:8≤d) (hz:dk∉fz) (hmz:m∉fz) {V:MVars}{μ:MH}{kk:Nat}(L:LS G fz ns names a p k dk m h B gr gv ms V μ) (v6:V 6=some (.int kk)) (h3:names.length=3) (hN:∀ nm∈names,GoodN nm) (hns:ns.length≤63) (hk:4+kk<ns.length) (hgv:gv≤500) (hl:ms.length≤1000)
  (hq:∀ V' μ' h' B' gr' gv' ms',LS G fz ns names a p k dk m h' B' gr' gv' ms' V' μ'->gv'≤gv+1->ms'.length≤ms.length+1->R .next V' μ'):exs G (calls G Γ d) X0 [Nu,Nt,Bg,U1,Nr,U0,Kz,Y1,Z7,Xy,Xo,Xn,Xb] fz V R μ:=by
 have g0:=L.b.gr
 refine seq ?_
 ((try dsimp only[Nu,Q3,kr0,Qu,Qh,Q1,Q6]);(repeat (first|refine⟨_,L.v0,?_⟩|refine⟨_,v6,?_⟩|dsimp only[Q3,kr0,Qu,Qh,Q1,Q6,Qb,Qc])))
 refine at_script L.ha hns (by exact Int.natCast_nonneg _) (by exact Int.ofNat_lt.mpr (by assumption)) ?_
 generalize at0 ns (4+(kk:Int))=cell
 replace L:=L.set (i:=7) (by decide) (.int cell)
 have v7:setv V 7 (.int cell) 7=some (.int cell):=Qa
 replace v6:setv V 7 (.int cell) 6=some (.int kk):=(Q4 (by decide)).trans v6
 generalize setv V 7 (.int cell)=V at L v7 v6 ⊢
 refine seq ?_
 ((try dsimp only[Nt,Q3,kr0,Qf,Q0,Q2,Qh,Q6,Q1]);(repeat (first|refine⟨_,L.v1,?_⟩|refine⟨_,v7,?_⟩|refine⟨_,v6,?_⟩|refine⟨_,L.v3,?_⟩|dsimp only[Q3,kr0,Qf,Q0,Q2,Qh,Q6,Q1,Qb,Qc])))
 refine F0 W.K.lentry (by exact dl hd rfl) L.hp h3 (by decide) (by exact ar219 hgv g0) fun v μa xa good=>?_
 obtain⟨e,rfl,hg⟩:=good.to
 have F:=Fine.of hN hg
 replace L:=(L.ext xa).set (i:=8) (by decide) e.mv
 have v8:setv V 8 e.mv 8=some e.mv:=Qa
 replace v7:setv V 8 e.mv 7=some (.int cell):=(Q4 (by decide)).trans v7
 replace v6:setv V 8 e.mv 6=some (.int kk):=(Q4 (by decide)).trans v6
 skip
 generalize setv V 8 e.mv=V at L v7 v6 v8 ⊢
 refine seq (Qi (Q7 ?_))
 ((try dsimp only[Q6,Qh,Q1]);(repeat (first|refine⟨_,v7,?_⟩|refine⟨_,Nc,?_⟩|refine Eq.mpr (X9 (by decide)) ?_|refine Eq.mpr (Xu (by decide)) ?_|dsimp only[Q6,Qh,Q1,kr0,Qb,Qc])))
 refine tstB (fun _=>?_) fun _=>Qt (law_rest W hd hz hmz L v7 v8 (.ent e F.eb F.ok) F.tame hl hq)
 refine seq ?_
 ((try dsimp only[Ci,Q3,kr0,Qf,Q0,Q2,Q1,Qh,Q6]);(repeat (first|refine⟨_,v7,?_⟩|refine⟨_,v6,?_⟩|refine⟨_,L.v3,?_⟩|refine⟨_,L.v4,?_⟩|refine Eq.mpr (Xu (by decide)) ?_|dsimp only[Q3,kr0,Qf,Q0,Q2,Q1,Qh,Q6,Qb,Qc])))
 refine odd_spec W.K (by exact dl hd rfl) (by exact ar168 g0) fun u en μb xb T ht=>?_
 exact law_rest W hd hz hmz ((L.ext xb).set (i:=8) (by decide) u) ((Q4 (by decide)).trans v7) Qa T ht hl hq
theorem law_loop (W:Wd prog w G Γ h₀ mg mb k7) (hd:8≤d) (hz:dk∉fz) (hmz:m∉fz) (h3:names.length=3) (hN:∀ nm∈names,GoodN nm) (hns:ns.length≤63)
  (hq:∀ V' μ' h' B' gr' gv' ms',LS G fz ns names a p k dk m h' B' gr' gv' ms' V' μ'->ms'.length≤1000->R .next V' μ'):∀ (n i:Nat) (V:MVars) (μ:MH) (h:Addr) (B:Book) (gr gv:Int) (ms:List Int),(0<n->4+i+n≤ns.length)->i+n≤63->gv≤30+i->ms.length≤i->LS G fz ns names a p k dk m h B gr gv ms V μ->
  loopM (.one 6) (fun vs F μ=>exs G (calls G Γ d) X0 [Nu,Nt,Bg,U1,Nr,U0,Kz,Y1,Z7,Xy,Xo,Xn,Xb] fz vs F μ) R ((List.range' i n).map fun (k:Nat)=>.int k) V μ
 | 0=>fun i V μ h B gr gv ms _ _ _ hl L=>hq V μ h B gr gv ms L (by exact ar220 (by assumption) hl)
 | n+1=>fun i V μ h B gr gv ms hin hi hgv hl L=>by
  have hin:=hin (Nat.succ_pos n)
  rw[List.range'_succ,List.map_cons,Xi]
  refine⟨_,rfl,?_⟩
  exact law_step W hd hz hmz (L.set (i:=6) (by decide) _) Qa h3 hN hns (by exact ar221 hin) (by exact ar222 hns hgv hin) (by exact ar223 hns hl hin) fun V' μ' h' B' gr' gv' ms' L' g' l'=>law_loop W hd hz hmz h3 hN hns hq n (i+1) V' μ' h' B' gr' gv' ms' (fun _=>by exact ar224 hin) (by exact ar225 hi) (by exact ar226 hgv g') (by exact ar227 hl l') L'
theorem law11_run (W:Wd prog w G Γ h₀ mg mb k7) {C:Addr}(hC:G "Keeper" = some (.ref C)) {μ:MH}(hd:10≤d) (hns:ns.length≤63) (ha:μ a=some (.list (ns.map .int))) (hq:∀ μ',Q (.bool true) μ'):calls G Γ d "law" [.ref a] fz Q X0 μ:=by
 refine Q8 W.K.law rfl (by exact dl hd rfl) (seq ?_)
 ((try dsimp only[f_law_1,Q3,kr0,Qf,Q0,Q2,Q6,Q1,args0,zgz]);(try simp (discharger:=decide) only[Option.some.injEq,exists_eq_left']))
 refine Vn W.K.of (by exact dn hd rfl) ha hns (by decide) fun μa xa=>?_
 skip
 refine Dz W.K.names (by exact dn hd rfl) fun p μb names xb hp1 hpz hp h3 hN=>?_
 have ha2:=xb _ _ (xa _ _ ha)
 have ap:a≠p:=fun q=>by have:=xa _ _ ha;rw[q,hp1] at this;cases this
 have v0:setv (args0 [.ref a]) 1 (.ref p) 0=some (.ref a):=rfl
 have v1:setv (args0 [.ref a]) 1 (.ref p) 1=some (.ref p):=rfl
 skip
 generalize setv (args0 [.ref a]) 1 (.ref p)=V at v0 v1 ⊢
 refine seq ?_
 rw[f_law_2,Q3]
 refine⟨C,hC,rfl,fun k dk hk hkz hdk hdkz hkd=>?_⟩
 have xd:=Ext.upd (o:=.attrs []) hdk
 have xk:=Ext.upd (μ:=upd μb dk (.attrs [])) (a:=k) (o:=.inst C dk) ((Q9 hkd).trans hk)
 have x3:=xd.trans xk
 refine init_spec W.K (by exact dn hd rfl) hC Q5 ((Q9 (Ne.symm hkd)).trans Q5) hdkz fun h μ3 hh hhz kp c=>⟨rfl,?_⟩
 have keep:∀ {x:Addr}{l:List MV},μb x=some (.list l)->μ3 x=some (.list l):=fun {x l} hx=>(c x _ (x3 _ _ hx) (fun q=>by rw[q,hdk] at hx;cases hx) fun q=>by have:=x3 _ _ hx;rw[q,hh] at this;cases this).1
 have ha3:=keep ha2
 have hp3:=keep hp
 clear x3 xk xd c
 (try dsimp only[kr0])
 have w0:setv V 2 (.ref k) 0=some (.ref a):=(Q4 (by decide)).trans v0
 have w1:setv V 2 (.ref k) 1=some (.ref p):=(Q4 (by decide)).trans v1
 have w2:setv V 2 (.ref k) 2=some (.ref k):=Qa
 generalize setv V 2 (.ref k)=V at w0 w1 w2 ⊢
 refine seq ?_
 ((try dsimp only[f_law_3,Q3,kr0,Q6]))
 have main:∀ (gv:Int) (B:Book) (V:MVars) (μ:MH),V 0=some (.ref a)->V 1=some (.ref p)->V 2=some (.ref k)->V 3=some (.int gv)->μ a=some (.list (ns.map .int))->μ p=some (.list (names.map .str))->Kp G k dk h B 0 gv μ->BK B 0 gv->gv≤30->exs G (calls G Γ (d-1)) X0 [Rj,Ri,Rh,f_law_8,Rc] fz V (kz Q) μ:=fun gv B V μ v0 v1 v2 v3 ha hp kp b hgv=>by
  refine seq ?_
  ((try dsimp only[Rj,Q3,kr0,Q6]))
  refine seq ?_
  ((try dsimp only[Ri,Q3,kr0,X8,Q2,List.length_nil]);(repeat (first|refine⟨fit (Nat.le_of_ble_eq_true rfl),?_⟩|dsimp only[Q3,kr0,X8,Q2,Qb,Qc])))
  refine fun m hm hmz=>?_
  have am:a≠m:=fun q=>by rw[q,hm] at ha;cases ha
  have pm:p≠m:=fun q=>by rw[q,hm] at hp;cases hp
  have L:LS G fz ns names a p k dk m h B 0 gv [] (setv (setv V 4 (.int 0)) 5 (.ref m)) (upd μ m (.list [])):=
   ⟨(Q4 (by decide)).trans ((Q4 (by decide)).trans v0),(Q4 (by decide)).trans ((Q4 (by decide)).trans v1),(Q4 (by decide)).trans ((Q4 (by decide)).trans v2),(Q4 (by decide)).trans ((Q4 (by decide)).trans v3),(Q4 (by decide)).trans Qa,Qa,(Ext.upd hm) _ _ ha,(Ext.upd hm) _ _ hp,Q5,kp.ext (Ext.upd hm),b,hhz,am,pm⟩
  (try dsimp only[])
  generalize setv (setv V 4 (.int 0)) 5 (.ref m)=V at L ⊢
  generalize upd μ m (.list [])=μ at L ⊢
  refine seq ?_
  rw[Rh,Zf]
  ((try dsimp only[Q0,Q2,Xl,Qh,Q6,Q1,Y2,Qk,G7]);(repeat (first|refine⟨_,L.v3,?_⟩|refine⟨_,L.v0,?_⟩|refine⟨_,c_gt,?_⟩|refine Eq.mpr (b_mull (by decide)) ?_|dsimp only[Q0,Q2,Xl,Qh,Q6,Q1,Y2,Qk,G7,Qc,kr0,Qb])))
  refine len_list L.ha (by rw[List.length_map];exact Nat.le_trans (by assumption) (by decide)) ?_
  rw[List.length_map]
  show ∃ src all,mkSrc .range [.int (min (14-8*if decide (gv > 0)=true then 1 else 0) ((ns.length:Int)-4))]=some src∧_
  have hM:min (14-8*if decide (gv > 0)=true then 1 else 0) ((ns.length:Int)-4)≤14∧min (14-8*if decide (gv > 0)=true then 1 else 0) ((ns.length:Int)-4)≤(ns.length:Int)-4∧-4≤min (14-8*if decide (gv > 0)=true then 1 else 0) ((ns.length:Int)-4):=by
   split <;> (first|exact ar228|exact ar229)
  generalize min (14-8*if decide (gv > 0)=true then 1 else 0) ((ns.length:Int)-4)=M at hM ⊢
  refine⟨.ints (rangeL 0 M 1),(rangeL 0 M 1).map .int,sr_of (by simp only[in62,Bool.and_eq_true,decide_eq_true_eq];exact ar230 hM),rfl,?_,?_⟩
  ·rw[Jc,List.length_map,List.length_range'];exact fit (by exact ar231 hM)
  rw[Jc]
  refine law_loop W (by exact dn hd rfl) hdkz hmz h3 hN hns (fun V μ h B gr gv ms L hl=>?_) M.toNat 0 V μ h B 0 gv [] (fun _=>by exact ar232 hM (by assumption)) (by exact ar233 hM) (by assumption) (Nat.le_refl _) L
  refine seq (Qi (Xz (Q7 (Y6 (m:="Keeper.floor") L.kp L.v2 rfl rfl (F6 W.K (by exact dn hd rfl) L.kp ⟨_,L.v4,false,by rw[Az,beq_self_eq_true];rfl,?_⟩)))))
  refine Qo (Yb (Q7 (Y6 (m:="Keeper.last") L.kp L.v2 rfl rfl (Ho W.K (by exact dn hd rfl) L.kp ⟨_,L.v3,false,by rw[Az,beq_self_eq_true];rfl,?_⟩))))
  refine Qo (Qt (seq ?_))
  ((try dsimp only[Rc,Qz,kr1,kz0,Qf,Q0,Q2,Q1]);(repeat (first|refine⟨_,L.v2,?_⟩|refine⟨_,L.v5,?_⟩|refine⟨_,L.v3,?_⟩|refine⟨_,L.v4,?_⟩|dsimp only[Qz,kr1,kz0,Qf,Q0,Q2,Q1,kr0,Qb,Qc])))
  exact taken_spec W (by exact dn hd rfl) hdkz L.hz L.kp L.b L.hm hl hq
 have z0:setv V 3 (.int 0) 0=some (.ref a):=(Q4 (by decide)).trans w0
 have z1:setv V 3 (.int 0) 1=some (.ref p):=(Q4 (by decide)).trans w1
 have z2:setv V 3 (.int 0) 2=some (.ref k):=(Q4 (by decide)).trans w2
 have z3:setv V 3 (.int 0) 3=some (.int 0):=Qa
 generalize setv V 3 (.int 0)=V at z0 z1 z2 z3 ⊢
 refine seq (Qi (Q7 ?_))
 ((try dsimp only[Q6,Qh,Qf,Q0,Q2,Q1]);(repeat (first|refine⟨_,z0,?_⟩|dsimp only[Q6,Qh,Qf,Q0,Q2,Q1,kr0,Qb,Qc])))
 refine Vn W.K.of (by exact dn hd rfl) ha3 hns (by decide) fun μ4 xe=>?_
 ((repeat (first|refine⟨_,Nc,?_⟩|refine Eq.mpr (X9 (by decide)) ?_|dsimp only[kr0,Qb,Qc])))
 refine tstB (fun _=>?_) fun _=>Qt (main 0 [] V μ4 z0 z1 z2 z3 (xe _ _ ha3) (xe _ _ hp3) (kp.ext xe) ⟨⟨by simp[Book.keys],fun p hp=>absurd hp List.not_mem_nil,by decide⟩,by decide,by simp[Book.keys],by decide⟩ (by decide))
 refine seq ?_
 ((try dsimp only[I0,Q3,kr0,Qf,Q0,Q2,Qh,Q6,Q1]);(repeat (first|refine⟨_,z2,?_⟩|refine⟨_,z0,?_⟩|dsimp only[Q3,kr0,Qf,Q0,Q2,Qh,Q6,Q1,Qb,Qc])))
 refine Vn W.K.of (by exact dn hd rfl) (xe _ _ ha3) hns (by decide) fun μ5 x5=>?_
 ((repeat (first|refine Eq.mpr (X9 (by decide)) ?_|refine Eq.mpr (Xu (by decide)) ?_|dsimp only[Qb,kr0,Qc])))
 have f5:=fm (a:=(at0 ns 2).fdiv 9) (b:=5) (by decide)
 generalize ((at0 ns 2).fdiv 9).fmod 5=five at f5 ⊢
 have kp5:=(kp.ext xe).ext x5
 refine full_spec W.K (by exact dn hd rfl) hdkz hhz kp5 (by exact ar234 f5) fun μ6 B' kp6 ba c6=>?_
 exact main (26+five) B' (setv V 3 (.int (26+five))) μ6 ((Q4 (by decide)).trans z0) ((Q4 (by decide)).trans z1) ((Q4 (by decide)).trans z2) Qa (c6.list kp5 (x5 _ _ (xe _ _ ha3))) (c6.list kp5 (x5 _ _ (xe _ _ hp3))) kp6 ba (by exact ar235 f5)
end
end Mine
end
section
namespace Mine
open PySem PySem.Calls PyProof.Rows PySem.W
noncomputable def consts11 (K:Addr) (k7:Nat->Addr):Consts:=[("MOST",.int 30),("MOST_SIGNS",.int 8),("MOST_DAY",.int 1000000),("MOST_WORTH",.int 1000000000),("LETTERS",.str (S "abcdefghijklmnopqrstuvwxyz")),("Keeper",.ref K),("BadEntry",.ref (k7 0)),("Closed",.ref (k7 1)),("NoEntry",.ref (k7 2)),("TooMany",.ref (k7 3)),("Gone",.ref (k7 4)),("BadBook",.ref (k7 5)),("BadText",.ref (k7 6))]
noncomputable def nat11 (prog:Program) (w:World) (h:Heap):String->Nat->List MV->List Addr->MQ->MH->Prop:=fun f d vs fz Q μ=>MXC prog w h (d+1) f vs fz Q (fun _ _=>False) μ
theorem nats {N:String->Nat->List MV->List Addr->MQ->MH->Prop}:∀ p∈defs11 N,p.2.1.nat=none∨p.2.1.nat=some (N p.1):=by
 unfold defs11
 repeat (refine List.forall_mem_cons.mpr ⟨by first|exact .inl rfl|exact .inr rfl,?_⟩)
 exact fun p h=>absurd h List.not_mem_nil
theorem natOk (prog:Program) (w:World) (h:Heap):NatOk prog w h (defs11 (nat11 prog w h)).env:=fun f fd P hf hP d vs vals fz μ s Q A E fa hA B r fi ff rv hfn hp=>by
 unfold Defs.env at hf
 rw[Option.map_eq_some_iff] at hf
 obtain⟨q,hq,rfl⟩:=hf
 have hm:=List.mem_of_find?_eq_some hq
 have hn:q.1=f:=by simpa using List.find?_some hq
 subst hn
 rcases nats q hm with e|e
 ·rw[e] at hP;cases hP
 ·rw[e] at hP;cases hP
  refine wpAny_call (hp vals s A _ fa hA B r fi ff rv hfn (fun v s' h=>h) fun v s' hx=>?_)
  obtain⟨_,_,_,_,_,q,_⟩:=hx
  exact q.elim
noncomputable def k7Of (mg:Str->Option Value) (i:Nat):Addr:=match mg (Str.ofString (x7.getD i "")) with
 | some (.ref C)=>C
 | _=>0
theorem k7_at {mg:Str->Option Value}{h:Heap}(x:Xs mg h) {i:Nat}{c:String}(hi:x7[i]?=some c):c∈xNames∧mg (Str.ofString c)=some (.ref (k7Of mg i)):=by
 have hc:c∈xNames:=by
  have hp:x7.Perm xNames:=by decide
  exact hp.subset (List.mem_of_getElem? hi)
 obtain⟨D,_,_,h3⟩:=x.1
 obtain⟨C,e,_⟩:=h3 c hc
 refine⟨hc,?_⟩
 have:x7.getD i "" = c:=by rw[List.getD_eq_getElem?_getD,hi];rfl
 unfold k7Of
 rw[this,e]
theorem x7_of {mg:Str->Option Value}{h:Heap}(x:Xs mg h) (K:Addr):X7 (consts11 K (k7Of mg)).env (k7Of mg):=by
 refine⟨fun i c hi=>⟨(k7_at x hi).1,?_⟩,fun i j hi hj q=>?_⟩
 ·have:i<7:=(List.getElem?_eq_some_iff.mp hi).1
  rcases i with _|_|_|_|_|_|_|i
  iterate 7 (cases hi;rfl)
  exact(ar236 this).elim
 ·have hp:x7.Perm xNames:=by decide
  have nd:(x7.map fun n=>mg (Str.ofString n)).Nodup:=(hp.map _).nodup_iff.mpr x.2
  have e:∀ i,i<7->(x7.map fun n=>mg (Str.ofString n))[i]?=some (some (.ref (k7Of mg i))):=fun i hi=>by
   have hi':x7[i]?=some (x7[i]'hi):=List.getElem?_eq_getElem hi
   rw[List.getElem?_map,hi',Option.map_some,(k7_at x hi').2]
  obtain⟨a1,a2⟩:=List.getElem?_eq_some_iff.mp (e i hi)
  obtain⟨b1,b2⟩:=List.getElem?_eq_some_iff.mp (e j hj)
  exact(List.getElem_inj nd).mp (by rw[a2,b2,q])
theorem kraw_of {prog:Program}{w:World}{h:Heap}{K:Addr}(x:KRaw h (defs11 fun _ _ _ _ _ _=>False) K):KRaw h (defs11 (nat11 prog w h)) K:=by
 obtain⟨N,nm,q,bs,sn,sub,col,dd,k0,k1,k2,k3,k5,mN,h1,h2,h3,h4⟩:=x
 refine⟨N,nm,q,bs,sn,sub,col,dd,k0,k1,k2,k3,k5,mN,h1,h2,h3,fun p hp n e=>h4 p ?_ n e⟩
 have hf:(defs11 (nat11 prog w h)).filter (fun p=>isMeth p.1)=(defs11 fun _ _ _ _ _ _=>False).filter (fun p=>isMeth p.1):=by kernel_rfl
 have:p∈(defs11 (nat11 prog w h)).filter (fun p=>isMeth p.1):=List.mem_filter.mpr ⟨hp,by unfold isMeth;rw[e];rfl⟩
 rw[hf] at this
 exact(List.mem_filter.mp this).1
theorem consts_at {mg:Str->Option Value}{h:Heap}(x:Xs mg h) {K:Addr}(hK:mg (Str.ofString "Keeper")=some (.ref K)):∀ q∈consts11 K (k7Of mg),∀ C,q.2=.ref C->mg (Str.ofString q.1)=some (.ref C):=by
 have k7:∀ i c,x7[i]?=some c->mg (Str.ofString c)=some (.ref (k7Of mg i)):=fun i c hi=>(k7_at x hi).2
 unfold consts11
 repeat (refine List.forall_mem_cons.mpr ⟨fun C e=>by first|(cases e;done)|(cases e;first|exact hK|exact k7 0 _ rfl|exact k7 1 _ rfl|exact k7 2 _ rfl|exact k7 3 _ rfl|exact k7 4 _ rfl|exact k7 5 _ rfl|exact k7 6 _ rfl),?_⟩)
 exact fun p h=>absurd h List.not_mem_nil
theorem law11 {prog:Program}{w:World}{h₀:Heap}{mg mb:Str->Option Value}{K a fa:Addr}{s:Shared}{vs:List Value}{ns:List Int}{E:Value->Shared->Prop}(pg:PG prog w (consts11 K (k7Of mg)).env (defs11 (nat11 prog w h₀)).env h₀ mg mb) (X:Xs mg h₀) (hs:s.heap=h₀) (hfa:mg (Str.ofString "law")=some (.ref fa)) (hp:s.heap.PlainList a vs.toArray) (hi:IntsAre vs ns) (hA:OkC ⟨20,true⟩ callerA) (hn:ns.length≤63):
  wpAny (model prog w) callerA (call (.ref fa) [.ref a]) (fun v s'=>v=.bool true∧(∀ b o,s.heap.get? b=some o->s'.heap.get? b=some o)∧s'.os=s.os∧s'.gens=s.gens) E s:=by
 have W:Wd prog w (consts11 K (k7Of mg)).env (defs11 (nat11 prog w h₀)).env h₀ mg mb (k7Of mg):=
  ⟨pg,natOk prog w h₀,⟨rfl,rfl,rfl,rfl,⟨rfl,rfl,rfl,rfl,rfl,rfl,rfl,rfl,rfl⟩,rfl,rfl,rfl,rfl,rfl,rfl,rfl,rfl,rfl,rfl,rfl,rfl,rfl,rfl,rfl,rfl,rfl,rfl,rfl,rfl,rfl,rfl,rfl,rfl,rfl,rfl,rfl,rfl,rfl,rfl⟩,x7_of X K,rfl,rfl⟩
 exact glue pg W.nk hs 20 (f:="law") rfl hfa (fd:=f_law) rfl hp hi hA fun n=>law11_run W (C:=K) rfl (by decide) hn Q5 fun _=>rfl
end Mine
end
section
set_option Elab.async false
set_option maxRecDepth 100000
set_option maxHeartbeats 8000000
open PySem PySem.W PyProof.Rows
namespace Mine
theorem leftOf:LeftO Challenge.pw_uf030030_11 qOf lz (fun s=>xlAt qOf [] s && (xOk s.heap && kOk D0 s.heap)) (fun _=>()) (fun _=>()) 20000:=fun w=>by
 obtain⟨⟨h,g,dr,t,os⟩,hs,e⟩:=Option.map_eq_some_iff.mp (boot_open (p:=Challenge.pw_uf030030_11) (N:=20000) (by rfl) (by decide +kernel) (fun s=>by rfl) w)
 obtain⟨e1,e⟩:=Prod.mk.inj e
 obtain⟨e2,e⟩:=Prod.mk.inj e
 obtain⟨e3,e4⟩:=Prod.mk.inj e
 dsimp only at e1 e2 e3 e4
 subst e1 e2 e3 e4
 unfold openEnds
 rw[hs,Option.bind_some]
 exact topOf w os
theorem defIs:(defOf qOf Challenge.rw_uf030030_11.name).isSome=true:=by decide +kernel
theorem pokN {N:String->Nat->List MV->List Addr->MQ->MH->Prop}:progOk (recsOf qOf) (defs11 N)=true:=by kernel_rfl
theorem cokN {K:Addr}{k7:Nat->Addr}:(consts11 K k7).all (constOk (valOf qOf))=true:=by kernel_rfl
theorem mokN {N:String->Nat->List MV->List Addr->MQ->MH->Prop}:methTab.all (fun e=>(defs11 N).any fun p=>p.1 == e.1)=true:=by kernel_rfl
noncomputable def Kr (mg:Str->Option Value) (h:Heap):Prop:=∃ K,mg (Str.ofString "Keeper")=some (.ref K)∧KRaw h D0 K
end Mine
theorem PySem.Challenge.cw_uf030030_11_holds : PySem.Challenge.rw_uf030030_11.Holds := by
 refine holds_law (by decide +kernel) fun said=>?_
 refine holds_open (r:=Challenge.rw_uf030030_11.row) (q:=Mine.qOf) (loose:=Mine.lz) (d:=((defOf Mine.qOf Challenge.rw_uf030030_11.name).get Mine.defIs).1) (kwd:=((defOf Mine.qOf Challenge.rw_uf030030_11.name).get Mine.defIs).2) (Xt:=fun s=>xlAt Mine.qOf [] s && (Mine.xOk s.heap && Mine.kOk Mine.D0 s.heap)) (XP:=fun mg h=>XL Mine.qOf [] mg h∧Mine.Xs mg h∧Mine.Kr mg h) (YP:=fun _ _=>True) Mine.leftOf (fun _ _ _=>trivial) (fun _ _ _ _ _=>trivial) (fun s e=>⟨xl_of s (Mine.and2 e).1,Mine.Xs.of (Mine.and2 (Mine.and2 e).2).1,Mine.KRaw.of (Mine.and2 (Mine.and2 e).2).2⟩) (fun mg h h' x k=>⟨XL.keeps mg h h' x.1 k,x.2.1.keeps k,x.2.2.elim fun K y=>⟨K,y.1,y.2.keeps k⟩⟩)
  (by kernel_rfl) (by kernel_rfl) (by kernel_rfl) (fun s e=>recFacts_nil rfl) rfl said (by decide +kernel) ⟨rfl,rfl,rfl,rfl,rfl,by decide +kernel⟩ ⟨[.list []],by decide +kernel,by decide +kernel⟩ ?_
 intro w s₀ s₁ mg mb G Y fa o pm cd doc dV kV ho hd hcd hD hmg hg args vals as hpre hlay hrd hwl hlo
 have hX:=G.X.2
 refine Ground.open G ?_
 intro T B D TE TW
 clear hd hcd hD
 wrow_args hpre hlay hrd hwl hlo
 rename_i ns _ _ _ _ _ _ _ a vs _ hL _ hW _ hI _ hlen _
 obtain ⟨xs,K,hK,kr⟩:=hX
 have pg:=Mine.pg_of (prog:=Challenge.rw_uf030030_11.row.prog) (w:=w) T (Mine.defs11 (Mine.nat11 Challenge.rw_uf030030_11.row.prog w s₁.heap)) (Mine.consts11 K (Mine.k7Of mg)) hK (Mine.kraw_of kr) xs Mine.pokN Mine.cokN (by decide +kernel) (by decide +kernel) Mine.mokN (Mine.consts_at xs hK) (fun C e=>by cases e;rfl)
 have hp:s₁.heap.PlainList a vs.toArray:=Mine.plain_of hW hL
 refine wpAny_mono (Mine.law11 pg xs rfl hmg hp hI (show Mine.OkC ⟨20,true⟩ callerA from ⟨fun _=>rfl,by decide,by decide⟩) (by omega)) (fun v s' h=>GoodW.toG ?_) fun _ _ e=>e
 obtain ⟨rfl,hk,hos,hgs⟩:=h
 refine ⟨.inl ⟨.bool true,.bool true,[],rfl,?_,?_,?_,?_⟩,hk,hos,hgs.trans hg⟩
 ·intro cls;rfl
 ·constructor
 ·refine postW_of (X:=true) (by decide +kernel) ?_ rfl
  first
   | (with_unfolding_all rfl)
   | (simp [OpenLaw.row,WTm.value];done)
 ·intro _;exact ⟨List.nodup_nil,fun _ h=>by cases h⟩
end
