import PyProof.Rows.All
import Wide.All
import Open.Line
import PySem.Challenge.RW_nt0481_01
set_option Elab.async false
set_option linter.unusedSimpArgs false
set_option linter.unusedVariables false
set_option linter.deprecated false
namespace Mine
open PySem PySem.W PyProof.Rows

/-- a value of the evaluator: frozen data, a list that the frame owns, a tuple that holds such, the deck, the deck's list -/
inductive V where
  | d (x : PyData)
  | own (k : Nat)
  | tup (l : List V)
  | deck
  | left

noncomputable abbrev Vars := List (Str × Option V)
noncomputable abbrev Dk := Option (List Int × Int)

structure IS where
  vars : Vars
  own : List (List V)
  dk : Dk

/-- what stands still in a frame -/
structure FC where
  sc : Scope
  cells : List (Str × PyData)

inductive Fl where
  | next
  | ret (v : V)

noncomputable def getV : Vars → Str → Option V
  | [], _ => none
  | (y, v) :: r, x => if x = y then v else getV r x
noncomputable def setV : Vars → Str → V → Vars
  | [], _, _ => []
  | (y, w) :: r, x, v => if x = y then (y, some v) :: r else (y, w) :: setV r x v

noncomputable def sizeOk (n : Nat) : Bool := decide (n ≤ 1000000)
noncomputable def small (i : Int) : Bool := decide (i.natAbs < 4611686018427387904)

noncomputable def allD : List V → Option (List PyData)
  | [] => some []
  | .d x :: r => (allD r).map (x :: ·)
  | _ :: _ => none
noncomputable def mkTup (vs : List V) : V := match allD vs with
  | some ds => .d (.tuple ds)
  | none => .tup vs

noncomputable def constV (x : Str) : Option V :=
  if x = Str.ofString "_law_unit" then some (.d (.int 1000000)) else if x = Str.ofString "EVEN_ODD" then some (.d (.str (Str.ofString "evenodd"))) else none

noncomputable def notDebug (x : Str) : Bool := !(x == ("__debug__" : Str)) && !(x == ("__classdict__" : Str))

noncomputable def nameV (c : FC) (st : IS) (x : Str) : Option V := if notDebug x then (match c.sc.names.lookup x with
  | some .local => getV st.vars x
  | some .cell => (c.cells.lookup x).map .d
  | some .free => (c.cells.lookup x).map .d
  | some .globalImplicit => constV x
  | _ => none) else none

noncomputable def itemL {α : Type} (xs : List α) (i : Int) : Option α :=
  if 0 ≤ i then xs[i.toNat]? else if 0 ≤ i + xs.length then xs[(i + xs.length).toNat]? else none

noncomputable def itemV (st : IS) : V → V → Option V
  | .d (.list xs), .d (.int i) => if small i && sizeOk xs.length then (itemL xs i).map .d else none
  | .d (.tuple xs), .d (.int i) => if small i && sizeOk xs.length then (itemL xs i).map .d else none
  | .own k, .d (.int i) => (st.own[k]?).bind fun xs => if small i && sizeOk xs.length then itemL xs i else none
  | .tup xs, .d (.int i) => if small i && sizeOk xs.length then itemL xs i else none
  | .deck, .d (.str s) => st.dk.bind fun p => if s = Str.ofString "left" then some .left else if s = Str.ofString "mixed" then some (.d (.int p.2)) else none
  | _, _ => none

noncomputable def binI (a b : Int) : Operator → Option V
  | .Add => some (.d (.int (a + b)))
  | .Sub => some (.d (.int (a - b)))
  | .Mult => if small a then some (.d (.int (a * b))) else none
  | .FloorDiv => if b ≠ 0 ∧ b.natAbs < 1073741824 then some (.d (.int (a.fdiv b))) else none
  | .Mod => if b ≠ 0 then some (.d (.int (a.fmod b))) else none
  | _ => none
noncomputable def binD : PyData → PyData → Operator → Option V
  | .int a, .int b, op => binI a b op
  | .list a, .list b, op => if op = .Add ∧ sizeOk (a.length + b.length) then some (.d (.list (a ++ b))) else none
  | .tuple a, .tuple b, op => if op = .Add ∧ sizeOk (a.length + b.length) then some (.d (.tuple (a ++ b))) else none
  | _, _, _ => none
noncomputable def binV : Operator → V → V → Option V
  | op, .d a, .d b => binD a b op
  | _, _, _ => none

noncomputable def eqD : PyData → PyData → Option Bool
  | .int a, .int b => some (a == b)
  | .str a, .str b => some (a == b)
  | .list a, .list b => if SeqAt.shaped (.list a) && SeqAt.shaped (.list b) then some (PyData.eqv (.list a) (.list b)) else none
  | .tuple a, .tuple b => if SeqAt.shaped (.tuple a) && SeqAt.shaped (.tuple b) then some (PyData.eqv (.tuple a) (.tuple b)) else none
  | _, _ => none

noncomputable def cmpD : CmpOp → PyData → PyData → Option Bool
  | .Eq, a, b => eqD a b
  | .NotEq, a, b => (eqD a b).map (!·)
  | .Lt, .int a, .int b => some (decide (a < b))
  | .LtE, .int a, .int b => some (decide (a ≤ b))
  | .Gt, .int a, .int b => some (decide (a > b))
  | .GtE, .int a, .int b => some (decide (a ≥ b))
  | .Is, .none, .none => some true
  | .Is, .tuple _, .none => some false
  | .IsNot, .bool a, .bool b => some (a != b)
  | _, _, _ => none
noncomputable def cmpV : CmpOp → V → V → Option Bool
  | op, .d a, .d b => cmpD op a b
  | _, _, _ => none

/-- v != [] -/
noncomputable def neNil (st : IS) : V → Option Bool
  | .d (.list xs) => some (!xs.isEmpty)
  | .left => st.dk.map fun p => !p.1.isEmpty
  | _ => none

noncomputable def sliceL {α : Type} : Option Int → Option Int → List α → Option (List α)
  | none, some u, xs => if 0 ≤ u then some (xs.take u.toNat) else if u = -1 then some xs.dropLast else none
  | some l, none, xs => if 0 ≤ l then some (xs.drop l.toNat) else none
  | _, _, _ => none
noncomputable def sliceV (lo up : Option Int) : V → Option V
  | .d (.list xs) => if sizeOk xs.length then (sliceL lo up xs).map fun ys => .d (.list ys) else none
  | .d (.tuple xs) => if sizeOk xs.length && !xs.isEmpty then (if lo = some 1 ∧ up = none then some (.d (.tuple (xs.drop 1))) else if lo = none ∧ up = some 1 then some (.d (.tuple (xs.take 1))) else none) else none
  | _ => none

noncomputable def intOf : V → Option Int
  | .d (.int i) => some i
  | _ => none
noncomputable def boolOf : V → Option Bool
  | .d (.bool b) => some b
  | _ => none
noncomputable def intsOf : List PyData → Option (List Int)
  | [] => some []
  | .int i :: r => (intsOf r).map (i :: ·)
  | _ :: _ => none

/-- one level of the evaluator: what it asks of the level below -/
structure Ev where
  e : FC → Expr → IS → Option (V × IS)
  t : FC → Expr → IS → Option (Bool × IS)
  a : FC → Expr → V → IS → Option IS
  b : FC → List Stmt → IS → Option (Fl × IS)
  f : Str → List V → Dk → Option (V × Dk)

noncomputable def evL (r : Ev) (c : FC) : List Expr → IS → Option (List V × IS)
  | [], st => some ([], st)
  | e :: es, st => (r.e c e st).bind fun p => (evL r c es p.2).bind fun q => some (p.1 :: q.1, q.2)

noncomputable def enumL : Nat → List PyData → List PyData
  | _, [] => []
  | n, x :: r => .tuple [.int n, x] :: enumL (n + 1) r

noncomputable def rangeL (a c : Int) : Nat → List PyData
  | 0 => []
  | n + 1 => .int a :: rangeL (a + c) c n

noncomputable def rangeV : List V → Option (List PyData)
  | [.d (.int n)] => if small n then some (rangeL 0 1 n.toNat) else none
  | [.d (.int a), .d (.int b), .d (.int c)] => if small a && small b && small c && (decide (c ≠ 0)) && (decide (c.natAbs < 1073741824)) && sizeOk (Builtin.Range.rangeSize a b c).toNat && Builtin.Range.small a b c then some (rangeL a c (Builtin.Range.rangeSize a b c).toNat) else none
  | _ => none

noncomputable def isGlob (c : FC) (x : Str) : Bool := decide (c.sc.names.lookup x = some .globalImplicit) && notDebug x

noncomputable def seqOf : V → Option (List PyData)
  | .d (.list xs) => some xs
  | .d (.tuple xs) => some xs
  | _ => none
noncomputable def listOf' : V → Option (List PyData)
  | .d (.list xs) => some xs
  | _ => none

noncomputable def rangeArgs : Expr → Option (List Expr)
  | .Call (.Name f _) args [] _ => if f = Str.ofString "range" then some args else none
  | _ => none
noncomputable def enumArg : Expr → Option Expr
  | .Call (.Name f _) [x] [] _ => if f = Str.ofString "enumerate" then some x else none
  | _ => none

noncomputable def isTupT : Expr → Bool
  | .Tuple .. => true
  | _ => false
noncomputable def isNameT : Expr → Bool
  | .Name .. => true
  | _ => false
/-- which targets go with which iterables -/
noncomputable def tgtOk (iter t : Expr) : Bool := if (enumArg iter).isSome then isTupT t else isTupT t || isNameT t

/-- what an iterable hands out -/
noncomputable def iterV (r : Ev) (c : FC) (x : Expr) (st : IS) : Option (List PyData × IS) :=
  match rangeArgs x with
  | some args => if isGlob c (Str.ofString "range") then (evL r c args st).bind fun p => (rangeV p.1).bind fun xs => if sizeOk xs.length then some (xs, p.2) else none else none
  | none => match enumArg x with
    | some y => if isGlob c (Str.ofString "enumerate") then (r.e c y st).bind fun p => (listOf' p.1).bind fun xs => if sizeOk xs.length then some (enumL 0 xs, p.2) else none else none
    | none => (r.e c x st).bind fun p => (seqOf p.1).bind fun xs => if sizeOk xs.length then some (xs, p.2) else none

noncomputable def compL (step : PyData → Option (Option PyData)) : List PyData → Option (List PyData)
  | [] => some []
  | x :: r => (step x).bind fun y => (compL step r).bind fun ys => some (y.toList ++ ys)

noncomputable def loopF (step : PyData → IS → Option (Fl × IS)) : List PyData → IS → Option (Fl × IS)
  | [], st => some (.next, st)
  | x :: xs, st => (step x st).bind fun p => match p.1 with
    | .next => loopF step xs p.2
    | .ret v => some (.ret v, p.2)


noncomputable def isNil : Expr → Bool
  | .List [] _ => true
  | _ => false
/-- a comparison, one sign or two -/
noncomputable def cmpE (r : Ev) (c : FC) : Expr → List CmpOp → List Expr → IS → Option (Bool × IS)
  | l, [op], [x], st => if (decide (op = .NotEq) && isNil x) = true then (r.e c l st).bind fun p => (neNil p.2 p.1).map (·, p.2)
    else (r.e c l st).bind fun p => (r.e c x p.2).bind fun q => (cmpV op p.1 q.1).map (·, q.2)
  | l, [o1, o2], [m, x], st => if o2 = .In ∨ o2 = .NotIn then none else (r.e c l st).bind fun p => (r.e c m p.2).bind fun q => (cmpV o1 p.1 q.1).bind fun b =>
      if b then (r.e c x q.2).bind fun q' => (cmpV o2 q.1 q'.1).map (·, q'.2) else some (false, q.2)
  | _, _, _, _ => none

noncomputable def compScope (c : FC) (scope : Scope) : Scope := relabel scope { (default : Env) with scope := c.sc }

noncomputable def compOk (c : FC) (scope : Scope) (target : Expr) : Bool :=
  decide (scope.kind = .function) && scope.names.all (fun x => decide (x.2 ≠ .cell)) &&
  scope.names.all (fun x => decide (x.2 = .free → c.sc.names.lookup x.1 = some .cell ∧ (c.cells.lookup x.1).isSome = true)) &&
  scope.names.all (fun x => decide (x.2 = .local → scope.names.lookup x.1 = some .local))

/-- the blocks' own ground: its letters, none bound -/
noncomputable def blank (scope : Scope) : IS := ⟨scope.names.map fun x => (x.1, none), [], none⟩

noncomputable def testsE (r : Ev) (c : FC) : List Expr → IS → Option (Bool × IS)
  | [], st => some (true, st)
  | [x], st => r.t c x st
  | _, _ => none

noncomputable def compStep (r : Ev) (c' : FC) (scope : Scope) (target : Expr) (ifs : List Expr) (elt : Expr) (x : PyData) : Option (Option PyData) :=
  (r.a c' target (.d x) (blank scope)).bind fun st => (testsE r c' ifs st).bind fun p =>
    if p.1 then (r.e c' elt p.2).bind fun q => match q.1 with
      | .d y => some (some y)
      | _ => none
    else some none

noncomputable def compV (r : Ev) (c : FC) (elt target iter : Expr) (ifs : List Expr) (scope : Scope) (st : IS) : Option (List PyData × IS) :=
  if compOk c scope target && tgtOk iter target then
    (iterV r c iter st).bind fun p => (compL (compStep r ⟨compScope c scope, c.cells⟩ scope target ifs elt) p.1).bind fun ys => some (ys, p.2)
  else none

noncomputable def callV (r : Ev) (c : FC) (f : Str) (vs : List V) (st : IS) : Option (V × IS) :=
  if isGlob c f && !vs.isEmpty then
    if f = Str.ofString "min" then (match vs with
      | [.d (.int a), .d (.int b)] => some (.d (.int (if b < a then b else a)), st)
      | _ => none)
    else if f = Str.ofString "max" then (match vs with
      | [.d (.int a), .d (.int b)] => some (.d (.int (if b > a then b else a)), st)
      | _ => none)
    else if f = Str.ofString "len" then (match vs with
      | [.d (.list xs)] => if sizeOk xs.length then some (.d (.int xs.length), st) else none
      | [.d (.tuple xs)] => if sizeOk xs.length then some (.d (.int xs.length), st) else none
      | _ => none)
    else if f = Str.ofString "sum" then (match vs with
      | [.d (.list xs)] => if sizeOk xs.length then (intsOf xs).map fun ns => (.d (.int ns.sum), st) else none
      | _ => none)
    else if f = Str.ofString "tuple" then (match vs with
      | [.d (.list xs)] => if sizeOk xs.length then some (.d (.tuple xs), st) else none
      | [.own k] => (st.own[k]?).bind fun l => (allD l).bind fun xs => if sizeOk xs.length then some (.d (.tuple xs), st) else none
      | _ => none)
    else if f = Str.ofString "int" then (match vs with
      | [.d (.int a)] => some (.d (.int a), st)
      | _ => none)
    else (r.f f vs st.dk).map fun p => (p.1, { st with dk := p.2 })
  else none

noncomputable def baseOk : Expr → Bool
  | .Name .. => true
  | .Subscript .. => true
  | _ => false

noncomputable def popV (m : Str) (ov v : V) (st : IS) : Option (V × IS) := match ov, v, st.dk with
  | .left, .d (.int 0), some (x :: xs, k) => if m = Str.ofString "pop" ∧ sizeOk (x :: xs).length then some (.d (.int x), { st with dk := some (xs, k) }) else none
  | _, _, _ => none

noncomputable def evE (r : Ev) (c : FC) : Expr → IS → Option (V × IS)
  | .Constant (.int i) _ _, st => some (.d (.int i), st)
  | .Constant (.str s) _ _, st => if PyData.canLay0 (.str s) then some (.d (.str s), st) else none
  | .Constant (.bool b) _ _, st => some (.d (.bool b), st)
  | .Constant .none _ _, st => some (.d .none, st)
  | .Name x _, st => (nameV c st x).map (·, st)
  | .BinOp l op x _, st => (r.e c l st).bind fun p => (r.e c x p.2).bind fun q => (binV op p.1 q.1).map (·, q.2)
  | .UnaryOp .USub x _, st => (r.e c x st).bind fun p => (intOf p.1).map fun i => (.d (.int (-i)), p.2)
  | .IfExp t b o _, st => (r.t c t st).bind fun p => if p.1 then r.e c b p.2 else r.e c o p.2
  | .Tuple es _ _, st => (evL r c es st).bind fun p => if sizeOk p.1.length then some (mkTup p.1, p.2) else none
  | .List [] _, st => some (.own st.own.length, { st with own := st.own ++ [[]] })
  | .List [.Name x _] _, st => (nameV c st x).map fun v => (.own st.own.length, { st with own := st.own ++ [[v]] })
  | .List es _, st => (evL r c es st).bind fun p => (allD p.1).bind fun ds => if sizeOk ds.length then some (.d (.list ds), p.2) else none
  | .Subscript o (.Slice none none (some x) _) _, st => (r.e c o st).bind fun p => (r.e c x p.2).bind fun q => match p.1, q.1 with
      | .d (.list xs), .d (.int i) => if i = -1 ∧ sizeOk xs.length then some (.d (.list xs.reverse), q.2) else none
      | _, _ => none
  | .Subscript o (.Slice (some x) none none _) _, st => (r.e c o st).bind fun p => (r.e c x p.2).bind fun q => (intOf q.1).bind fun i => (sliceV (some i) none p.1).map (·, q.2)
  | .Subscript o (.Slice none (some x) none _) _, st => (r.e c o st).bind fun p => (r.e c x p.2).bind fun q => (intOf q.1).bind fun i => (sliceV none (some i) p.1).map (·, q.2)
  | .Subscript _ (.Slice _ _ _ _) _, _ => none
  | .Subscript o i _, st => (r.e c o st).bind fun p => (r.e c i p.2).bind fun q => (itemV q.2 p.1 q.1).map (·, q.2)
  | .Compare l ops xs _, st => (cmpE r c l ops xs st).map fun p => (.d (.bool p.1), p.2)
  | .BoolOp .And [x, y] _, st => (r.e c x st).bind fun p => (boolOf p.1).bind fun q => if q then r.e c y p.2 else some (.d (.bool false), p.2)
  | .Call (.Name f _) args [] _, st => (evL r c args st).bind fun p => callV r c f p.1 p.2
  | .Call (.Attribute o m ap) [a] [] cp, st => if baseOk o && ap.endLine == cp.line then (r.e c o st).bind fun p => if p.2.dk.isSome then (r.e c a p.2).bind fun q => popV m p.1 q.1 q.2 else none else none
  | .ListComp elt [⟨target, iter, ifs, 0⟩] scope _, st => (compV r c elt target iter ifs scope st).map fun p => (.d (.list p.1), p.2)
  | _, _ => none

/-- and, or in a test -/
noncomputable def allT (r : Ev) (c : FC) : BoolOp → List Expr → IS → Option (Bool × IS)
  | op, [], st => some (decide (op = .And), st)
  | .And, x :: xs, st => (r.t c x st).bind fun p => if p.1 then allT r c .And xs p.2 else some (false, p.2)
  | .Or, x :: xs, st => (r.t c x st).bind fun p => if p.1 then some (true, p.2) else allT r c .Or xs p.2

noncomputable def evT (r : Ev) (c : FC) : Expr → IS → Option (Bool × IS)
  | .BoolOp op xs _, st => allT r c op xs st
  | .Compare l ops xs _, st => cmpE r c l ops xs st
  | .Name x p, st => (r.e c (.Name x p) st).bind fun q => (boolOf q.1).map (·, q.2)
  | .Call (.Name f p) args [] p', st => (r.e c (.Call (.Name f p) args [] p') st).bind fun q => (boolOf q.1).map (·, q.2)
  | _, _ => none

noncomputable def itemsOf : V → Option (List V)
  | .d (.tuple xs) => some (xs.map .d)
  | .tup vs => some vs
  | _ => none

noncomputable def asgL (r : Ev) (c : FC) : List Expr → List V → IS → Option IS
  | [], [], st => some st
  | t :: ts, v :: vs, st => (r.a c t v st).bind fun st' => asgL r c ts vs st'
  | _, _, _ => none

noncomputable def storeN (c : FC) (x : Str) (v : V) (st : IS) : Option IS :=
  if c.sc.names.lookup x = some .local then some { st with vars := setV st.vars x v } else none

noncomputable def asg (r : Ev) (c : FC) : Expr → V → IS → Option IS
  | .Name x _, v, st => storeN c x v st
  | .Tuple ts _ _, v, st => (itemsOf v).bind fun vs => if sizeOk vs.length && ts.all (fun | .Starred .. => false | _ => true) then asgL r c ts vs st else none
  | .Subscript o i _, v, st => (r.e c o st).bind fun p => (r.e c i p.2).bind fun q => match p.1, q.1 with
      | .own k, .d (.int j) => (q.2.own[k]?).bind fun xs => if j = -1 ∧ xs.length ≠ 0 ∧ sizeOk xs.length then some { q.2 with own := q.2.own.set k (xs.set (xs.length - 1) v) } else none
      | .deck, .d (.str s) => if s = Str.ofString "mixed" then (q.2.dk.bind fun dk => (intOf v).map fun i => { q.2 with dk := some (dk.1, i) }) else none
      | _, _ => none
  | _, _, _ => none

/-- stores exchanged (two or three names) -/
noncomputable def swpC (c : FC) (ts : List Expr) (e : Expr) : Option (Option (List Str)) := match e with
  | .Tuple vs _ _ =>
    if !(ts.length == 2 || ts.length == 3) || vs.length != ts.length then some none
    else if vs.any (fun | .Starred .. => true | _ => false) then some none
    else
      let line := (ts.head?.map (·.pos.line)).getD 0
      let names := ts.filterMap fun
        | .Name id pos => if c.sc.names.lookup id == some .local && pos.line == line then some id else none
        | _ => none
      if names.length != ts.length || names.eraseDups.length != names.length then some none
      else if vs.all (foldedForSure 8) then some none
      else if vs.all (constantsAlone 8) then none
      else some (some names)
  | _ => some none

noncomputable def storeL (c : FC) : List Str → List V → IS → Option IS
  | [], [], st => some st
  | x :: xs, v :: vs, st => (storeN c x v st).bind fun st' => storeL c xs vs st'
  | _, _, _ => none

noncomputable def swapsC (c : FC) (value : Expr) (t : Str) (tp : Pos) : Bool := match value with
  | .ListComp _ _ scope _ => (c.sc.names.lookup t == some .local) && tp.line == value.pos.line && !(scope.names.any fun (n, k) => n == t && (k == .local || k == .cell))
  | _ => false

noncomputable def isComp : Expr → Bool
  | .ListComp .. => true
  | .SetComp .. => true
  | .DictComp .. => true
  | _ => false

noncomputable def methV (m : Str) (ov v : V) (st : IS) : Option IS := match ov with
  | .own k => (st.own[k]?).bind fun l =>
    if m = Str.ofString "append" then (if sizeOk l.length then some { st with own := st.own.set k (l ++ [v]) } else none)
    else if m = Str.ofString "extend" then (match v with
      | .d (.list ds) => if sizeOk (l.length + ds.length) then some { st with own := st.own.set k (l ++ ds.map .d) } else none
      | _ => none)
    else none
  | _ => none

noncomputable def exS (r : Ev) (c : FC) : Stmt → IS → Option (Fl × IS)
  | .Assign [.Name x p] e _, st =>
    if isComp e then (match e with
      | .ListComp elt [⟨target, iter, ifs, 0⟩] scope pos => if swapsC c (.ListComp elt [⟨target, iter, ifs, 0⟩] scope pos) x p then
          (compV r c elt target iter ifs scope st).bind fun q => (storeN c x (.d (.list q.1)) q.2).map (.next, ·) else none
      | _ => none)
    else (r.e c e st).bind fun q => (storeN c x q.1 q.2).map (.next, ·)
  | .Assign [.Tuple ts k p] e _, st => if isComp e then none else
      (r.e c e st).bind fun q => (swpC c ts e).bind fun sw => match sw with
      | none => (r.a c (.Tuple ts k p) q.1 q.2).map (.next, ·)
      | some names => (itemsOf q.1).bind fun vs => if vs.length = names.length && sizeOk vs.length then (storeL c names.reverse vs.reverse q.2).map (.next, ·) else none
  | .Assign [.Subscript o i p] e _, st => if isComp e then none else
      (r.e c e st).bind fun q => (r.a c (.Subscript o i p) q.1 q.2).map (.next, ·)
  | .AugAssign (.Name x p) .Add e _, st => if notDebug x then (r.e c (.Name x p) st).bind fun q => (r.e c e q.2).bind fun q' => match q.1, q'.1 with
      | .d (.int a), .d (.int b) => (storeN c x (.d (.int (a + b))) q'.2).map (.next, ·)
      | _, _ => none
    else none
  | .If t b o _, st => (r.t c t st).bind fun p => if p.1 then r.b c b p.2 else r.b c o p.2
  | .For t it b [] _, st => if tgtOk it t then (iterV r c it st).bind fun p => loopF (fun x st' => (r.a c t (.d x) st').bind fun st'' => r.b c b st'') p.1 p.2 else none
  | .Return (some e) _, st => (r.e c e st).map fun p => (.ret p.1, p.2)
  | .Expr (.Call (.Attribute o m ap) [a] [] cp) _, st => if baseOk o && ap.endLine == cp.line then (r.e c o st).bind fun p => (r.e c a p.2).bind fun q => (methV m p.1 q.1 q.2).map (.next, ·) else none
  | _, _ => none

noncomputable def exB (r : Ev) (c : FC) : List Stmt → IS → Option (Fl × IS)
  | [], st => some (.next, st)
  | s :: rest, st => (exS r c s st).bind fun p => match p.1 with
    | .next => exB r c rest p.2
    | .ret v => some (.ret v, p.2)

mutual
noncomputable def freeze : Nat → List (List V) → V → Option PyData
  | 0, _, _ => none
  | _ + 1, _, .d x => some x
  | n + 1, own, .own k => (own[k]?).bind fun l => (freezeL n own l).map .list
  | n + 1, own, .tup l => (freezeL n own l).map .tuple
  | _ + 1, _, _ => none
noncomputable def freezeL : Nat → List (List V) → List V → Option (List PyData)
  | 0, _, _ => none
  | n + 1, own, l => l.mapM (freeze n own)
end

/-- the law's records -/
noncomputable def recs : List DefRec := recsOf PySem.Challenge.pw_nt0481_01
noncomputable def fnRec (f : Str) : Option DefRec := recs.find? fun d => d.name == f

noncomputable def isCellN (sc : Scope) (x : Str) : Bool := sc.names.lookup x == some .cell
noncomputable def initC (d : DefRec) (ds : List V) : List (Str × PyData) :=
  ((d.params.args.map (·.arg)).zip ds).filterMap fun p => match p.2 with
    | .d x => if isCellN d.scope p.1 then some (p.1, x) else none
    | _ => none
noncomputable def initV (d : DefRec) (ds : List V) : Vars :=
  ((d.params.args.map (·.arg)).zip ds).filterMap (fun p => if isCellN d.scope p.1 then none else some (p.1, some p.2)) ++
  d.scope.names.filterMap (fun x => if x.2 = .local ∧ !(d.params.args.map (·.arg)).contains x.1 then some (x.1, none) else none)

noncomputable def argOk : V → Bool
  | .d _ => true
  | .deck => true
  | _ => false

/-- a record that the calls cover -/
noncomputable def okRec (d : DefRec) : Bool :=
  decide (d.scope.kind = .function) && decide (d.scope.isCoroutine = false) && decide (d.scope.isGenerator = false) && d.params.posonlyargs.isEmpty && d.params.kwonlyargs.isEmpty && d.params.vararg.isNone && d.params.kwarg.isNone &&
  decide (d.params.args.map (·.arg)).Nodup && (d.params.args.map (·.arg)).all fun x => decide (d.scope.names.lookup x = some .local ∨ d.scope.names.lookup x = some .cell)

noncomputable def callF (r : Ev) (f : Str) (vs : List V) (dk : Dk) : Option (V × Dk) :=
  (fnRec f).bind fun d => if okRec d && vs.all argOk && decide (vs.length = d.params.args.length) then
    (r.b ⟨d.scope, initC d vs⟩ d.body ⟨initV d vs, [], dk⟩).bind fun p => match p.1 with
      | .ret v => (freeze 10 p.2.own v).map fun x => (.d x, p.2.dk)
      | .next => none
  else none

noncomputable def Ev.none : Ev := ⟨fun _ _ _ => .none, fun _ _ _ => .none, fun _ _ _ _ => .none, fun _ _ _ => .none, fun _ _ _ => .none⟩
noncomputable def Ev.step (r : Ev) : Ev := ⟨evE r, evT r, asg r, exB r, callF r⟩
noncomputable def ev : Nat → Ev
  | 0 => Ev.none
  | n + 1 => (ev n).step

theorem no {α : Type} {a : α} {p : Prop} (h : (none : Option α) = some a) : p := nomatch h
theorem intOf_inv {v : V} {i : Int} (h : intOf v = some i) : v = .d (.int i) := by
  cases v with
  | d x => cases x with
    | int j => cases h; rfl
    | _ => exact no h
  | _ => exact no h
theorem boolOf_inv {v : V} {b : Bool} (h : boolOf v = some b) : v = .d (.bool b) := by
  cases v with
  | d x => cases x with
    | bool j => cases h; rfl
    | _ => exact no h
  | _ => exact no h
end Mine
namespace Mine
open PySem PySem.W PyProof.Rows

noncomputable abbrev Fz := Addr → Option Obj
noncomputable abbrev lstObj (items : Array Value) (n : Nat) : Obj := { cls := .type "list", dict := none, data := .seq items n, slots := #[] }
noncomputable abbrev tupObj (items : Array Value) (n : Nat) : Obj := { cls := .type "tuple", dict := none, data := .seq items n, slots := #[] }

noncomputable def FLe (f g : Fz) : Prop := ∀ b o, f b = some o → g b = some o
theorem FLe.refl (f : Fz) : FLe f f := fun _ _ e => e
theorem FLe.trans {f g k : Fz} (a : FLe f g) (b : FLe g k) : FLe f k := fun x o e => b x o (a x o e)
noncomputable def updF (f : Fz) (a : Addr) (o : Obj) : Fz := fun b => if b = a then some o else f b
theorem updF_self (f : Fz) (a : Addr) (o : Obj) : updF f a o a = some o := by simp [updF]
theorem updF_le {f : Fz} {a : Addr} {o : Obj} (h : f a = none) : FLe f (updF f a o) := fun b o' e => by
  unfold updF
  by_cases hb : b = a
  · subst hb; rw [h] at e; cases e
  · simp [hb, e]

mutual
/-- a value stands for frozen data -/
inductive RD (fz : Fz) : Value → PyData → Prop
  | none : RD fz .none .none
  | bool (b : Bool) : RD fz (.bool b) (.bool b)
  | int (i : Int) (t : Tok) : RD fz (.int i t) (.int i)
  | str (x : Str) (t : Tok) (h : PyData.canLay0 (.str x) = true) : RD fz (.str x t) (.str x)
  | list {a vs n xs} : fz a = some (lstObj vs n) → RDs fz vs.toList xs → RD fz (.ref a) (.list xs)
  | tuple {a vs n xs} : fz a = some (tupObj vs n) → RDs fz vs.toList xs → RD fz (.ref a) (.tuple xs)
inductive RDs (fz : Fz) : List Value → List PyData → Prop
  | nil : RDs fz [] []
  | cons {v vs d ds} : RD fz v d → RDs fz vs ds → RDs fz (v :: vs) (d :: ds)
end

mutual
theorem RD.mono {f g : Fz} (k : FLe f g) : ∀ {v : Value} {x : PyData}, RD f v x → RD g v x
  | _, _, .none => .none
  | _, _, .bool b => .bool b
  | _, _, .int i t => .int i t
  | _, _, .str x t h => .str x t h
  | _, _, .list h r => .list (k _ _ h) (RDs.mono k r)
  | _, _, .tuple h r => .tuple (k _ _ h) (RDs.mono k r)
theorem RDs.mono {f g : Fz} (k : FLe f g) : ∀ {v : List Value} {x : List PyData}, RDs f v x → RDs g v x
  | _, _, .nil => .nil
  | _, _, .cons h r => .cons (RD.mono k h) (RDs.mono k r)
end

mutual
theorem RD.reads {f : Fz} {h : Heap} (k : ∀ b o, f b = some o → h.get? b = some o) : ∀ {v : Value} {x : PyData}, RD f v x → ∃ as, Reads h v x as
  | _, _, .none => ⟨_, .none⟩
  | _, _, .bool b => ⟨_, .bool b⟩
  | _, _, .int i t => ⟨_, .int i t⟩
  | _, _, .str x t _ => ⟨_, .str x t⟩
  | _, _, .list h r => let ⟨_, q⟩ := RDs.reads k r; ⟨_, .list (k _ _ h) rfl rfl q⟩
  | _, _, .tuple h r => let ⟨_, q⟩ := RDs.reads k r; ⟨_, .tuple (k _ _ h) rfl rfl q⟩
theorem RDs.reads {f : Fz} {h : Heap} (k : ∀ b o, f b = some o → h.get? b = some o) : ∀ {v : List Value} {x : List PyData}, RDs f v x → ∃ as, ReadsAll h v x as
  | _, _, .nil => ⟨_, .nil⟩
  | _, _, .cons h r => let ⟨_, p⟩ := RD.reads k h; let ⟨_, q⟩ := RDs.reads k r; ⟨_, .cons p q⟩
end

theorem RDs.length {f : Fz} : ∀ {v : List Value} {x : List PyData}, RDs f v x → v.length = x.length
  | _, _, .nil => rfl
  | _, _, .cons _ r => by rw [List.length_cons, List.length_cons, RDs.length r]
theorem RDs.get {f : Fz} : ∀ {v : List Value} {x : List PyData}, RDs f v x → ∀ (i : Nat) (y : PyData), x[i]? = some y → ∃ u, v[i]? = some u ∧ RD f u y
  | _, _, .cons h _, 0, y, e => by simp at e; subst e; exact ⟨_, rfl, h⟩
  | _, _, .cons _ r, i + 1, y, e => by simp at e; simpa using RDs.get r i y e
theorem RDs.append {f : Fz} : ∀ {v : List Value} {x : List PyData} {w : List Value} {y : List PyData}, RDs f v x → RDs f w y → RDs f (v ++ w) (x ++ y)
  | _, _, _, _, .nil, k => k
  | _, _, _, _, .cons h r, k => .cons h (RDs.append r k)
theorem RDs.take {f : Fz} : ∀ {v : List Value} {x : List PyData} (n : Nat), RDs f v x → RDs f (v.take n) (x.take n)
  | _, _, 0, _ => by simpa using .nil
  | _, _, _ + 1, .nil => .nil
  | _, _, n + 1, .cons h r => by simpa using .cons h (RDs.take n r)
theorem RDs.drop {f : Fz} : ∀ {v : List Value} {x : List PyData} (n : Nat), RDs f v x → RDs f (v.drop n) (x.drop n)
  | _, _, 0, r => r
  | _, _, _ + 1, .nil => .nil
  | _, _, n + 1, .cons _ r => by simpa using RDs.drop n r
theorem RDs.reverse {f : Fz} : ∀ {v : List Value} {x : List PyData}, RDs f v x → RDs f v.reverse x.reverse
  | _, _, .nil => .nil
  | _, _, .cons h r => by simpa using RDs.append (RDs.reverse r) (.cons h .nil)
theorem RDs.snoc {f : Fz} {v : List Value} {x : List PyData} {u : Value} {y : PyData} (r : RDs f v x) (h : RD f u y) : RDs f (v ++ [u]) (x ++ [y]) := RDs.append r (.cons h .nil)

mutual
/-- a value stands for a value of the evaluator -/
inductive RV (fz : Fz) (oa : List Addr) (da la : Addr) : Value → V → Prop
  | d {u x} : RD fz u x → RV fz oa da la u (.d x)
  | own {k a} : oa[k]? = some a → RV fz oa da la (.ref a) (.own k)
  | tup {a vs n l} : fz a = some (tupObj vs n) → RVs fz oa da la vs.toList l → RV fz oa da la (.ref a) (.tup l)
  | deck : RV fz oa da la (.ref da) .deck
  | left : RV fz oa da la (.ref la) .left
inductive RVs (fz : Fz) (oa : List Addr) (da la : Addr) : List Value → List V → Prop
  | nil : RVs fz oa da la [] []
  | cons {v vs d ds} : RV fz oa da la v d → RVs fz oa da la vs ds → RVs fz oa da la (v :: vs) (d :: ds)
end
noncomputable def OLe (a b : List Addr) : Prop := ∀ (k : Nat) x, a[k]? = some x → b[k]? = some x
theorem OLe.refl (a : List Addr) : OLe a a := fun _ _ e => e
theorem OLe.trans {a b c : List Addr} (x : OLe a b) (y : OLe b c) : OLe a c := fun k z e => y k z (x k z e)
theorem OLe.app (a : List Addr) (x : Addr) : OLe a (a ++ [x]) := fun k z e => by
  rw [List.getElem?_append_left (by exact (List.getElem?_eq_some_iff.mp e).1)]; exact e
mutual
theorem RV.mono {f g : Fz} {oa ob : List Addr} {da la : Addr} (k : FLe f g) (q : OLe oa ob) : ∀ {v : Value} {x : V}, RV f oa da la v x → RV g ob da la v x
  | _, _, .d h => .d (h.mono k)
  | _, _, .own h => .own (q _ _ h)
  | _, _, .tup h r => .tup (k _ _ h) (RVs.mono k q r)
  | _, _, .deck => .deck
  | _, _, .left => .left
theorem RVs.mono {f g : Fz} {oa ob : List Addr} {da la : Addr} (k : FLe f g) (q : OLe oa ob) : ∀ {v : List Value} {x : List V}, RVs f oa da la v x → RVs g ob da la v x
  | _, _, .nil => .nil
  | _, _, .cons h r => .cons (RV.mono k q h) (RVs.mono k q r)
end
section
variable {f : Fz} {oa : List Addr} {da la : Addr}
theorem RVs.length : ∀ {v : List Value} {x : List V}, RVs f oa da la v x → v.length = x.length
  | _, _, .nil => rfl
  | _, _, .cons _ r => by rw [List.length_cons, List.length_cons, RVs.length r]
theorem RVs.get : ∀ {v : List Value} {x : List V}, RVs f oa da la v x → ∀ (i : Nat) (y : V), x[i]? = some y → ∃ u, v[i]? = some u ∧ RV f oa da la u y
  | _, _, .cons h _, 0, y, e => by simp at e; subst e; exact ⟨_, rfl, h⟩
  | _, _, .cons _ r, i + 1, y, e => by simp at e; simpa using RVs.get r i y e
theorem RVs.append : ∀ {v : List Value} {x : List V} {w : List Value} {y : List V}, RVs f oa da la v x → RVs f oa da la w y → RVs f oa da la (v ++ w) (x ++ y)
  | _, _, _, _, .nil, k => k
  | _, _, _, _, .cons h r, k => .cons h (RVs.append r k)
theorem RVs.snoc {v : List Value} {x : List V} {u : Value} {y : V} (r : RVs f oa da la v x) (h : RV f oa da la u y) : RVs f oa da la (v ++ [u]) (x ++ [y]) := RVs.append r (.cons h .nil)
theorem RVs.set : ∀ {v : List Value} {x : List V} (i : Nat) {u : Value} {y : V}, RVs f oa da la v x → RV f oa da la u y → RVs f oa da la (v.set i u) (x.set i y)
  | _, _, _, _, _, .nil, _ => .nil
  | _, _, 0, _, _, .cons _ r, k => .cons k r
  | _, _, i + 1, _, _, .cons h r, k => .cons h (RVs.set i r k)
theorem RVs.reverse : ∀ {v : List Value} {x : List V}, RVs f oa da la v x → RVs f oa da la v.reverse x.reverse
  | _, _, .nil => .nil
  | _, _, .cons h r => by simpa using RVs.append (RVs.reverse r) (.cons h .nil)
theorem RVs.ofD : ∀ {v : List Value} {x : List PyData}, RDs f v x → RVs f oa da la v (x.map .d)
  | _, _, .nil => .nil
  | _, _, .cons h r => .cons (.d h) (RVs.ofD r)
theorem RVs.toD : ∀ {v : List Value} {x : List V} {ds : List PyData}, RVs f oa da la v x → allD x = some ds → RDs f v ds
  | _, _, _, .nil, e => by cases e; exact .nil
  | _, _, _, .cons h r, e => by
    cases h with
    | d h =>
      obtain ⟨q, e1, e2⟩ := Option.map_eq_some_iff.mp e
      subst e2
      exact .cons h (RVs.toD r e1)
    | own _ => cases e
    | tup _ _ => cases e
    | deck => cases e
    | left => cases e
end

noncomputable def kLeft : Str := Str.ofString "left"
noncomputable def kMixed : Str := Str.ofString "mixed"

/-- what stands still while a frame runs -/
structure Pm where
  prog : Program
  w : World
  hb : Heap
  kp : Fz
  L : Addr
  da : Addr
  la : Addr
  f0 : Fz
  n0 : Nat
  m0 : Nat

noncomputable def DeckAt (P : Pm) (h : Heap) (l : List Int) (m : Int) : Prop :=
  (∃ t, h.DictOf (strKind P.prog P.w) P.da [(kLeft, .ref P.la), (kMixed, .int m t)]) ∧
  ∃ items n, h.get? P.la = some (lstObj items n) ∧ IntsAre items.toList l

structure St (P : Pm) (cl : List (Str × Addr)) (c : FC) (fz : Fz) (oa : List Addr) (h : Heap) (st : IS) : Prop where
  top : ∀ b o, P.hb.get? b = some o → fz b = some o
  fzh : ∀ b o, fz b = some o → h.get? b = some o
  keep : ∀ b o, P.kp b = some o → h.get? b = some o
  grow : FLe P.f0 fz
  new : ∀ b o, fz b = some o → P.f0 b = some o ∨ P.n0 ≤ b
  base : P.kp P.L = none
  fresh : P.n0 ≤ P.L + 1 ∨ ∃ b o, P.kp b = some o ∧ P.n0 ≤ b + 1
  fresh2 : P.m0 ≤ P.L
  fzL : fz P.L = none
  vars : ∃ m, h.Ns P.L m ∧ ∀ x v, getV st.vars x = some v → ∃ u, m x = some u ∧ RV fz oa P.da P.la u v
  cells : ∀ x v, (c.sc.names.lookup x = some .cell ∨ c.sc.names.lookup x = some .free) → c.cells.lookup x = some v → ∃ a u o, cl.lookup x = some a ∧ fz a = some o ∧ o.data = .cell (some u) ∧ RD fz u v
  len : oa.length = st.own.length
  own : ∀ (k : Nat) a, oa[k]? = some a → fz a = none ∧ (P.m0 ≤ a ∧ P.kp a = none) ∧ a ≠ P.L ∧ ∃ items n vs, h.get? a = some (lstObj items n) ∧ st.own[k]? = some vs ∧ RVs fz oa P.da P.la items.toList vs
  nodup : oa.Nodup
  deck : ∀ l m, st.dk = some (l, m) → DeckAt P h l m ∧ fz P.da = none ∧ fz P.la = none ∧ P.kp P.da = none ∧ P.kp P.la = none ∧ P.da ≠ P.L ∧ P.la ≠ P.L ∧ P.da ∉ oa ∧ P.la ∉ oa ∧ P.da ≠ P.la

section
variable {P : Pm} {cl : List (Str × Addr)} {c : FC} {fz : Fz} {oa : List Addr} {h h' : Heap} {st : IS}

theorem DeckAt.lt {l : List Int} {m : Int} (x : DeckAt P h l m) : P.da < h.objs.size ∧ P.la < h.objs.size := by
  obtain ⟨⟨t, o, es, ep, e, _⟩, items, n, e2, _⟩ := x
  exact ⟨Heap.lt_size e, Heap.lt_size e2⟩
theorem DictOf_at {prog : Program} {w : World} {d : Addr} {kvs : List (Str × Value)} (x : h.DictOf (strKind prog w) d kvs) (e : ∀ o, h.get? d = some o → h'.get? d = some o) : h'.DictOf (strKind prog w) d kvs := by
  obtain ⟨o, es, ep, ho, r⟩ := x
  exact ⟨o, es, ep, e _ ho, r⟩
theorem DeckAt.at {l : List Int} {m : Int} (x : DeckAt P h l m) (e1 : ∀ o, h.get? P.da = some o → h'.get? P.da = some o) (e2 : ∀ o, h.get? P.la = some o → h'.get? P.la = some o) : DeckAt P h' l m := by
  obtain ⟨⟨t, d⟩, items, n, e3, hi⟩ := x
  exact ⟨⟨t, DictOf_at d e1⟩, items, n, e2 _ e3, hi⟩

theorem St.ltL (S : St P cl c fz oa h st) : P.L < h.objs.size := let ⟨_, hn, _⟩ := S.vars; hn.lt
theorem St.n0le (S : St P cl c fz oa h st) : P.n0 ≤ h.objs.size := by
  rcases S.fresh with q | ⟨b, o, e, q⟩
  · exact Nat.le_trans q S.ltL
  · exact Nat.le_trans q (Heap.lt_size (S.keep _ _ e))
theorem St.m0lt (S : St P cl c fz oa h st) : P.m0 < h.objs.size := Nat.lt_of_le_of_lt S.fresh2 S.ltL
theorem St.ownlt (S : St P cl c fz oa h st) {k : Nat} {a : Addr} (e : oa[k]? = some a) : a < h.objs.size := let ⟨_, _, _, _, _, _, e, _⟩ := S.own k a e; Heap.lt_size e

/-- all that stood stands, with the ghost as it was -/
theorem St.ext (S : St P cl c fz oa h st) (k : ∀ b o, h.get? b = some o → h'.get? b = some o) : St P cl c fz oa h' st where
  top := S.top
  fzh := fun b o e => k _ _ (S.fzh b o e)
  keep := fun b o e => k _ _ (S.keep b o e)
  grow := S.grow
  new := S.new
  base := S.base
  fresh := S.fresh
  fresh2 := S.fresh2
  fzL := S.fzL
  vars := let ⟨m, hn, hv⟩ := S.vars; ⟨m, hn.keeps k, hv⟩
  cells := S.cells
  len := S.len
  own := fun i a e => let ⟨h1, h2, h3, items, n, vs, h4, h5, h6⟩ := S.own i a e; ⟨h1, h2, h3, items, n, vs, k _ _ h4, h5, h6⟩
  nodup := S.nodup
  deck := fun l m e => let ⟨d, r⟩ := S.deck l m e; ⟨d.at (fun o => k _ o) (fun o => k _ o), r⟩

/-- the ghost takes in what is new -/
theorem St.extF (S : St P cl c fz oa h st) {g : Fz} (k : ∀ b o, h.get? b = some o → h'.get? b = some o) (hg : FLe fz g) (hn : ∀ b o, g b = some o → fz b = some o ∨ h.objs.size ≤ b) (hh : ∀ b o, g b = some o → h'.get? b = some o) : St P cl c g oa h' st where
  top := fun b o e => hg _ _ (S.top b o e)
  fzh := hh
  keep := fun b o e => k _ _ (S.keep b o e)
  grow := S.grow.trans hg
  new := fun b o e => (hn b o e).elim (S.new b o) fun q => .inr (Nat.le_trans S.n0le q)
  base := S.base
  fresh := S.fresh
  fresh2 := S.fresh2
  fzL := by
    cases e : g P.L with
    | none => rfl
    | some o => exact ((hn _ _ e).elim (fun q => by rw [S.fzL] at q; cases q) fun q => absurd S.ltL (Nat.not_lt.mpr q))
  vars := let ⟨m, hn, hv⟩ := S.vars; ⟨m, hn.keeps k, fun x v e => let ⟨u, h1, h2⟩ := hv x v e; ⟨u, h1, h2.mono hg (OLe.refl _)⟩⟩
  cells := fun x v hx e => let ⟨a, u, o, h1, h2, h3, h4⟩ := S.cells x v hx e; ⟨a, u, o, h1, hg _ _ h2, h3, h4.mono hg⟩
  len := S.len
  own := fun i a e => by
    obtain ⟨h1, h2, h3, items, n, vs, h4, h5, h6⟩ := S.own i a e
    refine ⟨?_, h2, h3, items, n, vs, k _ _ h4, h5, h6.mono hg (OLe.refl _)⟩
    cases e' : g a with
    | none => rfl
    | some o => exact ((hn _ _ e').elim (fun q => by rw [h1] at q; cases q) fun q => absurd (Heap.lt_size h4) (Nat.not_lt.mpr q))
  nodup := S.nodup
  deck := fun l m e => by
    obtain ⟨d, h1, h2, r⟩ := S.deck l m e
    refine ⟨d.at (fun o => k _ o) (fun o => k _ o), ?_, ?_, r⟩
    · cases e' : g P.da with
      | none => rfl
      | some o => exact ((hn _ _ e').elim (fun q => by rw [h1] at q; cases q) fun q => absurd d.lt.1 (Nat.not_lt.mpr q))
    · cases e' : g P.la with
      | none => rfl
      | some o => exact ((hn _ _ e').elim (fun q => by rw [h2] at q; cases q) fun q => absurd d.lt.2 (Nat.not_lt.mpr q))

theorem St.fz_new (S : St P cl c fz oa h st) {a : Addr} (ha : h.objs.size ≤ a) : fz a = none := by
  cases e : fz a with
  | none => rfl
  | some o => exact absurd (Heap.lt_size (S.fzh _ _ e)) (Nat.not_lt.mpr ha)

theorem St.kp_new (S : St P cl c fz oa h st) {a : Addr} (ha : h.objs.size ≤ a) : P.kp a = none := by
  cases e : P.kp a with
  | none => rfl
  | some o => exact absurd (Heap.lt_size (S.keep _ _ e)) (Nat.not_lt.mpr ha)

/-- one new object, frozen -/
theorem St.pushF (S : St P cl c fz oa h st) (o : Obj) (ho : o.isFreed = false) : St P cl c (updF fz h.objs.size o) oa (h.push o) st :=
  S.extF (fun _ _ e => Heap.get?_push_of_some _ e) (updF_le (S.fz_new (Nat.le_refl _)))
    (fun b o' e => by
      unfold updF at e
      by_cases hb : b = h.objs.size
      · exact .inr (by rw [hb]; exact Nat.le_refl _)
      · rw [if_neg hb] at e; exact .inl e)
    (fun b o' e => by
      unfold updF at e
      by_cases hb : b = h.objs.size
      · rw [if_pos hb] at e; cases e; subst hb; exact Heap.get?_push_size _ ho
      · rw [if_neg hb] at e; exact Heap.get?_push_of_some _ (S.fzh _ _ e))

theorem getV_setV {x y : Str} {v : V} : ∀ {vars : Vars} {w : V}, getV (setV vars x v) y = some w → (y = x ∧ w = v) ∨ (y ≠ x ∧ getV vars y = some w)
  | [], w, e => by simp [setV, getV] at e
  | (z, u) :: r, w, e => by
    unfold setV at e
    by_cases hx : x = z
    · subst hx
      rw [if_pos rfl] at e
      unfold getV at e
      by_cases hy : y = x
      · rw [if_pos hy] at e; exact .inl ⟨hy, (Option.some.inj e).symm⟩
      · rw [if_neg hy] at e; refine .inr ⟨hy, ?_⟩; unfold getV; rw [if_neg hy]; exact e
    · rw [if_neg hx] at e
      unfold getV at e
      by_cases hy : y = z
      · rw [if_pos hy] at e; refine .inr ⟨fun q => hx (q ▸ hy), ?_⟩; unfold getV; rw [if_pos hy]; exact e
      · rw [if_neg hy] at e
        rcases getV_setV e with q | q
        · exact .inl q
        · refine .inr ⟨q.1, ?_⟩; unfold getV; rw [if_neg hy]; exact q.2

/-- a name is stored -/
theorem St.store (S : St P cl c fz oa h st) {x : Str} {u : Value} {v : V} {m : Str → Option Value} (hm : ∀ y w, getV st.vars y = some w → ∃ u, m y = some u ∧ RV fz oa P.da P.la u w) (hs : Heap.SameBut P.L h h')
    (hn : h'.Ns P.L fun y => if y = x then some u else m y) (hv : RV fz oa P.da P.la u v) : St P cl c fz oa h' { st with vars := setV st.vars x v } where
  top := S.top
  fzh := fun b o e => (hs.2 b (fun q => by rw [q, S.fzL] at e; cases e)).trans (S.fzh b o e)
  keep := fun b o e => (hs.2 b (fun q => by rw [q, S.base] at e; cases e)).trans (S.keep b o e)
  grow := S.grow
  new := S.new
  base := S.base
  fresh := S.fresh
  fresh2 := S.fresh2
  fzL := S.fzL
  vars := ⟨_, hn, fun y w e => by
    rcases getV_setV e with ⟨q1, q2⟩ | ⟨q1, q2⟩
    · subst q1 q2; exact ⟨u, by simp, hv⟩
    · obtain ⟨u', e1, e2⟩ := hm y w q2
      exact ⟨u', by simp [q1, e1], e2⟩⟩
  cells := S.cells
  len := S.len
  own := fun i a e => let ⟨h1, h2, h3, items, n, vs, h4, h5, h6⟩ := S.own i a e; ⟨h1, h2, h3, items, n, vs, (hs.2 _ h3).trans h4, h5, h6⟩
  nodup := S.nodup
  deck := fun l m e => let ⟨d, h1, h2, h3, h4, h5, h6, r⟩ := S.deck l m e; ⟨d.at (fun o q => (hs.2 _ h5).trans q) (fun o q => (hs.2 _ h6).trans q), h1, h2, h3, h4, h5, h6, r⟩

/-- a new list of the frame's own -/
theorem St.ownNew (S : St P cl c fz oa h st) {items : Array Value} {vs : List V} (hr : RVs fz oa P.da P.la items.toList vs) :
    St P cl c fz (oa ++ [h.objs.size]) (h.push (lstObj items 0)) { st with own := st.own ++ [vs] } where
  top := S.top
  fzh := fun b o e => Heap.get?_push_of_some _ (S.fzh b o e)
  keep := fun b o e => Heap.get?_push_of_some _ (S.keep b o e)
  grow := S.grow
  new := S.new
  base := S.base
  fresh := S.fresh
  fresh2 := S.fresh2
  fzL := S.fzL
  vars := let ⟨m, hn, hv⟩ := S.vars; ⟨m, hn.push _, fun x v e => let ⟨u, h1, h2⟩ := hv x v e; ⟨u, h1, h2.mono (FLe.refl _) (OLe.app _ _)⟩⟩
  cells := S.cells
  len := by simp [S.len]
  own := fun i a e => by
    by_cases hi : i < oa.length
    · rw [List.getElem?_append_left hi] at e
      obtain ⟨h1, h2, h3, items', n, vs', h4, h5, h6⟩ := S.own i a e
      exact ⟨h1, h2, h3, items', n, vs', Heap.get?_push_of_some _ h4, by rw [List.getElem?_append_left (by rw [← S.len]; exact hi)]; exact h5, h6.mono (FLe.refl _) (OLe.app _ _)⟩
    · rw [List.getElem?_append_right (Nat.not_lt.mp hi)] at e
      have hz : i - oa.length = 0 := by
        cases hq : i - oa.length with
        | zero => rfl
        | succ n => rw [hq] at e; simp at e
      rw [hz] at e
      simp at e
      subst e
      refine ⟨S.fz_new (Nat.le_refl _), ⟨Nat.le_of_lt S.m0lt, S.kp_new (Nat.le_refl _)⟩, fun q => absurd S.ltL (by rw [← q]; exact Nat.lt_irrefl _), items, 0, vs, Heap.get?_push_size _ rfl, ?_, hr.mono (FLe.refl _) (OLe.app _ _)⟩
      have hi' : i = st.own.length := by rw [← S.len]; omega
      show (st.own ++ [vs])[i]? = some vs
      rw [hi', List.getElem?_append_right (Nat.le_refl _)]
      simp
  nodup := by
    rw [List.nodup_append]
    refine ⟨S.nodup, by simp, fun a ha b hb q => ?_⟩
    simp at hb
    subst hb q
    obtain ⟨k, e⟩ := List.getElem?_of_mem ha
    exact absurd (S.ownlt e) (Nat.lt_irrefl _)
  deck := fun l m e => by
    obtain ⟨d, h1, h2, h3, h4, h5, h6, h7, h8, h9⟩ := S.deck l m e
    refine ⟨d.at (fun o q => Heap.get?_push_of_some _ q) (fun o q => Heap.get?_push_of_some _ q), h1, h2, h3, h4, h5, h6, ?_, ?_, h9⟩
    · intro q
      rcases List.mem_append.mp q with q | q
      · exact h7 q
      · have := d.lt.1; simp at q; rw [q] at this; exact Nat.lt_irrefl _ this
    · intro q
      rcases List.mem_append.mp q with q | q
      · exact h8 q
      · have := d.lt.2; simp at q; rw [q] at this; exact Nat.lt_irrefl _ this

/-- a list of the frame's own changes -/
theorem St.ownUpd (S : St P cl c fz oa h st) {k : Nat} {a : Addr} {items : Array Value} {n : Nat} {vs : List V} (ha : oa[k]? = some a) (hs : Heap.SameBut a h h') (hl : h'.get? a = some (lstObj items n)) (hr : RVs fz oa P.da P.la items.toList vs) :
    St P cl c fz oa h' { st with own := st.own.set k vs } where
  top := S.top
  fzh := fun b o e => (hs.2 b (fun q => by rw [q, (S.own k a ha).1] at e; cases e)).trans (S.fzh b o e)
  keep := fun b o e => (hs.2 b (fun q => by rw [q, (S.own k a ha).2.1.2] at e; cases e)).trans (S.keep b o e)
  grow := S.grow
  new := S.new
  base := S.base
  fresh := S.fresh
  fresh2 := S.fresh2
  fzL := S.fzL
  vars := let ⟨m, hn, hv⟩ := S.vars; ⟨m, hn.sameBut hs (fun q => (S.own k a ha).2.2.1 q.symm), hv⟩
  cells := S.cells
  len := by simp [S.len]
  own := fun i b e => by
    obtain ⟨h1, h2, h3, items', n', vs', h4, h5, h6⟩ := S.own i b e
    by_cases hi : i = k
    · subst hi
      rw [ha] at e; cases e
      refine ⟨h1, h2, h3, items, n, vs, hl, ?_, hr⟩
      have : i < st.own.length := by rw [← S.len]; exact (List.getElem?_eq_some_iff.mp ha).1
      simp [this]
    · refine ⟨h1, h2, h3, items', n', vs', (hs.2 b ?_).trans h4, ?_, h6⟩
      · intro q
        subst q
        exact hi ((List.getElem?_inj (List.getElem?_eq_some_iff.mp ha).1 S.nodup).mp (ha.trans e.symm)).symm
      · show (st.own.set k vs)[i]? = _
        rw [List.getElem?_set_ne (Ne.symm hi)]; exact h5
  nodup := S.nodup
  deck := fun l m e => by
    obtain ⟨d, h1, h2, h3, h4, h5, h6, h7, h8, h9⟩ := S.deck l m e
    have hm : a ∈ oa := List.mem_of_getElem? ha
    exact ⟨d.at (fun o q => (hs.2 _ (fun q' => h7 (by rw [q']; exact hm))).trans q) (fun o q => (hs.2 _ (fun q' => h8 (by rw [q']; exact hm))).trans q), h1, h2, h3, h4, h5, h6, h7, h8, h9⟩

/-- the deck turns -/
theorem St.deckUpd (S : St P cl c fz oa h st) {l : List Int} {m : Int} {l' : List Int} {m' : Int} (hd : st.dk = some (l, m)) (k : ∀ b o, b ≠ P.da → b ≠ P.la → h.get? b = some o → h'.get? b = some o) (hD : DeckAt P h' l' m') :
    St P cl c fz oa h' { st with dk := some (l', m') } := by
  obtain ⟨d, h1, h2, h3, h4, h5, h6, h7, h8, h9⟩ := S.deck l m hd
  have ne : ∀ b o, fz b = some o → b ≠ P.da ∧ b ≠ P.la := fun b o e => ⟨fun q => (by rw [q, h1] at e; cases e), fun q => (by rw [q, h2] at e; cases e)⟩
  exact {
    top := S.top
    fzh := fun b o e => k b o (ne b o e).1 (ne b o e).2 (S.fzh b o e)
    keep := fun b o e => k b o (fun q => by rw [q, h3] at e; cases e) (fun q => by rw [q, h4] at e; cases e) (S.keep b o e)
    grow := S.grow
    new := S.new
    base := S.base
    fresh := S.fresh
    fresh2 := S.fresh2
    fzL := S.fzL
    vars := let ⟨mm, hn, hv⟩ := S.vars; ⟨mm, (let ⟨o, es, ep, ho, r⟩ := hn; ⟨o, es, ep, k _ _ (Ne.symm h5) (Ne.symm h6) ho, r⟩), hv⟩
    cells := S.cells
    len := S.len
    own := fun i a e => by
      obtain ⟨g1, g2, g3, items, n, vs, g4, g5, g6⟩ := S.own i a e
      have hm : a ∈ oa := List.mem_of_getElem? e
      exact ⟨g1, g2, g3, items, n, vs, k _ _ (fun q => h7 (q ▸ hm)) (fun q => h8 (q ▸ hm)) g4, g5, g6⟩
    nodup := S.nodup
    deck := fun l₂ m₂ e => by
      simp only [Option.some.injEq, Prod.mk.injEq] at e
      obtain ⟨rfl, rfl⟩ := e
      exact ⟨hD, h1, h2, h3, h4, h5, h6, h7, h8, h9⟩ }
end
end Mine
namespace Mine
open PySem PySem.W PyProof.Rows PySem.Calls

noncomputable def bltList : List (Str × Value) := [(Str.ofString "min", .builtin "min"), (Str.ofString "max", .builtin "max"), (Str.ofString "len", .builtin "len"), (Str.ofString "sum", .builtin "sum"),
  (Str.ofString "tuple", .type "tuple"), (Str.ofString "int", .type "int"), (Str.ofString "range", .type "range"), (Str.ofString "enumerate", .type "enumerate")]

structure Base (hb : Heap) (mg mb : Str → Option Value) : Prop where
  g : hb.Ns mainGlobals mg
  b : hb.Ns builtinsNs mb
  nolimit : hb.NoLimit
  fn : ∀ f d, fnRec f = some d → ∃ a o pm code doc, mg f = some (.ref a) ∧ hb.get? a = some o ∧ o.data = .func (docDef d.name d.params d.body d.scope pm code doc) ∧ hb.CodeRec code d.name
  unit : ∃ t, mg (Str.ofString "_law_unit") = some (.int 1000000 t)
  eo : ∃ t, mg (Str.ofString "EVEN_ODD") = some (.str (Str.ofString "evenodd") t)
  blt : ∀ x v, (x, v) ∈ bltList → mg x = none ∧ mb x = some v

structure EnvIs (P : Pm) (c : FC) (env : Env) : Prop where
  scope : env.scope = c.sc
  kind : env.scope.kind = .function
  locals : env.locals = P.L
  globals : env.globals = mainGlobals
  builtins : env.builtins = builtinsNs

noncomputable def Room (n : Nat) (A : Around) : Prop := A.handled = none ∧ A.depth + n < recursionLimit ∧ A.units + 8 * n + 100 < cLine

theorem Room.le {n m : Nat} {A : Around} (R : Room n A) (h : m ≤ n) : Room m A := ⟨R.1, by have := R.2.1; omega, by have := R.2.2; omega⟩
theorem Room.units {n : Nat} {A : Around} (R : Room n A) : A.units + 64 < cLine := by have := R.2.2; omega

noncomputable abbrev PostE (P : Pm) (cl : List (Str × Addr)) (c : FC) (fz : Fz) (oa : List Addr) (s : Shared) (st' : IS) (v : V) (Q : Value → Shared → Prop) : Prop :=
  ∀ u fz' oa' h' tk', St P cl c fz' oa' h' st' → FLe fz fz' → OLe oa oa' → RV fz' oa' P.da P.la u v → Q u { s with heap := h', toks := tk' }
noncomputable abbrev PostL (P : Pm) (cl : List (Str × Addr)) (c : FC) (fz : Fz) (oa : List Addr) (s : Shared) (st' : IS) (v : List V) (Q : List Value → Shared → Prop) : Prop :=
  ∀ u fz' oa' h' tk', St P cl c fz' oa' h' st' → FLe fz fz' → OLe oa oa' → RVs fz' oa' P.da P.la u v → Q u { s with heap := h', toks := tk' }
noncomputable abbrev PostT (P : Pm) (cl : List (Str × Addr)) (c : FC) (fz : Fz) (oa : List Addr) (s : Shared) (st' : IS) (b : Bool) (Q : Bool → Shared → Prop) : Prop :=
  ∀ fz' oa' h' tk', St P cl c fz' oa' h' st' → FLe fz fz' → OLe oa oa' → Q b { s with heap := h', toks := tk' }
noncomputable abbrev PostU (P : Pm) (cl : List (Str × Addr)) (c : FC) (fz : Fz) (oa : List Addr) (s : Shared) (st' : IS) (Q : Unit → Shared → Prop) : Prop :=
  ∀ fz' oa' h' tk', St P cl c fz' oa' h' st' → FLe fz fz' → OLe oa oa' → Q () { s with heap := h', toks := tk' }
inductive RF (fz : Fz) (oa : List Addr) (da la : Addr) : Flow → Fl → Prop
  | next : RF fz oa da la .next .next
  | ret {u v} : RV fz oa da la u v → RF fz oa da la (.ret u) (.ret v)
noncomputable abbrev PostB (P : Pm) (cl : List (Str × Addr)) (c : FC) (fz : Fz) (oa : List Addr) (s : Shared) (st' : IS) (v : Fl) (Q : Flow → Shared → Prop) : Prop :=
  ∀ f fz' oa' h' tk', St P cl c fz' oa' h' st' → FLe fz fz' → OLe oa oa' → RF fz' oa' P.da P.la f v → Q f { s with heap := h', toks := tk' }

/-- the evaluator's level tells the truth -/
structure Snd (mg mb : Str → Option Value) (r : Ev) (n : Nat) : Prop where
  e : ∀ {c e st v st'}, r.e c e st = some (v, st') → ∀ {P A env E s Q fz oa}, Room n A → EnvIs P c env → Base P.hb mg mb → St P env.cells c fz oa s.heap st →
    PostE P env.cells c fz oa s st' v Q → wpAny (model P.prog P.w) A (eval e env) Q E s
  star : ∀ c e p st, r.e c (.Starred e p) st = none
  set : ∀ c es k p st, r.e c (.Set es k p) st = none
  t : ∀ {c e st v st'}, r.t c e st = some (v, st') → ∀ {P A env E s Q fz oa}, Room n A → EnvIs P c env → Base P.hb mg mb → St P env.cells c fz oa s.heap st →
    PostT P env.cells c fz oa s st' v Q → wpAny (model P.prog P.w) A (isTrue e env (eval e env)) Q E s
  a : ∀ {c e v st st'}, r.a c e v st = some st' → ∀ {P A env E s Q fz oa u}, Room n A → EnvIs P c env → Base P.hb mg mb → St P env.cells c fz oa s.heap st → RV fz oa P.da P.la u v →
    PostU P env.cells c fz oa s st' Q → wpAny (model P.prog P.w) A (assign e env u) Q E s
  astar : ∀ c e p v st, r.a c (.Starred e p) v st = none
  b : ∀ {c b st v st'}, r.b c b st = some (v, st') → ∀ {P A env E s Q fz oa}, Room n A → EnvIs P c env → Base P.hb mg mb → St P env.cells c fz oa s.heap st →
    PostB P env.cells c fz oa s st' v Q → wpAny (model P.prog P.w) A (execs b env) Q E s
  f : ∀ {f vs dk v dk'}, r.f f vs dk = some (v, dk') → ∀ {P A E s Q fz oa cl c st us a}, Room n A → Base P.hb mg mb → St P cl c fz oa s.heap st → st.dk = dk → RVs fz oa P.da P.la us vs → mg f = some (.ref a) →
    PostE P cl c fz oa s { st with dk := dk' } v Q → wpAny (model P.prog P.w) A (call (.ref a) us) Q E s
  fref : ∀ {f vs dk v dk'}, r.f f vs dk = some (v, dk') → ∃ d, fnRec f = some d

section
variable {mg mb : Str → Option Value} {r : Ev} {n : Nat} {P : Pm} {A : Around} {env : Env} {E : Value → Shared → Prop} {s : Shared} {fz : Fz} {oa : List Addr} {c : FC} {st st' : IS}

theorem PostE.one {Q : Value → Shared → Prop} {cl : List (Str × Addr)} {v : V} {u : Value} {tk : Nat} (h : PostE P cl c fz oa s st v Q) (S : St P cl c fz oa s.heap st) (r : RV fz oa P.da P.la u v) : Q u { s with toks := tk } :=
  h u fz oa s.heap tk S (FLe.refl _) (OLe.refl _) r

theorem starEach_cons (hs : Snd mg mb r n) {e : Expr} {es : List Expr} {v : V} (h : r.e c e st = some (v, st')) : starEach (e :: es) env = (false, eval e env) :: starEach es env := by
  cases e with
  | Starred e p => rw [hs.star] at h; cases h
  | _ => rfl

theorem evL_ok (hs : Snd mg mb r n) {pos : Pos} : ∀ {es : List Expr} {st st' : IS} {vs : List V} {s : Shared} {fz : Fz} {oa : List Addr} {Q : List Value → Shared → Prop}, evL r c es st = some (vs, st') → Room n A → EnvIs P c env → Base P.hb mg mb → St P env.cells c fz oa s.heap st →
    PostL P env.cells c fz oa s st' vs Q → wpAny (model P.prog P.w) A (spliced (backTo pos (starEach es env))) Q E s
  | [], st, st', vs, s, fz, oa, Q, h, R, I, B, S, hQ => by
    simp only [evL, Option.some.injEq, Prod.mk.injEq] at h
    obtain ⟨rfl, rfl⟩ := h
    exact spliced_nil (hQ [] fz oa s.heap s.toks S (FLe.refl _) (OLe.refl _) .nil)
  | e :: es, st, st', vs, s, fz, oa, Q, h, R, I, B, S, hQ => by
    obtain ⟨⟨v, st1⟩, h1, h⟩ := Option.bind_eq_some_iff.mp h
    obtain ⟨⟨ws, st2⟩, h2, h⟩ := Option.bind_eq_some_iff.mp h
    simp only [Option.some.injEq, Prod.mk.injEq] at h
    obtain ⟨rfl, rfl⟩ := h
    rw [starEach_cons hs h1]
    show wpAny _ _ (spliced ((false, eval e env) :: backTo pos (starEach es env))) _ _ _
    refine spliced_cons (hs.e h1 R I B S fun u fz1 oa1 h1' tk1 S1 k1 q1 r1 => ?_)
    refine evL_ok hs h2 R I B S1 fun us fz2 oa2 h2' tk2 S2 k2 q2 r2 => ?_
    exact hQ (u :: us) fz2 oa2 h2' tk2 S2 (k1.trans k2) (q1.trans q2) (.cons (r1.mono k2 q2) r2)

theorem starEach_len : ∀ {es : List Expr} {st st' : IS} {vs : List V}, evL r c es st = some (vs, st') → es.length = vs.length
  | [], st, st', vs, h => by simp only [evL, Option.some.injEq, Prod.mk.injEq] at h; obtain ⟨rfl, rfl⟩ := h; rfl
  | e :: es, st, st', vs, h => by
    obtain ⟨⟨v, st1⟩, h1, h⟩ := Option.bind_eq_some_iff.mp h
    obtain ⟨⟨ws, st2⟩, h2, h⟩ := Option.bind_eq_some_iff.mp h
    simp only [Option.some.injEq, Prod.mk.injEq] at h
    obtain ⟨rfl, rfl⟩ := h
    simp [starEach_len h2]

/-! names -/
theorem St.up (S : St P env.cells c fz oa s.heap st) {b : Addr} {o : Obj} (e : P.hb.get? b = some o) : s.heap.get? b = some o := S.fzh _ _ (S.top _ _ e)

theorem glob_ok (I : EnvIs P c env) (B : Base P.hb mg mb) (S : St P env.cells c fz oa s.heap st) {x : Str} {pos : Pos} {v : Value} {Q : Value → Shared → Prop} (hx : c.sc.names.lookup x = some .globalImplicit) (hv : mg x = some v)
    (hd : (x == ("__debug__" : Str)) = false) (h : Q v s) : wpAny (model P.prog P.w) A (eval (.Name x pos) env) Q E s :=
  Name_function_global I.kind (by show env.scope.names.lookup x = _; rw [I.scope]; exact hx) (loadGlobal_global (by rw [I.globals]; exact B.g.keeps fun _ _ e => S.up e) hv h) hd
theorem blt_ok (I : EnvIs P c env) (B : Base P.hb mg mb) (S : St P env.cells c fz oa s.heap st) {x : Str} {pos : Pos} {v : Value} {Q : Value → Shared → Prop} (hx : c.sc.names.lookup x = some .globalImplicit) (hv : (x, v) ∈ bltList)
    (hd : (x == ("__debug__" : Str)) = false) (h : Q v s) : wpAny (model P.prog P.w) A (eval (.Name x pos) env) Q E s :=
  Name_function_global I.kind (by show env.scope.names.lookup x = _; rw [I.scope]; exact hx) (loadGlobal_builtin (by rw [I.globals]; exact B.g.keeps fun _ _ e => S.up e) (B.blt _ _ hv).1 (by rw [I.builtins]; exact B.b.keeps fun _ _ e => S.up e) (B.blt _ _ hv).2 h) hd

theorem name_ok (I : EnvIs P c env) (B : Base P.hb mg mb) (S : St P env.cells c fz oa s.heap st) {x : Str} {pos : Pos} {v : V} {Q : Value → Shared → Prop} (h : nameV c st x = some v)
    (hQ : PostE P env.cells c fz oa s st v Q) : wpAny (model P.prog P.w) A (eval (.Name x pos) env) Q E s := by
  unfold nameV at h
  split at h
  case isFalse => cases h
  rename_i hd
  obtain ⟨hd, hd'⟩ := Bool.and_eq_true_iff.mp hd
  replace hd : (x == ("__debug__" : Str)) = false := by simpa using hd
  replace hd' : (x == ("__classdict__" : Str)) = false := by simpa using hd'
  split at h
  · rename_i hk
    obtain ⟨m, hn, hv⟩ := S.vars
    obtain ⟨u, e1, e2⟩ := hv x v h
    exact wpAny_Name (wpAny_loadName_local I.kind (by show env.scope.names.lookup x = _; rw [I.scope]; exact hk) (by rw [I.locals]; exact hn) e1 (hQ.one S e2)) hd
  · rename_i hk
    obtain ⟨y, e1, rfl⟩ := Option.map_eq_some_iff.mp h
    obtain ⟨a, u, o, e2, e3, e4, e5⟩ := S.cells x y (.inl hk) e1
    exact wpAny_Name (wpAny_loadName_cell I.kind (by show env.scope.names.lookup x = _; rw [I.scope]; exact hk) e2 ⟨o, S.fzh _ _ e3, e4⟩ (hQ.one S (.d e5))) hd
  · rename_i hk
    obtain ⟨y, e1, rfl⟩ := Option.map_eq_some_iff.mp h
    obtain ⟨a, u, o, e2, e3, e4, e5⟩ := S.cells x y (.inr hk) e1
    exact wpAny_Name (wpAny_loadName_free I.kind (by show env.scope.names.lookup x = _; rw [I.scope]; exact hk) e2 ⟨o, S.fzh _ _ e3, e4⟩ (hQ.one S (.d e5)) hd') hd
  · rename_i hk
    unfold constV at h
    split at h
    · rename_i hx
      cases h
      obtain ⟨t, e⟩ := B.unit
      exact glob_ok I B S hk (hx ▸ e) hd (hQ.one S (.d (.int _ _)))
    · split at h
      · rename_i hx
        cases h
        obtain ⟨t, e⟩ := B.eo
        exact glob_ok I B S hk (hx ▸ e) hd (hQ.one S (.d (.str _ _ (by decide +kernel))))
      · cases h
  · cases h

/-! operators -/
theorem bits_small {i : Int} (h : small i = true) : Builtin.Int.intBits i ≤ 64 := by
  have h' : i.natAbs < 4611686018427387904 := of_decide_eq_true h
  unfold Builtin.Int.intBits
  split
  · omega
  · rename_i h0
    have h0' : i.natAbs ≠ 0 := by simpa using h0
    have := (Nat.log2_lt (k := 62) h0').mpr (by omega)
    omega

theorem RVint {u : Value} {i : Int} {da la : Addr} (r : RV fz oa da la u (.d (.int i))) : ∃ t, u = .int i t := by
  cases r with
  | d r => cases r; exact ⟨_, rfl⟩
theorem RVbool {u : Value} {b : Bool} {da la : Addr} (r : RV fz oa da la u (.d (.bool b))) : u = .bool b := by
  cases r with
  | d r => cases r; rfl
theorem RVstr {u : Value} {x : Str} {da la : Addr} (r : RV fz oa da la u (.d (.str x))) : ∃ t, u = .str x t := by
  cases r with
  | d r => cases r; exact ⟨_, rfl⟩
theorem RVlist {u : Value} {xs : List PyData} {da la : Addr} (r : RV fz oa da la u (.d (.list xs))) : ∃ a vs n, u = .ref a ∧ fz a = some (lstObj vs n) ∧ RDs fz vs.toList xs := by
  cases r with
  | d r => cases r with
    | list h r => exact ⟨_, _, _, rfl, h, r⟩
theorem RVtuple {u : Value} {xs : List PyData} {da la : Addr} (r : RV fz oa da la u (.d (.tuple xs))) : ∃ a vs n, u = .ref a ∧ fz a = some (tupObj vs n) ∧ RDs fz vs.toList xs := by
  cases r with
  | d r => cases r with
    | tuple h r => exact ⟨_, _, _, rfl, h, r⟩

theorem size_of {vs : Array Value} {xs : List PyData} (r : RDs fz vs.toList xs) : vs.size = xs.length := by
  have := r.length
  simpa using this
theorem sizeOk_le {k : Nat} (h : sizeOk k = true) : k ≤ sizeLine := by
  have : k ≤ 1000000 := of_decide_eq_true h
  show k ≤ 2 ^ 24
  omega

theorem noR_tup_add_nil1 : True := trivial

theorem PostE.listNew {Q : Value → Shared → Prop} {cl : List (Str × Addr)} {xs : List PyData} {items : Array Value} {tk : Nat} (hQ : PostE P cl c fz oa s st (.d (.list xs)) Q) (S : St P cl c fz oa s.heap st) (hr : RDs fz items.toList xs) :
    Q (.ref s.heap.objs.size) { s with heap := s.heap.push (lstObj items 0), toks := tk } := by
  have hn : fz s.heap.objs.size = none := S.fz_new (Nat.le_refl _)
  exact hQ _ _ _ _ tk (S.pushF (lstObj items 0) rfl) (updF_le hn) (OLe.refl _) (.d (.list (updF_self _ _ _) (hr.mono (updF_le hn))))
theorem PostE.tupleNew {Q : Value → Shared → Prop} {cl : List (Str × Addr)} {xs : List PyData} {items : Array Value} {tk : Nat} (hQ : PostE P cl c fz oa s st (.d (.tuple xs)) Q) (S : St P cl c fz oa s.heap st) (hr : RDs fz items.toList xs) :
    Q (.ref s.heap.objs.size) { s with heap := s.heap.push (tupObj items 0), toks := tk } := by
  have hn : fz s.heap.objs.size = none := S.fz_new (Nat.le_refl _)
  exact hQ _ _ _ _ tk (S.pushF (tupObj items 0) rfl) (updF_le hn) (OLe.refl _) (.d (.tuple (updF_self _ _ _) (hr.mono (updF_le hn))))

end
end Mine
namespace Mine
open PySem PySem.W PyProof.Rows PySem.Calls
section
variable {P : Pm} {A : Around} {E : Value → Shared → Prop} {s : Shared} {fz : Fz} {oa : List Addr} {c : FC} {st st' : IS} {cl : List (Str × Addr)} {n : Nat}

theorem St.h_of (S : St P cl c fz oa s.heap st) {a : Addr} {o : Obj} (e : fz a = some o) : s.heap.get? a = some o := S.fzh _ _ e

theorem binI_ok {op : Operator} {a b : Int} {v : V} {t t' : Tok} {Q : Value → Shared → Prop} (h : binI a b op = some v) (S : St P cl c fz oa s.heap st)
    (hQ : PostE P cl c fz oa s st v Q) : wpAny (model P.prog P.w) A (binaryOp op (.int a t) (.int b t')) Q E s := by
  cases op with
  | Add => cases h; exact PySem.P.add_int (hQ.one S (.d (.int _ _)))
  | Sub => cases h; exact PySem.P.sub_int (hQ.one S (.d (.int _ _)))
  | Mult =>
    have h : (if small a then some (V.d (.int (a * b))) else none) = some v := h
    split at h
    · rename_i hs
      cases h
      exact PySem.P.mul_int (hQ.one S (.d (.int _ _))) (.of_left (bits_small hs))
    · exact no h
  | FloorDiv =>
    have h : (if b ≠ 0 ∧ b.natAbs < 1073741824 then some (V.d (.int (a.fdiv b))) else none) = some v := h
    split at h
    · rename_i hs
      cases h
      exact PyProof.Rows.floordiv_int hs.1 (hQ.one S (.d (.int _ _))) (Or.inl (PyProof.noPylong_small hs.2))
    · exact no h
  | Mod =>
    have h : (if b ≠ 0 then some (V.d (.int (a.fmod b))) else none) = some v := h
    split at h
    · rename_i hs
      cases h
      exact PyProof.Rows.mod_int' hs (hQ.one S (.d (.int _ _)))
    · exact no h
  | _ => exact no h
theorem binV_ok {op : Operator} {a b v : V} {u u' : Value} {Q : Value → Shared → Prop} (R : Room n A) (h : binV op a b = some v) (S : St P cl c fz oa s.heap st) (ra : RV fz oa P.da P.la u a) (rb : RV fz oa P.da P.la u' b)
    (hQ : PostE P cl c fz oa s st v Q) : wpAny (model P.prog P.w) A (binaryOp op u u') Q E s := by
  cases ra with
  | d ra => cases rb with
    | d rb =>
      rename_i x y
      cases x with
      | int i => cases y with
        | int j => cases ra; cases rb; exact binI_ok h S hQ
        | _ => exact no h
      | list xs => cases y with
        | list ys =>
          obtain ⟨x, vs, k, rfl, e1, r1⟩ := RVlist (.d (oa := oa) (da := P.da) (la := P.la) ra); obtain ⟨y, ws, k', rfl, e2, r2⟩ := RVlist (.d (oa := oa) (da := P.da) (la := P.la) rb)
          have h : (if op = .Add ∧ sizeOk (xs.length + ys.length) then some (V.d (.list (xs ++ ys))) else none) = some v := h
          split at h
          · rename_i hs
            obtain ⟨ho, hs⟩ := hs
            cases h
            subst ho
            refine PySem.P.add_list (S.h_of e1) (S.h_of e2) (hQ.listNew S (by simpa using r1.append r2)) ?_
            rw [size_of r1, size_of r2]; exact sizeOk_le hs
          · exact no h
        | _ => exact no h
      | tuple xs => cases y with
        | tuple ys =>
          obtain ⟨x, vs, k, rfl, e1, r1⟩ := RVtuple (.d (oa := oa) (da := P.da) (la := P.la) ra); obtain ⟨y, ws, k', rfl, e2, r2⟩ := RVtuple (.d (oa := oa) (da := P.da) (la := P.la) rb)
          have h : (if op = .Add ∧ sizeOk (xs.length + ys.length) then some (V.d (.tuple (xs ++ ys))) else none) = some v := h
          split at h
          · rename_i hs
            obtain ⟨ho, hs⟩ := hs
            cases h
            subst ho
            by_cases h1 : vs.isEmpty = true
            · have hv : vs.toList = [] := by simpa using h1
              rw [hv] at r1
              cases r1
              exact concat_meets ⟨_, S.h_of e1, rfl⟩ ⟨_, S.h_of e2, rfl⟩ noFill_tuple_add seq_tuple_add F.slot_tuple_add F.entry_tuple_add (F.args_tuple_add_2 _ _) (AutoSeq1.tuple___add___tuple_tuple_0 x vs k y ws k' h1)
                ⟨S.h_of e1, S.h_of e2, hQ.one S (.d (.tuple e2 (by simpa using r2)))⟩
            · by_cases h2 : ws.isEmpty = true
              · have hv : ws.toList = [] := by simpa using h2
                rw [hv] at r2
                cases r2
                exact concat_meets ⟨_, S.h_of e1, rfl⟩ ⟨_, S.h_of e2, rfl⟩ noFill_tuple_add seq_tuple_add F.slot_tuple_add F.entry_tuple_add (F.args_tuple_add_2 _ _) (AutoSeq1.tuple___add___tuple_tuple_1 x vs k y ws k' h1 h2)
                  ⟨S.h_of e1, S.h_of e2, hQ.one S (.d (.tuple e1 (by simpa using r1)))⟩
              · refine PySem.P.add_tuple (S.h_of e1) (S.h_of e2) h1 h2 (hQ.tupleNew S (by simpa using r1.append r2)) ?_
                rw [size_of r1, size_of r2]; exact sizeOk_le hs
          · exact no h
        | _ => exact no h
      | _ => exact no h
    | _ => exact no h
  | _ => exact no h

theorem eqD_ok {x y : PyData} {q : Bool} {u u' : Value} {Q : Value → Shared → Prop} (R : Room n A) (h : eqD x y = some q) (S : St P cl c fz oa s.heap st) (ra : RD fz u x) (rb : RD fz u' y)
    (hQ : Q (.bool q) s) : wpAny (model P.prog P.w) A (compareOp .Eq u u') Q E s := by
  cases x with
  | int i => cases y with
    | int j => cases ra; cases rb; cases h; exact PySem.P.eq_int hQ
    | _ => exact no h
  | str x => cases y with
    | str y =>
      cases ra; cases rb; cases h
      refine PySem.P.eq_str ?_
      rw [SeqAt.str_beq]; exact hQ
    | _ => exact no h
  | list xs => cases y with
    | list ys =>
      have h : (if SeqAt.shaped (.list xs) && SeqAt.shaped (.list ys) then some (PyData.eqv (.list xs) (.list ys)) else none) = some q := h
      split at h
      · rename_i hs
        cases h
        obtain ⟨as, h1⟩ := ra.reads S.fzh
        obtain ⟨bs, h2⟩ := rb.reads S.fzh
        have hs' := Bool.and_eq_true_iff.mp hs
        exact SeqAt.compareEq_shaped h1 h2 hs'.1 hs'.2 R.units hQ
      · exact no h
    | _ => exact no h
  | tuple xs => cases y with
    | tuple ys =>
      have h : (if SeqAt.shaped (.tuple xs) && SeqAt.shaped (.tuple ys) then some (PyData.eqv (.tuple xs) (.tuple ys)) else none) = some q := h
      split at h
      · rename_i hs
        cases h
        obtain ⟨as, h1⟩ := ra.reads S.fzh
        obtain ⟨bs, h2⟩ := rb.reads S.fzh
        have hs' := Bool.and_eq_true_iff.mp hs
        exact SeqAt.compareEq_shaped h1 h2 hs'.1 hs'.2 R.units hQ
      · exact no h
    | _ => exact no h
  | _ => exact no h
theorem neD_ok {x y : PyData} {q : Bool} {u u' : Value} {Q : Value → Shared → Prop} (R : Room n A) (h : eqD x y = some q) (S : St P cl c fz oa s.heap st) (ra : RD fz u x) (rb : RD fz u' y)
    (hQ : Q (.bool (!q)) s) : wpAny (model P.prog P.w) A (compareOp .NotEq u u') Q E s := by
  cases x with
  | int i => cases y with
    | int j => cases ra; cases rb; cases h; exact PySem.P.ne_int hQ
    | _ => exact no h
  | str x => cases y with
    | str y =>
      cases ra; cases rb; cases h
      refine PySem.P.ne_str ?_
      show Q (.bool (!(_ == _))) s
      rw [SeqAt.str_beq]; exact hQ
    | _ => exact no h
  | list xs => cases y with
    | list ys =>
      have h : (if SeqAt.shaped (.list xs) && SeqAt.shaped (.list ys) then some (PyData.eqv (.list xs) (.list ys)) else none) = some q := h
      split at h
      · rename_i hs
        cases h
        obtain ⟨as, h1⟩ := ra.reads S.fzh
        obtain ⟨bs, h2⟩ := rb.reads S.fzh
        have hs' := Bool.and_eq_true_iff.mp hs
        exact SeqAt.compareNe_shaped h1 h2 hs'.1 hs'.2 R.units hQ
      · exact no h
    | _ => exact no h
  | tuple xs => cases y with
    | tuple ys =>
      have h : (if SeqAt.shaped (.tuple xs) && SeqAt.shaped (.tuple ys) then some (PyData.eqv (.tuple xs) (.tuple ys)) else none) = some q := h
      split at h
      · rename_i hs
        cases h
        obtain ⟨as, h1⟩ := ra.reads S.fzh
        obtain ⟨bs, h2⟩ := rb.reads S.fzh
        have hs' := Bool.and_eq_true_iff.mp hs
        exact SeqAt.compareNe_shaped h1 h2 hs'.1 hs'.2 R.units hQ
      · exact no h
    | _ => exact no h
  | _ => exact no h

theorem cmpV_ok {op : CmpOp} {a b : V} {q : Bool} {u u' : Value} {Q : Value → Shared → Prop} (R : Room n A) (h : cmpV op a b = some q) (S : St P cl c fz oa s.heap st) (ra : RV fz oa P.da P.la u a) (rb : RV fz oa P.da P.la u' b)
    (hQ : Q (.bool q) s) : wpAny (model P.prog P.w) A (compareOp op u u') Q E s := by
  cases ra with
  | d ra => cases rb with
    | d rb =>
      rename_i x y
      cases op with
      | Eq => exact eqD_ok R h S ra rb hQ
      | NotEq =>
        obtain ⟨q', h1, rfl⟩ := Option.map_eq_some_iff.mp h
        exact neD_ok R h1 S ra rb hQ
      | Lt => cases x with
        | int i => cases y with
          | int j => cases ra; cases rb; cases h; exact PySem.P.lt_int hQ
          | _ => exact no h
        | _ => exact no h
      | LtE => cases x with
        | int i => cases y with
          | int j => cases ra; cases rb; cases h; exact PySem.P.le_int hQ
          | _ => exact no h
        | _ => exact no h
      | Gt => cases x with
        | int i => cases y with
          | int j => cases ra; cases rb; cases h; exact PySem.P.gt_int hQ
          | _ => exact no h
        | _ => exact no h
      | GtE => cases x with
        | int i => cases y with
          | int j => cases ra; cases rb; cases h; exact PySem.P.ge_int hQ
          | _ => exact no h
        | _ => exact no h
      | Is => cases y with
        | none => cases x with
          | none => cases ra; cases rb; cases h; exact is_none_none hQ
          | tuple xs => cases ra; cases rb; cases h; exact is_ref_none hQ
          | _ => exact no h
        | _ => cases x <;> exact no h
      | IsNot => cases x with
        | bool x => cases y with
          | bool y =>
            cases ra; cases rb; cases h
            refine wpAny_isNot_plain (by rfl) ?_
            have e : (!(Value.bool x == Value.bool y)) = (x != y) := by cases x <;> cases y <;> rfl
            rw [e]; exact hQ
          | _ => exact no h
        | _ => exact no h
      | _ => exact no h
    | _ => exact no h
  | _ => exact no h

theorem itemL_split {α : Type} {xs : List α} {i : Int} {y : α} (h : itemL xs i = some y) : (0 ≤ i ∧ xs[i.toNat]? = some y) ∨ (i < 0 ∧ 0 ≤ i + xs.length ∧ xs[(i + xs.length).toNat]? = some y) := by
  unfold itemL at h
  split at h
  · exact .inl ⟨by assumption, h⟩
  · split at h
    · exact .inr ⟨by omega, by assumption, h⟩
    · cases h
theorem small_lt {i : Int} (h : small i = true) : -(2 ^ 63) ≤ i ∧ i < 2 ^ 63 := by
  have h' : i.natAbs < 4611686018427387904 := of_decide_eq_true h
  omega

theorem getItem_list_any {l : Addr} {items : Array Value} {k : Nat} {i : Int} {t : Tok} {x : Value} {Q : Value → Shared → Prop} (hl : s.heap.get? l = some (lstObj items k)) (hs : small i = true)
    (hx : itemL items.toList i = some x) (h : Q x s) : wpAny (model P.prog P.w) A (getItem (.ref l) (.int i t)) Q E s := by
  have hl' : s.heap.IsList l items := ⟨_, hl, rfl, k, rfl⟩
  rcases itemL_split hx with ⟨h0, e⟩ | ⟨h0, h1, e⟩
  · exact wpAny_getItem_list hl' h0 (small_lt hs).2 (by simpa using e) h
  · have e1 : items.toList.length = items.size := by simp
    rw [e1] at h1 e
    exact wpAny_getItem_list_neg hl' h0 (by omega) (small_lt hs).1 (by simpa using e) h

theorem getItem_tuple_any {l : Addr} {items : Array Value} {k : Nat} {i : Int} {t : Tok} {x : Value} {Q : Value → Shared → Prop} (hl : s.heap.get? l = some (tupObj items k)) (hs : small i = true)
    (hx : itemL items.toList i = some x) (h : Q x s) : wpAny (model P.prog P.w) A (getItem (.ref l) (.int i t)) Q E s := by
  have e1 : items.toList.length = items.size := by simp
  rcases itemL_split hx with ⟨h0, e⟩ | ⟨h0, h1, e⟩
  · have hj : i.toNat < items.size := by
      have := (List.getElem?_eq_some_iff.mp e).1
      simpa using this
    refine PySem.P.getItem_tuple hl (small_lt hs).1 (small_lt hs).2 (k := i.toNat) ?_ (by simpa using e) h
    unfold seqIndex?
    have h3 : ¬ (i < 0) := by omega
    have h4 : (decide (0 ≤ i) && decide (i < (items.size : Int))) = true := by simp; omega
    simp only [h3, if_false, h4, if_true]
  · rw [e1] at h1 e
    have hj : (i + items.size).toNat < items.size := by
      have := (List.getElem?_eq_some_iff.mp e).1
      simpa using this
    refine PySem.P.getItem_tuple hl (small_lt hs).1 (small_lt hs).2 (k := (i + items.size).toNat) ?_ (by simpa using e) h
    unfold seqIndex?
    have h4 : (decide (0 ≤ i + (items.size : Int)) && decide (i + (items.size : Int) < (items.size : Int))) = true := by simp; omega
    simp only [h0, if_true, h4]

theorem itemL_RDs {vs : List Value} {xs : List PyData} {i : Int} {y : PyData} (r : RDs fz vs xs) (h : itemL xs i = some y) : ∃ u, itemL vs i = some u ∧ RD fz u y := by
  rcases itemL_split h with ⟨h0, e⟩ | ⟨h0, h1, e⟩
  · obtain ⟨u, e1, e2⟩ := r.get _ _ e
    exact ⟨u, by unfold itemL; rw [if_pos h0]; exact e1, e2⟩
  · obtain ⟨u, e1, e2⟩ := r.get _ _ e
    refine ⟨u, ?_, e2⟩
    unfold itemL
    rw [if_neg (by omega), r.length, if_pos h1]; exact e1
theorem itemL_RVs {da la : Addr} {vs : List Value} {xs : List V} {i : Int} {y : V} (r : RVs fz oa da la vs xs) (h : itemL xs i = some y) : ∃ u, itemL vs i = some u ∧ RV fz oa da la u y := by
  rcases itemL_split h with ⟨h0, e⟩ | ⟨h0, h1, e⟩
  · obtain ⟨u, e1, e2⟩ := r.get _ _ e
    exact ⟨u, by unfold itemL; rw [if_pos h0]; exact e1, e2⟩
  · obtain ⟨u, e1, e2⟩ := r.get _ _ e
    refine ⟨u, ?_, e2⟩
    unfold itemL
    rw [if_neg (by omega), r.length, if_pos h1]; exact e1

end
end Mine
namespace Mine
open PySem PySem.W PyProof.Rows PySem.Calls
section
variable {P : Pm} {A : Around} {E : Value → Shared → Prop} {s : Shared} {fz : Fz} {oa : List Addr} {c : FC} {st st' : IS} {cl : List (Str × Addr)} {n : Nat}

theorem subscripted_ops (slice : Expr) (o i : Value) : ∃ ops, subscripted slice false o i = operate ops (getItem o i) := by
  unfold subscripted
  split
  · exact ⟨_, rfl⟩
  · rename_i h; cases h
  · exact ⟨_, rfl⟩

theorem tail_ok {value slice : Expr} {o i : Value} {T id : String} {Q : Value → Shared → Prop} (hT : s.TypeIs o T)
    (hl : typeLookup (.type T) "__getitem__" = pure (some (.builtin id))) (hg : wpAny (model P.prog P.w) A (getItem o i) Q E s) : wpAny (model P.prog P.w) A (subscriptTail value slice o i) Q E s := by
  obtain ⟨ops, hs⟩ := subscripted_ops slice o i
  exact tail_any hT hl hg hs

theorem itemV_ok {a b v : V} {u u' : Value} {value slice : Expr} {Q : Value → Shared → Prop} (h : itemV st a b = some v) (S : St P cl c fz oa s.heap st) (ra : RV fz oa P.da P.la u a) (rb : RV fz oa P.da P.la u' b)
    (hQ : PostE P cl c fz oa s st v Q) : wpAny (model P.prog P.w) A (subscriptTail value slice u u') Q E s := by
  cases a with
  | d x => cases x with
    | list xs => cases b with
      | d y => cases y with
        | int i =>
          obtain ⟨x, vs, k, rfl, e1, r1⟩ := RVlist ra; obtain ⟨t', rfl⟩ := RVint rb
          have h : (if small i && sizeOk xs.length then (itemL xs i).map V.d else none) = some v := h
          split at h
          · rename_i hs
            obtain ⟨y, h1, rfl⟩ := Option.map_eq_some_iff.mp h
            obtain ⟨w, h2, h3⟩ := itemL_RDs r1 h1
            exact tail_ok ⟨_, S.h_of e1, rfl⟩ list_getitem_lookup (getItem_list_any (S.h_of e1) (Bool.and_eq_true_iff.mp hs).1 h2 (hQ.one S (.d h3)))
          · exact no h
        | _ => exact no h
      | _ => exact no h
    | tuple xs => cases b with
      | d y => cases y with
        | int i =>
          obtain ⟨x, vs, k, rfl, e1, r1⟩ := RVtuple ra; obtain ⟨t', rfl⟩ := RVint rb
          have h : (if small i && sizeOk xs.length then (itemL xs i).map V.d else none) = some v := h
          split at h
          · rename_i hs
            obtain ⟨y, h1, rfl⟩ := Option.map_eq_some_iff.mp h
            obtain ⟨w, h2, h3⟩ := itemL_RDs r1 h1
            exact tail_ok ⟨_, S.h_of e1, rfl⟩ slot_tuple_getitem.lookup (getItem_tuple_any (S.h_of e1) (Bool.and_eq_true_iff.mp hs).1 h2 (hQ.one S (.d h3)))
          · exact no h
        | _ => exact no h
      | _ => exact no h
    | _ => exact no h
  | own k => cases b with
    | d y => cases y with
      | int i =>
        obtain ⟨t', rfl⟩ := RVint rb
        obtain ⟨xs, h0, h⟩ := Option.bind_eq_some_iff.mp h
        cases ra with
        | own hk =>
          split at h
          · rename_i hs
            obtain ⟨_, _, _, items, k', vs, e1, e2, e3⟩ := S.own _ _ hk
            rw [h0] at e2; cases e2
            obtain ⟨w, h2, h3⟩ := itemL_RVs e3 h
            exact tail_ok ⟨_, e1, rfl⟩ list_getitem_lookup (getItem_list_any e1 (Bool.and_eq_true_iff.mp hs).1 h2 (hQ.one S h3))
          · exact no h
      | _ => exact no h
    | _ => exact no h
  | tup xs => cases b with
    | d y => cases y with
      | int i =>
        obtain ⟨t', rfl⟩ := RVint rb
        have h : (if small i && sizeOk xs.length then itemL xs i else none) = some v := h
        cases ra with
        | tup e1 r1 =>
          split at h
          · rename_i hs
            obtain ⟨w, h2, h3⟩ := itemL_RVs r1 h
            exact tail_ok ⟨_, S.h_of e1, rfl⟩ slot_tuple_getitem.lookup (getItem_tuple_any (S.h_of e1) (Bool.and_eq_true_iff.mp hs).1 h2 (hQ.one S h3))
          · exact no h
      | _ => exact no h
    | _ => exact no h
  | deck => cases b with
    | d y => cases y with
      | str x =>
        obtain ⟨t', rfl⟩ := RVstr rb
        cases ra with
        | deck =>
          obtain ⟨⟨l, m⟩, hd, h⟩ := Option.bind_eq_some_iff.mp h
          obtain ⟨⟨⟨t, D⟩, items, k, e2, hi⟩, _⟩ := S.deck l m hd
          split at h
          · rename_i hx
            cases h; subst hx
            exact tail_ok D.typeIs slot_dict_getitem.lookup (wpAny_getItem_of (strKind_is P.prog P.w _ _) D.mapOf (v := .ref P.la) rfl (hQ.one S .left))
          · split at h
            · rename_i hx
              cases h; subst hx
              exact tail_ok D.typeIs slot_dict_getitem.lookup (wpAny_getItem_of (strKind_is P.prog P.w _ _) D.mapOf (v := .int m t) rfl (hQ.one S (.d (.int _ _))))
            · exact no h
      | _ => exact no h
    | _ => exact no h
  | left => exact no h

end
end Mine
namespace Mine
open PySem PySem.W PyProof.Rows PySem.Calls
section
variable {P : Pm} {A : Around} {E : Value → Shared → Prop} {s : Shared} {fz : Fz} {oa : List Addr} {c : FC} {st st' : IS} {cl : List (Str × Addr)} {n : Nat}

theorem tuple_upto_one {t sl : Addr} {items : Array Value} {k : Nat} {u : Tok} {Q : Value → Shared → Prop} (ht : s.heap.get? t = some (tupObj items k)) (hs : s.heap.IsSliceOf sl .none (.int 1 u) .none) (h1 : 1 ≤ items.size)
    (h : items.size = 1 → Q (.ref t) s) (h' : items.size ≠ 1 → Q (.ref s.heap.objs.size) { s with heap := s.heap.push { cls := .type "tuple", data := .seq (items.toList.take 1).toArray } })
    (hsz : items.size ≤ sizeLine) : wpAny (model P.prog P.w) A (getItem (.ref t) (.ref sl)) Q E s := by
  have ht' : IsTup s.heap t items := ⟨_, ht, rfl, k, rfl⟩
  have htake : PySem.sizeOk (.seq (items.toList.take 1).toArray) := by
    show (items.toList.take 1).toArray.size ≤ sizeLine
    rw [List.size_toArray, List.length_take, Array.length_toList]
    omega
  obtain ⟨os, hos, hcs, hds⟩ := id hs
  have hTs : s.TypeIs (.ref sl) "slice" := ⟨os, hos, hcs⟩
  unfold getItem
  try with_reducible refine wpAny_holding ?_
  first | refine wpAny_bind (wpAny_pure ?_) | skip
  refine wpAny_bind (wpAny_sequenceKey ht'.typeIs (by decide) ?_)
  refine wpAny_bind (wpAny_callSpecial?_slot (name := Str.ofString "__getitem__") ht'.typeIs slot_tuple_getitem
    (wpAny_call_entry slot_tuple_getitem ht'.typeIs entry_tuple_getitem ?_ (args_tuple_getitem _ _)))
  show wpAny _ _ (Builtin.Tuple.tupleItemsOf (.ref t) >>= _) _ _ s
  refine wpAny_bind (tupleItemsOf_ ht' ?_)
  refine wpAny_bind (wpAny_typeOf hTs ?_)
  rw [if_pos (by decide)]
  have applied : ∀ {Q : Int × Int × Nat → Shared → Prop}, Q ((0 : Int), 1, 1) s → wpAny (model P.prog P.w) A.in1 (Builtin.Slice.sliceApplied (.ref sl) (pure (items.size : Int))) Q E s := by
    intro Q hq
    unfold Builtin.Slice.sliceApplied Builtin.Slice.sliceFields
    refine wpAny_bind (wpAny_bind (wpAny_field hos hds (x := .none) rfl (wpAny_bind (wpAny_field hos hds (x := .int 1 u) rfl (wpAny_bind (wpAny_field hos hds (x := .none) rfl (wpAny_pure ?_)))))))
    refine wpAny_bind (slicePart_none ?_)
    show wpAny _ _ (if ((1 : Int) == 0) = true then _ else _) _ _ s
    rw [if_neg (by decide)]
    refine wpAny_bind (slicePart_none (wpAny_bind (slicePart_int (wpAny_bind (wpAny_pure ?_)))))
    show wpAny _ _ (match Builtin.Slice.sliceAdjust none (some (1 : Int)) 1 (items.size : Int) with | (lo, hi) => pure (lo, (1 : Int), Builtin.Slice.slicePlaces lo hi 1)) _ _ s
    have e1 : Builtin.Slice.sliceAdjust none (some (1 : Int)) 1 (items.size : Int) = ((0 : Int), (1 : Int)) := by
      unfold Builtin.Slice.sliceAdjust
      have h2 : ¬ ((1 : Int) < 0) := by omega
      simp only [h2, if_false]
      congr 1
      omega
    rw [e1]
    show wpAny _ _ (pure ((0 : Int), (1 : Int), Builtin.Slice.slicePlaces (0 : Int) (1 : Int) 1)) _ _ s
    rw [show Builtin.Slice.slicePlaces (0 : Int) (1 : Int) 1 = 1 from by decide]
    exact wpAny_pure hq
  refine wpAny_bind (applied ?_)
  show wpAny _ _ (if ((0 : Int) == 0 && (1 : Int) == 1 && (1 : Nat) == items.size) = true then _ else _) _ _ s
  have hp : ((List.range 1).filterMap fun (k : Nat) => items[((0 : Int) + (k : Int) * 1).toNat]?).toArray = (items.toList.take 1).toArray := by
    have h0 : items.toList ≠ [] := fun e => by
      have : items.toList.length = 0 := by rw [e]; rfl
      rw [Array.length_toList] at this; omega
    rw [show List.range 1 = [0] from rfl]
    obtain ⟨x, r, e⟩ := List.exists_cons_of_ne_nil h0
    have e2 : items[0]? = some x := by rw [← Array.getElem?_toList, e]; rfl
    simp [e, e2]
  by_cases h2 : items.size = 1
  · rw [if_pos (by rw [h2]; decide)]
    unfold Builtin.Tuple.tupleIsExact
    first
      | exact wpAny_bind (wpAny_bind (wpAny_typeOf ht'.typeIs (wpAny_pure (by rw [if_pos (by decide)]; exact wpAny_bind (wpAny_rule (wpAny_pure ⟨_, rfl, wpAny_pure (h h2)⟩))))))
      | (refine wpAny_bind (wpAny_bind (wpAny_typeOf ht'.typeIs (wpAny_pure ?_)))
         rw [if_pos (by decide)]
         refine wpAny_bind (wpAny_rule ?_)
         first | exact wpAny_pure ⟨_, rfl, wpAny_pure (h h2)⟩ | exact wpAny_bind (wpAny_pure (wpAny_pure ⟨_, rfl, wpAny_pure (h h2)⟩)) | exact wpAny_pure ⟨_, rfl, h h2⟩)
  · have hno : ¬ (((0 : Int) == 0 && (1 : Int) == 1 && (1 : Nat) == items.size) = true) := by
      have : ((1 : Nat) == items.size) = false := by rw [beq_eq_false_iff_ne]; exact Ne.symm h2
      rw [this]; simp
    rw [if_neg hno, hp]
    first
      | exact wpAny_bind (m := Builtin.Tuple.tupleExact _) (wpAny_newObj_type (wpAny_pure ⟨_, rfl, wpAny_pure (h' h2)⟩) htake)
      | exact wpAny_bind (m := Builtin.Tuple.tupleExact _) (wpAny_newObj_type (wpAny_bind (wpAny_pure (wpAny_pure ⟨_, rfl, wpAny_pure (h' h2)⟩))) htake)
      | exact wpAny_bind (wpAny_bind (m := Builtin.Tuple.tupleExact _) (wpAny_newObj_type (wpAny_pure (wpAny_pure ⟨_, rfl, wpAny_pure (h' h2)⟩)) htake))
      | exact wpAny_bind (wpAny_bind (m := Builtin.Tuple.tupleExact _) (wpAny_newObj_type (wpAny_pure ⟨_, rfl, wpAny_pure (h' h2)⟩) htake))

theorem sliceL_pick {items : Array Value} {lo up : Option Int} {xs ys : List PyData} (r : RDs fz items.toList xs) (h : sliceL lo up xs = some ys) : RDs fz (slicePick items lo up none).toList ys := by
  unfold sliceL at h
  split at h
  · rename_i u
    split at h
    · rename_i h0
      cases h
      obtain ⟨k, rfl⟩ := Int.eq_ofNat_of_zero_le h0
      rw [slicePick_upto']
      simpa using r.take k
    · split at h
      · rename_i h1
        cases h; subst h1
        have := slicePick_butLast items 1 (Nat.le_refl _)
        rw [show (-((1 : Nat) : Int)) = -1 from rfl] at this
        rw [this, List.dropLast_eq_take, ← r.length]
        simpa using r.take (items.toList.length - 1)
      · cases h
  · split at h
    · rename_i h0
      cases h
      obtain ⟨k, rfl⟩ := Int.eq_ofNat_of_zero_le h0
      rw [slicePick_from']
      simpa using r.drop k
    · cases h
  · cases h

theorem part_of {i : Option Int} {u : Value} (h : (i = none ∧ u = .none) ∨ (∃ k t, i = some k ∧ u = .int k t)) : IsPart u i := by
  rcases h with ⟨rfl, rfl⟩ | ⟨k, t, rfl, rfl⟩
  · exact .none
  · exact .int k t

theorem sliceV_ok {lo up : Option Int} {a v : V} {u vl vu : Value} {value slice : Expr} {Q : Value → Shared → Prop} (h : sliceV lo up a = some v) (S : St P cl c fz oa s.heap st) (ra : RV fz oa P.da P.la u a)
    (pl : IsPart vl lo) (pu : IsPart vu up) (hQ : PostE P cl c fz oa s st v Q) :
    wpAny (model P.prog P.w) A (subscriptTail value slice u (.ref s.heap.objs.size)) Q E { s with heap := s.heap.push { cls := .type "slice", data := .fields #[vl, vu, .none] } } := by
  have S' : St P cl c fz oa (s.heap.push { cls := .type "slice", data := .fields #[vl, vu, .none] }) st := S.ext fun _ _ e => Heap.get?_push_of_some _ e
  have hQ' : PostE P cl c fz oa { s with heap := s.heap.push { cls := .type "slice", data := .fields #[vl, vu, .none] } } st v Q := hQ
  have hs := Heap.IsSliceOf.new s.heap vl vu .none
  unfold sliceV at h
  split at h
  · split at h
    · rename_i hz
      obtain ⟨ys, h1, rfl⟩ := Option.map_eq_some_iff.mp h
      obtain ⟨x, vs, k, rfl, e1, r1⟩ := RVlist ra
      have e1' : (s.heap.push { cls := .type "slice", data := .fields #[vl, vu, .none] }).get? x = some (lstObj vs k) := S'.fzh _ _ e1
      refine tail_ok (T := "list") ⟨_, e1', rfl⟩ list_getitem_lookup (wpAny_getItem_list_slice ⟨_, e1', rfl, k, rfl⟩ hs pl pu .none (by simp) ?_ ?_)
      · exact hQ'.listNew S' (sliceL_pick r1 h1)
      · rw [size_of r1]; exact sizeOk_le hz
    · cases h
  · split at h
    · rename_i hz
      obtain ⟨hz, hne⟩ := Bool.and_eq_true_iff.mp hz
      obtain ⟨x, vs, k, rfl, e1, r1⟩ := RVtuple ra
      have e1' : (s.heap.push { cls := .type "slice", data := .fields #[vl, vu, .none] }).get? x = some (tupObj vs k) := S'.fzh _ _ e1
      have hsz : vs.size ≤ sizeLine := by rw [size_of r1]; exact sizeOk_le hz
      have h1 : 1 ≤ vs.size := by
        rw [size_of r1]
        exact List.length_pos_iff.mpr (by simpa using hne)
      split at h
      · rename_i hc
        obtain ⟨rfl, rfl⟩ := hc
        cases h
        cases pl; cases pu
        exact tail_ok (T := "tuple") ⟨_, e1', rfl⟩ slot_tuple_getitem.lookup (getItem_tuple_from ⟨_, e1', rfl, k, rfl⟩ hs (Nat.le_refl _) h1 (hQ'.tupleNew S' (by simpa using r1.drop 1)) hsz)
      · split at h
        · rename_i hc
          obtain ⟨rfl, rfl⟩ := hc
          cases h
          cases pl; cases pu
          refine tail_ok (T := "tuple") ⟨_, e1', rfl⟩ slot_tuple_getitem.lookup (tuple_upto_one e1' hs h1 (fun h2 => ?_) (fun _ => hQ'.tupleNew S' (by simpa using r1.take 1)) hsz)
          refine hQ'.one S' (.d (.tuple e1 ?_))
          have : vs.toList.take 1 = vs.toList := List.take_of_length_le (by rw [Array.length_toList, h2]; exact Nat.le_refl _)
          have r2 := r1.take 1
          rwa [this] at r2
        · cases h
    · cases h
  · cases h

end
end Mine
namespace Mine
open PySem PySem.W PyProof.Rows PySem.Calls
mutual
theorem RD.lay {f : Fz} : ∀ {v : Value} {x : PyData}, RD f v x → x.canLay0 = true
  | _, _, .none => rfl
  | _, _, .bool _ => rfl
  | _, _, .int _ _ => rfl
  | _, _, .str _ _ h => h
  | _, _, .list _ r => by simp only [PyData.canLay0]; exact RDs.lay r
  | _, _, .tuple _ r => by simp only [PyData.canLay0]; exact RDs.lay r
theorem RDs.lay {f : Fz} : ∀ {v : List Value} {x : List PyData}, RDs f v x → PyData.canLayAll0 x = true
  | _, _, .nil => rfl
  | _, _, .cons h r => by simp only [PyData.canLayAll0, Bool.and_eq_true]; exact ⟨RD.lay h, RDs.lay r⟩
end
section
variable {mg mb : Str → Option Value} {r : Ev} {n : Nat} {P : Pm} {A : Around} {env : Env} {E : Value → Shared → Prop} {s : Shared} {fz : Fz} {oa : List Addr} {c : FC} {st st' : IS}

theorem behind_of' {op : CmpOp} (e : Expr) (h : ¬ (op = .In ∨ op = .NotIn)) : behindInMarks op e = false := by
  unfold behindInMarks
  split
  · have h1 : op ≠ .In := fun q => h (.inl q)
    have h2 : op ≠ .NotIn := fun q => h (.inr q)
    simp [h1, h2]
  · rfl
theorem behind_of {op : CmpOp} {a b : V} {q : Bool} (e : Expr) (h : cmpV op a b = some q) : behindInMarks op e = false := by
  refine behind_of' e ?_
  rintro (rfl | rfl) <;> (cases a with
    | d x => cases b with
      | d y => exact no h
      | _ => exact no h
    | _ => exact no h)

theorem ints_lay : ∀ l : List Int, PyData.canLayAll0 (l.map PyData.int) = true
  | [] => rfl
  | _ :: l => by simp [PyData.canLayAll0, PyData.canLay0, ints_lay l]
theorem neNil_ok {a : V} {q : Bool} {u : Value} {pos : Pos} {Q : Value → Shared → Prop} (R : Room n A) (h : neNil st a = some q) (S : St P env.cells c fz oa s.heap st) (ra : RV fz oa P.da P.la u a)
    (hQ : PostT P env.cells c fz oa s st q (fun b s' => Q (.bool b) s')) :
    wpAny (model P.prog P.w) A (eval (.List [] pos) env) (fun b s₂ => wpAny (model P.prog P.w) A (compareOp .NotEq u b) Q E s₂) E s := by
  refine List_ (spliced_nil (wpAny_newObj_type ?_ (by show (0 : Nat) ≤ sizeLine; exact Nat.zero_le _)))
  have hk : ∀ b o, s.heap.get? b = some o → (s.heap.push (lstObj #[] 0)).get? b = some o := fun _ _ e => Heap.get?_push_of_some _ e
  have S' := S.ext hk
  have hnew : (s.heap.push (lstObj #[] 0)).get? s.heap.objs.size = some (lstObj #[] 0) := Heap.get?_push_size _ rfl
  have fin : Q (.bool q) { s with heap := s.heap.push (lstObj #[] 0) } := hQ fz oa _ s.toks S' (FLe.refl _) (OLe.refl _)
  unfold neNil at h
  split at h
  · cases h
    rename_i xs
    obtain ⟨x, vs, k, rfl, e1, r1⟩ := RVlist ra
    obtain ⟨as, h1⟩ := (RD.list e1 r1).reads S'.fzh
    refine SeqAt.compareNe_reads h1 (.list hnew rfl rfl .nil) (by simp only [PyData.canLay0]; exact r1.lay) rfl ?_ ?_
    · have : A.units + 64 < cLine := R.units
      have e2 : (PyData.list []).depth = 1 := rfl
      rw [e2]
      omega
    · have e3 : PyData.eqv (.list xs) (.list []) = xs.isEmpty := by cases xs <;> rfl
      rw [e3]; exact fin
  · obtain ⟨⟨l, m⟩, hd, rfl⟩ := Option.map_eq_some_iff.mp h
    obtain ⟨⟨_, items, k, e2, hi⟩, _⟩ := S'.deck l m hd
    cases ra
    have h1 : Reads (s.heap.push (lstObj #[] 0)) (.ref P.la) (.list (l.map PyData.int)) _ := .list e2 rfl rfl (hi.reads _)
    refine SeqAt.compareNe_reads h1 (.list hnew rfl rfl .nil) (by simp only [PyData.canLay0]; exact ints_lay l) rfl ?_ ?_
    · have : A.units + 64 < cLine := R.units
      have e2 : (PyData.list []).depth = 1 := rfl
      rw [e2]
      omega
    · have e3 : PyData.eqv (.list (l.map PyData.int)) (.list []) = l.isEmpty := by cases l <;> rfl
      rw [e3]; exact fin
  · cases h

theorem isNil_inv {x : Expr} (h : isNil x = true) : ∃ q, x = .List [] q := by
  cases x with
  | List es q => cases es with
    | nil => exact ⟨q, rfl⟩
    | cons _ _ => exact nomatch h
  | _ => exact nomatch h
theorem cmpE_inv {l : Expr} {ops : List CmpOp} {xs : List Expr} {p : Bool × IS} (h : cmpE r c l ops xs st = some p) :
    (∃ q, ops = [.NotEq] ∧ xs = [.List [] q] ∧ ((r.e c l st).bind fun p => (neNil p.2 p.1).map (·, p.2)) = some p) ∨
    (∃ op x, ops = [op] ∧ xs = [x] ∧ ((r.e c l st).bind fun p => (r.e c x p.2).bind fun q => (cmpV op p.1 q.1).map (·, q.2)) = some p) ∨
    ∃ o1 o2 m x, ops = [o1, o2] ∧ xs = [m, x] ∧ (if o2 = .In ∨ o2 = .NotIn then none else (r.e c l st).bind fun p => (r.e c m p.2).bind fun q => (cmpV o1 p.1 q.1).bind fun b =>
      if b then (r.e c x q.2).bind fun q' => (cmpV o2 q.1 q'.1).map (·, q'.2) else some (false, q.2)) = some p := by
  cases ops with
  | nil => exact no h
  | cons o1 tl =>
    cases tl with
    | nil => cases xs with
      | nil => exact no h
      | cons x xs => cases xs with
        | cons _ _ => exact no h
        | nil =>
          have h : (if (decide (o1 = .NotEq) && isNil x) = true then (r.e c l st).bind fun p => (neNil p.2 p.1).map (·, p.2)
            else (r.e c l st).bind fun p => (r.e c x p.2).bind fun q => (cmpV o1 p.1 q.1).map (·, q.2)) = some p := h
          split at h
          · rename_i hn
            obtain ⟨h1, h2⟩ := Bool.and_eq_true_iff.mp hn
            obtain ⟨q, hq⟩ := isNil_inv h2
            exact .inl ⟨q, by rw [of_decide_eq_true h1], by rw [hq], h⟩
          · exact .inr (.inl ⟨_, _, rfl, rfl, h⟩)
    | cons o2 tl => cases tl with
      | cons _ _ => cases xs with
        | nil => exact no h
        | cons _ ys => first | exact no h | (cases ys <;> exact no h)
      | nil => cases xs with
        | nil => exact no h
        | cons y ys => cases ys with
          | nil => exact no h
          | cons z zs => cases zs with
            | cons _ _ => exact no h
            | nil => exact .inr (.inr ⟨_, _, _, _, rfl, rfl, h⟩)

theorem cmpE_ok (hs : Snd mg mb r n) {l : Expr} {ops : List CmpOp} {xs : List Expr} {q : Bool} {pos : Pos} {Q : Value → Shared → Prop} (h : cmpE r c l ops xs st = some (q, st')) (R : Room n A) (I : EnvIs P c env) (B : Base P.hb mg mb)
    (S : St P env.cells c fz oa s.heap st) (hQ : PostT P env.cells c fz oa s st' q (fun b s' => Q (.bool b) s')) : wpAny (model P.prog P.w) A (eval (.Compare l ops xs pos) env) Q E s := by
  have hi := cmpE_inv h
  clear h
  rcases hi with ⟨_, rfl, rfl, h⟩ | ⟨op, x, rfl, rfl, h⟩ | ⟨o1, o2, m, x, rfl, rfl, h⟩
  · obtain ⟨⟨a, st1⟩, h1, h⟩ := Option.bind_eq_some_iff.mp h
    obtain ⟨q', h2, h⟩ := Option.map_eq_some_iff.mp h
    cases h
    refine wpAny_Compare1 (hs.e h1 R I B S fun u fz1 oa1 h1' tk1 S1 k1 q1 r1 => ?_) (by with_unfolding_all rfl)
    exact neNil_ok R h2 S1 r1 fun fz2 oa2 h2' tk2 S2 k2 q2 => hQ fz2 oa2 h2' tk2 S2 (k1.trans k2) (q1.trans q2)
  · obtain ⟨⟨a, st1⟩, h1, h⟩ := Option.bind_eq_some_iff.mp h
    obtain ⟨⟨b, st2⟩, h2, h⟩ := Option.bind_eq_some_iff.mp h
    obtain ⟨q', h3, h⟩ := Option.map_eq_some_iff.mp h
    cases h
    refine wpAny_Compare1 (hs.e h1 R I B S fun u fz1 oa1 h1' tk1 S1 k1 q1 r1 => ?_) (behind_of _ h3)
    refine hs.e h2 R I B S1 fun u2 fz2 oa2 h2' tk2 S2 k2 q2 r2 => ?_
    exact cmpV_ok R h3 S2 (r1.mono k2 q2) r2 (hQ fz2 oa2 h2' tk2 S2 (k1.trans k2) (q1.trans q2))
  · split at h
    · cases h
    rename_i ho
    obtain ⟨⟨a, st1⟩, h1, h⟩ := Option.bind_eq_some_iff.mp h
    obtain ⟨⟨b, st2⟩, h2, h⟩ := Option.bind_eq_some_iff.mp h
    obtain ⟨q', h3, h⟩ := Option.bind_eq_some_iff.mp h
    refine Compare_chain (rs := []) (ops := []) (hs.e h1 R I B S fun u fz1 oa1 h1' tk1 S1 k1 q1 r1 => ?_) (by simp only [lastMarks]; exact behind_of' _ ho)
    refine chain_link (hs.e h2 R I B S1 fun u2 fz2 oa2 h2' tk2 S2 k2 q2 r2 => ?_)
    refine cmpV_ok R h3 S2 (r1.mono k2 q2) r2 (wpAny_truthy_bool ?_)
    cases q' with
    | false =>
      cases h
      exact hQ fz2 oa2 h2' tk2 S2 (k1.trans k2) (q1.trans q2)
    | true =>
      obtain ⟨⟨d, st3⟩, h4, h⟩ := Option.bind_eq_some_iff.mp h
      obtain ⟨q'', h5, h⟩ := Option.map_eq_some_iff.mp h
      cases h
      refine chain_last (hs.e h4 R I B S2 fun u3 fz3 oa3 h3' tk3 S3 k3 q3 r3 => ?_)
      exact cmpV_ok R h5 S3 (r2.mono k3 q3) r3 (hQ fz3 oa3 h3' tk3 S3 ((k1.trans k2).trans k3) ((q1.trans q2).trans q3))

theorem cmpT_ok (hs : Snd mg mb r n) {l : Expr} {ops : List CmpOp} {xs : List Expr} {q : Bool} {pos : Pos} {whole : Sem Value} {Q : Bool → Shared → Prop} (h : cmpE r c l ops xs st = some (q, st')) (R : Room n A) (I : EnvIs P c env) (B : Base P.hb mg mb)
    (S : St P env.cells c fz oa s.heap st) (hQ : PostT P env.cells c fz oa s st' q Q) : wpAny (model P.prog P.w) A (isTrue (.Compare l ops xs pos) env whole) Q E s := by
  have hi := cmpE_inv h
  clear h
  rcases hi with ⟨_, rfl, rfl, h⟩ | ⟨op, x, rfl, rfl, h⟩ | ⟨o1, o2, m, x, rfl, rfl, h⟩
  · obtain ⟨⟨a, st1⟩, h1, h⟩ := Option.bind_eq_some_iff.mp h
    obtain ⟨q', h2, h⟩ := Option.map_eq_some_iff.mp h
    cases h
    refine wpAny_isTrue_Compare1 (hs.e h1 R I B S fun u fz1 oa1 h1' tk1 S1 k1 q1 r1 => ?_) (by with_unfolding_all rfl)
    exact neNil_ok (Q := fun c s₃ => wpAny (model P.prog P.w) A (truthy c) Q E s₃) R h2 S1 r1 fun fz2 oa2 h2' tk2 S2 k2 q2 => wpAny_truthy_bool (hQ fz2 oa2 h2' tk2 S2 (k1.trans k2) (q1.trans q2))
  · obtain ⟨⟨a, st1⟩, h1, h⟩ := Option.bind_eq_some_iff.mp h
    obtain ⟨⟨b, st2⟩, h2, h⟩ := Option.bind_eq_some_iff.mp h
    obtain ⟨q', h3, h⟩ := Option.map_eq_some_iff.mp h
    cases h
    refine wpAny_isTrue_Compare1 (hs.e h1 R I B S fun u fz1 oa1 h1' tk1 S1 k1 q1 r1 => ?_) (behind_of _ h3)
    refine hs.e h2 R I B S1 fun u2 fz2 oa2 h2' tk2 S2 k2 q2 r2 => ?_
    exact cmpV_ok R h3 S2 (r1.mono k2 q2) r2 (wpAny_truthy_bool (hQ fz2 oa2 h2' tk2 S2 (k1.trans k2) (q1.trans q2)))
  · split at h
    · cases h
    rename_i ho
    obtain ⟨⟨a, st1⟩, h1, h⟩ := Option.bind_eq_some_iff.mp h
    obtain ⟨⟨b, st2⟩, h2, h⟩ := Option.bind_eq_some_iff.mp h
    obtain ⟨q', h3, h⟩ := Option.bind_eq_some_iff.mp h
    refine isTrue_chain (rs := []) (ops := []) (hs.e h1 R I B S fun u fz1 oa1 h1' tk1 S1 k1 q1 r1 => ?_) (by simp only [lastMarks]; exact behind_of' _ ho)
    refine test_link (hs.e h2 R I B S1 fun u2 fz2 oa2 h2' tk2 S2 k2 q2 r2 => ?_)
    refine cmpV_ok R h3 S2 (r1.mono k2 q2) r2 (wpAny_truthy_bool ?_)
    cases q' with
    | false =>
      cases h
      exact hQ fz2 oa2 h2' tk2 S2 (k1.trans k2) (q1.trans q2)
    | true =>
      obtain ⟨⟨d, st3⟩, h4, h⟩ := Option.bind_eq_some_iff.mp h
      obtain ⟨q'', h5, h⟩ := Option.map_eq_some_iff.mp h
      cases h
      refine test_last (hs.e h4 R I B S2 fun u3 fz3 oa3 h3' tk3 S3 k3 q3 r3 => ?_)
      exact cmpV_ok R h5 S3 (r2.mono k3 q3) r3 (wpAny_truthy_bool (hQ fz3 oa3 h3' tk3 S3 ((k1.trans k2).trans k3) ((q1.trans q2).trans q3)))

theorem allT_ok (hs : Snd mg mb r n) {op : BoolOp} (R : Room n A) (I : EnvIs P c env) (B : Base P.hb mg mb) : ∀ {xs : List Expr} {st st' : IS} {q : Bool} {s : Shared} {fz : Fz} {oa : List Addr} {Q : Bool → Shared → Prop}, allT r c op xs st = some (q, st') →
    St P env.cells c fz oa s.heap st → PostT P env.cells c fz oa s st' q Q → wpAny (model P.prog P.w) A (allTrue op xs env) Q E s
  | [], st, st', q, s, fz, oa, Q, h, S, hQ => by
    have h' : some (decide (op = .And), st) = some (q, st') := by cases op <;> exact h
    cases h'
    cases op
    · exact wpAny_allTrue_And_nil (hQ fz oa s.heap s.toks S (FLe.refl _) (OLe.refl _))
    · exact wpAny_allTrue_Or_nil (hQ fz oa s.heap s.toks S (FLe.refl _) (OLe.refl _))
  | x :: xs, st, st', q, s, fz, oa, Q, h, S, hQ => by
    cases op with
    | And =>
      obtain ⟨⟨b, st1⟩, h1, h⟩ := Option.bind_eq_some_iff.mp (show (r.t c x st).bind _ = _ from h)
      refine wpAny_allTrue_And_cons (hs.t h1 R I B S fun fz1 oa1 h1' tk1 S1 k1 q1 => ?_)
      cases b with
      | false =>
        simp only [Bool.false_eq_true, if_false, Option.some.injEq, Prod.mk.injEq] at h ⊢
        rw [← h.2] at hQ
        have := hQ fz1 oa1 h1' tk1 S1 k1 q1
        rwa [← h.1] at this
      | true =>
        simp only [if_true] at h ⊢
        exact allT_ok hs R I B h S1 fun fz2 oa2 h2' tk2 S2 k2 q2 => hQ fz2 oa2 h2' tk2 S2 (k1.trans k2) (q1.trans q2)
    | Or =>
      obtain ⟨⟨b, st1⟩, h1, h⟩ := Option.bind_eq_some_iff.mp (show (r.t c x st).bind _ = _ from h)
      refine wpAny_allTrue_Or_cons (hs.t h1 R I B S fun fz1 oa1 h1' tk1 S1 k1 q1 => ?_)
      cases b with
      | true =>
        simp only [if_true, Option.some.injEq, Prod.mk.injEq] at h ⊢
        rw [← h.2] at hQ
        have := hQ fz1 oa1 h1' tk1 S1 k1 q1
        rwa [← h.1] at this
      | false =>
        simp only [Bool.false_eq_true, if_false] at h ⊢
        exact allT_ok hs R I B h S1 fun fz2 oa2 h2' tk2 S2 k2 q2 => hQ fz2 oa2 h2' tk2 S2 (k1.trans k2) (q1.trans q2)

theorem evT_ok (hs : Snd mg mb r n) {e : Expr} {q : Bool} {Q : Bool → Shared → Prop} (h : evT r c e st = some (q, st')) (R : Room n A) (I : EnvIs P c env) (B : Base P.hb mg mb)
    (S : St P env.cells c fz oa s.heap st) (hQ : PostT P env.cells c fz oa s st' q Q) : wpAny (model P.prog P.w) A (isTrue e env (eval e env)) Q E s := by
  cases e with
  | BoolOp op xs p => exact wpAny_isTrue_BoolOp (allT_ok hs R I B h S hQ)
  | Compare l ops xs p => exact cmpT_ok hs h R I B S hQ
  | Name x p =>
    obtain ⟨⟨v, st1⟩, h1, h⟩ := Option.bind_eq_some_iff.mp h
    obtain ⟨b, h2, h⟩ := Option.map_eq_some_iff.mp h
    cases h
    refine wpAny_isTrue_value (hs.e h1 R I B S fun u fz1 oa1 h1' tk1 S1 k1 q1 r1 => ?_)
    obtain rfl : v = .d (.bool q) := boolOf_inv h2
    rw [RVbool r1]
    exact wpAny_truthy_bool (hQ fz1 oa1 h1' tk1 S1 k1 q1)
  | Call f args kws p =>
    cases f with
    | Name f p' =>
      cases kws with
      | cons _ _ => exact no h
      | nil =>
        obtain ⟨⟨v, st1⟩, h1, h⟩ := Option.bind_eq_some_iff.mp h
        obtain ⟨b, h2, h⟩ := Option.map_eq_some_iff.mp h
        cases h
        refine wpAny_isTrue_value (hs.e h1 R I B S fun u fz1 oa1 h1' tk1 S1 k1 q1 r1 => ?_)
        obtain rfl : v = .d (.bool q) := boolOf_inv h2
        rw [RVbool r1]
        exact wpAny_truthy_bool (hQ fz1 oa1 h1' tk1 S1 k1 q1)
    | _ => exact no h
  | _ => exact no h
end
end Mine
namespace Mine
open PySem PySem.W PyProof.Rows PySem.Calls
section
variable {mg mb : Str → Option Value} {r : Ev} {n : Nat} {P : Pm} {A : Around} {env : Env} {E : Value → Shared → Prop} {s : Shared} {fz : Fz} {oa : List Addr} {c : FC} {st st' : IS}

theorem star_plain (hs : Snd mg mb r n) {pos : Pos} : ∀ {es : List Expr} {st st' : IS} {vs : List V}, evL r c es st = some (vs, st') → (backTo pos (starEach es env)).any (·.1) = false
  | [], _, _, _, _ => rfl
  | e :: es, st, st', vs, h => by
    obtain ⟨⟨v, st1⟩, h1, h⟩ := Option.bind_eq_some_iff.mp h
    obtain ⟨⟨ws, st2⟩, h2, _⟩ := Option.bind_eq_some_iff.mp h
    rw [starEach_cons hs h1]
    show (false || (backTo pos (starEach es env)).any (·.1)) = false
    rw [star_plain hs h2]; rfl

theorem evalArgs_ok (hs : Snd mg mb r n) {pos : Pos} {f : Value} {es : List Expr} {vs : List V} {Q : Args → Shared → Prop} (h : evL r c es st = some (vs, st')) (hne : vs ≠ []) (R : Room n A) (I : EnvIs P c env) (B : Base P.hb mg mb)
    (S : St P env.cells c fz oa s.heap st) (hQ : PostL P env.cells c fz oa s st' vs fun us s' => Q ⟨us, []⟩ s') : wpAny (model P.prog P.w) A (evalArgs f true (backTo pos (starEach es env)) []) Q E s := by
  cases es with
  | nil => simp only [evL, Option.some.injEq, Prod.mk.injEq] at h; exact absurd h.1.symm hne
  | cons e es =>
    have h0 := h
    obtain ⟨⟨v, st1⟩, h1, _⟩ := Option.bind_eq_some_iff.mp h0
    have e1 : backTo pos (starEach (e :: es) env) = (false, eval e env) :: backTo pos (starEach es env) := by rw [starEach_cons hs h1]; rfl
    have := evL_ok (E := E) hs (pos := pos) h R I B S hQ
    rw [e1] at this ⊢
    exact evalArgs_plain this

theorem ints_of {vs : List Value} {xs : List PyData} {ns : List Int} (r : RDs fz vs xs) (h : intsOf xs = some ns) : vs.length = ns.length ∧ ∀ (i : Nat) (v : Value), vs[i]? = some v → ∃ t, v = Value.int (ns.getD i 0) t := by
  induction xs generalizing vs ns with
  | nil => cases r; simp [intsOf] at h; subst h; exact ⟨rfl, fun i v e => by simp at e⟩
  | cons x xs ih =>
    cases r with
    | cons h1 r1 =>
      cases x <;> simp only [intsOf, Option.map_eq_some_iff, reduceCtorEq] at h
      obtain ⟨q, h2, rfl⟩ := h
      cases h1
      obtain ⟨e1, e2⟩ := ih r1 h2
      refine ⟨by simp [e1], fun i v e => ?_⟩
      cases i with
      | zero => simp at e; subst e; exact ⟨_, rfl⟩
      | succ i => simp at e; simpa using e2 i v e

theorem preSum_list (ns : List Int) : ∀ k, preSum (fun i => ns.getD i 0) k = (ns.take k).sum
  | 0 => by simp [preSum]
  | k + 1 => by rw [preSum, preSum_list ns k, PySem.sum_take_succ]

theorem sum_ok {a : Addr} {vs : Array Value} {k : Nat} {xs : List PyData} {ns : List Int} {Q : Value → Shared → Prop} (R : Room n A) (e1 : s.heap.get? a = some (lstObj vs k)) (r1 : RDs fz vs.toList xs) (h : intsOf xs = some ns)
    (hQ : ∀ h' tk t, (∀ b o, s.heap.get? b = some o → h'.get? b = some o) → Q (.int ns.sum t) { s with heap := h', toks := tk }) : wpAny (model P.prog P.w) A (call (.builtin "sum") [.ref a]) Q E s := by
  obtain ⟨h1, h2⟩ := ints_of r1 h
  have hl : s.heap.IsList a vs := ⟨_, e1, rfl, k, rfl⟩
  have hne : a ≠ s.heap.objs.size := Nat.ne_of_lt (Heap.lt_size e1)
  refine call_sum_walkG (wpAny_pyIter_list hl ?_)
  refine ⟨_, _, _, _, _, _, fun i => ns.getD i 0, rfl, Walks.list (A := A.in1) R.1 s.heap.objs.size a hne vs, ⟨⟨_, Heap.get?_push_size _ rfl, rfl, rfl⟩, hl.push _⟩, ?_, ?_, ?_⟩
  · intro b hb
    rw [Heap.size_push]
    rcases List.mem_cons.mp hb with rfl | hb
    · exact Nat.lt_succ_self _
    · rw [List.mem_singleton.mp hb]; exact Nat.lt_succ_of_lt (Heap.lt_size e1)
  · intro i v hv
    exact h2 i v (by simpa using hv)
  · intro h' tk t' hk
    have e3 : preSum (fun i => ns.getD i 0) vs.size = ns.sum := by
      rw [preSum_list, List.take_of_length_le (by rw [← h1]; simp)]
    rw [e3]
    refine hQ h' tk t' fun b o e => hk b o ?_ (Heap.get?_push_of_some _ e)
    intro q
    rw [List.mem_singleton.mp q] at e
    exact absurd (Heap.lt_size e) (Nat.lt_irrefl _)

theorem callB_ok (hs : Snd mg mb r n) {f : Str} {p pos : Pos} {es : List Expr} {vs : List V} {fv : Value} {Q : Value → Shared → Prop} (I : EnvIs P c env) (B : Base P.hb mg mb) (S : St P env.cells c fz oa s.heap st)
    (h : evL r c es st = some (vs, st')) (hne : vs ≠ []) (R : Room n A) (hg : isGlob c f = true) (hf : (f, fv) ∈ bltList)
    (hQ : PostL P env.cells c fz oa s st' vs fun us s' => wpAny (model P.prog P.w) A (call fv us) Q E s') : wpAny (model P.prog P.w) A (eval (.Call (.Name f p) es [] pos) env) Q E s := by
  obtain ⟨hg, hd⟩ := Bool.and_eq_true_iff.mp hg
  have hd' : (f == ("__debug__" : Str)) = false := by
    have := (Bool.and_eq_true_iff.mp hd).1
    simpa using this
  refine wpAny_Call_NameR (blt_ok I B S (of_decide_eq_true hg) hf hd' ?_)
  have hp := star_plain (env := env) hs (pos := pos) h
  have : (∃ id, fv = .builtin id) ∨ ∃ T, fv = .type T := by
    simp only [bltList, List.mem_cons, Prod.mk.injEq, List.not_mem_nil, or_false] at hf
    rcases hf with ⟨_, rfl⟩ | ⟨_, rfl⟩ | ⟨_, rfl⟩ | ⟨_, rfl⟩ | ⟨_, rfl⟩ | ⟨_, rfl⟩ | ⟨_, rfl⟩ | ⟨_, rfl⟩
    all_goals first | exact .inl ⟨_, rfl⟩ | exact .inr ⟨_, rfl⟩
  rcases this with ⟨id, rfl⟩ | ⟨T, rfl⟩
  · exact callWith_builtin hp (evalArgs_ok hs h hne R I B S hQ)
  · exact PySem.callWith_type hp (evalArgs_ok hs h hne R I B S hQ)

theorem callV_ok (hs : Snd mg mb r n) {f : Str} {p pos : Pos} {es : List Expr} {vs : List V} {st₂ : IS} {v : V} {Q : Value → Shared → Prop} (I : EnvIs P c env) (B : Base P.hb mg mb) (S : St P env.cells c fz oa s.heap st)
    (h : evL r c es st = some (vs, st')) (h2 : callV r c f vs st' = some (v, st₂)) (R : Room n A)
    (hQ : PostE P env.cells c fz oa s st₂ v Q) : wpAny (model P.prog P.w) A (eval (.Call (.Name f p) es [] pos) env) Q E s := by
  unfold callV at h2
  split at h2
  case isFalse => cases h2
  rename_i hg
  obtain ⟨hg, hne⟩ := Bool.and_eq_true_iff.mp hg
  have hne : vs ≠ [] := by intro e; subst e; simp at hne
  split at h2
  · rename_i hf
    subst hf
    refine callB_ok hs I B S h hne R hg (fv := .builtin "min") (by simp [bltList]) fun us fz1 oa1 h1 tk1 S1 k1 q1 r1 => ?_
    split at h2
    · cases h2
      cases r1 with
      | cons ra r1 => cases r1 with
        | cons rb r1 =>
          cases r1
          obtain ⟨t, rfl⟩ := RVint ra; obtain ⟨t', rfl⟩ := RVint rb
          refine min_two_ints R.1 fun h' tk hk => ?_
          have := fun w rw => hQ w fz1 oa1 h' tk (S1.ext hk) k1 q1 rw
          split
          · rename_i hc; rw [if_pos hc] at this; exact this _ (.d (.int _ _))
          · rename_i hc; rw [if_neg hc] at this; exact this _ (.d (.int _ _))
    · cases h2
  split at h2
  · rename_i hf
    subst hf
    refine callB_ok hs I B S h hne R hg (fv := .builtin "max") (by simp [bltList]) fun us fz1 oa1 h1 tk1 S1 k1 q1 r1 => ?_
    split at h2
    · cases h2
      cases r1 with
      | cons ra r1 => cases r1 with
        | cons rb r1 =>
          cases r1
          obtain ⟨t, rfl⟩ := RVint ra; obtain ⟨t', rfl⟩ := RVint rb
          refine max_two_ints R.1 fun h' tk hk => ?_
          have := fun w rw => hQ w fz1 oa1 h' tk (S1.ext hk) k1 q1 rw
          split
          · rename_i hc; rw [if_pos hc] at this; exact this _ (.d (.int _ _))
          · rename_i hc; rw [if_neg hc] at this; exact this _ (.d (.int _ _))
    · cases h2
  split at h2
  · rename_i hf
    subst hf
    refine callB_ok hs I B S h hne R hg (fv := .builtin "len") (by simp [bltList]) fun us fz1 oa1 h1 tk1 S1 k1 q1 r1 => ?_
    split at h2
    · split at h2
      · rename_i hz
        cases h2
        cases r1 with
        | cons ra r1 =>
          cases r1
          obtain ⟨a, ws, k, rfl, e1, r2⟩ := RVlist ra
          have e2 := size_of r2
          refine call_len_list ⟨_, S1.fzh _ _ e1, rfl, k, rfl⟩ ?_ ?_
          · have := sizeOk_le hz
            have e3 : sizeLine = 16777216 := rfl
            omega
          · rw [e2]; exact hQ _ fz1 oa1 _ _ S1 k1 q1 (.d (.int _ _))
      · cases h2
    · split at h2
      · rename_i hz
        cases h2
        cases r1 with
        | cons ra r1 =>
          cases r1
          obtain ⟨a, ws, k, rfl, e1, r2⟩ := RVtuple ra
          have e2 := size_of r2
          refine PySem.P.len_tuple (S1.fzh _ _ e1) ?_ ?_
          · have := sizeOk_le hz
            have e3 : sizeLine = 16777216 := rfl
            omega
          · rw [e2]; exact hQ _ fz1 oa1 _ _ S1 k1 q1 (.d (.int _ _))
      · cases h2
    · cases h2
  split at h2
  · rename_i hf
    subst hf
    refine callB_ok hs I B S h hne R hg (fv := .builtin "sum") (by simp [bltList]) fun us fz1 oa1 h1 tk1 S1 k1 q1 r1 => ?_
    split at h2
    · split at h2
      · obtain ⟨ns, h3, h2⟩ := Option.map_eq_some_iff.mp h2
        cases h2
        cases r1 with
        | cons ra r1 =>
          cases r1
          obtain ⟨a, ws, k, rfl, e1, r2⟩ := RVlist ra
          exact sum_ok R (S1.fzh _ _ e1) r2 h3 fun h' tk t hk => hQ _ fz1 oa1 _ _ (S1.ext hk) k1 q1 (.d (.int _ _))
      · cases h2
    · cases h2
  split at h2
  · rename_i hf
    subst hf
    refine callB_ok hs I B S h hne R hg (fv := .type "tuple") (by simp [bltList]) fun us fz1 oa1 h1 tk1 S1 k1 q1 r1 => ?_
    split at h2
    · split at h2
      · rename_i hz
        cases h2
        cases r1 with
        | cons ra r1 =>
          cases r1
          obtain ⟨a, ws, k, rfl, e1, r2⟩ := RVlist ra
          refine call_tuple_list ⟨_, S1.fzh _ _ e1, rfl, k, rfl⟩ (fun h' hk => ?_) (by rw [size_of r2]; exact sizeOk_le hz)
          exact PostE.tupleNew (s := { s with heap := h', toks := tk1 }) (fz := fz1) (oa := oa1) (fun u fz2 oa2 h2 tk2 S2 k2 q2 r3 => hQ u fz2 oa2 h2 tk2 S2 (k1.trans k2) (q1.trans q2) r3) (S1.ext hk) r2
      · cases h2
    · obtain ⟨l, h3, h2⟩ := Option.bind_eq_some_iff.mp h2
      obtain ⟨xs, h4, h2⟩ := Option.bind_eq_some_iff.mp h2
      split at h2
      · rename_i hz
        cases h2
        cases r1 with
        | cons ra r1 =>
          cases r1
          cases ra with
          | own hk' =>
            obtain ⟨_, _, _, items, k, vs', e1, e2, e3⟩ := S1.own _ _ hk'
            rw [h3] at e2; cases e2
            have r2 := e3.toD h4
            refine call_tuple_list ⟨_, e1, rfl, k, rfl⟩ (fun h' hk => ?_) (by rw [size_of r2]; exact sizeOk_le hz)
            exact PostE.tupleNew (s := { s with heap := h', toks := tk1 }) (fz := fz1) (oa := oa1) (fun u fz2 oa2 h2 tk2 S2 k2 q2 r3 => hQ u fz2 oa2 h2 tk2 S2 (k1.trans k2) (q1.trans q2) r3) (S1.ext hk) r2
      · cases h2
    · cases h2
  split at h2
  · rename_i hf
    subst hf
    refine callB_ok hs I B S h hne R hg (fv := .type "int") (by simp [bltList]) fun us fz1 oa1 h1 tk1 S1 k1 q1 r1 => ?_
    split at h2
    · cases h2
      cases r1 with
      | cons ra r1 =>
        cases r1
        obtain ⟨t, rfl⟩ := RVint ra
        exact call_int_int (hQ _ fz1 oa1 _ _ S1 k1 q1 (.d (.int _ _)))
    · cases h2
  · obtain ⟨⟨w, dk'⟩, h3, h2⟩ := Option.map_eq_some_iff.mp h2
    cases h2
    obtain ⟨d, hd⟩ := hs.fref h3
    obtain ⟨a, o, pm, code, doc, e1, e2, e3, e4⟩ := B.fn f d hd
    have hg' := Bool.and_eq_true_iff.mp hg
    have hdb : (f == ("__debug__" : Str)) = false := by
      have := (Bool.and_eq_true_iff.mp hg'.2).1
      simpa using this
    refine wpAny_Call_NameR (glob_ok I B S (of_decide_eq_true hg'.1) e1 hdb ?_)
    refine callWith_function (evalArgs_ok hs h hne R I B S fun us fz1 oa1 h1 tk1 S1 k1 q1 r1 => ⟨⟨S1.fzh _ _ (S1.top _ _ e2), e3⟩, ?_⟩)
    exact hs.f h3 R B S1 rfl r1 e1 fun u fz2 oa2 h2 tk2 S2 k2 q2 r2 => hQ u fz2 oa2 h2 tk2 S2 (k1.trans k2) (q1.trans q2) r2
end
end Mine
namespace Mine
open PySem PySem.W PyProof.Rows PySem.Calls

/-- an iterator hands out these items, one after the other -/
structure Itr (prog : Program) (w : World) (A : Around) (t : Expr) (I : Addr) (wr : List Addr) (fz : Fz) (items : List PyData) (J : Nat → Heap → Prop) : Prop where
  frame : ∀ i h h', J i h → (∀ b o, fz b = some o → h'.get? b = some o) → (∀ b ∈ wr, ∀ o, h.get? b = some o → h'.get? b = some o) → J i h'
  live : ∀ i h, J i h → ∀ b ∈ wr, ∃ o, h.get? b = some o
  ne : wr ≠ []
  turn : ∀ {i : Nat} {x : PyData} {s : Shared} {Q : Value → Shared → Prop} {E : Value → Shared → Prop} {f : Fz}, items[i]? = some x → J i s.heap → FLe fz f → (∀ b o, f b = some o → s.heap.get? b = some o) → (∀ b ∈ wr, f b = none) →
    (∀ v g h' tk, J (i + 1) h' → (∀ b o, b ∉ wr → s.heap.get? b = some o → h'.get? b = some o) → FLe f g → (∀ b o, g b = some o → f b = some o ∨ s.heap.objs.size ≤ b) → (∀ b o, g b = some o → h'.get? b = some o) → RD g v x → Q v { s with heap := h', toks := tk }) →
    wpAny (model prog w) A (pyNext (.ref I)) (fun r s₁ => match r with
      | none => False
      | some v => wpAny (model prog w) A (letOwnedTupleGo t (.ref I) v) (fun _ s₂ => Q v s₂) E s₁) E s
  done : ∀ {s : Shared} {Q : Shared → Prop} {E : Value → Shared → Prop}, J items.length s.heap → (∀ h' tk, (∀ b o, b ∉ wr → s.heap.get? b = some o → h'.get? b = some o) → Q { s with heap := h', toks := tk }) →
    wpAny (model prog w) A (pyNext (.ref I)) (fun r s₁ => match r with
      | none => Q s₁
      | some _ => False) E s
  self : ∀ {i : Nat} {s : Shared} {Q : Value → Shared → Prop} {E : Value → Shared → Prop}, J i s.heap → Q (.ref I) s → wpAny (model prog w) A (pyIter (.ref I)) Q E s

section
variable {prog : Program} {w : World} {A : Around} {E : Value → Shared → Prop} {s : Shared} {fz : Fz}

theorem lot_list {t : Expr} {I l : Addr} {i : Nat} {v : Value} {Q : Unit → Shared → Prop} (ht : (isTupT t || isNameT t) = true) (hit : s.heap.IsListIter I l i) (hQ : Q () s) : wpAny (model prog w) A (letOwnedTupleGo t (.ref I) v) Q E s := by
  cases t <;> simp [isTupT, isNameT] at ht
  · exact wpAny_pure hQ
  · cases v <;> first | exact wpAny_pure hQ | exact wpAny_letOwnedTupleGo_listiter hit hQ
theorem lot_tuple {t : Expr} {I l : Addr} {i : Nat} {v : Value} {Q : Unit → Shared → Prop} (ht : (isTupT t || isNameT t) = true) (hit : s.heap.IsTupleIter I l i) (hQ : Q () s) : wpAny (model prog w) A (letOwnedTupleGo t (.ref I) v) Q E s := by
  cases t <;> simp [isTupT, isNameT] at ht
  · exact wpAny_pure hQ
  · cases v <;> try exact wpAny_pure hQ
    rename_i a
    obtain ⟨o, ho, hc, hd⟩ := hit
    unfold letOwnedTupleGo
    refine wpAny_bind (wpAny_load ho ?_)
    rw [hc, hd]
    show wpAny _ A (if (["enumerate", "zip", "dict_itemiterator", "dict_reverseitemiterator", "odict_iterator", "itertools.zip_longest", "itertools.pairwise"].contains "tuple_iterator" &&
        (#[.ref l, .int i 0] : Array Value)[0]? == some (rawInt a)) = true then _ else _) Q E s
    rw [if_neg (by
      intro h
      rw [show (["enumerate", "zip", "dict_itemiterator", "dict_reverseitemiterator", "odict_iterator", "itertools.zip_longest", "itertools.pairwise"].contains "tuple_iterator") = false from by decide, Bool.false_and] at h
      cases h)]
    exact wpAny_pure hQ
theorem lot_int {t : Expr} {I : Addr} {k : Int} {tk : Tok} {Q : Unit → Shared → Prop} (ht : (isTupT t || isNameT t) = true) (hQ : Q () s) : wpAny (model prog w) A (letOwnedTupleGo t (.ref I) (.int k tk)) Q E s := by
  cases t <;> simp [isTupT, isNameT] at ht
  · exact wpAny_pure hQ
  · exact wpAny_pure hQ

theorem itr_list {t : Expr} {I ax : Addr} {vs : Array Value} {k : Nat} {xs : List PyData} (hh : A.handled = none) (ht : (isTupT t || isNameT t) = true) (hne : ax ≠ I) (hx : fz ax = some (lstObj vs k)) (hr : RDs fz vs.toList xs) :
    Itr prog w A t I [I] fz xs (fun i h => h.IsListIter I ax i ∧ h.IsList ax vs) where
  frame := fun i h h' j hf hw => ⟨j.1.at fun o e => hw I (by simp) o e, ⟨_, hf _ _ hx, rfl, k, rfl⟩⟩
  live := fun i h j b hb => by rw [List.mem_singleton.mp hb]; obtain ⟨⟨o, e, _⟩, _⟩ := j; exact ⟨o, e⟩
  ne := by simp
  turn := fun {i x s Q E f} hi j hle hf hn hQ => by
    obtain ⟨u, e1, e2⟩ := hr.get i x hi
    refine wpAny_pyNext_list_item j.1 j.2 (x := u) (by rw [← Array.getElem?_toList]; exact e1) fun h' hit' hs' => ?_
    refine lot_list ht hit' ?_
    have keep : ∀ b o, b ∉ [I] → s.heap.get? b = some o → h'.get? b = some o := fun b o hb e => hs'.extBut b o (by simpa using hb) e
    refine hQ u f h' s.toks ⟨hit', j.2.extBut hs'.extBut hne⟩ keep (FLe.refl _) (fun b o e => .inl e) (fun b o e => keep b o (fun hb => ?_) (hf b o e)) (e2.mono hle)
    rw [hn b hb] at e; cases e
  done := fun {s Q E} j hQ => by
    have e1 : vs.size = xs.length := by have := hr.length; simpa using this
    refine wpAny_pyNext_list_end hh j.1 j.2 (by rw [← e1]; simp) fun h' he' => hQ h' s.toks fun b o hb e => he' b o (by simpa using hb) e
  self := fun j hQ => wpAny_pyIter_listiter j.1 hQ

theorem itr_tuple {t : Expr} {I ax : Addr} {vs : Array Value} {k : Nat} {xs : List PyData} (hh : A.handled = none) (ht : (isTupT t || isNameT t) = true) (hne : ax ≠ I) (hx : fz ax = some (tupObj vs k)) (hr : RDs fz vs.toList xs) :
    Itr prog w A t I [I] fz xs (fun i h => h.IsTupleIter I ax i ∧ h.IsTuple ax vs) where
  frame := fun i h h' j hf hw => ⟨j.1.at fun o e => hw I (by simp) o e, ⟨_, hf _ _ hx, rfl, k, rfl⟩⟩
  live := fun i h j b hb => by rw [List.mem_singleton.mp hb]; obtain ⟨⟨o, e, _⟩, _⟩ := j; exact ⟨o, e⟩
  ne := by simp
  turn := fun {i x s Q E f} hi j hle hf hn hQ => by
    obtain ⟨u, e1, e2⟩ := hr.get i x hi
    refine wpAny_pyNext_tuple_item j.1 j.2 (x := u) (by rw [← Array.getElem?_toList]; exact e1) fun h' hit' hs' => ?_
    refine lot_tuple ht hit' ?_
    have keep : ∀ b o, b ∉ [I] → s.heap.get? b = some o → h'.get? b = some o := fun b o hb e => hs'.extBut b o (by simpa using hb) e
    refine hQ u f h' s.toks ⟨hit', j.2.extBut hs'.extBut hne⟩ keep (FLe.refl _) (fun b o e => .inl e) (fun b o e => keep b o (fun hb => ?_) (hf b o e)) (e2.mono hle)
    rw [hn b hb] at e; cases e
  done := fun {s Q E} j hQ => by
    have e1 : vs.size = xs.length := by have := hr.length; simpa using this
    refine wpAny_pyNext_tuple_end hh j.1 j.2 (by rw [← e1]; simp) fun h' he' => hQ h' s.toks fun b o hb e => he' b o (by simpa using hb) e
  self := fun j hQ => wpAny_pyIter_tupleiter j.1 hQ

theorem rangeL_get {a c : Int} : ∀ {n i : Nat} {x : PyData}, (rangeL a c n)[i]? = some x → i < n ∧ x = .int (a + i * c)
  | 0, i, x, h => by simp [rangeL] at h
  | n + 1, 0, x, h => by simp [rangeL] at h; subst h; exact ⟨Nat.succ_pos _, by simp⟩
  | n + 1, i + 1, x, h => by
    simp only [rangeL, List.getElem?_cons_succ] at h
    obtain ⟨h1, h2⟩ := rangeL_get h
    refine ⟨Nat.succ_lt_succ h1, ?_⟩
    rw [h2]
    congr 1
    push_cast
    rw [Int.add_mul, Int.one_mul]
    omega
theorem rangeL_length {a c : Int} : ∀ {n : Nat}, (rangeL a c n).length = n
  | 0 => rfl
  | n + 1 => by simp [rangeL, rangeL_length]

theorem itr_range {t : Expr} {I : Addr} {a c : Int} {n : Nat} (hh : A.handled = none) (ht : (isTupT t || isNameT t) = true) :
    Itr prog w A t I [I] fz (rangeL a c n) (fun i h => IsRangeIter h I (a + (i : Nat) * c) ((n : Int) - (i : Nat)) c) where
  frame := fun i h h' j hf hw => hw I (by simp) _ j
  live := fun i h j b hb => by rw [List.mem_singleton.mp hb]; exact ⟨_, j⟩
  ne := by simp
  turn := fun {i x s Q E f} hi j hle hf hn hQ => by
    obtain ⟨hlt, rfl⟩ := rangeL_get hi
    refine wpAny_pyNext_range_item j (by omega) fun h' hit' hs' => ?_
    refine lot_int ht ?_
    have keep : ∀ b o, b ∉ [I] → s.heap.get? b = some o → h'.get? b = some o := fun b o hb e => hs'.extBut b o (by simpa using hb) e
    refine hQ _ f h' _ ?_ keep (FLe.refl _) (fun b o e => .inl e) (fun b o e => keep b o (fun hb => ?_) (hf b o e)) (.int _ _)
    · have e1 : a + ((i + 1 : Nat) : Int) * c = a + (i : Int) * c + c := by push_cast; rw [Int.add_mul, Int.one_mul, Int.add_assoc]
      have e2 : (n : Int) - ((i + 1 : Nat) : Int) = (n : Int) - (i : Int) - 1 := by push_cast; omega
      rw [e1, e2]; exact hit'
    · rw [hn b hb] at e; cases e
  done := fun {s Q E} j hQ => by
    rw [rangeL_length] at j
    exact wpAny_pyNext_range_end hh j (by omega) fun h' he' => hQ h' s.toks fun b o hb e => he' b o (by simpa using hb) e
  self := fun j hQ => wpAny_pyIter_rangeiter j hQ

theorem enumL_get : ∀ {xs : List PyData} {n i : Nat} {x : PyData}, (enumL n xs)[i]? = some x → ∃ y, xs[i]? = some y ∧ x = .tuple [.int ((n + i : Nat) : Int), y]
  | [], n, i, x, h => by simp [enumL] at h
  | y :: r, n, 0, x, h => by simp [enumL] at h; subst h; exact ⟨y, rfl, rfl⟩
  | y :: r, n, i + 1, x, h => by
    simp only [enumL, List.getElem?_cons_succ] at h
    obtain ⟨z, h1, h2⟩ := enumL_get h
    refine ⟨z, by simpa using h1, ?_⟩
    rw [h2, show n + 1 + i = n + (i + 1) by omega]
theorem enumL_length : ∀ {xs : List PyData} {n : Nat}, (enumL n xs).length = xs.length
  | [], _ => rfl
  | _ :: _, _ => by simp [enumL, enumL_length]

theorem itr_enum {t : Expr} {e it l : Addr} {vs : Array Value} {k : Nat} {xs : List PyData} (hh : A.handled = none) (ht : isTupT t = true) (hei : e ≠ it) (hle : l ≠ e) (hli : l ≠ it) (hx : fz l = some (lstObj vs k)) (hr : RDs fz vs.toList xs) :
    Itr prog w A t e [e, it] fz (enumL 0 xs) (fun i h => (∃ old, IsEnum h e it i old) ∧ h.IsListIter it l i ∧ h.IsList l vs) where
  frame := fun i h h' j hf hw => by
    obtain ⟨⟨old, he⟩, hit, _⟩ := j
    exact ⟨⟨old, hw e (by simp) _ he⟩, hit.at fun o x => hw it (by simp) o x, ⟨_, hf _ _ hx, rfl, k, rfl⟩⟩
  live := fun i h j b hb => by
    obtain ⟨⟨old, he⟩, ⟨o, e1, _⟩, _⟩ := j
    rcases List.mem_cons.mp hb with rfl | hb
    · exact ⟨_, he⟩
    · rw [List.mem_singleton.mp hb]; exact ⟨_, e1⟩
  ne := by simp
  turn := fun {i x s Q E f} hi j hfl hf hn hQ => by
    obtain ⟨y, hy, rfl⟩ := enumL_get hi
    obtain ⟨u, e1, e2⟩ := hr.get i y hy
    obtain ⟨⟨old, he⟩, hit, hl⟩ := j
    refine wpAny_pyNext_enum_item he hit hl (x := u) (by rw [← Array.getElem?_toList]; exact e1) hei fun h' ho hit' hT hsz hk => ?_
    cases t <;> simp [isTupT] at ht
    refine wpAny_letOwnedTupleGo_enum ho fun h2 he2 hs2 => ?_
    have helt : e < s.heap.objs.size := Heap.lt_size he
    have hilt : it < s.heap.objs.size := by obtain ⟨_, x, _⟩ := hit; exact Heap.lt_size x
    have keep : ∀ b o, b ∉ [e, it] → s.heap.get? b = some o → h2.get? b = some o := fun b o hb x => by
      have h1 : b ≠ e := fun q => hb (by simp [q])
      have h3 : b ≠ it := fun q => hb (by simp [q])
      exact (hs2.2 b h1).trans (hk b o h1 h3 x)
    have hfree : f s.heap.objs.size = none := by
      cases q : f s.heap.objs.size with
      | none => rfl
      | some o => exact absurd (Heap.lt_size (hf _ _ q)) (Nat.lt_irrefl _)
    have hT2 : h2.get? s.heap.objs.size = some (tupObj #[.int i s.toks, u] 0) := (hs2.2 _ (Nat.ne_of_gt helt)).trans hT
    refine hQ (.ref s.heap.objs.size) (updF f s.heap.objs.size (tupObj #[.int i s.toks, u] 0)) h2 (s.toks + 1) ?_ keep (updF_le hfree) ?_ ?_ ?_
    · refine ⟨⟨u, by simpa using he2⟩, hit'.at fun o y => (hs2.2 it hei.symm).trans y, ?_⟩
      exact (hl.at fun o x => hk l o hle hli x).at fun o y => (hs2.2 l hle).trans y
    · intro b o q
      unfold updF at q
      by_cases hb : b = s.heap.objs.size
      · exact .inr (by rw [hb]; exact Nat.le_refl _)
      · rw [if_neg hb] at q; exact .inl q
    · intro b o q
      unfold updF at q
      by_cases hb : b = s.heap.objs.size
      · rw [if_pos hb] at q; cases q; subst hb; exact hT2
      · rw [if_neg hb] at q
        refine keep b o (fun hm => ?_) (hf _ _ q)
        rw [hn b hm] at q; cases q
    · refine .tuple (updF_self _ _ _) (.cons ?_ (.cons (e2.mono (hfl.trans (updF_le hfree))) .nil))
      rw [Nat.zero_add]; exact .int _ _
  done := fun {s Q E} j hQ => by
    rw [enumL_length] at j
    obtain ⟨⟨old, he⟩, hit, hl⟩ := j
    have e1 : vs.size = xs.length := by have := hr.length; simpa using this
    exact wpAny_pyNext_enum_end hh he hit hl (Array.getElem?_eq_none (by rw [e1]; exact Nat.le_refl _)) fun h' hx => hQ h' s.toks fun b o hb y => hx b o (fun e' => hb (by simp [e'])) y
  self := fun j hQ => by
    obtain ⟨⟨old, he⟩, _, _⟩ := j
    exact wpAny_pyIter_enum he hQ
end
end Mine
namespace Mine
open PySem PySem.W PyProof.Rows PySem.Calls
section
variable {mg mb : Str → Option Value} {r : Ev} {n : Nat} {P : Pm} {A : Around} {env : Env} {E : Value → Shared → Prop} {s : Shared} {fz : Fz} {oa : List Addr} {c : FC} {st st' : IS} {h h' : Heap} {cl : List (Str × Addr)}

/-- an address that the frame's matters leave alone -/
structure Apart (P : Pm) (fz : Fz) (oa : List Addr) (st : IS) (b : Addr) : Prop where
  fz : fz b = none
  oa : b ∉ oa
  L : b ≠ P.L
  kp : P.kp b = none
  n0 : P.n0 ≤ b
  dk : ∀ l m, st.dk = some (l, m) → b ≠ P.da ∧ b ≠ P.la

theorem St.apart (S : St P cl c fz oa h st) {b : Addr} (hb : h.objs.size ≤ b) : Apart P fz oa st b where
  fz := S.fz_new hb
  oa := fun hm => by
    obtain ⟨k, e⟩ := List.getElem?_of_mem hm
    exact absurd (S.ownlt e) (Nat.not_lt.mpr hb)
  L := fun q => absurd S.ltL (by rw [← q]; exact Nat.not_lt.mpr hb)
  kp := S.kp_new hb
  n0 := Nat.le_trans S.n0le hb
  dk := fun l m e => ⟨fun q => absurd (S.deck l m e).1.lt.1 (by rw [← q]; exact Nat.not_lt.mpr hb), fun q => absurd (S.deck l m e).1.lt.2 (by rw [← q]; exact Nat.not_lt.mpr hb)⟩

/-- some addresses turn, the ghost grows -/
theorem St.extW (S : St P cl c fz oa h st) {g : Fz} {wr : List Addr} (ap : ∀ b ∈ wr, Apart P fz oa st b) (k : ∀ b o, b ∉ wr → h.get? b = some o → h'.get? b = some o) (hg : FLe fz g) (hn : ∀ b o, g b = some o → fz b = some o ∨ h.objs.size ≤ b)
    (hh : ∀ b o, g b = some o → h'.get? b = some o) : St P cl c g oa h' st where
  top := fun b o e => hg _ _ (S.top b o e)
  fzh := hh
  keep := fun b o e => k _ _ (fun hm => by rw [(ap b hm).kp] at e; cases e) (S.keep b o e)
  grow := S.grow.trans hg
  new := fun b o e => (hn b o e).elim (S.new b o) fun q => .inr (Nat.le_trans S.n0le q)
  base := S.base
  fresh := S.fresh
  fresh2 := S.fresh2
  fzL := by
    cases e : g P.L with
    | none => rfl
    | some o => exact ((hn _ _ e).elim (fun q => by rw [S.fzL] at q; cases q) fun q => absurd S.ltL (Nat.not_lt.mpr q))
  vars := let ⟨m, hn', hv⟩ := S.vars; ⟨m, (let ⟨o, es, ep, ho, rr⟩ := hn'; ⟨o, es, ep, k _ _ (fun hm => (ap _ hm).L rfl) ho, rr⟩), fun x v e => let ⟨u, h1, h2⟩ := hv x v e; ⟨u, h1, h2.mono hg (OLe.refl _)⟩⟩
  cells := fun x v hx e => let ⟨a, u, o, h1, h2, h3, h4⟩ := S.cells x v hx e; ⟨a, u, o, h1, hg _ _ h2, h3, h4.mono hg⟩
  len := S.len
  own := fun i a e => by
    obtain ⟨h1, h2, h3, items, n, vs, h4, h5, h6⟩ := S.own i a e
    refine ⟨?_, h2, h3, items, n, vs, k _ _ (fun hm => (ap _ hm).oa (List.mem_of_getElem? e)) h4, h5, h6.mono hg (OLe.refl _)⟩
    cases e' : g a with
    | none => rfl
    | some o => exact ((hn _ _ e').elim (fun q => by rw [h1] at q; cases q) fun q => absurd (Heap.lt_size h4) (Nat.not_lt.mpr q))
  nodup := S.nodup
  deck := fun l m e => by
    obtain ⟨d, h1, h2, rr⟩ := S.deck l m e
    refine ⟨d.at (fun o => k _ o fun hm => ((ap _ hm).dk l m e).1 rfl) (fun o => k _ o fun hm => ((ap _ hm).dk l m e).2 rfl), ?_, ?_, rr⟩
    · cases e' : g P.da with
      | none => rfl
      | some o => exact ((hn _ _ e').elim (fun q => by rw [h1] at q; cases q) fun q => absurd d.lt.1 (Nat.not_lt.mpr q))
    · cases e' : g P.la with
      | none => rfl
      | some o => exact ((hn _ _ e').elim (fun q => by rw [h2] at q; cases q) fun q => absurd d.lt.2 (Nat.not_lt.mpr q))

noncomputable def topOf : List Addr → Nat
  | [] => 0
  | a :: r => max a (topOf r)
theorem topOf_le : ∀ {l : List Addr} {b : Addr}, b ∈ l → b ≤ topOf l
  | a :: r, b, hm => by
    rcases List.mem_cons.mp hm with rfl | hm
    · exact Nat.le_max_left _ _
    · exact Nat.le_trans (topOf_le hm) (Nat.le_max_right _ _)
theorem topOf_mem : ∀ {l : List Addr}, l ≠ [] → topOf l ∈ l
  | [], h => absurd rfl h
  | [a], _ => by simp [topOf]
  | a :: b :: r, _ => by
    have ih := topOf_mem (l := b :: r) (by simp)
    show max a (topOf (b :: r)) ∈ _
    rcases Nat.le_total a (topOf (b :: r)) with q | q
    · rw [Nat.max_eq_right q]; exact List.mem_cons_of_mem _ ih
    · rw [Nat.max_eq_left q]; exact List.mem_cons_self

/-- the frame, with an iterator's objects held still -/
noncomputable def held (P : Pm) (wr : List Addr) (h : Heap) (g : Fz) : Pm := { P with kp := fun b => if b ∈ wr then h.get? b else P.kp b, f0 := g, n0 := topOf wr + 1 }

theorem St.hold (S : St P cl c fz oa h st) {wr : List Addr} (ap : ∀ b ∈ wr, Apart P fz oa st b) (hne : wr ≠ []) (live : ∀ b ∈ wr, ∃ o, h.get? b = some o) : St (held P wr h fz) cl c fz oa h st where
  top := S.top
  fzh := S.fzh
  keep := fun b o e => by
    by_cases hb : b ∈ wr
    · simpa [held, hb] using e
    · exact S.keep b o (by simpa [held, hb] using e)
  grow := FLe.refl _
  new := fun b o e => .inl e
  base := by
    have : P.L ∉ wr := fun hm => (ap _ hm).L rfl
    show (if P.L ∈ wr then _ else _) = none
    rw [if_neg this]; exact S.base
  fresh := by
    obtain ⟨o, e⟩ := live _ (topOf_mem hne)
    exact .inr ⟨topOf wr, o, by show (if topOf wr ∈ wr then _ else _) = _; rw [if_pos (topOf_mem hne)]; exact e, Nat.le_refl _⟩
  fresh2 := S.fresh2
  fzL := S.fzL
  vars := S.vars
  cells := S.cells
  len := S.len
  own := fun i a e => by
    obtain ⟨h1, h2, rr⟩ := S.own i a e
    refine ⟨h1, ⟨h2.1, ?_⟩, rr⟩
    show (if a ∈ wr then _ else _) = none
    rw [if_neg fun hm => (ap _ hm).oa (List.mem_of_getElem? e)]; exact h2.2
  nodup := S.nodup
  deck := fun l m e => by
    obtain ⟨d, h1, h2, h3, h4, rr⟩ := S.deck l m e
    refine ⟨d, h1, h2, ?_, ?_, rr⟩
    · show (if P.da ∈ wr then _ else _) = none
      rw [if_neg fun hm => ((ap _ hm).dk l m e).1 rfl]; exact h3
    · show (if P.la ∈ wr then _ else _) = none
      rw [if_neg fun hm => ((ap _ hm).dk l m e).2 rfl]; exact h4

theorem St.unhold (S : St P cl c fz oa h st) {wr : List Addr} {g : Fz} {ob : List Addr} (S' : St (held P wr h fz) cl c g ob h' st') (ap : ∀ b ∈ wr, Apart P fz oa st b) (hne : wr ≠ []) (live : ∀ b ∈ wr, ∃ o, h.get? b = some o) :
    St P cl c g ob h' st' ∧ (∀ b ∈ wr, Apart P g ob st' b) ∧ (∀ b ∈ wr, ∀ o, h.get? b = some o → h'.get? b = some o) := by
  have kp : ∀ b o, P.kp b = some o → (held P wr h fz).kp b = some o := fun b o e => by
    show (if b ∈ wr then _ else _) = _
    rw [if_neg fun hm => by rw [(ap b hm).kp] at e; cases e]; exact e
  have kpn : ∀ b, (held P wr h fz).kp b = none → P.kp b = none := fun b e => by
    cases q : P.kp b with
    | none => rfl
    | some o => rw [kp b o q] at e; cases e
  have kpw : ∀ b ∈ wr, ∀ o, h.get? b = some o → (held P wr h fz).kp b = some o := fun b hm o e => by
    show (if b ∈ wr then _ else _) = _
    rw [if_pos hm]; exact e
  have n0 : P.n0 ≤ topOf wr + 1 := Nat.le_succ_of_le ((ap _ (topOf_mem hne)).n0)
  refine ⟨?_, ?_, ?_⟩
  · exact {
      top := S'.top, fzh := S'.fzh, keep := fun b o e => S'.keep b o (kp b o e)
      grow := S.grow.trans S'.grow
      new := fun b o e => (S'.new b o e).elim (S.new b o) fun q => .inr (Nat.le_trans n0 q)
      base := S.base, fresh := S.fresh, fresh2 := S.fresh2, fzL := S'.fzL, vars := S'.vars, cells := S'.cells, len := S'.len
      own := fun i a e => let ⟨h1, h2, rr⟩ := S'.own i a e; ⟨h1, ⟨h2.1, kpn _ h2.2⟩, rr⟩
      nodup := S'.nodup
      deck := fun l m e => let ⟨d, h1, h2, h3, h4, rr⟩ := S'.deck l m e; ⟨d, h1, h2, kpn _ h3, kpn _ h4, rr⟩ }
  · intro b hm
    obtain ⟨o, e⟩ := live b hm
    have hk := kpw b hm o e
    refine ⟨?_, ?_, (ap b hm).L, (ap b hm).kp, (ap b hm).n0, fun l m ed => ?_⟩
    · cases q : g b with
      | none => rfl
      | some o' =>
        rcases S'.new b o' q with q' | q'
        · have : fz b = some o' := q'
          rw [(ap b hm).fz] at this; cases this
        · have q2 : topOf wr + 1 ≤ b := q'
          exact absurd (Nat.le_trans q2 (topOf_le hm)) (Nat.not_succ_le_self _)
    · intro hob
      obtain ⟨k, e2⟩ := List.getElem?_of_mem hob
      have := (S'.own k b e2).2.1.2
      rw [hk] at this; cases this
    · obtain ⟨d, h1, h2, h3, h4, rr⟩ := S'.deck l m ed
      constructor
      · intro q
        have h3' : (held P wr h fz).kp P.da = none := h3
        rw [← q, hk] at h3'; cases h3'
      · intro q
        have h4' : (held P wr h fz).kp P.la = none := h4
        rw [← q, hk] at h4'; cases h4'
  · exact fun b hm o e => S'.keep b o (kpw b hm o e)

theorem EnvIs.hold {wr : List Addr} (I : EnvIs P c env) : EnvIs (held P wr h fz) c env := ⟨I.scope, I.kind, I.locals, I.globals, I.builtins⟩
end
end Mine
namespace Mine
open PySem PySem.W PyProof.Rows PySem.Calls
section
variable {mg mb : Str → Option Value} {r : Ev} {n : Nat} {P : Pm} {A : Around} {env : Env} {E : Value → Shared → Prop} {s : Shared} {fz : Fz} {oa : List Addr} {c : FC} {st st' : IS} {h h' : Heap} {cl : List (Str × Addr)}

noncomputable abbrev PostI (P : Pm) (A : Around) (cl : List (Str × Addr)) (c : FC) (fz : Fz) (oa : List Addr) (s : Shared) (st' : IS) (t : Expr) (xs : List PyData) (K : Value → Shared → Prop) : Prop :=
  ∀ (I : Addr) (wr : List Addr) (J : Nat → Heap → Prop) fz' oa' h' tk', St P cl c fz' oa' h' st' → FLe fz fz' → OLe oa oa' → Itr P.prog P.w A t I wr fz' xs J → J 0 h' → (∀ b ∈ wr, Apart P fz' oa' st' b) → K (.ref I) { s with heap := h', toks := tk' }

theorem iter_list {t : Expr} {u : Value} {xs : List PyData} {K : Value → Shared → Prop} (R : Room n A) (ht : (isTupT t || isNameT t) = true) (S : St P cl c fz oa s.heap st) (ru : RV fz oa P.da P.la u (.d (.list xs)))
    (hQ : PostI P A cl c fz oa s st t xs K) : wpAny (model P.prog P.w) A (pyIter u) K E s := by
  obtain ⟨a, vs, k, rfl, e1, r1⟩ := RVlist ru
  have hl : s.heap.IsList a vs := ⟨_, S.fzh _ _ e1, rfl, k, rfl⟩
  have hne : a ≠ s.heap.objs.size := Nat.ne_of_lt (Heap.lt_size (S.fzh _ _ e1))
  refine wpAny_pyIter_list hl ?_
  have hk : ∀ b o, s.heap.get? b = some o → (s.heap.push { cls := .type "list_iterator", data := .fields #[.ref a, .int 0 0] }).get? b = some o := fun b o e => Heap.get?_push_of_some _ e
  refine hQ s.heap.objs.size [s.heap.objs.size] _ fz oa _ s.toks (S.ext hk) (FLe.refl _) (OLe.refl _) (itr_list R.1 ht hne e1 r1) ⟨⟨_, Heap.get?_push_size _ rfl, rfl, rfl⟩, hl.push _⟩ fun b hb => ?_
  rw [List.mem_singleton.mp hb]; exact S.apart (Nat.le_refl _)
theorem iter_tuple {t : Expr} {u : Value} {xs : List PyData} {K : Value → Shared → Prop} (R : Room n A) (ht : (isTupT t || isNameT t) = true) (S : St P cl c fz oa s.heap st) (ru : RV fz oa P.da P.la u (.d (.tuple xs)))
    (hQ : PostI P A cl c fz oa s st t xs K) : wpAny (model P.prog P.w) A (pyIter u) K E s := by
  obtain ⟨a, vs, k, rfl, e1, r1⟩ := RVtuple ru
  have hl : s.heap.IsTuple a vs := ⟨_, S.fzh _ _ e1, rfl, k, rfl⟩
  have hne : a ≠ s.heap.objs.size := Nat.ne_of_lt (Heap.lt_size (S.fzh _ _ e1))
  refine wpAny_pyIter_tuple hl ?_
  have hk : ∀ b o, s.heap.get? b = some o → (s.heap.push { cls := .type "tuple_iterator", data := .fields #[.ref a, .int 0 0] }).get? b = some o := fun b o e => Heap.get?_push_of_some _ e
  refine hQ s.heap.objs.size [s.heap.objs.size] _ fz oa _ s.toks (S.ext hk) (FLe.refl _) (OLe.refl _) (itr_tuple R.1 ht hne e1 r1) ⟨⟨_, Heap.get?_push_size _ rfl, rfl, rfl⟩, hl.push _⟩ fun b hb => ?_
  rw [List.mem_singleton.mp hb]; exact S.apart (Nat.le_refl _)
theorem iter_seq {t : Expr} {u : Value} {v : V} {xs : List PyData} {K : Value → Shared → Prop} (R : Room n A) (ht : (isTupT t || isNameT t) = true) (hv : seqOf v = some xs) (S : St P cl c fz oa s.heap st) (ru : RV fz oa P.da P.la u v)
    (hQ : PostI P A cl c fz oa s st t xs K) : wpAny (model P.prog P.w) A (pyIter u) K E s := by
  unfold seqOf at hv
  split at hv
  · cases hv; exact iter_list R ht S ru hQ
  · cases hv; exact iter_tuple R ht S ru hQ
  · cases hv

theorem iter_range {t : Expr} {a b k : Int} {i j l : Tok} {ra : Addr} {K : Value → Shared → Prop} (R : Room n A) (ht : (isTupT t || isNameT t) = true) (S : St P cl c fz oa s.heap st) (hr : IsRange s.heap ra a b k i j l) (hs : Builtin.Range.small a b k = true) (h0 : 0 ≤ Builtin.Range.rangeSize a b k)
    (hQ : PostI P A cl c fz oa s st t (rangeL a k (Builtin.Range.rangeSize a b k).toNat) K) : wpAny (model P.prog P.w) A (pyIter (.ref ra)) K E s := by
  refine wpAny_pyIter_range hr hs ?_
  have hk : ∀ q o, s.heap.get? q = some o → (s.heap.push { cls := .type "range_iterator", data := .fields #[rawInt a, rawInt (Builtin.Range.rangeSize a b k), rawInt k] }).get? q = some o := fun q o e => Heap.get?_push_of_some _ e
  refine hQ s.heap.objs.size [s.heap.objs.size] _ fz oa _ s.toks (S.ext hk) (FLe.refl _) (OLe.refl _) (itr_range R.1 ht) ?_ fun b hb => ?_
  · show (s.heap.push _).get? _ = _
    rw [Heap.get?_push_size _ rfl]
    have e1 : a + ((0 : Nat) : Int) * k = a := by simp
    have e2 : ((Builtin.Range.rangeSize a b k).toNat : Int) - ((0 : Nat) : Int) = Builtin.Range.rangeSize a b k := by rw [Int.toNat_of_nonneg h0]; simp
    rw [e1, e2]
  · rw [List.mem_singleton.mp hb]; exact S.apart (Nat.le_refl _)

theorem rangeSize_nn (a b k : Int) : 0 ≤ Builtin.Range.rangeSize a b k ∨ Builtin.Range.rangeSize a b k < 0 := by omega

theorem enum_ne {x e : Expr} (h : enumArg x = some e) : ∃ p p', x = .Call (.Name (Str.ofString "enumerate") p) [e] [] p' := by
  unfold enumArg at h
  split at h
  · split at h
    · rename_i hf; cases h; subst hf; exact ⟨_, _, rfl⟩
    · cases h
  · cases h
theorem range_ne {x : Expr} {es : List Expr} (h : rangeArgs x = some es) : ∃ p p', x = .Call (.Name (Str.ofString "range") p) es [] p' := by
  unfold rangeArgs at h
  split at h
  · split at h
    · rename_i hf; cases h; subst hf; exact ⟨_, _, rfl⟩
    · cases h
  · cases h

theorem rangeV_inv {vs : List V} {xs : List PyData} (h : rangeV vs = some xs) : (∃ i, vs = [.d (.int i)] ∧ small i = true ∧ xs = rangeL 0 1 i.toNat) ∨
    (∃ a b k, vs = [.d (.int a), .d (.int b), .d (.int k)] ∧ k ≠ 0 ∧ k.natAbs < 1073741824 ∧ Builtin.Range.small a b k = true ∧ xs = rangeL a k (Builtin.Range.rangeSize a b k).toNat) := by
  unfold rangeV at h
  split at h
  · split at h
    · rename_i hi; cases h; exact .inl ⟨_, rfl, hi, rfl⟩
    · cases h
  · split at h
    · rename_i hi
      cases h
      simp only [Bool.and_eq_true, decide_eq_true_eq] at hi
      obtain ⟨⟨⟨⟨⟨⟨_, _⟩, _⟩, hk0⟩, hk1⟩, _⟩, hsm⟩ := hi
      exact .inr ⟨_, _, _, rfl, hk0, hk1, hsm, rfl⟩
    · cases h
  · cases h

theorem iterV_ok (hs : Snd mg mb r n) {iter t : Expr} {xs : List PyData} {K : Value → Shared → Prop} (h : iterV r c iter st = some (xs, st')) (ht : tgtOk iter t = true) (R : Room n A) (I : EnvIs P c env) (B : Base P.hb mg mb)
    (S : St P env.cells c fz oa s.heap st) (hQ : PostI P A env.cells c fz oa s st' t xs K) :
    wpAny (model P.prog P.w) A (eval iter env) (fun x s₁ => wpAny (model P.prog P.w) A (pyIter x) K E s₁) E s ∧ ∀ x, foldedSetIterable iter env x = pure x := by
  unfold iterV at h
  split at h
  · rename_i args ha
    obtain ⟨p, p', rfl⟩ := range_ne ha
    have ht' : (isTupT t || isNameT t) = true := by
      unfold tgtOk at ht
      split at ht
      · rw [ht]; rfl
      · exact ht
    refine ⟨?_, fun _ => rfl⟩
    split at h
    case isFalse => cases h
    rename_i hg
    obtain ⟨⟨vs, st1⟩, h1, h⟩ := Option.bind_eq_some_iff.mp h
    obtain ⟨ys, h2, h⟩ := Option.bind_eq_some_iff.mp h
    split at h
    case isFalse => cases h
    cases h
    dsimp only at h2
    have hne : vs ≠ [] := by rintro rfl; simp [rangeV] at h2
    refine callB_ok hs I B S h1 hne R hg (fv := .type "range") (by simp [bltList]) fun us fz1 oa1 h1' tk1 S1 k1 q1 r1 => ?_
    rcases rangeV_inv h2 with ⟨i, rfl, hi, rfl⟩ | ⟨a, b, k, rfl, hk0, hk1, hsm, rfl⟩
    · cases r1 with
      | cons ra r1 =>
        cases r1
        obtain ⟨tk, rfl⟩ := RVint ra
        refine call_range_1 ?_
        have hk : ∀ q o, h1'.get? q = some o → (h1'.push { cls := .type "range", data := .fields #[.int 0 tk1, .int i tk, .int 1 (tk1 + 1)] }).get? q = some o := fun q o e => Heap.get?_push_of_some _ e
        have hz : small i = true := hi
        have hsm : Builtin.Range.small 0 i 1 = true := by
          have : i.natAbs < 4611686018427387904 := of_decide_eq_true hz
          exact small_one (by omega) (by omega) (by omega) (by omega)
        have hsize : Builtin.Range.rangeSize 0 i 1 = (i.toNat : Int) := by
          rw [rangeSize_one]
          split <;> omega
        refine iter_range (s := { s with heap := h1'.push { cls := .type "range", data := .fields #[.int 0 tk1, .int i tk, .int 1 (tk1 + 1)] }, toks := tk1 + 1 + 1 }) R ht' (S1.ext hk) (IsRange.new ..) hsm (by rw [hsize]; omega) ?_
        rw [hsize, Int.toNat_natCast]
        exact fun I wr J fz' oa' h' tk' S' k' q' it j0 ap => hQ I wr J fz' oa' h' tk' S' (k1.trans k') (q1.trans q') it j0 ap
    · cases r1 with
      | cons ra r1 => cases r1 with
        | cons rb r1 => cases r1 with
          | cons rc r1 =>
            cases r1
            obtain ⟨ta, rfl⟩ := RVint ra; obtain ⟨tb, rfl⟩ := RVint rb; obtain ⟨tc, rfl⟩ := RVint rc
            refine call_range_3 hk0 ?_ (Or.inl (PyProof.noPylong_small hk1))
            have hk : ∀ q o, h1'.get? q = some o → (h1'.push { cls := .type "range", data := .fields #[.int a ta, .int b tb, .int k tc] }).get? q = some o := fun q o e => Heap.get?_push_of_some _ e
            have h0 : 0 ≤ Builtin.Range.rangeSize a b k := by
              unfold Builtin.Range.rangeSize
              split
              · split
                · have : 0 ≤ (b - a - 1) / k := Int.ediv_nonneg (by omega) (by omega)
                  omega
                · exact Int.le_refl _
              · split
                · have : 0 ≤ (a - b - 1) / (-k) := Int.ediv_nonneg (by omega) (by omega)
                  omega
                · exact Int.le_refl _
            refine iter_range (s := { s with heap := h1'.push { cls := .type "range", data := .fields #[.int a ta, .int b tb, .int k tc] }, toks := tk1 }) R ht' (S1.ext hk) (IsRange.new ..) hsm h0 ?_
            exact fun I wr J fz' oa' h' tk' S' k' q' it j0 ap => hQ I wr J fz' oa' h' tk' S' (k1.trans k') (q1.trans q') it j0 ap
  · split at h
    · rename_i y hy
      obtain ⟨p, p', rfl⟩ := enum_ne hy
      have ht' : isTupT t = true := by
        unfold tgtOk at ht
        rw [hy] at ht
        simpa using ht
      refine ⟨?_, fun _ => rfl⟩
      split at h
      case isFalse => cases h
      rename_i hg
      obtain ⟨⟨v, st1⟩, h1, h⟩ := Option.bind_eq_some_iff.mp h
      obtain ⟨ys, h2, h⟩ := Option.bind_eq_some_iff.mp h
      split at h
      case isFalse => cases h
      cases h
      dsimp only at h2
      have hL : evL r c [y] st = some ([v], st1) := by simp [evL, h1]
      refine callB_ok hs I B S hL (by simp) R hg (fv := .type "enumerate") (by simp [bltList]) fun us fz1 oa1 h1' tk1 S1 k1 q1 r1 => ?_
      cases r1 with
      | cons ra r1 =>
        cases r1
        unfold listOf' at h2
        split at h2
        · cases h2
          obtain ⟨a, ws, k, rfl, e1, r2⟩ := RVlist ra
          refine call_enumerate_1 (S1.fzh _ _ e1) fun h2 he hit hsz hk => ?_
          refine wpAny_pyIter_enum he ?_
          have hl : h1'.objs.size ≠ h1'.objs.size + 1 := Nat.ne_of_lt (Nat.lt_succ_self _)
          have ha : a < h1'.objs.size := Heap.lt_size (S1.fzh _ _ e1)
          refine hQ (h1'.objs.size + 1) [h1'.objs.size + 1, h1'.objs.size] _ fz1 oa1 h2 tk1 (S1.ext hk) k1 q1 (itr_enum R.1 ht' (Ne.symm hl) (Nat.ne_of_lt (Nat.lt_succ_of_lt ha)) (Nat.ne_of_lt ha) e1 r2) ⟨⟨_, he⟩, hit, ⟨_, hk _ _ (S1.fzh _ _ e1), rfl, k, rfl⟩⟩ fun b hb => ?_
          refine S1.apart ?_
          rcases List.mem_cons.mp hb with rfl | hb
          · exact Nat.le_succ _
          · rw [List.mem_singleton.mp hb]; exact Nat.le_refl _
        · cases h2
    · rename_i hy
      have ht' : (isTupT t || isNameT t) = true := by
        unfold tgtOk at ht
        rw [hy] at ht
        simpa using ht
      obtain ⟨⟨v, st1⟩, h1, h⟩ := Option.bind_eq_some_iff.mp h
      obtain ⟨ys, h2, h⟩ := Option.bind_eq_some_iff.mp h
      split at h
      case isFalse => cases h
      cases h
      refine ⟨hs.e h1 R I B S fun u fz1 oa1 h1' tk1 S1 k1 q1 r1 => ?_, fun x => ?_⟩
      · exact iter_seq R ht' h2 S1 r1 fun I wr J fz' oa' h' tk' S' k' q' it j0 ap => hQ I wr J fz' oa' h' tk' S' (k1.trans k') (q1.trans q') it j0 ap
      · cases iter <;> first | rfl | (rw [hs.set] at h1; cases h1)
end
end Mine
namespace Mine
open PySem PySem.W PyProof.Rows PySem.Calls
section
variable {mg mb : Str → Option Value} {r : Ev} {n : Nat} {P : Pm} {A : Around} {env : Env} {E : Value → Shared → Prop} {s : Shared} {fz : Fz} {oa : List Addr} {c : FC} {st st' : IS} {h h' : Heap} {cl : List (Str × Addr)}

noncomputable def LInv (P : Pm) (cl : List (Str × Addr)) (c : FC) (fz : Fz) (oa : List Addr) (s : Shared) (r : Ev) (t : Expr) (body : List Stmt) (wr : List Addr) (J : Nat → Heap → Prop) (xs : List PyData) (fl : Fl) (st' : IS) (k : Nat) (s' : Shared) : Prop :=
  ∃ i sti fzi oai hh tk, s' = { s with heap := hh, toks := tk } ∧ St P cl c fzi oai hh sti ∧ FLe fz fzi ∧ OLe oa oai ∧ J i hh ∧ (∀ b ∈ wr, Apart P fzi oai sti b) ∧ i ≤ xs.length ∧ k = xs.length + 1 - i ∧
    loopF (fun x st' => (r.a c t (.d x) st').bind fun st'' => r.b c body st'') (xs.drop i) sti = some (fl, st')

theorem loop_ok (hs : Snd mg mb r n) {t : Expr} {body : List Stmt} {It : Addr} {wr : List Addr} {J : Nat → Heap → Prop} {xs : List PyData} {fl : Fl} {Q : Flow → Shared → Prop} {RE : Value → Shared → Prop}
    (hl : loopF (fun x st' => (r.a c t (.d x) st').bind fun st'' => r.b c body st'') xs st = some (fl, st')) (R : Room n A) (I : EnvIs P c env) (B : Base P.hb mg mb)
    (S : St P env.cells c fz oa s.heap st) (it : Itr P.prog P.w A t It wr fz xs J) (j0 : J 0 s.heap) (ap : ∀ b ∈ wr, Apart P fz oa st b)
    (hQ : PostB P env.cells c fz oa s st' fl Q) :
    codeAny (model P.prog P.w) A (.forLoop t (.ref It) body [] env) (fun r s' => match r with | .ok f => Q f s' | .error e => RE e s') s := by
  refine codeAny_forLoop_any (LInv P env.cells c fz oa s r t body wr J xs fl st') ?_ (xs.length + 1)
    ⟨0, st, fz, oa, s.heap, s.toks, rfl, S, FLe.refl _, OLe.refl _, j0, ap, Nat.zero_le _, by simp, by simpa using hl⟩
  rintro k s' ⟨i, sti, fzi, oai, hh, tk, rfl, Si, ki, qi, ji, api, hi, rfl, hli⟩
  by_cases hlt : i < xs.length
  · have hx : xs[i]? = some xs[i] := List.getElem?_eq_getElem hlt
    have hd : xs.drop i = xs[i] :: xs.drop (i + 1) := List.drop_eq_getElem_cons hlt
    rw [hd] at hli
    obtain ⟨⟨f1, st1⟩, h1, h2⟩ := Option.bind_eq_some_iff.mp (show ((fun x st' => (r.a c t (.d x) st').bind fun st'' => r.b c body st'') xs[i] sti).bind _ = _ from hli)
    obtain ⟨st0, h3, h4⟩ := Option.bind_eq_some_iff.mp h1
    refine wpAny_mono (Q := fun r₀ s₁ => match r₀ with
      | none => False
      | some v => wpAny (model P.prog P.w) A (letOwnedTupleGo t (.ref It) v) (fun _ s₂ => wpAny (model P.prog P.w) A (assign t env v) (fun _ s₃ => wpAny (model P.prog P.w) A (execs body env) (fun f s₄ => match f with
        | .next | .cont => ∃ m, m < xs.length + 1 - i ∧ LInv P env.cells c fz oa s r t body wr J xs fl st' m s₄
        | .brk => Q .next s₄
        | .ret v => Q (.ret v) s₄) (notedBy (model P.prog P.w) A env fun e s' => RE e s') s₃) (notedBy (model P.prog P.w) A env fun e s' => RE e s') s₂) (notedBy (model P.prog P.w) A env fun e s' => RE e s') s₁) (it.turn (s := { s with heap := hh, toks := tk }) (E := notedBy (model P.prog P.w) A env fun e s' => RE e s') (f := fzi)
      (Q := fun v s₂ => wpAny (model P.prog P.w) A (assign t env v) (fun _ s₃ => wpAny (model P.prog P.w) A (execs body env) (fun f s₄ => match f with
        | .next | .cont => ∃ m, m < xs.length + 1 - i ∧ LInv P env.cells c fz oa s r t body wr J xs fl st' m s₄
        | .brk => Q .next s₄
        | .ret v => Q (.ret v) s₄) (notedBy (model P.prog P.w) A env fun e s' => RE e s') s₃) (notedBy (model P.prog P.w) A env fun e s' => RE e s') s₂)
      hx ji ki Si.fzh (fun b hb => (api b hb).fz) ?_) (fun r' s₁ hr => ?_) fun _ _ e => e
    · intro v g h1' tk1 j1 k1 hg hgn hgh hv
      have S1 : St P env.cells c g oai h1' sti := Si.extW api k1 hg hgn hgh
      have ap1 : ∀ b ∈ wr, Apart P g oai sti b := fun b hb => by
        have a := api b hb
        refine ⟨?_, a.oa, a.L, a.kp, a.n0, a.dk⟩
        cases q : g b with
        | none => rfl
        | some o =>
          rcases hgn b o q with q' | q'
          · rw [a.fz] at q'; cases q'
          · obtain ⟨o', e'⟩ := it.live _ _ ji b hb
            exact absurd (Heap.lt_size e') (Nat.not_lt.mpr q')
      have live := it.live _ _ j1
      have SH := S1.hold ap1 it.ne live
      refine hs.a (P := held P wr h1' g) h3 R I.hold B SH (.d hv) fun fz2 oa2 h2' tk2 S2 k2 q2 => ?_
      refine hs.b (P := held P wr h1' g) h4 R I.hold B S2 fun f fz3 oa3 h3' tk3 S3 k3 q3 rf => ?_
      obtain ⟨S4, ap4, kw⟩ := S1.unhold S3 ap1 it.ne live
      have kz := ki.trans (hg.trans (k2.trans k3))
      have oz := qi.trans (q2.trans q3)
      cases rf with
      | next =>
        refine ⟨xs.length + 1 - (i + 1), by omega, i + 1, st1, fz3, oa3, h3', tk3, rfl, S4, kz, oz, ?_, ap4, hlt, rfl, h2⟩
        exact it.frame _ _ _ j1 (fun b o e => S4.fzh b o (kz b o e)) kw
      | ret rv =>
        simp only [Option.some.injEq, Prod.mk.injEq] at h2
        obtain ⟨e1, e2⟩ := h2
        rw [← e2] at hQ
        rw [← e1] at hQ
        exact hQ _ fz3 oa3 h3' tk3 S4 kz oz (.ret rv)
    · cases r' with
      | none => exact hr.elim
      | some v => exact wpAny_mono hr (fun _ _ e => e) fun _ _ e => e
  · have hin : i = xs.length := by omega
    subst hin
    have hli' : some (Fl.next, sti) = some (fl, st') := by rw [← hli]; simp [loopF]
    simp only [Option.some.injEq, Prod.mk.injEq] at hli'
    obtain ⟨e1, e2⟩ := hli'
    refine wpAny_mono (Q := fun r s₁ => match r with
      | none => Q .next s₁
      | some _ => False) (it.done (s := { s with heap := hh, toks := tk }) (E := notedBy (model P.prog P.w) A env fun e s' => RE e s') (Q := fun s₁ => Q .next s₁) ji fun h1' tk1 k1 => ?_) (fun r' s₁ hr => ?_) fun _ _ e => e
    · have S1 : St P env.cells c fzi oai h1' sti := Si.extW api k1 (FLe.refl _) (fun _ _ e => .inl e) (fun b o e => k1 b o (fun hb => by rw [(api b hb).fz] at e; cases e) (Si.fzh b o e))
      rw [← e2] at hQ
      rw [← e1] at hQ
      exact hQ _ fzi oai h1' tk1 S1 ki qi .next
    · cases r' with
      | none => exact wpAny_execs_nil hr
      | some v => exact hr.elim

theorem for_ok (hs : Snd mg mb r n) {t iter : Expr} {body : List Stmt} {pos : Pos} {xs : List PyData} {st₁ : IS} {fl : Fl} {Q : Flow → Shared → Prop}
    (h : iterV r c iter st = some (xs, st₁)) (ht : tgtOk iter t = true) (hl : loopF (fun x st' => (r.a c t (.d x) st').bind fun st'' => r.b c body st'') xs st₁ = some (fl, st')) (R : Room n A) (I : EnvIs P c env) (B : Base P.hb mg mb)
    (S : St P env.cells c fz oa s.heap st) (hQ : PostB P env.cells c fz oa s st' fl Q) : wpAny (model P.prog P.w) A (exec (.For t iter body [] pos) env) Q E s := by
  have key := iterV_ok (E := E) (K := fun it s₂ => codeAny (model P.prog P.w) A (.forLoop t it body [] env) (fun r s' => match r with | .ok f => Q f s' | .error e => cameBackBy (model P.prog P.w) A env E e s') s₂) hs h ht R I B S ?_
  · exact wpAny_For key.1 key.2
  · intro It wr J fz1 oa1 h1 tk1 S1 k1 q1 it j0 ap
    exact loop_ok (s := { s with heap := h1, toks := tk1 }) hs hl R I B S1 it j0 ap fun f fz2 oa2 h2 tk2 S2 k2 q2 rf => hQ f fz2 oa2 h2 tk2 S2 (k1.trans k2) (q1.trans q2) rf
end
end Mine
namespace Mine
open PySem PySem.W PyProof.Rows PySem.Calls

noncomputable def closL (env : Env) : List (Str × NameKind) → List (Str × Addr) → List (Str × Addr)
  | [], acc => acc
  | (n, k) :: r, acc => closL env r (if k = .free then (n, (env.cells.lookup n).getD 0) :: acc else acc)

theorem clos_for {env : Env} (f : Str × NameKind → List (Str × Addr) → Sem (ForInStep (List (Str × Addr))))
    (hf : ∀ name kind cs, f (name, kind) cs = if kind == .free then (do let a ← cellOf env name; pure (.yield ((name, a) :: cs))) else pure (.yield cs)) :
    ∀ (names : List (Str × NameKind)) (acc : List (Str × Addr)), (∀ x ∈ names, x.2 = .free → (env.cells.lookup x.1).isSome = true) → forIn names acc f = pure (closL env names acc)
  | [], acc, _ => by rw [List.forIn_nil]; rfl
  | (n, k) :: r, acc, h => by
    rw [List.forIn_cons, hf]
    have hr : ∀ x ∈ r, x.2 = .free → (env.cells.lookup x.1).isSome = true := fun x hx => h x (List.mem_cons_of_mem _ hx)
    unfold closL
    by_cases hk : k = .free
    · subst hk
      obtain ⟨a, ha⟩ := Option.isSome_iff_exists.mp (h (n, .free) List.mem_cons_self rfl)
      have ha' : env.cells.lookup n = some a := ha
      have hc : cellOf env n = pure a := by unfold cellOf; rw [ha']
      rw [if_pos (by rfl), if_pos rfl, hc, ha']
      exact clos_for f hf r _ hr
    · have hb : (k == NameKind.free) = false := by simpa using hk
      rw [hb, if_neg hk]
      exact clos_for f hf r _ hr

theorem closureFor_is {scope : Scope} {env : Env} (h : ∀ x ∈ scope.names, x.2 = .free → (env.cells.lookup x.1).isSome = true) : closureFor scope env = pure (closL env scope.names []) := by
  simp only [closureFor]
  rw [clos_for (env := env) _ (fun name kind cs => by cases hk : (kind == NameKind.free) <;> simp [hk]) scope.names [] h]
  rfl

theorem closL_ok {env : Env} : ∀ (names : List (Str × NameKind)) (acc : List (Str × Addr)), (∀ x ∈ names, x.2 = .free → (env.cells.lookup x.1).isSome = true) → (∀ y b, (y, b) ∈ acc → env.cells.lookup y = some b) →
    (∀ y b, (y, b) ∈ closL env names acc → env.cells.lookup y = some b) ∧ (∀ p ∈ acc, p ∈ closL env names acc) ∧ ∀ x, (x, NameKind.free) ∈ names → ∃ b, (x, b) ∈ closL env names acc
  | [], acc, _, ha => ⟨ha, fun _ h => h, fun _ h => by cases h⟩
  | (n, k) :: r, acc, h, ha => by
    have hr : ∀ x ∈ r, x.2 = .free → (env.cells.lookup x.1).isSome = true := fun x hx => h x (List.mem_cons_of_mem _ hx)
    unfold closL
    by_cases hk : k = .free
    · subst hk
      obtain ⟨a, ha'⟩ := Option.isSome_iff_exists.mp (h (n, .free) List.mem_cons_self rfl)
      have ha2 : env.cells.lookup n = some a := ha'
      rw [if_pos rfl, ha2]
      obtain ⟨h1, h2, h3⟩ := closL_ok r ((n, a) :: acc) hr (fun y b hm => by
        rcases List.mem_cons.mp hm with e | hm
        · cases e; exact ha2
        · exact ha y b hm)
      refine ⟨h1, fun p hp => h2 p (List.mem_cons_of_mem _ hp), fun x hx => ?_⟩
      rcases List.mem_cons.mp hx with e | hx
      · cases e; exact ⟨a, h2 _ List.mem_cons_self⟩
      · exact h3 x hx
    · rw [if_neg hk]
      obtain ⟨h1, h2, h3⟩ := closL_ok r acc hr ha
      refine ⟨h1, h2, fun x hx => ?_⟩
      rcases List.mem_cons.mp hx with e | hx
      · cases e; exact absurd rfl hk
      · exact h3 x hx

theorem lookup_cons' {cs cl : List (Str × Addr)} (h : ∀ y b, (y, b) ∈ cl → cs.lookup y = some b) {x : Str} (hx : ∃ b, (x, b) ∈ cl) : cl.lookup x = cs.lookup x := by
  induction cl with
  | nil => obtain ⟨b, hb⟩ := hx; cases hb
  | cons p r ih =>
    obtain ⟨y, b⟩ := p
    rw [List.lookup_cons]
    cases hxy : x == y with
    | true =>
      have e : x = y := beq_iff_eq.mp hxy
      subst e
      exact (h x b List.mem_cons_self).symm
    | false =>
      obtain ⟨b', hb'⟩ := hx
      rcases List.mem_cons.mp hb' with e | hm
      · cases e; simp at hxy
      · exact ih (fun z d hz => h z d (List.mem_cons_of_mem _ hz)) ⟨b', hm⟩

section
variable {prog : Program} {w : World} {A : Around} {R : Result → Shared → Prop} {s : Shared}
/-- the block's loop, its own tuples let go -/
theorem compLoop_any {elt target iter : Expr} {ifs : List Expr} {scope : Scope} {pos : Pos} {it acc : Value} {env : Env} (I : Nat → Shared → Prop)
    (turn : ∀ n s, I n s → wpAny (model prog w) A (pyNext it) (fun r s₁ => match r with
      | none => R (.ok .next) s₁
      | some v => wpAny (model prog w) A (letOwnedTupleGo target it v) (fun _ s₁' => wpAny (model prog w) A (assign target env v) (fun _ s₂ =>
          wpAny (model prog w) A (forIn ifs true fun c r => if r = true then do let ok ← isTrue c env (eval c env); pure (ForInStep.yield ok) else pure (ForInStep.yield r)) (fun ok s₃ =>
            if ok = true then wpAny (model prog w) A (eval elt env) (fun x s₄ =>
              wpAny (model prog w) A (call (.builtin "list.append") [acc, x]) (fun _ s₅ => ∃ m, m < n ∧ I m s₅) (notedBy (model prog w) A env fun e s' => R (.error e) s') s₄) (notedBy (model prog w) A env fun e s' => R (.error e) s') s₃
            else ∃ m, m < n ∧ I m s₃) (notedBy (model prog w) A env fun e s' => R (.error e) s') s₂) (notedBy (model prog w) A env fun e s' => R (.error e) s') s₁') (notedBy (model prog w) A env fun e s' => R (.error e) s') s₁) (notedBy (model prog w) A env fun e s' => R (.error e) s') s)
    (n : Nat) (h : I n s) : codeAny (model prog w) A (.compLoop (.ListComp elt [⟨target, iter, ifs, 0⟩] scope pos) 0 it acc env) R s := by
  refine codeAny_loop rfl I (fun n s hI => ?_) n h
  show wpAny _ A ((compTurn (.ListComp elt [⟨target, iter, ifs, 0⟩] scope pos) 0 it acc env).onRaise (fun x => do noteFrame x env; theTreesLotGoes x)) _ _ s
  refine wpAny_noted ?_
  rw [compTurn_list]
  refine wpAny_bind (wpAny_standAt (wpAny_bind (wpAny_mono (turn n s hI) (fun r s₁ h₁ => ?_) fun _ _ h' => h')))
  cases r with
  | none => exact wpAny_pure h₁
  | some v =>
    refine wpAny_bind (wpAny_mono h₁ (fun _ s₁' h₁' => ?_) fun _ _ h' => h')
    refine wpAny_bind (wpAny_mono h₁' (fun _ s₂ h₂ => wpAny_bind (wpAny_mono h₂ (fun ok s₃ h₃ => ?_) fun _ _ h' => h')) fun _ _ h' => h')
    cases ok with
    | false => exact wpAny_pure ⟨rfl, h₃⟩
    | true =>
      exact wpAny_bind (wpAny_bind (wpAny_mono h₃ (fun x s₄ h₄ => wpAny_bind (wpAny_mono h₄ (fun _ s₅ h₅ => wpAny_pure (wpAny_pure ⟨rfl, h₅⟩)) fun _ _ h' => h')) fun _ _ h' => h'))
end

section
variable {mg mb : Str → Option Value} {r : Ev} {n : Nat} {P : Pm} {A : Around} {env : Env} {E : Value → Shared → Prop} {s : Shared} {fz : Fz} {oa : List Addr} {c : FC} {st st' : IS} {h h' : Heap} {cl : List (Str × Addr)}

/-- as extW, the ghost growing by what lies apart -/
theorem St.extA (S : St P cl c fz oa h st) {g : Fz} {wr : List Addr} (ap : ∀ b ∈ wr, Apart P fz oa st b) (k : ∀ b o, b ∉ wr → h.get? b = some o → h'.get? b = some o) (hg : FLe fz g) (hn : ∀ b o, g b = some o → fz b = some o ∨ Apart P fz oa st b)
    (hh : ∀ b o, g b = some o → h'.get? b = some o) : St P cl c g oa h' st where
  top := fun b o e => hg _ _ (S.top b o e)
  fzh := hh
  keep := fun b o e => k _ _ (fun hm => by rw [(ap b hm).kp] at e; cases e) (S.keep b o e)
  grow := S.grow.trans hg
  new := fun b o e => (hn b o e).elim (S.new b o) fun q => .inr q.n0
  base := S.base
  fresh := S.fresh
  fresh2 := S.fresh2
  fzL := by
    cases e : g P.L with
    | none => rfl
    | some o => exact ((hn _ _ e).elim (fun q => by rw [S.fzL] at q; cases q) fun q => absurd rfl q.L)
  vars := let ⟨m, hn', hv⟩ := S.vars; ⟨m, (let ⟨o, es, ep, ho, rr⟩ := hn'; ⟨o, es, ep, k _ _ (fun hm => (ap _ hm).L rfl) ho, rr⟩), fun x v e => let ⟨u, h1, h2⟩ := hv x v e; ⟨u, h1, h2.mono hg (OLe.refl _)⟩⟩
  cells := fun x v hx e => let ⟨a, u, o, h1, h2, h3, h4⟩ := S.cells x v hx e; ⟨a, u, o, h1, hg _ _ h2, h3, h4.mono hg⟩
  len := S.len
  own := fun i a e => by
    obtain ⟨h1, h2, h3, items, n, vs, h4, h5, h6⟩ := S.own i a e
    refine ⟨?_, h2, h3, items, n, vs, k _ _ (fun hm => (ap _ hm).oa (List.mem_of_getElem? e)) h4, h5, h6.mono hg (OLe.refl _)⟩
    cases e' : g a with
    | none => rfl
    | some o => exact ((hn _ _ e').elim (fun q => by rw [h1] at q; cases q) fun q => absurd (List.mem_of_getElem? e) q.oa)
  nodup := S.nodup
  deck := fun l m e => by
    obtain ⟨d, h1, h2, rr⟩ := S.deck l m e
    refine ⟨d.at (fun o => k _ o fun hm => ((ap _ hm).dk l m e).1 rfl) (fun o => k _ o fun hm => ((ap _ hm).dk l m e).2 rfl), ?_, ?_, rr⟩
    · cases e' : g P.da with
      | none => rfl
      | some o => exact ((hn _ _ e').elim (fun q => by rw [h1] at q; cases q) fun q => absurd rfl (q.dk l m e).1)
    · cases e' : g P.la with
      | none => rfl
      | some o => exact ((hn _ _ e').elim (fun q => by rw [h2] at q; cases q) fun q => absurd rfl (q.dk l m e).2)

theorem Apart.up {g : Fz} {b : Addr} (a : Apart P fz oa st b) (h : g b = none) : Apart P g oa st b := ⟨h, a.oa, a.L, a.kp, a.n0, a.dk⟩

/-- the block's own ground -/
noncomputable def inner (P : Pm) (C : Addr) (h : Heap) (g : Fz) : Pm := { prog := P.prog, w := P.w, hb := P.hb, kp := fun b => if b = C then none else h.get? b, L := C, da := P.da, la := P.la, f0 := g, n0 := C + 1, m0 := 0 }

theorem blank_none {scope : Scope} {x : Str} {v : V} (h : getV (blank scope).vars x = some v) : False := by
  unfold blank at h
  dsimp only at h
  generalize scope.names = l at h
  induction l with
  | nil => simp [getV] at h
  | cons p r ih =>
    obtain ⟨y, k⟩ := p
    simp only [List.map_cons, getV] at h
    split at h
    · cases h
    · exact ih h

theorem St.inner {C : Addr} {m : Str → Option Value} {scope : Scope} {c' : FC} {cl' : List (Str × Addr)} (S : St P cl c fz oa h st) (hC : h.Ns C m) (fC : fz C = none)
    (hcells : ∀ x v, (c'.sc.names.lookup x = some .cell ∨ c'.sc.names.lookup x = some .free) → c'.cells.lookup x = some v → ∃ a u o, cl'.lookup x = some a ∧ fz a = some o ∧ o.data = .cell (some u) ∧ RD fz u v) :
    St (inner P C h fz) cl' c' fz [] h (blank scope) where
  top := S.top
  fzh := S.fzh
  keep := fun b o e => by
    by_cases hb : b = C
    · simp [Mine.inner, hb] at e
    · simpa [Mine.inner, hb] using e
  grow := FLe.refl _
  new := fun b o e => .inl e
  base := by simp [Mine.inner]
  fresh := .inl (Nat.le_refl _)
  fresh2 := Nat.zero_le _
  fzL := fC
  vars := ⟨m, hC, fun x v e => (blank_none e).elim⟩
  cells := hcells
  len := rfl
  own := fun k a e => by simp at e
  nodup := List.nodup_nil
  deck := fun l m e => by cases e

end
end Mine
namespace Mine
open PySem PySem.W PyProof.Rows PySem.Calls
section
variable {mg mb : Str → Option Value} {r : Ev} {n : Nat} {P : Pm} {A : Around} {env : Env} {E : Value → Shared → Prop} {s : Shared} {fz : Fz} {oa : List Addr} {c : FC} {st st' : IS} {h h' : Heap} {cl : List (Str × Addr)}

theorem iterV_size {x : Expr} {xs : List PyData} (h : iterV r c x st = some (xs, st')) : xs.length ≤ sizeLine := by
  unfold iterV at h
  split at h
  · split at h
    · obtain ⟨⟨vs, st1⟩, h1, h⟩ := Option.bind_eq_some_iff.mp h
      obtain ⟨ys, h2, h⟩ := Option.bind_eq_some_iff.mp h
      split at h
      · rename_i hz; cases h; exact sizeOk_le hz
      · cases h
    · cases h
  · split at h
    · split at h
      · obtain ⟨⟨vs, st1⟩, h1, h⟩ := Option.bind_eq_some_iff.mp h
        obtain ⟨ys, h2, h⟩ := Option.bind_eq_some_iff.mp h
        split at h
        · rename_i hz; cases h; rw [enumL_length]; exact sizeOk_le hz
        · cases h
      · cases h
    · obtain ⟨⟨vs, st1⟩, h1, h⟩ := Option.bind_eq_some_iff.mp h
      obtain ⟨ys, h2, h⟩ := Option.bind_eq_some_iff.mp h
      split at h
      · rename_i hz; cases h; exact sizeOk_le hz
      · cases h

structure CompOk (c : FC) (scope : Scope) : Prop where
  kind : scope.kind = .function
  cell : ∀ x ∈ scope.names, x.2 ≠ .cell
  free : ∀ x ∈ scope.names, x.2 = .free → c.sc.names.lookup x.1 = some .cell ∧ (c.cells.lookup x.1).isSome = true
  loc : ∀ x ∈ scope.names, x.2 = .local → scope.names.lookup x.1 = some .local
theorem CompOk.of {scope : Scope} {t : Expr} (h : compOk c scope t = true) : CompOk c scope := by
  unfold compOk at h
  simp only [Bool.and_eq_true, decide_eq_true_eq, List.all_eq_true] at h
  exact ⟨h.1.1.1, h.1.1.2, h.1.2, h.2⟩

theorem CompOk.isSome {scope : Scope} (k : CompOk c scope) (S : St P env.cells c fz oa h st) : ∀ x ∈ scope.names, x.2 = .free → (env.cells.lookup x.1).isSome = true := fun x hx hf => by
  obtain ⟨h1, h2⟩ := k.free x hx hf
  obtain ⟨v, hv⟩ := Option.isSome_iff_exists.mp h2
  obtain ⟨a, u, o, e1, _⟩ := S.cells _ v (.inl h1) hv
  rw [e1]; rfl

theorem lookup_map {f : Str × NameKind → Str × NameKind} (hf : ∀ p, (f p).1 = p.1) : ∀ {l : List (Str × NameKind)} {x : Str} {k : NameKind}, (l.map f).lookup x = some k → ∃ k', (x, k') ∈ l ∧ (f (x, k')).2 = k
  | [], x, k, h => by simp at h
  | p :: r, x, k, h => by
    have e : f p = (p.1, (f p).2) := Prod.ext (hf p) rfl
    rw [List.map_cons, e, List.lookup_cons] at h
    cases hx : x == p.1 with
    | true =>
      rw [hx] at h
      have e2 : x = p.1 := beq_iff_eq.mp hx
      refine ⟨p.2, ?_, ?_⟩
      · rw [e2]; exact List.mem_cons_self
      · rw [e2]; exact Option.some.inj h
    | false =>
      rw [hx] at h
      obtain ⟨k', h1, h2⟩ := lookup_map hf h
      exact ⟨k', List.mem_cons_of_mem _ h1, h2⟩

theorem CompOk.cells {scope : Scope} (k : CompOk c scope) (S : St P env.cells c fz oa h st) {g : Fz} (hg : FLe fz g) : ∀ x v, ((compScope c scope).names.lookup x = some .cell ∨ (compScope c scope).names.lookup x = some .free) → c.cells.lookup x = some v →
    ∃ a u o, (closL env scope.names []).lookup x = some a ∧ g a = some o ∧ o.data = .cell (some u) ∧ RD g u v := by
  intro x v hx hv
  have hfree : (x, NameKind.free) ∈ scope.names := by
    have key : ∀ kk, (compScope c scope).names.lookup x = some kk → (kk = .cell ∨ kk = .free) → (x, NameKind.free) ∈ scope.names := by
      intro kk hk hkk
      unfold compScope relabel at hk
      obtain ⟨k', h1, h2⟩ := lookup_map (fun p => by obtain ⟨a, b⟩ := p; dsimp only; split <;> rfl) hk
      dsimp only at h2
      split at h2
      · rename_i hc
        have : k' = .free := by
          simp only [Bool.and_eq_true, beq_iff_eq] at hc
          exact hc.1.1
        rw [this] at h1; exact h1
      · rcases hkk with rfl | rfl
        · exact absurd h2 (k.cell _ h1)
        · have : k' = .free := h2
          rw [this] at h1; exact h1
    rcases hx with hx | hx
    · exact key _ hx (.inl rfl)
    · exact key _ hx (.inr rfl)
  obtain ⟨h1, _⟩ := k.free _ hfree rfl
  obtain ⟨a, u, o, e1, e2, e3, e4⟩ := S.cells x v (.inl h1) hv
  obtain ⟨q1, _, q3⟩ := closL_ok (env := env) scope.names [] (k.isSome S) (fun _ _ hm => by cases hm)
  exact ⟨a, u, o, by rw [lookup_cons' q1 (q3 x hfree)]; exact e1, hg _ _ e2, e3, e4.mono hg⟩

theorem ar1 {b D C : Nat} (h : b < D) (e : C = D + 1) : b ≠ C := by omega
theorem ar2 {D C : Nat} (e : C = D + 1) : D ≠ C := by omega
theorem ar3 {D C : Nat} (e : C = D + 1) : ¬ (C < D) := by omega
theorem ar4 {D C : Nat} (e : C = D + 1) : D ≤ C := by omega
theorem ar5 {D C b : Nat} (e : C = D + 1) (h : C + 1 ≤ b) : D ≤ b := by omega
theorem ar6 {D C b : Nat} (e : C = D + 1) (h : b < D) : b ≤ C := by omega

noncomputable def CInv (P : Pm) (cl : List (Str × Addr)) (c : FC) (fz : Fz) (oa : List Addr) (st : IS) (s : Shared) (D C : Addr) (wr : List Addr) (J : Nat → Heap → Prop) (step : PyData → Option (Option PyData)) (xs ys : List PyData) (k : Nat) (s' : Shared) : Prop :=
  ∃ i hh tk g items nn zs rest m, s' = { s with heap := hh, toks := tk } ∧ St P cl c g oa hh st ∧ FLe fz g ∧ J i hh ∧ hh.Ns C m ∧ hh.get? D = some (lstObj items nn) ∧ RDs g items.toList zs ∧ (∀ b ∈ wr, Apart P g oa st b) ∧ Apart P g oa st C ∧ Apart P g oa st D ∧
    i ≤ xs.length ∧ k = xs.length + 1 - i ∧ zs.length ≤ i ∧ compL step (xs.drop i) = some rest ∧ ys = zs ++ rest

theorem comp_core (hs : Snd mg mb r n) {elt target iter : Expr} {ifs : List Expr} {scope : Scope} {pos : Pos} {It : Addr} {wr : List Addr} {J : Nat → Heap → Prop} {xs ys : List PyData} {RR : Value → Addr → Result → Shared → Prop}
    (hk : CompOk c scope) (hy : compL (compStep r ⟨compScope c scope, c.cells⟩ scope target ifs elt) xs = some ys) (hz : xs.length ≤ sizeLine) (R : Room n A) (I : EnvIs P c env) (B : Base P.hb mg mb)
    (S : St P env.cells c fz oa s.heap st) (it : Itr P.prog P.w A target It wr fz xs J) (j0 : J 0 s.heap) (ap : ∀ b ∈ wr, Apart P fz oa st b)
    (hRR : ∀ D C h' tk' m g items nn, h'.Ns C m → h'.get? D = some (lstObj items nn) → RDs g items.toList ys → St P env.cells c g oa h' st → FLe fz g → Apart P g oa st D → Apart P g oa st C → C ≠ D → RR (.ref D) C (.ok .next) { s with heap := h', toks := tk' }) :
    wpAny (model P.prog P.w) A (newList []) (fun acc s₃ => wpAny (model P.prog P.w) A (newFunctionEnv scope env.globals (closL env scope.names []) [] env.qual none .none (some env)) (fun cenv s₄ =>
      codeAny (model P.prog P.w) A (.compStart (.ListComp elt [⟨target, iter, ifs, 0⟩] scope pos) 0 (.ref It) acc { cenv with scope := relabel scope env }) (RR acc cenv.locals) s₄) E s₃) E s := by
  refine wpAny_newObj_type (wpAny_newFunctionEnv hk.cell (by intro y hy; simp at hy) (fun h₁ hns₁ hsb₁ => ?_) hk.kind) (by show (0 : Nat) ≤ sizeLine; exact Nat.zero_le _)
  dsimp only at hns₁ hsb₁ ⊢
  generalize hD : s.heap.objs.size = D at hns₁ hsb₁ ⊢
  generalize hH2 : s.heap.push { cls := .type "list", dict := none, data := .seq ([] : List Value).toArray } = H2 at hns₁ hsb₁ ⊢
  generalize hC : H2.objs.size = C at hns₁ hsb₁ ⊢
  have hCD : C = D + 1 := by rw [← hC, ← hH2, Heap.size_push, hD]
  have old : ∀ b o, s.heap.get? b = some o → h₁.get? b = some o := fun b o e => by
    have hb : b < D := by rw [← hD]; exact Heap.lt_size e
    exact hsb₁.extBut b o (ar1 hb hCD) (Heap.get?_push_of_some _ (hH2 ▸ Heap.get?_push_of_some _ e))
  have hDacc : h₁.get? D = some (lstObj #[] 0) := by
    refine hsb₁.extBut _ _ (ar2 hCD) (Heap.get?_push_of_some _ ?_)
    rw [← hH2, ← hD]; exact Heap.get?_push_size _ rfl
  have S₁ : St P env.cells c fz oa h₁ st := S.ext old
  have apN : ∀ b, D ≤ b → Apart P fz oa st b := fun b hb => S.apart (by rw [hD]; exact hb)
  have wrlt : ∀ b ∈ wr, b < D := fun b hb => by obtain ⟨o, e⟩ := it.live _ _ j0 b hb; rw [← hD]; exact Heap.lt_size e
  have j₁ : J 0 h₁ := it.frame _ _ _ j0 (fun b o e => S₁.fzh b o e) fun b _ o e => old b o e
  have IC : ∀ hh g, EnvIs (inner P C hh g) ⟨compScope c scope, c.cells⟩ (compEnvC scope (closL env scope.names []) C env) := fun hh g =>
    ⟨by show relabel scope env = relabel scope { (default : Env) with scope := c.sc }; rw [← I.scope]; rfl, hk.kind, rfl, I.globals, I.builtins⟩
  have loop : ∀ s₃ : Shared, s₃ = { s with heap := h₁, toks := s.toks + ([] : List (Str × Value)).length } →
      codeAny (model P.prog P.w) A (.compLoop (.ListComp elt [⟨target, iter, ifs, 0⟩] scope pos) 0 (.ref It) (.ref D) (compEnvC scope (closL env scope.names []) C env)) (RR (.ref D) C) s₃ := by
    rintro s₃ rfl
    refine compLoop_any (CInv P env.cells c fz oa st s D C wr J (compStep r ⟨compScope c scope, c.cells⟩ scope target ifs elt) xs ys) ?_ (xs.length + 1)
      ⟨0, h₁, _, fz, #[], 0, [], ys, _, rfl, S₁, FLe.refl _, j₁, hns₁, hDacc, .nil, ap, apN C (ar4 hCD), apN D (Nat.le_refl _), Nat.zero_le _, by simp, Nat.le_refl _, by simpa using hy, by simp⟩
    rintro k s' ⟨i, hh, tk, g, items, nn, zs, rest, m, rfl, Si, kg, ji, hnsC, hDi, rz, api, apC, apD, hi, rfl, hzl, hrest, rfl⟩
    generalize hE' : (notedBy (model P.prog P.w) A (compEnvC scope (closL env scope.names []) C env) fun e s' => RR (.ref D) C (.error e) s') = E'
    by_cases hlt : i < xs.length
    · have hx : xs[i]? = some xs[i] := List.getElem?_eq_getElem hlt
      have hd : xs.drop i = xs[i] :: xs.drop (i + 1) := List.drop_eq_getElem_cons hlt
      rw [hd] at hrest
      obtain ⟨oy, h1, hrest⟩ := Option.bind_eq_some_iff.mp (show (compStep r ⟨compScope c scope, c.cells⟩ scope target ifs elt xs[i]).bind _ = _ from hrest)
      obtain ⟨rest', h2, hrest⟩ := Option.bind_eq_some_iff.mp hrest
      cases hrest
      obtain ⟨sta, h3, h1⟩ := Option.bind_eq_some_iff.mp h1
      obtain ⟨⟨ok, stt⟩, h4, h1⟩ := Option.bind_eq_some_iff.mp h1
      refine wpAny_mono (Q := fun r₀ s₁ => match r₀ with
        | none => False
        | some v => wpAny (model P.prog P.w) A (letOwnedTupleGo target (.ref It) v) (fun _ s₂ => wpAny (model P.prog P.w) A (assign target (compEnvC scope (closL env scope.names []) C env) v) (fun _ s₂ =>
          wpAny (model P.prog P.w) A (forIn ifs true fun c r => if r = true then do let ok ← isTrue c (compEnvC scope (closL env scope.names []) C env) (eval c (compEnvC scope (closL env scope.names []) C env)); pure (ForInStep.yield ok) else pure (ForInStep.yield r)) (fun ok s₃ =>
            if ok = true then wpAny (model P.prog P.w) A (eval elt (compEnvC scope (closL env scope.names []) C env)) (fun x s₄ =>
              wpAny (model P.prog P.w) A (call (.builtin "list.append") [.ref D, x]) (fun _ s₅ => ∃ m, m < xs.length + 1 - i ∧ CInv P env.cells c fz oa st s D C wr J (compStep r ⟨compScope c scope, c.cells⟩ scope target ifs elt) xs (zs ++ (oy.toList ++ rest')) m s₅) E' s₄) E' s₃
            else ∃ m, m < xs.length + 1 - i ∧ CInv P env.cells c fz oa st s D C wr J (compStep r ⟨compScope c scope, c.cells⟩ scope target ifs elt) xs (zs ++ (oy.toList ++ rest')) m s₃) E' s₂) E' s₂) E' s₁)
        (it.turn (s := { s with heap := hh, toks := tk }) (E := E') (f := g) (Q := fun v s₂ => wpAny (model P.prog P.w) A (assign target (compEnvC scope (closL env scope.names []) C env) v) (fun _ s₂ =>
          wpAny (model P.prog P.w) A (forIn ifs true fun c r => if r = true then do let ok ← isTrue c (compEnvC scope (closL env scope.names []) C env) (eval c (compEnvC scope (closL env scope.names []) C env)); pure (ForInStep.yield ok) else pure (ForInStep.yield r)) (fun ok s₃ =>
            if ok = true then wpAny (model P.prog P.w) A (eval elt (compEnvC scope (closL env scope.names []) C env)) (fun x s₄ =>
              wpAny (model P.prog P.w) A (call (.builtin "list.append") [.ref D, x]) (fun _ s₅ => ∃ m, m < xs.length + 1 - i ∧ CInv P env.cells c fz oa st s D C wr J (compStep r ⟨compScope c scope, c.cells⟩ scope target ifs elt) xs (zs ++ (oy.toList ++ rest')) m s₅) E' s₄) E' s₃
            else ∃ m, m < xs.length + 1 - i ∧ CInv P env.cells c fz oa st s D C wr J (compStep r ⟨compScope c scope, c.cells⟩ scope target ifs elt) xs (zs ++ (oy.toList ++ rest')) m s₃) E' s₂) E' s₂)
          hx ji kg Si.fzh (fun b hb => (api b hb).fz) ?_) (fun r' s₁ hr => ?_) fun _ _ e => e
      · intro v g₁ h1' tk1 j1 k1 hg hgn hgh hv
        have S1 : St P env.cells c g₁ oa h1' st := Si.extW api k1 hg hgn hgh
        have sizeC : C < hh.objs.size := hnsC.lt
        have gC : ∀ b, b ≤ C → g b = none → g₁ b = none := fun b hb e => by
          cases q : g₁ b with
          | none => rfl
          | some o =>
            rcases hgn b o q with q' | q'
            · rw [e] at q'; cases q'
            · exact absurd (Nat.lt_of_le_of_lt hb sizeC) (Nat.not_lt.mpr q')
        have hCw : C ∉ wr := fun hm => ar3 hCD (wrlt C hm)
        have hDw : D ∉ wr := fun hm => Nat.lt_irrefl _ (wrlt D hm)
        have nsC1 : ∃ m, h1'.Ns C m := ⟨m, let ⟨o, es, ep, ho, rr⟩ := hnsC; ⟨o, es, ep, k1 _ _ hCw ho, rr⟩⟩
        obtain ⟨m1, nsC1⟩ := nsC1
        have D1 : h1'.get? D = some (lstObj items nn) := k1 _ _ hDw hDi
        have fC : g₁ C = none := gC C (Nat.le_refl _) apC.fz
        have SI : St (inner P C h1' g₁) (closL env scope.names []) ⟨compScope c scope, c.cells⟩ g₁ [] h1' (blank scope) := S1.inner nsC1 fC (hk.cells S (kg.trans hg))
        -- back to the frame, after the block's turn
        have back : ∀ {fz2 : Fz} {oa2 : List Addr} {h2' : Heap} {st2 : IS}, St (inner P C h1' g₁) (closL env scope.names []) ⟨compScope c scope, c.cells⟩ fz2 oa2 h2' st2 → FLe g₁ fz2 →
            St P env.cells c fz2 oa h2' st ∧ J (i + 1) h2' ∧ (∃ m, h2'.Ns C m) ∧ h2'.get? D = some (lstObj items nn) ∧ (∀ b ∈ wr, Apart P fz2 oa st b) ∧ Apart P fz2 oa st C ∧ Apart P fz2 oa st D := by
          intro fz2 oa2 h2' st2 S2 k2
          have kk : ∀ b o, b ≠ C → h1'.get? b = some o → h2'.get? b = some o := fun b o hb e => S2.keep b o (by simpa [inner, hb] using e)
          have fresh : ∀ b o, fz2 b = some o → g₁ b = some o ∨ C + 1 ≤ b := fun b o e => S2.new b o e
          have low : ∀ b, b ≤ C → g₁ b = none → fz2 b = none := fun b hb e => by
            cases q : fz2 b with
            | none => rfl
            | some o =>
              rcases fresh b o q with q' | q'
              · rw [e] at q'; cases q'
              · exact absurd (Nat.le_trans q' hb) (Nat.not_succ_le_self _)
          have S3 : St P env.cells c fz2 oa h2' st := by
            refine S1.extA (wr := [C]) (fun b hb => by rw [List.mem_singleton.mp hb]; exact apC.up fC) (fun b o hb e => kk b o (by simpa using hb) e) k2 (fun b o e => ?_) S2.fzh
            cases q : g₁ b with
            | some o' => have := k2 b o' q; rw [this] at e; cases e; exact .inl rfl
            | none =>
              rcases fresh b o e with q' | q'
              · rw [q] at q'; cases q'
              · exact .inr ((apN b (ar5 hCD q')).up q)
          refine ⟨S3, ?_, ?_, kk _ _ (ar2 hCD) D1, ?_, ?_, ?_⟩
          · exact it.frame _ _ _ j1 (fun b o e => S3.fzh b o ((kg.trans (hg.trans k2)) b o e)) fun b hb o e => kk b o (fun q => hCw (q ▸ hb)) e
          · obtain ⟨m2, hm2, _⟩ := S2.vars; exact ⟨m2, hm2⟩
          · intro b hb
            have := wrlt b hb
            exact (api b hb).up (low b (ar6 hCD this) (gC b (ar6 hCD this) (api b hb).fz))
          · exact apC.up (low C (Nat.le_refl _) fC)
          · exact apD.up (low D (ar4 hCD) (gC D (ar4 hCD) apD.fz))
        refine hs.a (P := inner P C h1' g₁) h3 R (IC _ _) B SI (.d hv) fun fz2 oa2 h2' tk2 S2 k2 q2 => ?_
        have tests : ∀ {Q : Bool → Shared → Prop}, PostT (inner P C h1' g₁) (closL env scope.names []) ⟨compScope c scope, c.cells⟩ fz2 oa2 { s with heap := h2', toks := tk2 } stt ok Q →
            wpAny (model P.prog P.w) A (forIn ifs true fun c r => if r = true then do let ok ← isTrue c (compEnvC scope (closL env scope.names []) C env) (eval c (compEnvC scope (closL env scope.names []) C env)); pure (ForInStep.yield ok) else pure (ForInStep.yield r)) Q E' { s with heap := h2', toks := tk2 } := by
          intro Q hQ
          unfold testsE at h4
          split at h4
          · cases h4
            exact wpAny_tests_nil (hQ fz2 oa2 h2' tk2 S2 (FLe.refl _) (OLe.refl _))
          · exact wpAny_tests_one (hs.t (P := inner P C h1' g₁) h4 R (IC _ _) B S2 hQ)
          · cases h4
        refine tests fun fz3 oa3 h3' tk3 S3 k3 q3 => ?_
        cases ok with
        | false =>
          simp only [Bool.false_eq_true, if_false, Option.some.injEq] at h1 ⊢
          subst h1
          obtain ⟨S4, j4, ⟨m4, ns4⟩, D4, ap4, apC4, apD4⟩ := back S3 (k2.trans k3)
          exact ⟨xs.length + 1 - (i + 1), by omega, i + 1, h3', tk3, fz3, items, nn, zs, rest', m4, rfl, S4, kg.trans (hg.trans (k2.trans k3)), j4, ns4, D4, rz.mono (hg.trans (k2.trans k3)), ap4, apC4, apD4, hlt, rfl, by omega, h2, by simp⟩
        | true =>
          simp only [if_true] at h1 ⊢
          obtain ⟨⟨vy, sty⟩, h5, h1⟩ := Option.bind_eq_some_iff.mp h1
          have hyv : ∃ yv, vy = .d yv ∧ oy = some yv := by
            dsimp only at h1
            split at h1
            · cases h1; exact ⟨_, rfl, rfl⟩
            · cases h1
          obtain ⟨yv, rfl, rfl⟩ := hyv
          refine hs.e (P := inner P C h1' g₁) h5 R (IC _ _) B S3 fun u fz4 oa4 h4' tk4 S4 k4 q4 r4 => ?_
          obtain ⟨S5, j5, ⟨m5, ns5⟩, D5, ap5, apC5, apD5⟩ := back S4 (k2.trans (k3.trans k4))
          have kz := hg.trans (k2.trans (k3.trans k4))
          have rz5 := rz.mono kz
          refine append_at (n := nn) D5 (fun h6 hs6 D6 => ?_) ?_
          · cases r4 with
            | d r4 =>
              refine ⟨xs.length + 1 - (i + 1), by omega, i + 1, h6, tk4, fz4, items.push u, nn + 1, zs ++ [yv], rest', m5, rfl, ?_, kg.trans kz, ?_, ns5.sameBut hs6 (Ne.symm (ar2 hCD)), D6, ?_, ap5, apC5, apD5, hlt, rfl, ?_, h2, by simp [List.append_assoc]⟩
              · exact S5.extW (wr := [D]) (fun b hb => by rw [List.mem_singleton.mp hb]; exact apD5) (fun b o hb e => hs6.extBut b o (by simpa using hb) e) (FLe.refl _) (fun _ _ e => .inl e)
                  (fun b o e => hs6.extBut b o (fun q => by rw [q, apD5.fz] at e; cases e) (S5.fzh b o e))
              · exact it.frame _ _ _ j5 (fun b o e => by
                  have e' := (kg.trans kz) b o e
                  exact hs6.extBut b o (fun q => by rw [q, apD5.fz] at e'; cases e') (S5.fzh b o e')) fun b hb o e => hs6.extBut b o (fun q => hDw (q ▸ hb)) e
              · simpa using rz5.snoc r4
              · rw [List.length_append, List.length_singleton]; omega
          · have := rz.length
            rw [Array.length_toList] at this
            omega
      · cases r' with
        | none => exact hr.elim
        | some v => exact wpAny_mono hr (fun _ _ e => e) fun _ _ e => e
    · have hin : i = xs.length := by omega
      subst hin
      have hrest' : rest = [] := by simpa [compL] using hrest.symm
      subst hrest'
      refine wpAny_mono (Q := fun r₀ s₁ => match r₀ with
        | none => RR (.ref D) C (.ok .next) s₁
        | some _ => False) (it.done (s := { s with heap := hh, toks := tk }) (E := E') (Q := fun s₁ => RR (.ref D) C (.ok .next) s₁) ji fun h1' tk1 k1 => ?_) (fun r' s₁ hr => ?_) fun _ _ e => e
      · have S1 : St P env.cells c g oa h1' st := Si.extW api k1 (FLe.refl _) (fun _ _ e => .inl e) (fun b o e => k1 b o (fun hb => by rw [(api b hb).fz] at e; cases e) (Si.fzh b o e))
        have hCw : C ∉ wr := fun hm => ar3 hCD (wrlt C hm)
        have hDw : D ∉ wr := fun hm => Nat.lt_irrefl _ (wrlt D hm)
        refine hRR D C h1' tk1 m g items nn (let ⟨o, es, ep, ho, rr⟩ := hnsC; ⟨o, es, ep, k1 _ _ hCw ho, rr⟩) (k1 _ _ hDw hDi) (by simpa using rz) S1 kg apD apC (Ne.symm (ar2 hCD))
      · cases r' with
        | none => exact hr
        | some v => exact hr.elim
  exact codeAny_compStart_list (loop _ rfl) (it.self j₁ (loop _ rfl))
end
end Mine
namespace Mine
open PySem PySem.W PyProof.Rows PySem.Calls
section
variable {mg mb : Str → Option Value} {r : Ev} {n : Nat} {P : Pm} {A : Around} {env : Env} {E : Value → Shared → Prop} {s : Shared} {fz : Fz} {oa : List Addr} {c : FC} {st st' : IS} {h h' : Heap} {cl : List (Str × Addr)}

/-- the block's list, at its end, frozen -/
theorem St.freezeD {D C : Addr} {items : Array Value} {nn : Nat} {ys : List PyData} {h2 : Heap} (S : St P cl c fz oa h st) (hD : h.get? D = some (lstObj items nn)) (rd : RDs fz items.toList ys) (aD : Apart P fz oa st D) (aC : Apart P fz oa st C) (hCD : C ≠ D)
    (hs : Heap.SameBut C h h2) : St P cl c (updF fz D (lstObj items nn)) oa h2 st ∧ FLe fz (updF fz D (lstObj items nn)) ∧ RV (updF fz D (lstObj items nn)) oa P.da P.la (.ref D) (.d (.list ys)) := by
  have le := updF_le (o := lstObj items nn) aD.fz
  refine ⟨S.extA (wr := [C]) (fun b hb => by rw [List.mem_singleton.mp hb]; exact aC) (fun b o hb e => hs.extBut b o (by simpa using hb) e) le (fun b o e => ?_) (fun b o e => ?_), le, .d (.list (updF_self _ _ _) (rd.mono le))⟩
  · unfold updF at e
    by_cases hb : b = D
    · exact .inr (hb ▸ aD)
    · rw [if_neg hb] at e; exact .inl e
  · unfold updF at e
    by_cases hb : b = D
    · rw [if_pos hb] at e; cases e; subst hb; exact hs.extBut _ _ (Ne.symm hCD) hD
    · rw [if_neg hb] at e; exact hs.extBut _ _ (fun q => by rw [q, aC.fz] at e; cases e) (S.fzh _ _ e)

theorem comp_ok (hs : Snd mg mb r n) {elt target iter : Expr} {ifs : List Expr} {scope : Scope} {pos : Pos} {ys : List PyData} {Q : Value → Shared → Prop} (h : compV r c elt target iter ifs scope st = some (ys, st')) (R : Room n A) (I : EnvIs P c env) (B : Base P.hb mg mb)
    (S : St P env.cells c fz oa s.heap st) (hQ : PostE P env.cells c fz oa s st' (.d (.list ys)) Q) : wpAny (model P.prog P.w) A (eval (.ListComp elt [⟨target, iter, ifs, 0⟩] scope pos) env) Q E s := by
  unfold compV at h
  split at h
  case isFalse => cases h
  rename_i hok
  obtain ⟨hok, htgt⟩ := Bool.and_eq_true_iff.mp hok
  have hk := CompOk.of hok
  obtain ⟨⟨xs, st1⟩, h1, h⟩ := Option.bind_eq_some_iff.mp h
  obtain ⟨ys', h2, h⟩ := Option.bind_eq_some_iff.mp h
  cases h
  rw [eval_ListComp]
  have key := iterV_ok (E := E) (K := fun it s₂ => wpAny (model P.prog P.w) A (newList []) (fun acc s₃ => wpAny (model P.prog P.w) A (newFunctionEnv scope env.globals (closL env scope.names []) [] env.qual none .none (some env)) (fun cenv s₄ =>
      codeAny (model P.prog P.w) A (.compStart (.ListComp elt [⟨target, iter, ifs, 0⟩] scope pos) 0 it acc { cenv with scope := relabel scope env }) (compPost (model P.prog P.w) A E none Q acc cenv.locals) s₄) E s₃) E s₂) hs h1 htgt R I B S ?_
  · exact wpAny_comprehension_free (use := none) rfl key.2 (closureFor_is (hk.isSome S)) hk.kind hk.loc key.1
  · intro It wr J fz1 oa1 h1' tk1 S1 k1 q1 it j0 ap
    refine comp_core (s := { s with heap := h1', toks := tk1 }) (RR := fun acc C => compPost (model P.prog P.w) A E none Q acc C) hs hk h2 (iterV_size h1) R I B S1 it j0 ap fun D C h3 tk3 m g items nn hC hD rd S3 k3 aD aC hCD => ?_
    refine ⟨m, hC, fun h4 hs4 => ?_⟩
    obtain ⟨S4, le, rv⟩ := S3.freezeD hD rd aD aC hCD hs4
    exact hQ _ _ _ _ _ S4 (k1.trans (k3.trans le)) q1 rv

theorem storeN_ok {x : Str} {v : V} {u : Value} {Q : Unit → Shared → Prop} (h : storeN c x v st = some st') (I : EnvIs P c env) (S : St P env.cells c fz oa s.heap st) (ru : RV fz oa P.da P.la u v)
    (hQ : ∀ h' tk', St P env.cells c fz oa h' st' → Heap.SameBut P.L s.heap h' → Q () { s with heap := h', toks := tk' }) : wpAny (model P.prog P.w) A (storeName env x u) Q E s := by
  unfold storeN at h
  split at h
  case isFalse => cases h
  rename_i hx
  cases h
  obtain ⟨m, hn, hv⟩ := S.vars
  refine wpAny_storeName_local (by show env.scope.names.lookup x = _; rw [I.scope]; exact hx) (by rw [I.locals]; exact hn) (fun h' hn' hs' => ?_) (by rw [I.kind]; rfl)
  rw [I.locals] at hn' hs'
  exact hQ h' _ (S.store hv hs' hn' ru) hs'

theorem swaps_of {value : Expr} {t : Str} {tp : Pos} {line : Nat} (I : EnvIs P c env) (h : swapsC c value t tp = true) : swapsWith value (some (.Name t tp)) line env = pure true := by
  unfold swapsC at h
  split at h
  · rename_i a b scope d
    have hb : env.blockKind = .function := by unfold Env.blockKind; rw [I.kind]; rfl
    have hk : env.kindOf t = c.sc.names.lookup t := by show env.scope.names.lookup t = _; rw [I.scope]
    show (pure (env.blockKind == .function && env.kindOf t == some .local && tp.line == (Expr.ListComp a b scope d).pos.line && !(scope.names.any fun (n, k) => n == t && (k == .local || k == .cell))) : Sem Bool) = pure true
    rw [hb, hk]
    simp only [Bool.and_eq_true] at h
    obtain ⟨⟨h1, h2⟩, h3⟩ := h
    rw [h1, h2, h3]
    rfl
  · cases h

theorem compAssign_ok (hs : Snd mg mb r n) {elt target iter : Expr} {ifs : List Expr} {scope : Scope} {pos py spos : Pos} {y : Str} {ys : List PyData} {st₁ : IS} {Q : Flow → Shared → Prop} (h : compV r c elt target iter ifs scope st = some (ys, st₁))
    (hsw : swapsC c (.ListComp elt [⟨target, iter, ifs, 0⟩] scope pos) y py = true) (hst : storeN c y (.d (.list ys)) st₁ = some st') (R : Room n A) (I : EnvIs P c env) (B : Base P.hb mg mb)
    (S : St P env.cells c fz oa s.heap st) (hQ : PostB P env.cells c fz oa s st' .next Q) : wpAny (model P.prog P.w) A (exec (.Assign [.Name y py] (.ListComp elt [⟨target, iter, ifs, 0⟩] scope pos) spos) env) Q E s := by
  unfold compV at h
  split at h
  case isFalse => cases h
  rename_i hok
  obtain ⟨hok, htgt⟩ := Bool.and_eq_true_iff.mp hok
  have hk := CompOk.of hok
  obtain ⟨⟨xs, st1⟩, h1, h⟩ := Option.bind_eq_some_iff.mp h
  obtain ⟨ys', h2, h⟩ := Option.bind_eq_some_iff.mp h
  cases h
  rw [exec_Assign_Name_used _ _ _ _ (swaps_of I hsw)]
  refine wpAny_bind (wpAny_standAt (wpAny_bind ?_))
  show wpAny _ A (do let _ ← comprehension (.ListComp elt [⟨target, iter, ifs, 0⟩] scope pos) scope env _ (newList []) false (eval iter env) (some (assign (.Name y py) env))) _ _ s
  have key := iterV_ok (E := E) (K := fun it s₂ => wpAny (model P.prog P.w) A (newList []) (fun acc s₃ => wpAny (model P.prog P.w) A (newFunctionEnv scope env.globals (closL env scope.names []) [] env.qual none .none (some env)) (fun cenv s₄ =>
      codeAny (model P.prog P.w) A (.compStart (.ListComp elt [⟨target, iter, ifs, 0⟩] scope pos) 0 it acc { cenv with scope := relabel scope env }) (compPost (model P.prog P.w) A E (some (assign (.Name y py) env)) (fun _ s' => Q .next s') acc cenv.locals) s₄) E s₃) E s₂) hs h1 htgt R I B S ?_
  · exact wpAny_bind (wpAny_mono (wpAny_comprehension_free (use := some (assign (.Name y py) env)) (Q := fun _ s' => Q .next s') rfl key.2 (closureFor_is (hk.isSome S)) hk.kind hk.loc key.1)
      (fun _ s' hq => wpAny_pure (wpAny_pure hq)) fun _ _ e => e)
  · intro It wr J fz1 oa1 h1' tk1 S1 k1 q1 it j0 ap
    refine comp_core (s := { s with heap := h1', toks := tk1 }) (RR := fun acc C => compPost (model P.prog P.w) A E (some (assign (.Name y py) env)) (fun _ s' => Q .next s') acc C) hs hk h2 (iterV_size h1) R I B S1 it j0 ap fun D C h3 tk3 m g items nn hC hD rd S3 k3 aD aC hCD => ?_
    obtain ⟨S4, le, rv⟩ := S3.freezeD hD rd aD aC hCD (Heap.SameBut.refl C h3)
    refine wpAny_assign_Name (storeN_ok (s := { s with heap := h3, toks := tk3 }) hst I S4 rv fun h5 tk5 S5 hs5 => ?_)
    refine ⟨m, hC.sameBut hs5 aC.L, fun h6 hs6 => ?_⟩
    have aC' : Apart P (updF g D (lstObj items nn)) oa1 st' C := by
      refine ⟨?_, aC.oa, aC.L, aC.kp, aC.n0, fun l mm e => ?_⟩
      · unfold updF; rw [if_neg hCD]; exact aC.fz
      · unfold storeN at hst
        split at hst
        · cases hst; exact aC.dk l mm e
        · cases hst
    have S6 := S5.extW (wr := [C]) (h' := h6) (fun b hb => by rw [List.mem_singleton.mp hb]; exact aC') (fun b o hb e => hs6.extBut b o (by simpa using hb) e) (FLe.refl _) (fun _ _ e => .inl e)
      (fun b o e => hs6.extBut b o (fun q => by rw [q, aC'.fz] at e; cases e) (S5.fzh b o e))
    exact hQ _ _ _ _ _ S6 (k1.trans (k3.trans le)) q1 .next
end
end Mine
namespace Mine
open PySem PySem.W PyProof.Rows PySem.Calls
section
variable {mg mb : Str → Option Value} {r : Ev} {n : Nat} {P : Pm} {A : Around} {env : Env} {E : Value → Shared → Prop} {s : Shared} {fz : Fz} {oa : List Addr} {c : FC} {st st' : IS} {h h' : Heap} {cl : List (Str × Addr)}

theorem method_ok (hs : Snd mg mb r n) {o a : Expr} {m : Str} {ap cp : Pos} {T id : String} {v : V} {Q : Value → Shared → Prop} (hb : (baseOk o && ap.endLine == cp.line) = true) {st1 st2 : IS} {w : V} (h1 : r.e c o st = some (v, st1)) (h2 : r.e c a st1 = some (w, st2)) (R : Room n A) (I : EnvIs P c env) (B : Base P.hb mg mb)
    (S : St P env.cells c fz oa s.heap st)
    (slot : Slot T m id) (pa : PlainAttrs T) (hty : typeOf (.builtin id) = pure (.type "method_descriptor"))
    (hT : ∀ u fz1 oa1 h1', St P env.cells c fz1 oa1 h1' st1 → RV fz1 oa1 P.da P.la u v → ∃ b ob, u = .ref b ∧ h1'.get? b = some ob ∧ ob.cls = .type T ∧ ob.dict = none)
    (hQ : ∀ u x fz' oa' h' tk', St P env.cells c fz' oa' h' st2 → FLe fz fz' → OLe oa oa' → RV fz' oa' P.da P.la u v → RV fz' oa' P.da P.la x w → wpAny (model P.prog P.w) A (call (.builtin id) [u, x]) Q E { s with heap := h', toks := tk' }) :
    wpAny (model P.prog P.w) A (eval (.Call (.Attribute o m ap) [a] [] cp) env) Q E s := by
  obtain ⟨hb1, hb2⟩ := Bool.and_eq_true_iff.mp hb
  have hstar : starEach [a] env = [(false, eval a env)] := by rw [starEach_cons hs h2]; rfl
  have e0 : eval (.Call (.Attribute o m ap) [a] [] cp) env = (do
      let ov ← eval o env
      standAt ap.atName
      let (f, first) ← holding [ov] (getMethod ov m (do return (← importBound o env).getD true))
      callWith cp f first [(false, eval a env)] []) := by
    rw [arm_eval_Call, hstar]
    have hpos : ∀ q, methodCallPos true q env ap cp = pure cp := fun q => by
      unfold methodCallPos
      have hb2' : (ap.endLine == cp.line) = true := hb2
      rw [hb2']; rfl
    cases o <;> simp [baseOk] at hb1
    all_goals
      show (do
        let ov ← _
        standAt ap.atName
        let (f, first) ← holding [ov] (getMethod ov m (do return (← importBound _ env).getD true))
        let callPos ← methodCallPos true _ env ap cp
        callWith callPos f first [(false, eval a env)] []) = _
      rw [hpos]
      rfl
  rw [e0]
  refine wpAny_bind (hs.e h1 R I B S fun u fz1 oa1 h1' tk1 S1 k1 q1 r1 => wpAny_bind (wpAny_standAt (wpAny_bind (wpAny_holding ?_))))
  obtain ⟨b, ob, rfl, hob, hcls, hdict⟩ := hT u fz1 oa1 h1' S1 r1
  refine getMethod_builtin (T := T) ⟨ob, hob, hcls⟩ pa slot hty (fun a' e => by cases e; exact ⟨ob, hob, hdict⟩) ?_
  refine callWith_builtin rfl (evalArgs_plain (spliced_cons (hs.e h2 R I B S1 fun x fz2 oa2 h2' tk2 S2 k2 q2 r2 => spliced_nil ?_)))
  exact hQ (.ref b) x fz2 oa2 h2' tk2 S2 (k1.trans k2) (q1.trans q2) (r1.mono k2 q2) r2

theorem left_ref {u : Value} (ru : RV fz oa P.da P.la u .left) : u = .ref P.la := by cases ru; rfl

theorem pop_ok (hs : Snd mg mb r n) {o a : Expr} {m : Str} {ap cp : Pos} {v w : V} {st1 st2 : IS} {x : Int} {xs : List Int} {k : Int} {Q : Value → Shared → Prop} (hb : (baseOk o && ap.endLine == cp.line) = true) (h1 : r.e c o st = some (v, st1)) (R : Room n A) (I : EnvIs P c env) (B : Base P.hb mg mb)
    (S : St P env.cells c fz oa s.heap st) (hv : v = .left) (h2 : r.e c a st1 = some (w, st2)) (hw : w = .d (.int 0)) (hdk : st1.dk = none → ¬ st2.dk = some (x :: xs, k)) (hd : st2.dk = some (x :: xs, k)) (hm : m = Str.ofString "pop") (hz : Mine.sizeOk (x :: xs).length = true)
    (hQ : PostE P env.cells c fz oa s { st2 with dk := some (xs, k) } (.d (.int x)) Q) : wpAny (model P.prog P.w) A (eval (.Call (.Attribute o m ap) [a] [] cp) env) Q E s := by
  subst hv hm hw
  refine method_ok hs (T := "list") (id := "list.pop") hb h1 h2 R I B S PySem.F.slot_list_pop PySem.F.plainAttrs_list (by first | exact PySem.F.type_list_pop | rfl | kernel_rfl) (fun u fz1 oa1 h1' S1 r1 => ?_) fun u w fz2 oa2 h2' tk2 S2 k2 q2 r2 rw => ?_
  · cases hd1 : st1.dk with
    | none => exact absurd hd (hdk hd1)
    | some p =>
      obtain ⟨⟨_, items, nn, e2, _⟩, _⟩ := S1.deck p.1 p.2 hd1
      exact ⟨P.la, _, left_ref r1, e2, rfl, rfl⟩
  · rw [left_ref r2]
    obtain ⟨t0, rfl⟩ := RVint rw
    obtain ⟨⟨⟨t, D⟩, items, nn, e2, hi⟩, g1, g2, g3, g4, g5, g6, g7, g8, g9⟩ := S2.deck _ _ hd
    have hlen : items.toList.length = xs.length + 1 := hi.length
    have hsz : items.size = xs.length + 1 := by simpa using hlen
    obtain ⟨tx, hx⟩ : ∃ t, items.toList[0]? = some (.int x t) := by
      cases hq : items.toList with
      | nil => rw [hq] at hlen; simp at hlen
      | cons y ys =>
        rw [hq] at hi
        cases hi with
        | cons h _ => exact ⟨_, rfl⟩
    have hle : items.size ≤ sizeLine := by rw [hsz]; exact sizeOk_le (by simpa using hz)
    have hy : items[0]? = some (.int x tx) := by rw [← Array.getElem?_toList]; exact hx
    have hsi : seqIndex? 0 items.size = some 0 := by
      have h0 : (0 : Int) < (items.size : Int) := by rw [hsz]; omega
      show (if (decide ((0 : Int) ≤ 0) && decide ((0 : Int) < (items.size : Int))) = true then some (0 : Int).toNat else none) = some 0
      rw [if_pos (by rw [decide_eq_true h0]; rfl)]; rfl
    refine call_meets (s := { s with heap := h2', toks := tk2 }) PySem.F.slot_list_pop ⟨_, e2, rfl⟩ PySem.F.entry_list_pop (PySem.F.args_list_pop_2 _ _) (MeetsSeq.list_pop_at P.la items nn 0 t0 0 (.int x tx) (by decide) hsi hy hle) ⟨e2, ?_⟩
    have hsame : Heap.SameBut P.la h2' (h2'.update P.la (Obj.mapSeq fun xs => xs.eraseIdxIfInBounds 0)) := Heap.SameBut.update ..
    obtain ⟨nn', hnew⟩ : ∃ nn', (h2'.update P.la (Obj.mapSeq fun xs => xs.eraseIdxIfInBounds 0)).get? P.la = some (lstObj (items.eraseIdxIfInBounds 0) nn') := by
      exact ⟨if (items.eraseIdxIfInBounds 0).size == items.size then nn else nn + 1, Heap.get?_update_self _ e2 rfl⟩
    have hint : IntsAre (items.eraseIdxIfInBounds 0).toList xs := by
      have e4 : (items.eraseIdxIfInBounds 0).toList = items.toList.tail := by
        simp [Array.eraseIdxIfInBounds, hsz]
      rw [e4]
      cases hq : items.toList with
      | nil => rw [hq] at hlen; simp at hlen
      | cons y ys =>
        rw [hq] at hi
        cases hi with
        | cons _ _ h => exact h
    have S3 := S2.deckUpd (h' := h2'.update P.la (Obj.mapSeq fun xs => xs.eraseIdxIfInBounds 0)) (l' := xs) (m' := k) hd (fun b o _ hb e => hsame.extBut b o hb e) ⟨⟨t, DictOf_at D fun o e => hsame.extBut _ o g9 e⟩, _, nn', hnew, hint⟩
    exact hQ _ fz2 oa2 _ _ S3 k2 q2 (.d (.int _ _))
end
end Mine
namespace Mine
open PySem PySem.W PyProof.Rows PySem.Calls
section
variable {mg mb : Str → Option Value} {r : Ev} {n : Nat} {P : Pm} {A : Around} {env : Env} {E : Value → Shared → Prop} {s : Shared} {fz : Fz} {oa : List Addr} {c : FC} {st st' : IS} {h h' : Heap} {cl : List (Str × Addr)}

/-- a list's places from behind -/
theorem back_places {α : Type} (xs : List α) : ∀ n, n ≤ xs.length → ((List.range n).map fun k => n - 1 - k).filterMap (xs[·]?) = (xs.take n).reverse
  | 0, _ => by simp
  | n + 1, h => by
    have ih := back_places xs n (by omega)
    have e : ((List.range (n + 1)).map fun k => n + 1 - 1 - k) = n :: (List.range n).map fun k => n - 1 - k := by
      rw [List.range_succ_eq_map, List.map_cons, List.map_map]
      congr 1
      apply List.map_congr_left
      intro k _
      show n + 1 - 1 - (k + 1) = n - 1 - k
      omega
    rw [e, List.filterMap_cons, List.getElem?_eq_getElem (by omega)]
    dsimp only
    rw [ih, show List.take (n + 1) xs = List.take n xs ++ [xs[n]] by rw [List.take_add_one, List.getElem?_eq_getElem (by omega)]; rfl, List.reverse_append]
    rfl
theorem back_pick (items : Array Value) : slicePick items none none (some (-1)) = items.toList.reverse.toArray := by
  have e : sliceRange ((items.size : Int) - 1) (-1) (-1) = (List.range items.size).map fun k => items.size - 1 - k := by
    unfold sliceRange
    rw [if_neg (by decide)]
    split
    · show List.map _ (List.range (((items.size : Int) - 1 - -1 - -1 - 1) / (- -1)).toNat) = _
      rw [show (((items.size : Int) - 1 - -1 - -1 - 1) / (- -1)).toNat = items.size by rw [show (- -1 : Int) = 1 from rfl, Int.ediv_one]; omega]
      apply List.map_congr_left
      intro k hk
      have := List.mem_range.mp hk
      omega
    · have h0 : items.size = 0 := by omega
      rw [h0]; rfl
  have h := back_places items.toList items.size (by simp)
  rw [List.take_of_length_le (by simp)] at h
  show ((sliceRange ((items.size : Int) - 1) (-1) (-1)).filterMap (items[·]?)).toArray = _
  rw [e, ← h]
  simp only [Array.getElem?_toList]
theorem popV_inv {m : Str} {ov v w : V} {st st' : IS} (h : popV m ov v st = some (w, st')) : ov = .left ∧ v = .d (.int 0) ∧ ∃ x xs k, st.dk = some (x :: xs, k) ∧ m = Str.ofString "pop" ∧ Mine.sizeOk (x :: xs).length = true ∧ w = .d (.int x) ∧ st' = { st with dk := some (xs, k) } := by
  unfold popV at h
  split at h
  · rename_i x xs k e
    split at h
    · rename_i hm
      cases h
      exact ⟨rfl, rfl, _, _, _, e, hm.1, hm.2, rfl, rfl⟩
    · cases h
  · cases h

theorem mkTup_new {vs : List V} {us : List Value} {Q : Value → Shared → Prop} {tk : Nat} (S : St P cl c fz oa s.heap st) (rv : RVs fz oa P.da P.la us vs) (hQ : PostE P cl c fz oa s st (mkTup vs) Q) :
    Q (.ref s.heap.objs.size) { s with heap := s.heap.push (tupObj us.toArray 0), toks := tk } := by
  have hn : fz s.heap.objs.size = none := S.fz_new (Nat.le_refl _)
  refine hQ _ _ _ _ tk (S.pushF (tupObj us.toArray 0) rfl) (updF_le hn) (OLe.refl _) ?_
  unfold mkTup
  split
  · rename_i ds hd
    exact .d (.tuple (updF_self _ _ _) (by simpa using (rv.toD hd).mono (updF_le hn)))
  · exact .tup (updF_self _ _ _) (by simpa using rv.mono (updF_le hn) (OLe.refl _))

theorem own_new {vs : List V} {us : List Value} {Q : Value → Shared → Prop} {tk : Nat} (S : St P cl c fz oa s.heap st) (rv : RVs fz oa P.da P.la us vs) (hQ : PostE P cl c fz oa s { st with own := st.own ++ [vs] } (.own st.own.length) Q) :
    Q (.ref s.heap.objs.size) { s with heap := s.heap.push (lstObj us.toArray 0), toks := tk } := by
  refine hQ _ fz (oa ++ [s.heap.objs.size]) _ tk (S.ownNew (items := us.toArray) (by simpa using rv)) (FLe.refl _) (OLe.app _ _) (.own ?_)
  rw [← S.len, List.getElem?_append_right (Nat.le_refl _)]; simp

theorem list_ok (hs : Snd mg mb r n) {es : List Expr} {p : Pos} {v : V} {Q : Value → Shared → Prop} (h : ((evL r c es st).bind fun p => (allD p.1).bind fun ds => if sizeOk ds.length then some (V.d (.list ds), p.2) else none) = some (v, st')) (R : Room n A) (I : EnvIs P c env) (B : Base P.hb mg mb)
    (S : St P env.cells c fz oa s.heap st) (hQ : PostE P env.cells c fz oa s st' v Q) : wpAny (model P.prog P.w) A (eval (.List es p) env) Q E s := by
  obtain ⟨⟨vs, st1⟩, h1, h⟩ := Option.bind_eq_some_iff.mp h
  obtain ⟨ds, h2, h⟩ := Option.bind_eq_some_iff.mp h
  split at h
  · rename_i hz
    cases h
    refine List_ (evL_ok hs h1 R I B S fun us fz1 oa1 h1' tk1 S1 k1 q1 r1 => ?_)
    have rd := r1.toD h2
    refine wpAny_newObj_type ?_ ?_
    · exact PostE.listNew (s := { s with heap := h1', toks := tk1 }) (items := us.toArray) (fun u fz2 oa2 h2' tk2 S2 k2 q2 r2 => hQ u fz2 oa2 h2' tk2 S2 (k1.trans k2) (q1.trans q2) r2) S1 (by simpa using rd)
    · show us.toArray.size ≤ sizeLine
      rw [List.size_toArray, rd.length]; exact sizeOk_le hz
  · cases h
theorem sub_ok (hs : Snd mg mb r n) {o i : Expr} {p : Pos} {v : V} {Q : Value → Shared → Prop} (h : ((r.e c o st).bind fun p => (r.e c i p.2).bind fun q => (itemV q.2 p.1 q.1).map (·, q.2)) = some (v, st')) (R : Room n A) (I : EnvIs P c env) (B : Base P.hb mg mb)
    (S : St P env.cells c fz oa s.heap st) (hQ : PostE P env.cells c fz oa s st' v Q) : wpAny (model P.prog P.w) A (eval (.Subscript o i p) env) Q E s := by
  obtain ⟨⟨a, st1⟩, h1, h⟩ := Option.bind_eq_some_iff.mp h
  obtain ⟨⟨b, st2⟩, h2, h⟩ := Option.bind_eq_some_iff.mp h
  obtain ⟨w, h3, h⟩ := Option.map_eq_some_iff.mp h
  cases h
  refine Subscript_ (hs.e h1 R I B S fun u fz1 oa1 h1' tk1 S1 k1 q1 r1 => hs.e h2 R I B S1 fun u2 fz2 oa2 h2' tk2 S2 k2 q2 r2 => ?_)
  exact itemV_ok h3 S2 (r1.mono k2 q2) r2 fun u3 fz3 oa3 h3' tk3 S3 k3 q3 r3 => hQ u3 fz3 oa3 h3' tk3 S3 ((k1.trans k2).trans k3) ((q1.trans q2).trans q3) r3
theorem rev_inv {a b w : V} (h : (match a, b with
      | .d (.list xs), .d (.int i) => if i = -1 ∧ sizeOk xs.length then some (V.d (.list xs.reverse), st) else none
      | _, _ => none) = some (w, st')) : ∃ xs, a = .d (.list xs) ∧ b = .d (.int (-1)) ∧ sizeOk xs.length = true ∧ w = .d (.list xs.reverse) ∧ st' = st := by
  cases a with
  | d x => cases x with
    | list xs => cases b with
      | d y => cases y with
        | int i =>
          have h : (if i = -1 ∧ sizeOk xs.length then some (V.d (.list xs.reverse), st) else none) = some (w, st') := h
          split at h
          · rename_i hi
            cases h
            exact ⟨xs, rfl, by rw [hi.1], hi.2, rfl, rfl⟩
          · exact no h
        | _ => exact no h
      | _ => exact no h
    | _ => exact no h
  | _ => exact no h
theorem evE_ok (hs : Snd mg mb r n) {e : Expr} {v : V} {Q : Value → Shared → Prop} (h : evE r c e st = some (v, st')) (R : Room n A) (I : EnvIs P c env) (B : Base P.hb mg mb)
    (S : St P env.cells c fz oa s.heap st) (hQ : PostE P env.cells c fz oa s st' v Q) : wpAny (model P.prog P.w) A (eval e env) Q E s := by
  cases e with
  | Constant k a p =>
    cases k with
    | int i => cases h; exact wpAny_Constant_int (hQ.one S (.d (.int _ _)))
    | str x =>
      have h : (if PyData.canLay0 (.str x) then some (V.d (.str x), st) else none) = some (v, st') := h
      split at h
      · rename_i hx
        cases h; exact Constant_str (hQ.one S (.d (.str _ _ hx)))
      · exact no h
    | bool b => cases h; exact wpAny_Constant_bool (hQ.one S (.d (.bool _)))
    | none => cases h; exact wpAny_Constant_none (hQ.one S (.d .none))
    | _ => exact no h
  | Name x p =>
    obtain ⟨w, h1, h⟩ := Option.map_eq_some_iff.mp h
    cases h
    exact name_ok I B S h1 hQ
  | BinOp l op x p =>
    obtain ⟨⟨a, st1⟩, h1, h⟩ := Option.bind_eq_some_iff.mp h
    obtain ⟨⟨b, st2⟩, h2, h⟩ := Option.bind_eq_some_iff.mp h
    obtain ⟨w, h3, h⟩ := Option.map_eq_some_iff.mp h
    cases h
    refine wpAny_BinOp (hs.e h1 R I B S fun u fz1 oa1 h1' tk1 S1 k1 q1 r1 => hs.e h2 R I B S1 fun u2 fz2 oa2 h2' tk2 S2 k2 q2 r2 => ?_)
    exact binV_ok R h3 S2 (r1.mono k2 q2) r2 fun u3 fz3 oa3 h3' tk3 S3 k3 q3 r3 => hQ u3 fz3 oa3 h3' tk3 S3 ((k1.trans k2).trans k3) ((q1.trans q2).trans q3) r3
  | UnaryOp op x p =>
    cases op with
    | USub =>
      obtain ⟨⟨a, st1⟩, h1, h⟩ := Option.bind_eq_some_iff.mp h
      obtain ⟨i, h2, h⟩ := Option.map_eq_some_iff.mp h
      cases h
      refine UnaryOp_ (hs.e h1 R I B S fun u fz1 oa1 h1' tk1 S1 k1 q1 r1 => ?_)
      obtain rfl : a = .d (.int i) := intOf_inv h2
      obtain ⟨t, rfl⟩ := RVint r1
      exact PySem.P.neg_int (hQ _ fz1 oa1 h1' _ S1 k1 q1 (.d (.int _ _)))
    | _ => exact no h
  | IfExp t b o p =>
    obtain ⟨⟨b, st1⟩, h1, h⟩ := Option.bind_eq_some_iff.mp h
    refine wpAny_IfExp (hs.t h1 R I B S fun fz1 oa1 h1' tk1 S1 k1 q1 => ?_)
    cases b with
    | true => exact hs.e h R I B S1 fun u fz2 oa2 h2' tk2 S2 k2 q2 r2 => hQ u fz2 oa2 h2' tk2 S2 (k1.trans k2) (q1.trans q2) r2
    | false => exact hs.e h R I B S1 fun u fz2 oa2 h2' tk2 S2 k2 q2 r2 => hQ u fz2 oa2 h2' tk2 S2 (k1.trans k2) (q1.trans q2) r2
  | Tuple es k p =>
    obtain ⟨⟨vs, st1⟩, h1, h⟩ := Option.bind_eq_some_iff.mp h
    split at h
    · rename_i hz
      cases h
      refine Tuple_ (evL_ok hs h1 R I B S fun us fz1 oa1 h1' tk1 S1 k1 q1 r1 => wpAny_newObj_type ?_ ?_)
      · exact mkTup_new (s := { s with heap := h1', toks := tk1 }) S1 r1 fun u fz2 oa2 h2' tk2 S2 k2 q2 r2 => hQ u fz2 oa2 h2' tk2 S2 (k1.trans k2) (q1.trans q2) r2
      · show us.toArray.size ≤ sizeLine
        rw [List.size_toArray, r1.length]; exact sizeOk_le hz
    · exact no h
  | List es p =>
    cases es with
    | nil =>
      cases h
      refine List_ (spliced_nil (wpAny_newObj_type ?_ (by show (0 : Nat) ≤ sizeLine; exact Nat.zero_le _)))
      exact own_new S .nil hQ
    | cons a tl =>
      cases tl with
      | nil =>
        cases a with
        | Name x q =>
          obtain ⟨w, h1, h⟩ := Option.map_eq_some_iff.mp h
          cases h
          refine List_ (spliced_cons (name_ok I B S h1 fun u fz1 oa1 h1' tk1 S1 k1 q1 r1 => spliced_nil (wpAny_newObj_type ?_ (by show (1 : Nat) ≤ sizeLine; decide))))
          exact own_new (s := { s with heap := h1', toks := tk1 }) S1 (.cons r1 .nil) fun u fz2 oa2 h2' tk2 S2 k2 q2 r2 => hQ u fz2 oa2 h2' tk2 S2 (k1.trans k2) (q1.trans q2) r2
        | _ => exact list_ok hs h R I B S hQ
      | cons b tl => cases a <;> exact list_ok hs h R I B S hQ
  | Subscript o i p =>
    cases i with
    | Slice lo up step q =>
      cases lo with
      | none =>
        cases up with
        | none =>
          cases step with
          | none => exact no h
          | some x =>
            obtain ⟨⟨a, st1⟩, h1, h⟩ := Option.bind_eq_some_iff.mp h
            obtain ⟨⟨b, st2⟩, h2, h⟩ := Option.bind_eq_some_iff.mp h
            obtain ⟨xs, rfl, rfl, hz, rfl, rfl⟩ := rev_inv h
            refine Subscript_ (hs.e h1 R I B S fun u fz1 oa1 h1' tk1 S1 k1 q1 r1 => wpAny_Slice (wpAny_pure (wpAny_pure (hs.e h2 R I B S1 fun u2 fz2 oa2 h2' tk2 S2 k2 q2 r2 => ?_))))
            obtain ⟨x, vs, k, rfl, e1, rd⟩ := RVlist (r1.mono k2 q2)
            obtain ⟨t, rfl⟩ := RVint r2
            have S3 := S2.ext (h' := h2'.push { cls := .type "slice", data := .fields #[.none, .none, .int (-1) t] }) fun _ _ e => Heap.get?_push_of_some _ e
            have e1' := S3.fzh _ _ e1
            refine tail_ok (s := { s with heap := h2'.push { cls := .type "slice", data := .fields #[.none, .none, .int (-1) t] }, toks := tk2 }) (T := "list") ⟨_, e1', rfl⟩ list_getitem_lookup (wpAny_getItem_list_slice (lo := none) (hi := none) (st := some (-1)) ⟨_, e1', rfl, k, rfl⟩ (Heap.IsSliceOf.new ..) .none .none (.int (-1) t) (by decide) ?_ (by rw [size_of rd]; exact sizeOk_le hz))
            rw [back_pick]
            exact PostE.listNew (s := { s with heap := h2'.push { cls := .type "slice", data := .fields #[.none, .none, .int (-1) t] }, toks := tk2 }) (fun u fz3 oa3 h3' tk3 S3 k3 q3 r3 => hQ u fz3 oa3 h3' tk3 S3 (k1.trans (k2.trans k3)) (q1.trans (q2.trans q3)) r3) S3 (by simpa using rd.reverse)
        | some x =>
          cases step with
          | some _ => exact no h
          | none =>
            obtain ⟨⟨a, st1⟩, h1, h⟩ := Option.bind_eq_some_iff.mp h
            obtain ⟨⟨b, st2⟩, h2, h⟩ := Option.bind_eq_some_iff.mp h
            obtain ⟨i, h3, h⟩ := Option.bind_eq_some_iff.mp h
            obtain ⟨w, h4, h⟩ := Option.map_eq_some_iff.mp h
            cases h
            refine Subscript_ (hs.e h1 R I B S fun u fz1 oa1 h1' tk1 S1 k1 q1 r1 => wpAny_Slice (wpAny_pure (hs.e h2 R I B S1 fun u2 fz2 oa2 h2' tk2 S2 k2 q2 r2 => wpAny_pure ?_)))
            obtain rfl : b = .d (.int i) := intOf_inv h3
            obtain ⟨t, rfl⟩ := RVint r2
            exact sliceV_ok (s := { s with heap := h2', toks := tk2 }) h4 S2 (r1.mono k2 q2) .none (.int _ t) fun u fz3 oa3 h3' tk3 S3 k3 q3 r3 => hQ u fz3 oa3 h3' tk3 S3 (k1.trans (k2.trans k3)) (q1.trans (q2.trans q3)) r3
      | some x =>
        cases up with
        | some _ => cases step <;> exact no h
        | none =>
          cases step with
          | some _ => exact no h
          | none =>
            obtain ⟨⟨a, st1⟩, h1, h⟩ := Option.bind_eq_some_iff.mp h
            obtain ⟨⟨b, st2⟩, h2, h⟩ := Option.bind_eq_some_iff.mp h
            obtain ⟨i, h3, h⟩ := Option.bind_eq_some_iff.mp h
            obtain ⟨w, h4, h⟩ := Option.map_eq_some_iff.mp h
            cases h
            refine Subscript_ (hs.e h1 R I B S fun u fz1 oa1 h1' tk1 S1 k1 q1 r1 => wpAny_Slice (hs.e h2 R I B S1 fun u2 fz2 oa2 h2' tk2 S2 k2 q2 r2 => wpAny_pure (wpAny_pure ?_)))
            obtain rfl : b = .d (.int i) := intOf_inv h3
            obtain ⟨t, rfl⟩ := RVint r2
            exact sliceV_ok (s := { s with heap := h2', toks := tk2 }) h4 S2 (r1.mono k2 q2) (.int _ t) .none fun u fz3 oa3 h3' tk3 S3 k3 q3 r3 => hQ u fz3 oa3 h3' tk3 S3 (k1.trans (k2.trans k3)) (q1.trans (q2.trans q3)) r3
    | _ => exact sub_ok hs h R I B S hQ
  | Compare l ops xs p =>
    obtain ⟨⟨b, st1⟩, h1, h⟩ := Option.map_eq_some_iff.mp h
    cases h
    exact cmpE_ok hs h1 R I B S fun fz1 oa1 h1' tk1 S1 k1 q1 => hQ _ fz1 oa1 h1' tk1 S1 k1 q1 (.d (.bool _))
  | BoolOp op xs p =>
    cases op with
    | Or => exact no h
    | And =>
      cases xs with
      | nil => exact no h
      | cons x xs => cases xs with
        | nil => exact no h
        | cons y xs => cases xs with
          | cons _ _ => exact no h
          | nil =>
            obtain ⟨⟨a, st1⟩, h1, h⟩ := Option.bind_eq_some_iff.mp h
            obtain ⟨q, h2, h⟩ := Option.bind_eq_some_iff.mp h
            refine BoolOp_and (hs.e h1 R I B S fun u fz1 oa1 h1' tk1 S1 k1 q1 r1 => ?_)
            obtain rfl : a = .d (.bool q) := boolOf_inv h2
            rw [RVbool r1]
            refine wpAny_truthy_bool ?_
            cases q with
            | true => exact BoolOp_one (hs.e h R I B S1 fun u fz2 oa2 h2' tk2 S2 k2 q2 r2 => hQ u fz2 oa2 h2' tk2 S2 (k1.trans k2) (q1.trans q2) r2)
            | false =>
              cases h
              exact hQ _ fz1 oa1 h1' tk1 S1 k1 q1 (.d (.bool _))
  | Call f args kws p =>
    cases f with
    | Name f q =>
      cases kws with
      | cons _ _ => exact no h
      | nil =>
        obtain ⟨⟨vs, st1⟩, h1, h⟩ := Option.bind_eq_some_iff.mp h
        exact callV_ok hs I B S h1 h R hQ
    | Attribute o m ap =>
      cases args with
      | nil => exact no h
      | cons a tl => cases tl with
        | cons _ _ => exact no h
        | nil => cases kws with
          | cons _ _ => exact no h
          | nil =>
            have h : (if baseOk o && ap.endLine == p.line then (r.e c o st).bind fun p => if p.2.dk.isSome then (r.e c a p.2).bind fun q => popV m p.1 q.1 q.2 else none else none) = some (v, st') := h
            split at h
            case isFalse => exact no h
            rename_i hb
            obtain ⟨⟨w, st1⟩, h1, h⟩ := Option.bind_eq_some_iff.mp h
            split at h
            case isFalse => exact no h
            rename_i hd
            obtain ⟨⟨b, st2⟩, h2, h⟩ := Option.bind_eq_some_iff.mp h
            obtain ⟨e1, e2, x, xs, k, e3, hm1, hm2, e4, e5⟩ := popV_inv h
            subst e4 e5
            exact pop_ok hs hb h1 R I B S e1 h2 e2 (fun e => by rw [e] at hd; cases hd) e3 hm1 hm2 hQ
    | _ => exact no h
  | ListComp elt gens scope p =>
    cases gens with
    | nil => exact no h
    | cons g tl =>
      obtain ⟨target, iter, ifs, k⟩ := g
      cases k with
      | negSucc _ => cases tl <;> exact no h
      | ofNat k =>
        cases k with
        | succ _ => cases tl <;> exact no h
        | zero =>
          cases tl with
          | cons _ _ => exact no h
          | nil =>
            obtain ⟨⟨ys, st1⟩, h1, h⟩ := Option.map_eq_some_iff.mp h
            cases h
            exact comp_ok hs h1 R I B S hQ
  | _ => exact no h
end
end Mine
namespace Mine
open PySem PySem.W PyProof.Rows PySem.Calls
section
variable {mg mb : Str → Option Value} {r : Ev} {n : Nat} {P : Pm} {A : Around} {env : Env} {E : Value → Shared → Prop} {s : Shared} {fz : Fz} {oa : List Addr} {c : FC} {st st' : IS} {h h' : Heap} {cl : List (Str × Addr)}

theorem setLast_meets (l : Addr) (items : Array Value) (n : Nat) (u : Tok) (v : Value) (y : Value) (hy : items[items.size - 1]? = some y) (hs1 : items.size ≤ sizeLine) :
    Meets (Builtin.«list.__setitem__» ⟨[.ref l, .int (-1) u, v], []⟩)
      (fun _ R s => s.heap.get? l = some { cls := .type "list", dict := none, data := .seq items n, slots := #[] } ∧ R (.ok (.ret .none)) { s with heap := s.heap.update l (Obj.mapSeq fun xs => xs.setIfInBounds (items.size - 1) v) }) :=
  .of_wp fun prog w A R s h => by
    obtain ⟨hp, g, d, tk, os⟩ := s; obtain ⟨hl, h⟩ := h
    have hpos : 0 < items.size := by
      rcases Nat.eq_zero_or_pos items.size with h0 | h0
      · simp [h0] at hy
      · exact h0
    have hf : ¬ (!Builtin.List.listFitsIndex (-1)) = true := by decide
    have hk : seqIndex? (-1) items.size = some (items.size - 1) := by
      rw [MeetsSeq.seqIndex_neg (by omega) (by omega)]; congr 1; omega
    have f1 := AutoSeq1.idx_int
    wp_walk using AutoSeq1.wpAny_loadPart' hl
    simp only [hk, hy, Option.bind_some, Option.map_some]
    have hz' : (items.setIfInBounds (items.size - 1) v).size ≤ sizeLine + 1 := by simp; omega
    wp_walk using (wpAny_setSeqItemAt hl rfl), AutoSeq1.wpAny_loadPart' hl
    exact ⟨_, rfl, h⟩

theorem setLast_ok {prog : Program} {w : World} {a : Addr} {items : Array Value} {nn : Nat} {t : Tok} {v : Value} {Q : Unit → Shared → Prop} (ho : s.heap.get? a = some (lstObj items nn)) (hn : items.size ≠ 0) (hz : items.size ≤ sizeLine)
    (hQ : ∀ h' n', h'.get? a = some (lstObj (items.setIfInBounds (items.size - 1) v) n') → Heap.SameBut a s.heap h' → Q () { s with heap := h' }) : wpAny (model prog w) A (setItem (.ref a) (.int (-1) t) v) Q E s := by
  have hl : s.heap.IsList a items := ⟨_, ho, rfl, nn, rfl⟩
  have hy : items[items.size - 1]? = some items[items.size - 1] := Array.getElem?_eq_getElem (by omega)
  unfold setItem
  try with_reducible refine wpAny_holding ?_
  first | refine wpAny_bind (wpAny_pure ?_) | skip
  refine wpAny_bind (wpAny_sequenceKey hl.typeIs (by decide) ?_)
  refine wpAny_bind (wpAny_callSpecial?_slot (name := Str.ofString "__setitem__") hl.typeIs PySem.F.slot_list_setitem (call_meets PySem.F.slot_list_setitem hl.typeIs PySem.F.entry_list_setitem (PySem.F.args_list_setitem_3 _ _ _) (setLast_meets a items nn t v _ hy hz) ⟨ho, ?_⟩))
  exact wpAny_pure (hQ _ _ (Heap.get?_update_self _ ho rfl) (Heap.SameBut.update ..))

theorem assignEach_cons (hs : Snd mg mb r n) {e : Expr} {es : List Expr} {v : V} (h : r.a c e v st = some st') : assignEach (e :: es) env = (false, assign e env) :: assignEach es env := by
  cases e with
  | Starred e p => rw [hs.astar] at h; cases h
  | _ => rfl

theorem asgL_facts (hs : Snd mg mb r n) : ∀ {ts : List Expr} {vs : List V} {st st' : IS}, asgL r c ts vs st = some st' → (assignEach ts env).length = vs.length ∧ (assignEach ts env).findIdx? (·.1) = none
  | [], [], st, st', h => ⟨rfl, rfl⟩
  | [], _ :: _, st, st', h => by simp [asgL] at h
  | _ :: _, [], st, st', h => by simp [asgL] at h
  | t :: ts, v :: vs, st, st', h => by
    obtain ⟨st1, h1, h2⟩ := Option.bind_eq_some_iff.mp h
    obtain ⟨a, b⟩ := asgL_facts hs h2
    rw [assignEach_cons hs h1]
    refine ⟨by simp [a], ?_⟩
    simp [List.findIdx?_cons, b]

theorem asgL_ok (hs : Snd mg mb r n) : ∀ {ts : List Expr} {vs : List V} {us : List Value} {st st' : IS} {s : Shared} {fz : Fz} {oa : List Addr} {Q : Unit → Shared → Prop}, asgL r c ts vs st = some st' → Room n A → EnvIs P c env → Base P.hb mg mb → St P env.cells c fz oa s.heap st → RVs fz oa P.da P.la us vs →
    PostU P env.cells c fz oa s st' Q → wpAny (model P.prog P.w) A (assignInOrder ((assignEach ts env).map (·.2)) us) Q E s
  | [], [], _, st, st', s, fz, oa, Q, h, R, I, B, S, .nil, hQ => by
    simp only [asgL, Option.some.injEq] at h
    subst h
    exact wpAny_pure (hQ fz oa s.heap s.toks S (FLe.refl _) (OLe.refl _))
  | [], _ :: _, _, st, st', s, fz, oa, Q, h, R, I, B, S, ru, hQ => by simp [asgL] at h
  | _ :: _, [], _, st, st', s, fz, oa, Q, h, R, I, B, S, ru, hQ => by simp [asgL] at h
  | t :: ts, v :: vs, _, st, st', s, fz, oa, Q, h, R, I, B, S, .cons (v := u) (vs := us) ru rus, hQ => by
    obtain ⟨st1, h1, h2⟩ := Option.bind_eq_some_iff.mp h
    rw [assignEach_cons hs h1]
    show wpAny _ _ (do holding us (assign t env u); assignInOrder ((assignEach ts env).map (·.2)) us) _ _ _
    refine wpAny_bind (wpAny_holding (hs.a h1 R I B S ru fun fz1 oa1 h1' tk1 S1 k1 q1 => ?_))
    exact asgL_ok hs h2 R I B S1 (rus.mono k1 q1) fun fz2 oa2 h2' tk2 S2 k2 q2 => hQ fz2 oa2 h2' tk2 S2 (k1.trans k2) (q1.trans q2)

theorem items_of {v : V} {vs : List V} {u : Value} {da la : Addr} (h : itemsOf v = some vs) (ru : RV fz oa da la u v) : ∃ a items k, u = .ref a ∧ fz a = some (tupObj items k) ∧ RVs fz oa da la items.toList vs := by
  unfold itemsOf at h
  split at h
  · cases h
    obtain ⟨a, items, k, rfl, e, rr⟩ := RVtuple ru
    exact ⟨a, items, k, rfl, e, RVs.ofD rr⟩
  · cases h
    cases ru with
    | tup e rr => exact ⟨_, _, _, rfl, e, rr⟩
  · cases h

theorem asg_ok (hs : Snd mg mb r n) {t : Expr} {v : V} {u : Value} {Q : Unit → Shared → Prop} (h : asg r c t v st = some st') (R : Room n A) (I : EnvIs P c env) (B : Base P.hb mg mb) (S : St P env.cells c fz oa s.heap st) (ru : RV fz oa P.da P.la u v)
    (hQ : PostU P env.cells c fz oa s st' Q) : wpAny (model P.prog P.w) A (assign t env u) Q E s := by
  unfold asg at h
  split at h
  · exact wpAny_assign_Name (storeN_ok h I S ru fun h' tk' S' _ => hQ _ _ _ _ S' (FLe.refl _) (OLe.refl _))
  · obtain ⟨vs, h1, h⟩ := Option.bind_eq_some_iff.mp h
    split at h
    case isFalse => cases h
    obtain ⟨a, items, k, rfl, e, rr⟩ := items_of h1 ru
    obtain ⟨f1, f2⟩ := asgL_facts (env := env) hs h
    refine wpAny_assign_Tuple R.1 ⟨_, S.fzh _ _ e, rfl, k, rfl⟩ (by rw [f1, ← rr.length]; simp) f2 fun h' he => ?_
    have S1 : St P env.cells c fz oa h' st := S.ext fun b o e => he b o (Nat.ne_of_lt (Heap.lt_size e)) e
    exact asgL_ok (s := { s with heap := h' }) hs h R I B S1 rr hQ
  · obtain ⟨⟨ov, st1⟩, h1, h⟩ := Option.bind_eq_some_iff.mp h
    obtain ⟨⟨iv, st2⟩, h2, h⟩ := Option.bind_eq_some_iff.mp h
    rw [arm_assign_Subscript]
    refine wpAny_bind (wpAny_holding (hs.e h1 R I B S fun u1 fz1 oa1 h1' tk1 S1 k1 q1 r1 => wpAny_bind (wpAny_holding (hs.e h2 R I B S1 fun u2 fz2 oa2 h2' tk2 S2 k2 q2 r2 => wpAny_bind (wpAny_standAt (wpAny_bind (wpAny_holding ?_)))))))
    have r1' := r1.mono k2 q2
    have ru' := (ru.mono k1 q1).mono k2 q2
    dsimp only at h
    split at h
    · rename_i k j
      obtain ⟨xs, h3, h⟩ := Option.bind_eq_some_iff.mp h
      split at h
      case isFalse => cases h
      rename_i hc
      obtain ⟨hj, hn, hz⟩ := hc
      cases h
      subst hj
      obtain ⟨t0, rfl⟩ := RVint r2
      cases r1' with
      | own ha =>
        rename_i a
        obtain ⟨g1, g2, g3, items, nn, ws, g4, g5, g6⟩ := S2.own _ _ ha
        rw [h3] at g5
        cases g5
        have hl : items.size = xs.length := by have := g6.length; simpa using this
        refine setLast_ok (s := { s with heap := h2', toks := tk2 }) g4 (by rw [hl]; exact hn) (by rw [hl]; exact sizeOk_le hz) fun h3' n' e3 hs3 => wpAny_release' ?_
        refine hQ _ _ _ _ (S2.ownUpd ha hs3 e3 ?_) (k1.trans k2) (q1.trans q2)
        rw [Array.toList_setIfInBounds, ← hl]
        exact g6.set _ ru'
    · split at h
      case isFalse => cases h
      rename_i hm
      subst hm
      obtain ⟨⟨l, m⟩, h3, h⟩ := Option.bind_eq_some_iff.mp h
      obtain ⟨i, h4, h⟩ := Option.map_eq_some_iff.mp h
      dsimp only at h3 h
      subst h
      obtain ⟨t0, rfl⟩ := RVstr r2
      have hv : v = .d (.int i) := by
        unfold intOf at h4
        split at h4
        · cases h4; rfl
        · cases h4
      subst hv
      obtain ⟨t1, rfl⟩ := RVint ru
      have hu1 : u1 = .ref P.da := by cases r1; rfl
      subst hu1
      obtain ⟨⟨⟨t, D⟩, items, nn, e2, hi⟩, g1, g2, g3, g4, g5, g6, g7, g8, g9⟩ := S2.deck _ _ h3
      refine wpAny_setItem_pairs (s := { s with heap := h2', toks := tk2 }) (strKind_is P.prog P.w kMixed t0) D (fun h3' hm3 hs3 => wpAny_release' ?_) (by show (2 : Nat) ≤ 2 ^ 24; decide)
      have hst : stored [(kLeft, Value.ref P.la), (kMixed, .int m t)] kMixed (.int i t1) = [(kLeft, .ref P.la), (kMixed, .int i t1)] := by
        have e1 : ¬ kLeft = kMixed := by decide
        simp [stored, e1]
      rw [hst] at hm3
      exact hQ _ _ _ _ (S2.deckUpd h3 (fun b o hb _ e => hs3.extBut b o hb e) ⟨⟨t1, hm3⟩, items, nn, hs3.extBut _ _ (Ne.symm g9) e2, hi⟩) (k1.trans k2) (q1.trans q2)
    · cases h
  · cases h
end
end Mine
namespace Mine
open PySem PySem.W PyProof.Rows PySem.Calls
section
variable {mg mb : Str → Option Value} {r : Ev} {n : Nat} {P : Pm} {A : Around} {env : Env} {E : Value → Shared → Prop} {s : Shared} {fz : Fz} {oa : List Addr} {c : FC} {st st' : IS} {h h' : Heap} {cl : List (Str × Addr)}

theorem EnvIs.block (I : EnvIs P c env) : env.blockKind = .function := by unfold Env.blockKind; rw [I.kind]; rfl
theorem EnvIs.kindOf (I : EnvIs P c env) (x : Str) : env.kindOf x = c.sc.names.lookup x := by show env.scope.names.lookup x = _; rw [I.scope]

theorem swpC_ok {ts : List Expr} {k} {p : Pos} {e : Expr} {sw : Option (List Str)} (I : EnvIs P c env) (h : swpC c ts e = some sw) : swappedStores [.Tuple ts k p] e env = pure sw := by
  unfold swpC at h
  split at h
  · rename_i vs k' p'
    unfold swappedStores
    simp only [I.block, I.kindOf]
    split at h
    · rename_i h1
      cases h
      have : (!(ts.length == 2 || ts.length == 3) || vs.length != ts.length || ScopeKind.function != ScopeKind.function) = true := by rw [h1]; rfl
      rw [if_pos this]
    · rename_i h1
      have : ¬ (!(ts.length == 2 || ts.length == 3) || vs.length != ts.length || ScopeKind.function != ScopeKind.function) = true := by
        intro q; apply h1; simpa using q
      rw [if_neg this]
      split at h
      · rename_i h2; cases h; exact if_pos h2
      · rename_i h2
        refine (if_neg h2).trans ?_
        dsimp only at h ⊢
        split at h
        · rename_i h3; cases h; exact if_pos h3
        · rename_i h3
          refine (if_neg h3).trans ?_
          split at h
          · rename_i h4; cases h; exact if_pos h4
          · rename_i h4
            refine (if_neg h4).trans ?_
            split at h
            · cases h
            · rename_i h5; cases h; exact if_neg h5
  · rename_i hne
    cases h
    cases e <;> first | rfl | exact absurd rfl (hne _ _ _)

theorem noSwap_Tuple {e : Expr} {ts : List Expr} {k} {p : Pos} {line : Nat} : swapsWithSole [.Tuple ts k p] e line env = pure false := by
  cases e <;> rfl
theorem noSwap_Sub {e o i : Expr} {p : Pos} {line : Nat} : swapsWithSole [.Subscript o i p] e line env = pure false := by
  cases e <;> rfl
theorem noSwap_Name {e : Expr} {x : Str} {p : Pos} {line : Nat} (h : ¬ isComp e = true) : swapsWith e (some (.Name x p)) line env = pure false := by
  cases e <;> first | rfl | exact absurd rfl h

theorem storeL_ok : ∀ {xs : List Str} {vs : List V} {us : List Value} {st st' : IS} {s : Shared} {Q : Unit → Shared → Prop}, storeL c xs vs st = some st' → EnvIs P c env → St P env.cells c fz oa s.heap st → RVs fz oa P.da P.la us vs →
    PostU P env.cells c fz oa s st' Q → wpAny (model P.prog P.w) A (assignInOrder (xs.map fun n => bindName env n) us) Q E s
  | [], [], _, st, st', s, Q, h, I, S, .nil, hQ => by
    simp only [storeL, Option.some.injEq] at h
    subst h
    exact wpAny_pure (hQ fz oa s.heap s.toks S (FLe.refl _) (OLe.refl _))
  | [], _ :: _, _, st, st', s, Q, h, I, S, ru, hQ => by simp [storeL] at h
  | _ :: _, [], _, st, st', s, Q, h, I, S, ru, hQ => by simp [storeL] at h
  | x :: xs, v :: vs, _, st, st', s, Q, h, I, S, .cons (v := u) (vs := us) ru rus, hQ => by
    obtain ⟨st1, h1, h2⟩ := Option.bind_eq_some_iff.mp h
    show wpAny _ _ (do holding us (bindName env x u); assignInOrder (xs.map fun n => bindName env n) us) _ _ _
    exact wpAny_bind (wpAny_holding (wpAny_bindName (storeN_ok h1 I S ru fun h1' tk1 S1 _ => storeL_ok (s := { s with heap := h1', toks := tk1 }) h2 I S1 rus hQ)))

theorem own_obj (S : St P cl c fz oa h st) {u : Value} {k : Nat} (ru : RV fz oa P.da P.la u (.own k)) : ∃ a items nn vs, u = .ref a ∧ oa[k]? = some a ∧ h.get? a = some (lstObj items nn) ∧ st.own[k]? = some vs ∧ RVs fz oa P.da P.la items.toList vs := by
  cases ru with
  | own ha =>
    obtain ⟨g1, g2, g3, items, nn, ws, g4, g5, g6⟩ := S.own _ _ ha
    exact ⟨_, items, nn, ws, rfl, ha, g4, g5, g6⟩

theorem append_ok (hs : Snd mg mb r n) {o a : Expr} {ap cp : Pos} {w : V} {k : Nat} {l : List V} {st1 st2 : IS} {Q : Value → Shared → Prop} (hb : (baseOk o && ap.endLine == cp.line) = true) (h1 : r.e c o st = some (.own k, st1)) (R : Room n A) (I : EnvIs P c env) (B : Base P.hb mg mb)
    (S : St P env.cells c fz oa s.heap st) (h2 : r.e c a st1 = some (w, st2)) (hl : st2.own[k]? = some l) (hz : Mine.sizeOk l.length = true)
    (hQ : PostU P env.cells c fz oa s { st2 with own := st2.own.set k (l ++ [w]) } fun _ => Q .none) : wpAny (model P.prog P.w) A (eval (.Call (.Attribute o (Str.ofString "append") ap) [a] [] cp) env) Q E s := by
  refine method_ok hs (T := "list") (id := "list.append") hb h1 h2 R I B S PySem.F.slot_list_append PySem.F.plainAttrs_list PySem.F.type_list_append (fun u fz1 oa1 h1' S1 r1 => ?_) fun u x fz2 oa2 h2' tk2 S2 k2 q2 r2 rx => ?_
  · obtain ⟨b, items, nn, vs, e1, e2, e3, _⟩ := own_obj S1 r1
    exact ⟨b, _, e1, e3, rfl, rfl⟩
  · obtain ⟨b, items, nn, vs, rfl, e2, e3, e4, e5⟩ := own_obj S2 r2
    rw [hl] at e4
    cases e4
    have hlen : items.size = l.length := by have := e5.length; simpa using this
    refine call_meets (s := { s with heap := h2', toks := tk2 }) PySem.F.slot_list_append ⟨_, e3, rfl⟩ PySem.F.entry_list_append (PySem.F.args_list_append_2 _ _) (PySem.list_append b items nn x (by rw [hlen]; exact sizeOk_le hz)) ⟨e3, ?_⟩
    have hsame : Heap.SameBut b h2' (h2'.update b (Obj.mapSeq fun xs => xs.push x)) := Heap.SameBut.update ..
    exact hQ fz2 oa2 _ tk2 (S2.ownUpd e2 hsame (Heap.get?_update_self _ e3 rfl) (by simpa using e5.snoc rx)) k2 q2

theorem extend_ok (hs : Snd mg mb r n) {o a : Expr} {ap cp : Pos} {ds : List PyData} {k : Nat} {l : List V} {st1 st2 : IS} {Q : Value → Shared → Prop} (hb : (baseOk o && ap.endLine == cp.line) = true) (h1 : r.e c o st = some (.own k, st1)) (R : Room n A) (I : EnvIs P c env) (B : Base P.hb mg mb)
    (S : St P env.cells c fz oa s.heap st) (h2 : r.e c a st1 = some (.d (.list ds), st2)) (hl : st2.own[k]? = some l) (hz : Mine.sizeOk (l.length + ds.length) = true)
    (hQ : PostU P env.cells c fz oa s { st2 with own := st2.own.set k (l ++ ds.map .d) } fun _ => Q .none) : wpAny (model P.prog P.w) A (eval (.Call (.Attribute o (Str.ofString "extend") ap) [a] [] cp) env) Q E s := by
  refine method_ok hs (T := "list") (id := "list.extend") hb h1 h2 R I B S PySem.F.slot_list_extend PySem.F.plainAttrs_list PySem.F.type_list_extend (fun u fz1 oa1 h1' S1 r1 => ?_) fun u x fz2 oa2 h2' tk2 S2 k2 q2 r2 rx => ?_
  · obtain ⟨b, items, nn, vs, e1, e2, e3, _⟩ := own_obj S1 r1
    exact ⟨b, _, e1, e3, rfl, rfl⟩
  · obtain ⟨b, items, nn, vs, rfl, e2, e3, e4, e5⟩ := own_obj S2 r2
    obtain ⟨b2, items2, nn2, rfl, e6, e7⟩ := RVlist rx
    rw [hl] at e4
    cases e4
    have hlen : items.size = l.length := by have := e5.length; simpa using this
    have hlen2 : items2.size = ds.length := size_of e7
    have hz' : l.length + ds.length ≤ 1000000 := of_decide_eq_true hz
    have hs1 : items.size ≤ sizeLine := by rw [hlen]; exact sizeOk_le (k := l.length) (decide_eq_true (by omega))
    have hs2 : items.size + items2.size ≤ sizeLine + 1 := by rw [hlen, hlen2]; show _ ≤ 2 ^ 24 + 1; omega
    have ht : ¬ (!items.isEmpty && Builtin.List.listTooLong (items.size + items2.size)) = true := by
      have : Builtin.List.listTooLong (items.size + items2.size) = false := by unfold Builtin.List.listTooLong; rw [hlen, hlen2]; apply decide_eq_false; show ¬ (l.length + ds.length > 2 ^ 24); omega
      rw [this]; simp
    refine call_meets (s := { s with heap := h2', toks := tk2 }) PySem.F.slot_list_extend ⟨_, e3, rfl⟩ PySem.F.entry_list_extend (PySem.F.args_list_extend_2 _ _) (AutoSeq1.list_extend_list_list_0 b items nn b2 items2 nn2 ht hs1 hs2) ⟨e3, S2.fzh _ _ e6, ?_⟩
    have hsame : Heap.SameBut b h2' (h2'.update b (Obj.mapSeq fun xs => xs ++ items2)) := Heap.SameBut.update ..
    exact hQ fz2 oa2 _ tk2 (S2.ownUpd e2 hsame (Heap.get?_update_self _ e3 rfl) (by simpa using e5.append (RVs.ofD e7))) k2 q2

theorem methV_inv {m : Str} {ov v : V} (h : methV m ov v st = some st') : ∃ k l, ov = .own k ∧ st.own[k]? = some l ∧
    ((m = Str.ofString "append" ∧ Mine.sizeOk l.length = true ∧ st' = { st with own := st.own.set k (l ++ [v]) }) ∨ (∃ ds, m = Str.ofString "extend" ∧ v = .d (.list ds) ∧ Mine.sizeOk (l.length + ds.length) = true ∧ st' = { st with own := st.own.set k (l ++ ds.map .d) })) := by
  unfold methV at h
  split at h
  · rename_i k
    obtain ⟨l, h1, h⟩ := Option.bind_eq_some_iff.mp h
    split at h
    · rename_i hm
      split at h
      · rename_i hz; cases h; exact ⟨k, l, rfl, h1, .inl ⟨hm, hz, rfl⟩⟩
      · cases h
    · split at h
      · rename_i hm
        split at h
        · split at h
          · rename_i hz; cases h; exact ⟨k, l, rfl, h1, .inr ⟨_, hm, rfl, hz, rfl⟩⟩
          · cases h
        · cases h
      · cases h
  · cases h

theorem aug_exec {x : Str} {p : Pos} {op : Operator} {e : Expr} {pos : Pos} (hd : (x == ("__debug__" : Str)) = false) : exec (.AugAssign (.Name x p) op e pos) env = (do
    let old ← eval (.Name x p) env
    let v ← holding [old] (eval e env)
    standAt pos
    let new ← operate [old, v] (inplaceOp op old v)
    standAt p
    bindName env x new
    pure .next) := by
  rw [eval_Name env x p hd, arm_exec_AugAssign]
  simp only [bind_assoc]

theorem asgName_ok (hs : Snd mg mb r n) {x : Str} {e : Expr} {p pos : Pos} {fl : Fl} {Q : Flow → Shared → Prop} (hc : isComp e = false) (h : ((r.e c e st).bind fun q => (storeN c x q.1 q.2).map (Fl.next, ·)) = some (fl, st')) (R : Room n A) (I : EnvIs P c env) (B : Base P.hb mg mb) (S : St P env.cells c fz oa s.heap st)
    (hQ : PostB P env.cells c fz oa s st' fl Q) : wpAny (model P.prog P.w) A (exec (.Assign [.Name x p] e pos) env) Q E s := by
  obtain ⟨⟨v, st1⟩, h1, h⟩ := Option.bind_eq_some_iff.mp h
  obtain ⟨st2, h2, h⟩ := Option.map_eq_some_iff.mp h
  cases h
  exact wpAny_Assign_Name (hs.e h1 R I B S fun u fz1 oa1 h1' tk1 S1 k1 q1 r1 => storeN_ok (s := { s with heap := h1', toks := tk1 }) h2 I S1 r1 fun h2' tk2 S2 _ => hQ _ _ _ _ _ S2 k1 q1 .next) (noSwap_Name (by rw [hc]; decide))
theorem exS_ok (hs : Snd mg mb r n) {t : Stmt} {fl : Fl} {Q : Flow → Shared → Prop} (h : exS r c t st = some (fl, st')) (R : Room n A) (I : EnvIs P c env) (B : Base P.hb mg mb) (S : St P env.cells c fz oa s.heap st)
    (hQ : PostB P env.cells c fz oa s st' fl Q) : wpAny (model P.prog P.w) A (exec t env) Q E s := by
  cases t with
  | Assign targets e pos =>
    cases targets with
    | nil => exact no h
    | cons t tl =>
      cases tl with
      | cons _ _ => cases t <;> exact no h
      | nil =>
        cases t with
        | Name x p =>
          cases e with
          | ListComp elt gens scope q =>
            cases gens with
            | nil => exact no h
            | cons g tl =>
              obtain ⟨target, iter, ifs, k⟩ := g
              cases k with
              | negSucc _ => cases tl <;> exact no h
              | ofNat k =>
                cases k with
                | succ _ => cases tl <;> exact no h
                | zero =>
                  cases tl with
                  | cons _ _ => exact no h
                  | nil =>
                    have h : (if swapsC c (.ListComp elt [⟨target, iter, ifs, 0⟩] scope q) x p then
                      (compV r c elt target iter ifs scope st).bind fun q => (storeN c x (.d (.list q.1)) q.2).map (Fl.next, ·) else none) = some (fl, st') := h
                    split at h
                    case isFalse => exact no h
                    rename_i hsw
                    obtain ⟨⟨ys, st1⟩, h1, h⟩ := Option.bind_eq_some_iff.mp h
                    obtain ⟨st2, h2, h⟩ := Option.map_eq_some_iff.mp h
                    cases h
                    exact compAssign_ok hs h1 hsw h2 R I B S hQ
          | SetComp a b c d => exact no h
          | DictComp a b c d f => exact no h
          | _ => exact asgName_ok hs rfl h R I B S hQ
        | Tuple ts k p =>
          delta exS at h
          dsimp only at h
          split at h
          case isTrue => exact no h
          obtain ⟨⟨v, st1⟩, h1, h⟩ := Option.bind_eq_some_iff.mp h
          obtain ⟨sw, h2, h⟩ := Option.bind_eq_some_iff.mp h
          dsimp only at h
          split at h
          · obtain ⟨st2, h3, h⟩ := Option.map_eq_some_iff.mp h
            cases h
            refine Assign_Tuple (hs.e h1 R I B S fun u fz1 oa1 h1' tk1 S1 k1 q1 r1 => hs.a h3 R I B S1 r1 fun fz2 oa2 h2' tk2 S2 k2 q2 => ?_) noSwap_Tuple (swpC_ok I h2)
            exact hQ _ _ _ _ _ S2 (k1.trans k2) (q1.trans q2) .next
          · rename_i names
            obtain ⟨vs, h3, h⟩ := Option.bind_eq_some_iff.mp h
            split at h
            case isFalse => exact no h
            rename_i hlen
            simp only [Bool.and_eq_true, decide_eq_true_eq] at hlen
            obtain ⟨st2, h4, h⟩ := Option.map_eq_some_iff.mp h
            cases h
            refine Assign_Tuple_swapped (names := names) (hs.e h1 R I B S fun u fz1 oa1 h1' tk1 S1 k1 q1 r1 => ?_) noSwap_Tuple (swpC_ok I h2)
            obtain ⟨a, items, k, rfl, e, rr⟩ := items_of h3 r1
            have hn : names.length = items.size := by rw [← hlen.1, ← rr.length]; simp
            rw [hn]
            refine wpAny_unpackItems_tuple (s := { s with heap := h1', toks := tk1 }) R.1 ⟨_, S1.fzh _ _ e, rfl, k, rfl⟩ fun h2' he => ?_
            have S2 : St P env.cells c fz1 oa1 h2' st1 := S1.ext fun b o e => he b o (Nat.ne_of_lt (Heap.lt_size e)) e
            exact storeL_ok (s := { s with heap := h2', toks := tk1 }) h4 I S2 rr.reverse fun fz3 oa3 h3' tk3 S3 k3 q3 => hQ _ _ _ _ _ S3 (k1.trans k3) (q1.trans q3) .next
        | Subscript o i p =>
          delta exS at h
          dsimp only at h
          split at h
          case isTrue => exact no h
          obtain ⟨⟨v, st1⟩, h1, h⟩ := Option.bind_eq_some_iff.mp h
          obtain ⟨st2, h3, h⟩ := Option.map_eq_some_iff.mp h
          cases h
          rw [PyProof.Rows.exec_Assign]
          refine wpAny_bind (wpAny_standAt ?_)
          rw [noSwap_Sub]
          refine wpAny_bind (wpAny_pure ?_)
          rw [if_neg (by decide)]
          refine wpAny_bind (hs.e h1 R I B S fun u fz1 oa1 h1' tk1 S1 k1 q1 r1 => ?_)
          have hw : swappedStores [.Subscript o i p] e env = pure none := by cases e <;> rfl
          rw [hw]
          refine wpAny_bind (wpAny_pure ?_)
          show wpAny _ A (do assignAll u [assign (.Subscript o i p) env]; pure .next) Q E _
          refine wpAny_bind (hs.a h3 R I B S1 r1 fun fz2 oa2 h2' tk2 S2 k2 q2 => wpAny_pure ?_)
          exact hQ _ _ _ _ _ S2 (k1.trans k2) (q1.trans q2) .next
        | _ => exact no h
  | AugAssign target op e pos =>
    cases target with
    | Name x p =>
      cases op with
      | Add =>
        delta exS at h
        dsimp only at h
        split at h
        case isFalse => exact no h
        rename_i hd
        have hd' := (Bool.and_eq_true_iff.mp hd).1
        obtain ⟨⟨v, st1⟩, h1, h⟩ := Option.bind_eq_some_iff.mp h
        obtain ⟨⟨w, st2⟩, h2, h⟩ := Option.bind_eq_some_iff.mp h
        dsimp only at h
        split at h
        · obtain ⟨st3, h3, h⟩ := Option.map_eq_some_iff.mp h
          cases h
          rw [aug_exec (by simpa using hd')]
          refine wpAny_bind (hs.e h1 R I B S fun u1 fz1 oa1 h1' tk1 S1 k1 q1 r1 => wpAny_bind (wpAny_holding (hs.e h2 R I B S1 fun u2 fz2 oa2 h2' tk2 S2 k2 q2 r2 => wpAny_bind (wpAny_standAt (wpAny_bind (wpAny_operate' ?_))))))
          obtain ⟨t1, rfl⟩ := RVint r1
          obtain ⟨t2, rfl⟩ := RVint r2
          refine PySem.P.iadd_int (wpAny_bind (wpAny_standAt (wpAny_bind (wpAny_bindName (storeN_ok h3 I (s := { s with heap := h2', toks := tk2 + 1 }) S2 (.d (.int _ _)) fun h3' tk3 S3 _ => wpAny_pure ?_)))))
          exact hQ _ _ _ _ _ S3 (k1.trans k2) (q1.trans q2) .next
        · exact no h
      | _ => exact no h
    | _ => exact no h
  | If t b o pos =>
    obtain ⟨⟨b, st1⟩, h1, h⟩ := Option.bind_eq_some_iff.mp h
    refine wpAny_If (hs.t h1 R I B S fun fz1 oa1 h1' tk1 S1 k1 q1 => ?_)
    cases b with
    | true =>
      exact hs.b h R I B S1 fun f fz2 oa2 h2' tk2 S2 k2 q2 rf => hQ _ _ _ _ _ S2 (k1.trans k2) (q1.trans q2) rf
    | false =>
      exact hs.b h R I B S1 fun f fz2 oa2 h2' tk2 S2 k2 q2 rf => hQ _ _ _ _ _ S2 (k1.trans k2) (q1.trans q2) rf
  | For t it b o pos =>
    cases o with
    | cons _ _ => exact no h
    | nil =>
      delta exS at h
      dsimp only at h
      split at h
      case isFalse => exact no h
      rename_i ht
      obtain ⟨⟨xs, st1⟩, h1, h⟩ := Option.bind_eq_some_iff.mp h
      exact for_ok hs h1 ht h R I B S hQ
  | Return e pos =>
    cases e with
    | none => exact no h
    | some e =>
      obtain ⟨⟨v, st1⟩, h1, h⟩ := Option.map_eq_some_iff.mp h
      cases h
      exact wpAny_Return_some (hs.e h1 R I B S fun u fz1 oa1 h1' tk1 S1 k1 q1 r1 => hQ _ _ _ _ _ S1 k1 q1 (.ret r1))
  | Expr e pos =>
    cases e with
    | Call f args kws cp =>
      cases f with
      | Attribute o m ap =>
        cases args with
        | nil => exact no h
        | cons a tl => cases tl with
          | cons _ _ => exact no h
          | nil => cases kws with
            | cons _ _ => exact no h
            | nil =>
              delta exS at h
              dsimp only at h
              split at h
              case isFalse => exact no h
              rename_i hb
              obtain ⟨⟨ov, st1⟩, h1, h⟩ := Option.bind_eq_some_iff.mp h
              obtain ⟨⟨w, st2⟩, h2, h⟩ := Option.bind_eq_some_iff.mp h
              obtain ⟨st3, h3, h⟩ := Option.map_eq_some_iff.mp h
              cases h
              obtain ⟨k, l, e1, e2, e3⟩ := methV_inv h3
              dsimp only at e1
              subst e1
              have hint : interactive env = false := by unfold interactive; rw [I.kind]; rfl
              rcases e3 with ⟨e3, e4, e5⟩ | ⟨ds, e3, e4, e5, e6⟩
              · subst e3 e5
                exact wpAny_Expr (append_ok hs hb h1 R I B S h2 e2 e4 fun fz1 oa1 h1' tk1 S1 k1 q1 => hQ _ _ _ _ _ S1 k1 q1 .next) hint rfl
              · dsimp only at e4
                subst e3 e4 e6
                exact wpAny_Expr (extend_ok hs hb h1 R I B S h2 e2 e5 fun fz1 oa1 h1' tk1 S1 k1 q1 => hQ _ _ _ _ _ S1 k1 q1 .next) hint rfl
      | _ => exact no h
    | _ => exact no h
  | _ => exact no h

theorem exB_ok (hs : Snd mg mb r n) : ∀ {b : List Stmt} {st st' : IS} {fl : Fl} {s : Shared} {fz : Fz} {oa : List Addr} {Q : Flow → Shared → Prop}, exB r c b st = some (fl, st') → Room n A → EnvIs P c env → Base P.hb mg mb → St P env.cells c fz oa s.heap st →
    PostB P env.cells c fz oa s st' fl Q → wpAny (model P.prog P.w) A (execs b env) Q E s
  | [], st, st', fl, s, fz, oa, Q, h, R, I, B, S, hQ => by
    simp only [exB, Option.some.injEq, Prod.mk.injEq] at h
    obtain ⟨rfl, rfl⟩ := h
    exact wpAny_execs_nil (hQ .next fz oa s.heap s.toks S (FLe.refl _) (OLe.refl _) .next)
  | t :: ts, st, st', fl, s, fz, oa, Q, h, R, I, B, S, hQ => by
    obtain ⟨⟨f, st1⟩, h1, h⟩ := Option.bind_eq_some_iff.mp h
    refine wpAny_execs_cons (exS_ok hs h1 R I B S fun f1 fz1 oa1 h1' tk1 S1 k1 q1 rf => ?_)
    cases rf with
    | next => exact exB_ok hs h R I B S1 fun f2 fz2 oa2 h2' tk2 S2 k2 q2 rf2 => hQ f2 fz2 oa2 h2' tk2 S2 (k1.trans k2) (q1.trans q2) rf2
    | ret rv =>
      simp only [Option.some.injEq, Prod.mk.injEq] at h
      obtain ⟨rfl, rfl⟩ := h
      exact hQ _ _ _ _ _ S1 k1 q1 (.ret rv)
end
end Mine
namespace Mine
open PySem PySem.W PyProof.Rows PySem.Calls
theorem zip_lookup : ∀ {ns : List Str} {us : List Value} {x : Str}, us.length = ns.length → x ∈ ns → ((ns.zip us).lookup x).isNone = false
  | [], us, x, h, hm => by cases hm
  | n :: ns, [], x, h, hm => by simp at h
  | n :: ns, u :: us, x, h, hm => by
    rw [List.zip_cons_cons, List.lookup_cons]
    by_cases e : x = n
    · subst e; simp
    · rw [beq_eq_false_iff_ne.mpr e]
      exact zip_lookup (by simpa using h) ((List.mem_cons.mp hm).resolve_left e)
theorem zip_fm : ∀ {ns : List Str} {us : List Value} {l : List (Str × Value)}, us.length = ns.length → ns.Nodup → (∀ x ∈ ns, l.lookup x = (ns.zip us).lookup x) → ns.filterMap (fun n => (l.lookup n).map (n, ·)) = ns.zip us
  | [], us, l, h, hn, hl => by simp
  | n :: ns, [], l, h, hn, hl => by simp at h
  | n :: ns, u :: us, l, h, hn, hl => by
    obtain ⟨h1, h2⟩ := List.nodup_cons.mp hn
    have e1 := hl n List.mem_cons_self
    rw [List.zip_cons_cons, List.lookup_cons, beq_self_eq_true] at e1
    rw [List.filterMap_cons, e1]
    dsimp only [Option.map_some]
    rw [List.zip_cons_cons, zip_fm (by simpa using h) h2 fun x hx => ?_]
    have e3 : (x == n) = false := beq_eq_false_iff_ne.mpr fun q => h1 (by rw [← q]; exact hx)
    rw [hl x (List.mem_cons_of_mem _ hx), List.zip_cons_cons, List.lookup_cons, e3]
theorem bind_plain {fd : FuncData} {vals : List Value} (h1 : fd.params.posonlyargs = []) (h2 : fd.params.kwonlyargs = []) (h3 : fd.params.vararg = none) (h4 : fd.params.kwarg = none) (hd : fd.defaults = .none)
    (hn : (fd.params.args.map (·.arg)).Nodup) (hl : vals.length = (fd.params.args.map (·.arg)).length) : bindArgs fd ⟨vals, []⟩ = pure ((fd.params.args.map (·.arg)).zip vals) := by
  have e : seqItems? fd.defaults = pure none := by rw [hd]; rfl
  have e2 : ∀ ns : List Str, ns = fd.params.args.map (·.arg) → (ns.filter fun n => ((ns.zip vals).lookup n).isNone) = [] := fun ns hns => by
    rw [List.filter_eq_nil_iff]; intro x hx; rw [zip_lookup (by rw [hns]; exact hl) hx]; exact Bool.false_ne_true
  unfold bindArgs
  simp only [h1, h2, h3, h4, e, hl, List.map_nil, List.nil_append, List.append_nil, List.forIn_nil, pure_bind, bind_pure_comp, Option.getD_none, List.drop_nil, List.length_nil, Nat.sub_zero, List.take_length, e2 _ rfl, List.isEmpty_nil, Bool.not_true, Bool.false_eq_true, if_false, Option.isNone_none, Bool.and_true, List.zip_nil_right, map_pure, gt_iff_lt, Nat.lt_irrefl, decide_false]
  rw [zip_fm hl hn fun _ _ => rfl]

structure OkRec (d : DefRec) : Prop where
  kind : d.scope.kind = .function
  co : d.scope.isCoroutine = false
  gen : d.scope.isGenerator = false
  p1 : d.params.posonlyargs = []
  p2 : d.params.kwonlyargs = []
  p3 : d.params.vararg = none
  p4 : d.params.kwarg = none
  nodup : (d.params.args.map (·.arg)).Nodup
  names : ∀ x ∈ d.params.args.map (·.arg), d.scope.names.lookup x = some .local ∨ d.scope.names.lookup x = some .cell
theorem OkRec.of {d : DefRec} (h : okRec d = true) : OkRec d := by
  unfold okRec at h
  simp only [Bool.and_eq_true, decide_eq_true_eq, List.isEmpty_iff, Option.isNone_iff_eq_none, List.all_eq_true] at h
  obtain ⟨⟨⟨⟨⟨⟨⟨⟨h1, h2⟩, h3⟩, h4⟩, h5⟩, h6⟩, h7⟩, h8⟩, h9⟩ := h
  exact ⟨h1, h2, h3, h4, h5, h6, h7, h8, h9⟩

section
variable {mg mb : Str → Option Value} {r : Ev} {n : Nat} {P : Pm} {A : Around} {env : Env} {E : Value → Shared → Prop} {s : Shared} {fz : Fz} {oa : List Addr} {c : FC} {st st' : IS} {h h' : Heap} {cl : List (Str × Addr)}

theorem bindL_other {k : Str → Option NameKind} {x : Str} : ∀ {ns : List Str} {us : List Value} {m : Str → Option Value}, x ∉ ns → bindL k (ns.zip us) m x = m x
  | [], us, m, h => rfl
  | n :: ns, [], m, h => rfl
  | n :: ns, u :: us, m, h => by
    obtain ⟨h1, h2⟩ := not_or.mp (fun q => h (List.mem_cons.mpr q))
    rw [List.zip_cons_cons]
    unfold bindL
    rw [bindL_other h2]
    split
    · exact if_neg h1
    · rfl
theorem bindC_other {k : Str → Option NameKind} {x : Str} : ∀ {ns : List Str} {us : List Value} {m : Str → Option Value}, x ∉ ns → bindC k (ns.zip us) m x = m x
  | [], us, m, h => rfl
  | n :: ns, [], m, h => rfl
  | n :: ns, u :: us, m, h => by
    obtain ⟨h1, h2⟩ := not_or.mp (fun q => h (List.mem_cons.mpr q))
    rw [List.zip_cons_cons]
    unfold bindC
    rw [bindC_other h2]
    split
    · rfl
    · exact if_neg h1

theorem getV_none {x : Str} : ∀ {l : Vars}, (∀ y ∈ l, y.2 = none) → getV l x = none
  | [], h => rfl
  | (y, v) :: l, h => by
    unfold getV
    split
    · exact h _ List.mem_cons_self
    · exact getV_none fun z hz => h z (List.mem_cons_of_mem _ hz)

theorem initV_ok {sc : Scope} {da la : Addr} {x : Str} {v : V} {rest : Vars} (hrest : ∀ y ∈ rest, y.2 = none) {k : Str → Option NameKind} (hk : ∀ y, k y = sc.names.lookup y) : ∀ {ns : List Str} {us : List Value} {vs : List V} {m : Str → Option Value}, ns.Nodup → (∀ y ∈ ns, sc.names.lookup y = some .local ∨ sc.names.lookup y = some .cell) → RVs fz oa da la us vs →
    getV ((ns.zip vs).filterMap (fun p => if isCellN sc p.1 then none else some (p.1, some p.2)) ++ rest) x = some v → ∃ u, bindL k (ns.zip us) m x = some u ∧ RV fz oa da la u v
  | [], us, vs, m, hn, hc, rv, h => by
    rw [show (([] : List Str).zip vs) = [] by simp] at h
    rw [show ([] : List (Str × V)).filterMap (fun p => if isCellN sc p.1 then none else some (p.1, some p.2)) ++ rest = rest from rfl, getV_none hrest] at h
    cases h
  | n :: ns, [], [], m, hn, hc, .nil, h => by
    rw [show ((n :: ns).zip ([] : List V)) = [] by simp] at h
    rw [show ([] : List (Str × V)).filterMap (fun p => if isCellN sc p.1 then none else some (p.1, some p.2)) ++ rest = rest from rfl, getV_none hrest] at h
    cases h
  | n :: ns, u :: us, w :: vs, m, hn, hc, .cons rv rvs, h => by
    obtain ⟨h1, h2⟩ := List.nodup_cons.mp hn
    rw [List.zip_cons_cons, List.filterMap_cons] at h
    rw [List.zip_cons_cons]
    unfold bindL
    by_cases hcell : isCellN sc n = true
    · rw [if_pos hcell] at h
      exact initV_ok hrest hk h2 (fun y hy => hc y (List.mem_cons_of_mem _ hy)) rvs h
    · rw [if_neg hcell] at h
      dsimp only at h
      rw [List.cons_append] at h
      unfold getV at h
      have hl : sc.names.lookup n = some .local := by
        rcases hc n List.mem_cons_self with q | q
        · exact q
        · exact absurd (by unfold isCellN; rw [q]; rfl) hcell
      by_cases hx : x = n
      · rw [if_pos hx] at h
        cases h
        refine ⟨u, ?_, rv⟩
        rw [hx, bindL_other h1, if_pos (by rw [hk]; exact hl)]
        simp
      · rw [if_neg hx] at h
        exact initV_ok hrest hk h2 (fun y hy => hc y (List.mem_cons_of_mem _ hy)) rvs h

theorem initC_mem {sc : Scope} {x : Str} {v : PyData} : ∀ {ns : List Str} {vs : List V}, (((ns.zip vs).filterMap fun p => match p.2 with
    | .d x => if isCellN sc p.1 then some (p.1, x) else none
    | _ => none).lookup x) = some v → x ∈ ns ∧ isCellN sc x = true
  | [], vs, h => by simp at h
  | n :: ns, [], h => by simp at h
  | n :: ns, w :: vs, h => by
    rw [List.zip_cons_cons, List.filterMap_cons] at h
    split at h
    · obtain ⟨a, b⟩ := initC_mem h
      exact ⟨List.mem_cons_of_mem _ a, b⟩
    · rename_i q e
      rw [List.lookup_cons] at h
      dsimp only at e
      split at e
      · split at e
        · rename_i hc
          cases e
          dsimp only at h
          by_cases hx : x = n
          · exact ⟨hx ▸ List.mem_cons_self, hx ▸ hc⟩
          · rw [beq_eq_false_iff_ne.mpr hx] at h
            obtain ⟨a, b⟩ := initC_mem h
            exact ⟨List.mem_cons_of_mem _ a, b⟩
        · cases e
      · cases e

theorem initC_ok {sc : Scope} {da la : Addr} {x : Str} {v : PyData} {k : Str → Option NameKind} (hk : ∀ y, k y = sc.names.lookup y) : ∀ {ns : List Str} {us : List Value} {vs : List V} {m : Str → Option Value}, ns.Nodup → RVs fz oa da la us vs →
    (((ns.zip vs).filterMap fun p => match p.2 with
    | .d x => if isCellN sc p.1 then some (p.1, x) else none
    | _ => none).lookup x) = some v → ∃ u, bindC k (ns.zip us) m x = some u ∧ RD fz u v
  | [], us, vs, m, hn, rv, h => by simp at h
  | n :: ns, [], [], m, hn, .nil, h => by simp at h
  | n :: ns, u :: us, w :: vs, m, hn, .cons rv rvs, h => by
    obtain ⟨h1, h2⟩ := List.nodup_cons.mp hn
    rw [List.zip_cons_cons, List.filterMap_cons] at h
    rw [List.zip_cons_cons]
    unfold bindC
    cases w with
    | d y =>
      dsimp only at h
      by_cases hc : isCellN sc n = true
      · rw [if_pos hc] at h
        dsimp only at h
        rw [List.lookup_cons] at h
        have hl : ¬ k n = some .local := by
          rw [hk]
          have : sc.names.lookup n = some .cell := by unfold isCellN at hc; exact beq_iff_eq.mp hc
          rw [this]; decide
        by_cases hx : x = n
        · rw [hx, beq_self_eq_true] at h
          cases h
          cases rv with
          | d rd => exact ⟨u, by rw [hx, bindC_other h1, if_neg hl]; simp, rd⟩
        · rw [beq_eq_false_iff_ne.mpr hx] at h
          exact initC_ok hk h2 rvs h
      · rw [if_neg hc] at h
        exact initC_ok hk h2 rvs h
    | own _ => exact initC_ok hk h2 rvs h
    | tup _ => exact initC_ok hk h2 rvs h
    | deck => exact initC_ok hk h2 rvs h
    | left => exact initC_ok hk h2 rvs h

theorem RVs.all : ∀ {us : List Value} {vs : List V} {g : Fz} {ob : List Addr} {da la : Addr}, RVs fz oa da la us vs → vs.all argOk = true → FLe fz g → RVs g ob da la us vs
  | _, _, _, _, _, _, .nil, _, _ => .nil
  | _, _, _, _, _, _, .cons h r, a, k => by
    rw [List.all_cons, Bool.and_eq_true] at a
    refine .cons ?_ (r.all a.2 k)
    cases h with
    | d h => exact .d (h.mono k)
    | deck => exact .deck
    | own _ => exact absurd a.1 (by simp [argOk])
    | tup _ _ => exact absurd a.1 (by simp [argOk])
    | left => exact absurd a.1 (by simp [argOk])
end
end Mine
namespace Mine
open PySem PySem.W PyProof.Rows PySem.Calls
section
variable {mg mb : Str → Option Value} {r : Ev} {n : Nat} {P : Pm} {A : Around} {env : Env} {E : Value → Shared → Prop} {s : Shared} {fz : Fz} {oa : List Addr} {c : FC} {st st' : IS} {h h' : Heap} {cl : List (Str × Addr)}

theorem cells_acc {x : Str} : ∀ (names : List (Str × NameKind)) (n : Nat) (acc : List (Str × Addr)), (acc.lookup x).isSome = true → ((cellsFrom n names acc).lookup x).isSome = true
  | [], _, _, h => h
  | (y, k) :: r, n, acc, h => by
    unfold cellsFrom
    split
    · apply cells_acc r
      rw [List.lookup_cons]
      cases x == y
      · exact h
      · rfl
    · exact cells_acc r n acc h
/-- a captured name has a cell -/
theorem cells_some {x : Str} : ∀ (names : List (Str × NameKind)) (n : Nat) (acc : List (Str × Addr)), names.lookup x = some .cell → ((cellsFrom n names acc).lookup x).isSome = true
  | [], _, _, h => by cases h
  | (y, k) :: r, n, acc, h => by
    rw [List.lookup_cons] at h
    unfold cellsFrom
    cases e : x == y
    · rw [e] at h
      split
      · exact cells_some r _ _ h
      · exact cells_some r _ _ h
    · rw [e] at h
      cases h
      rw [if_pos (show (NameKind.cell == NameKind.cell) = true from rfl)]
      apply cells_acc r
      rw [List.lookup_cons, e]
      rfl
theorem mapM_cons_inv {α β : Type} {f : α → Option β} {x : α} {l : List α} {ys : List β} (h : (x :: l).mapM f = some ys) : ∃ y zs, f x = some y ∧ l.mapM f = some zs ∧ ys = y :: zs := by
  rw [List.mapM_cons] at h
  obtain ⟨y, h1, h⟩ := Option.bind_eq_some_iff.mp h
  obtain ⟨zs, h2, h⟩ := Option.bind_eq_some_iff.mp h
  cases h
  exact ⟨y, zs, h1, h2, rfl⟩

theorem freeze_ok (S : St P cl c fz oa h st) {g : Fz} (hg : FLe fz g) (ho : ∀ a ∈ oa, g a = h.get? a) : ∀ n, (∀ (v : V) (u : Value) (x : PyData), RV fz oa P.da P.la u v → freeze n st.own v = some x → RD g u x) ∧
    (∀ (l : List V) (us : List Value) (xs : List PyData), RVs fz oa P.da P.la us l → freezeL n st.own l = some xs → RDs g us xs)
  | 0 => ⟨fun v u x _ h => by simp [freeze] at h, fun l us xs _ h => by simp [freezeL] at h⟩
  | n + 1 => by
    obtain ⟨ih1, ih2⟩ := freeze_ok S hg ho n
    refine ⟨fun v u x ru h => ?_, fun l us xs ru h => ?_⟩
    · cases v with
      | d y => simp only [freeze, Option.some.injEq] at h; subst h; cases ru with | d r => exact r.mono hg
      | own k =>
        rw [freeze] at h
        obtain ⟨l, h1, h⟩ := Option.bind_eq_some_iff.mp h
        obtain ⟨xs, h2, h⟩ := Option.map_eq_some_iff.mp h
        subst h
        obtain ⟨a, items, nn, vs, rfl, e2, e3, e4, e5⟩ := own_obj S ru
        rw [h1] at e4
        cases e4
        exact .list ((ho a (List.mem_of_getElem? e2)).trans e3) (ih2 _ _ _ e5 h2)
      | tup l =>
        rw [freeze] at h
        obtain ⟨xs, h2, h⟩ := Option.map_eq_some_iff.mp h
        subst h
        cases ru with
        | tup e rr => exact .tuple (hg _ _ e) (ih2 _ _ _ rr h2)
      | deck => simp [freeze] at h
      | left => simp [freeze] at h
    · rw [freezeL] at h
      induction l generalizing us xs with
      | nil => cases ru; simp at h; subst h; exact .nil
      | cons v l ih =>
        obtain ⟨y, zs, h1, h2, rfl⟩ := mapM_cons_inv h
        cases ru with
        | cons r1 r2 => exact .cons (ih1 _ _ _ r1 h1) (ih _ _ r2 h2)

noncomputable def callee (P : Pm) (fz : Fz) (h : Heap) (dk : Dk) : Pm :=
  { P with kp := fun b => if dk.isSome = true ∧ (b = P.da ∨ b = P.la) then none else h.get? b, L := h.objs.size, f0 := fz, n0 := h.objs.size, m0 := h.objs.size }

theorem callee_kp {dk : Dk} (S : St P cl c fz oa h st) (hdk : st.dk = dk) {b : Addr} {o : Obj} (e : h.get? b = some o) (h1 : dk.isSome = true → b ≠ P.da ∧ b ≠ P.la) : (callee P fz h dk).kp b = some o := by
  show (if dk.isSome = true ∧ (b = P.da ∨ b = P.la) then none else h.get? b) = some o
  rw [if_neg (fun q => q.2.elim (h1 q.1).1 (h1 q.1).2)]
  exact e

/-- the caller's matters, when the call is over -/
theorem St.back {dk : Dk} (S : St P cl c fz oa h st) (hdk : st.dk = dk) {cl' : List (Str × Addr)} {c' : FC} {fz₂ : Fz} {oa₂ : List Addr} {h₂ : Heap} {st₂ : IS} (S₂ : St (callee P fz h dk) cl' c' fz₂ oa₂ h₂ st₂) :
    St P cl c (fun b => if b ∈ oa₂ then h₂.get? b else fz₂ b) oa h₂ { st with dk := st₂.dk } ∧ FLe fz (fun b => if b ∈ oa₂ then h₂.get? b else fz₂ b) ∧ FLe fz₂ (fun b => if b ∈ oa₂ then h₂.get? b else fz₂ b) := by
  have own2 : ∀ b ∈ oa₂, fz₂ b = none ∧ h.objs.size ≤ b := fun b hb => by
    obtain ⟨k, e⟩ := List.getElem?_of_mem hb
    obtain ⟨h1, ⟨h2, _⟩, _⟩ := S₂.own k b e
    exact ⟨h1, h2⟩
  have le2 : FLe fz₂ (fun b => if b ∈ oa₂ then h₂.get? b else fz₂ b) := fun b o e => by
    show (if b ∈ oa₂ then h₂.get? b else fz₂ b) = some o
    rw [if_neg fun hb => by rw [(own2 b hb).1] at e; cases e]; exact e
  have grow : FLe fz fz₂ := S₂.grow
  have le := grow.trans le2
  have old : ∀ b, b < h.objs.size → ∀ o, (if b ∈ oa₂ then h₂.get? b else fz₂ b) = some o → fz b = some o := fun b hb o e => by
    rw [if_neg fun hm => absurd hb (Nat.not_lt.mpr (own2 b hm).2)] at e
    rcases S₂.new b o e with q | q
    · exact q
    · exact absurd hb (Nat.not_lt.mpr q)
  have dkne : ∀ b, (st.dk.isSome = true → b ≠ P.da ∧ b ≠ P.la) → ∀ o, h.get? b = some o → h₂.get? b = some o := fun b hb o e => S₂.keep b o (callee_kp S hdk e (by rw [← hdk]; exact hb))
  have dkof : st.dk.isSome = true → ∃ l m, st.dk = some (l, m) := fun q => by
    obtain ⟨⟨l, m⟩, e⟩ := Option.isSome_iff_exists.mp q
    exact ⟨l, m, e⟩
  refine ⟨?_, le, le2⟩
  exact {
    top := fun b o e => le b o (S.top b o e)
    fzh := fun b o e => by
      split at e
      · exact e
      · exact S₂.fzh b o e
    keep := fun b o e => dkne b (fun q => by
      obtain ⟨l, m, e2⟩ := dkof q
      obtain ⟨_, _, _, h3, h4, _⟩ := S.deck l m e2
      exact ⟨fun q => (by rw [q, h3] at e; cases e), fun q => (by rw [q, h4] at e; cases e)⟩) o (S.keep b o e)
    grow := S.grow.trans le
    new := fun b o e => by
      split at e
      · rename_i hb
        exact .inr (Nat.le_trans S.n0le (own2 b hb).2)
      · rcases S₂.new b o e with q | q
        · exact S.new b o q
        · exact .inr (Nat.le_trans S.n0le q)
    base := S.base
    fresh := S.fresh
    fresh2 := S.fresh2
    fzL := by
      cases e : (if P.L ∈ oa₂ then h₂.get? P.L else fz₂ P.L) with
      | none => rfl
      | some o => have := old P.L S.ltL o e; rw [S.fzL] at this; cases this
    vars := by
      obtain ⟨m, hn, hv⟩ := S.vars
      refine ⟨m, ?_, fun x v e => let ⟨u, h1, h2⟩ := hv x v e; ⟨u, h1, h2.mono le (OLe.refl _)⟩⟩
      obtain ⟨o, es, ep, ho, rr⟩ := hn
      exact ⟨o, es, ep, dkne P.L (fun q => by
        obtain ⟨l, m, e2⟩ := dkof q
        obtain ⟨_, _, _, _, _, h5, h6, _⟩ := S.deck l m e2
        exact ⟨Ne.symm h5, Ne.symm h6⟩) _ ho, rr⟩
    cells := fun x v hx e => let ⟨a, u, o, h1, h2, h3, h4⟩ := S.cells x v hx e; ⟨a, u, o, h1, le _ _ h2, h3, h4.mono le⟩
    len := S.len
    own := fun i a e => by
      obtain ⟨h1, h2, h3, items, n, vs, h4, h5, h6⟩ := S.own i a e
      refine ⟨?_, h2, h3, items, n, vs, dkne a (fun q => ?_) _ h4, h5, h6.mono le (OLe.refl _)⟩
      · cases e' : (if a ∈ oa₂ then h₂.get? a else fz₂ a) with
        | none => rfl
        | some o => have := old a (Heap.lt_size h4) o e'; rw [h1] at this; cases this
      · obtain ⟨l, m, e2⟩ := dkof q
        obtain ⟨_, _, _, _, _, _, _, h7, h8, _⟩ := S.deck l m e2
        have hm : a ∈ oa := List.mem_of_getElem? e
        exact ⟨fun q => h7 (q ▸ hm), fun q => h8 (q ▸ hm)⟩
    nodup := S.nodup
    deck := fun l m e => by
      obtain ⟨d, g1, g2, g3, g4, g5, g6, g7, g8, g9⟩ := S₂.deck l m e
      have z1 : (if P.da ∈ oa₂ then h₂.get? P.da else fz₂ P.da) = none := (if_neg g7).trans g1
      have z2 : (if P.la ∈ oa₂ then h₂.get? P.la else fz₂ P.la) = none := (if_neg g8).trans g2
      have d' : DeckAt P h₂ l m := d
      cases hs : st.dk with
      | some p =>
        obtain ⟨_, _, _, h3, h4, h5, h6, h7, h8, _⟩ := S.deck p.1 p.2 hs
        exact ⟨d', z1, z2, h3, h4, h5, h6, h7, h8, g9⟩
      | none =>
        have k1 : h.get? P.da = none := by
          have : (if dk.isSome = true ∧ (P.da = P.da ∨ P.da = P.la) then none else h.get? P.da) = none := g3
          rw [if_neg (by rw [← hdk, hs]; simp)] at this; exact this
        have k2 : h.get? P.la = none := by
          have : (if dk.isSome = true ∧ (P.la = P.da ∨ P.la = P.la) then none else h.get? P.la) = none := g4
          rw [if_neg (by rw [← hdk, hs]; simp)] at this; exact this
        have kpn : ∀ b, h.get? b = none → P.kp b = none := fun b e => by
          cases q : P.kp b with
          | none => rfl
          | some o => rw [S.keep b o q] at e; cases e
        have nL : ∀ b, h.get? b = none → b ≠ P.L := fun b e q => by
          obtain ⟨m, ⟨o, es, ep, ho, _⟩, _⟩ := S.vars
          rw [q, ho] at e; cases e
        have nO : ∀ b, h.get? b = none → b ∉ oa := fun b e hm => by
          obtain ⟨k, e2⟩ := List.getElem?_of_mem hm
          obtain ⟨_, _, _, _, _, _, h4, _⟩ := S.own k b e2
          rw [h4] at e; cases e
        exact ⟨d', z1, z2, kpn _ k1, kpn _ k2, nL _ k1, nL _ k2, nO _ k1, nO _ k2, g9⟩ }

theorem callF_ok (hs : Snd mg mb r n) {f : Str} {vs : List V} {dk dk' : Dk} {v : V} {us : List Value} {a : Addr} {Q : Value → Shared → Prop} (h : callF r f vs dk = some (v, dk')) (R : Room (n + 1) A) (B : Base P.hb mg mb) (S : St P cl c fz oa s.heap st) (hdk : st.dk = dk)
    (ru : RVs fz oa P.da P.la us vs) (ha : mg f = some (.ref a)) (hQ : PostE P cl c fz oa s { st with dk := dk' } v Q) : wpAny (model P.prog P.w) A (call (.ref a) us) Q E s := by
  unfold callF at h
  obtain ⟨d, h1, h⟩ := Option.bind_eq_some_iff.mp h
  split at h
  case isFalse => cases h
  rename_i hok
  simp only [Bool.and_eq_true, decide_eq_true_eq] at hok
  obtain ⟨⟨hok, hargs⟩, hlen⟩ := hok
  have ok := OkRec.of hok
  obtain ⟨⟨fl, st₂⟩, h2, h⟩ := Option.bind_eq_some_iff.mp h
  dsimp only at h
  split at h
  case h_2 => cases h
  rename_i w
  obtain ⟨x, h3, h⟩ := Option.map_eq_some_iff.mp h
  cases h
  obtain ⟨a', o, pm, code, doc, e1, e2, e3, e4⟩ := B.fn f d h1
  rw [ha] at e1
  cases e1
  have up : ∀ b o, P.hb.get? b = some o → s.heap.get? b = some o := fun b o e => S.fzh _ _ (S.top _ _ e)
  have hul : us.length = (d.params.args.map (·.arg)).length := by rw [ru.length, hlen, List.length_map]
  refine wpAny_call (call_cells_ret (name := d.name) (params := d.params) (body := d.body) (scope := d.scope) (by have := R.2.1; omega) (up _ _ e2) e3 (B.nolimit.keeps up) (e4.keeps up) (bind_plain ok.p1 ok.p2 ok.p3 ok.p4 rfl ok.nodup hul) ?_ (fun h₁ tk F X => ?_) ok.co ok.gen ok.kind)
  · intro x hx
    have hm : x.1 ∈ d.params.args.map (·.arg) := (List.of_mem_zip (a := x.1) (b := x.2) hx).1
    rcases ok.names x.1 hm with q | q
    · exact .inl q
    · exact .inr ⟨q, cells_some _ _ _ q⟩
  · let cs := cellsFrom (s.heap.objs.size + 1) d.scope.names []
    let g : Fz := fun b => if b ∈ cs.map (·.2) then h₁.get? b else fz b
    have csL : ∀ b ∈ cs.map (·.2), s.heap.objs.size < b := fun b hb => by
      obtain ⟨p, hp, rfl⟩ := List.mem_map.mp hb
      exact X.above p.1 p.2 hp
    have gle : FLe fz g := fun b o e => by
      show (if b ∈ cs.map (·.2) then h₁.get? b else fz b) = some o
      rw [if_neg fun hb => absurd (Heap.lt_size (S.fzh _ _ e)) (Nat.not_lt.mpr (Nat.le_of_lt (csL b hb)))]
      exact e
    have gn : ∀ b, b ≤ s.heap.objs.size → g b = fz b := fun b hb => if_neg fun hm => absurd (csL b hm) (Nat.not_lt.mpr hb)
    have nsz : s.heap.get? s.heap.objs.size = none := by
      cases q : s.heap.get? s.heap.objs.size with
      | none => rfl
      | some o => exact absurd (Heap.lt_size q) (Nat.lt_irrefl _)
    have kpn : ∀ b, s.heap.get? b = none → (callee P fz s.heap dk).kp b = none := fun b e => by
      show (if dk.isSome = true ∧ (b = P.da ∨ b = P.la) then none else s.heap.get? b) = none
      split
      · rfl
      · exact e
    have S' : St (callee P fz s.heap dk) cs ⟨d.scope, initC d vs⟩ g [] h₁ ⟨initV d vs, [], dk⟩ := {
      top := fun b o e => gle b o (S.top b o e)
      fzh := fun b o e => by
        dsimp only [g] at e
        split at e
        · exact e
        · exact F.keep b o (S.fzh b o e)
      keep := fun b o e => by
        have e' : (if dk.isSome = true ∧ (b = P.da ∨ b = P.la) then none else s.heap.get? b) = some o := e
        split at e'
        · cases e'
        · exact F.keep b o e'
      grow := gle
      new := fun b o e => by
        dsimp only [g] at e
        split at e
        · rename_i hb; exact .inr (Nat.le_of_lt (csL b hb))
        · exact .inl e
      base := kpn _ nsz
      fresh := .inl (Nat.le_succ _)
      fresh2 := Nat.le_refl _
      fzL := (gn _ (Nat.le_refl _)).trans (S.fz_new (Nat.le_refl _))
      vars := ⟨_, F.ns, fun x v e => by
        refine initV_ok (fz := g) (oa := []) (da := P.da) (la := P.la) (sc := d.scope) ?_ (fun _ => rfl) ok.nodup ok.names (ru.all hargs gle) e
        intro y hy
        obtain ⟨z, _, hz⟩ := List.mem_filterMap.mp hy
        split at hz
        · cases hz; rfl
        · cases hz⟩
      cells := fun x v hx e => by
        obtain ⟨m1, m2⟩ := initC_mem e
        obtain ⟨u, b1, b2⟩ := initC_ok (fz := g) (oa := []) (da := P.da) (la := P.la) (sc := d.scope) (k := (envOfC d.name d.scope s.heap.objs.size a code).kindOf) (m := fun _ => none) (fun _ => rfl) ok.nodup (ru.all hargs gle) e
        have hcell : d.scope.names.lookup x = some .cell := beq_iff_eq.mp m2
        obtain ⟨a', ha'⟩ := Option.isSome_iff_exists.mp (cells_some d.scope.names (s.heap.objs.size + 1) [] hcell)
        obtain ⟨o, ho, hd⟩ := X.cell x a' ha'
        refine ⟨a', u, o, ha', ?_, hd.trans (congrArg Data.cell b1), b2⟩
        show (if a' ∈ cs.map (·.2) then h₁.get? a' else fz a') = some o
        rw [if_pos (List.mem_map.mpr ⟨(x, a'), mem_of_lookup ha', rfl⟩)]
        exact ho
      len := rfl
      own := fun i a e => by simp at e
      nodup := List.nodup_nil
      deck := fun l m e => by
        have e' : dk = some (l, m) := e
        obtain ⟨D, g1, g2, g3, g4, g5, g6, g7, g8, g9⟩ := S.deck l m (hdk.trans e')
        have k1 : (callee P fz s.heap dk).kp P.da = none := by
          show (if dk.isSome = true ∧ (P.da = P.da ∨ P.da = P.la) then none else s.heap.get? P.da) = none
          rw [if_pos (by rw [e']; simp)]
        have k2 : (callee P fz s.heap dk).kp P.la = none := by
          show (if dk.isSome = true ∧ (P.la = P.da ∨ P.la = P.la) then none else s.heap.get? P.la) = none
          rw [if_pos (by rw [e']; simp)]
        exact ⟨D.at (fun o q => F.keep _ o q) (fun o q => F.keep _ o q), (gn _ (Nat.le_of_lt D.lt.1)).trans g1, (gn _ (Nat.le_of_lt D.lt.2)).trans g2, k1, k2, Nat.ne_of_lt D.lt.1, Nat.ne_of_lt D.lt.2, by simp, by simp, g9⟩ }
    have R' : Room n (A.deeper (envOfC d.name d.scope s.heap.objs.size a code)) := ⟨R.1, by have := R.2.1; show A.depth + 1 + n < _; omega, by have := R.2.2; show A.units + 3 + 8 * n + 100 < _; omega⟩
    have I' : EnvIs (callee P fz s.heap dk) ⟨d.scope, initC d vs⟩ (envOfC d.name d.scope s.heap.objs.size a code) := ⟨rfl, ok.kind, rfl, rfl, rfl⟩
    refine hs.b (P := callee P fz s.heap dk) (s := { s with heap := h₁, toks := tk }) h2 R' I' B S' fun f' fz₂ oa₂ h₂ tk₂ S₂ k₂ q₂ rf => ?_
    cases rf with
    | ret ru₂ =>
      rename_i u
      obtain ⟨S₃, le, le2⟩ := S.back hdk S₂
      refine hQ u _ oa h₂ tk₂ S₃ le (OLe.refl _) (.d ((freeze_ok S₂ le2 (fun b hb => if_pos hb) 10).1 _ _ _ ru₂ h3))
end
end Mine
namespace Mine
open PySem PySem.W PyProof.Rows PySem.Calls
theorem snd {mg mb : Str → Option Value} : ∀ n, Snd mg mb (ev n) n
  | 0 => {
    e := fun h => by cases h
    star := fun _ _ _ _ => rfl
    set := fun _ _ _ _ _ => rfl
    t := fun h => by cases h
    a := fun h => by cases h
    astar := fun _ _ _ _ _ => rfl
    b := fun h => by cases h
    f := fun h => by cases h
    fref := fun h => by cases h }
  | n + 1 => by
    have ih := snd (mg := mg) (mb := mb) n
    exact {
      e := fun h => fun R I B S hQ => evE_ok ih h (R.le (Nat.le_succ n)) I B S hQ
      star := fun _ _ _ _ => rfl
      set := fun _ _ _ _ _ => rfl
      t := fun h => fun R I B S hQ => evT_ok ih h (R.le (Nat.le_succ n)) I B S hQ
      a := fun h => fun R I B S ru hQ => asg_ok ih h (R.le (Nat.le_succ n)) I B S ru hQ
      astar := fun _ _ _ _ _ => rfl
      b := fun h => fun R I B S hQ => exB_ok ih h (R.le (Nat.le_succ n)) I B S hQ
      f := fun h => fun R B S hdk ru ha hQ => callF_ok ih h R B S hdk ru ha hQ
      fref := fun h => let ⟨d, e, _⟩ := Option.bind_eq_some_iff.mp h; ⟨d, e⟩ }
end Mine
namespace Mine
open PySem PySem.W PyProof.Rows PySem.Calls
section
variable (n : Nat) (r : Ev) (c : FC) (st st' : IS)

theorem sizeOk_of {n : Nat} (h : n ≤ 1000000) : sizeOk n = true := decide_eq_true h
theorem ev_e (e : Expr) : (ev (n+1)).e c e st = evE (ev n) c e st := rfl
theorem ev_t (e : Expr) : (ev (n+1)).t c e st = evT (ev n) c e st := rfl
theorem ev_a (e : Expr) (v : V) : (ev (n+1)).a c e v st = asg (ev n) c e v st := rfl
theorem ev_b (b : List Stmt) : (ev (n+1)).b c b st = exB (ev n) c b st := rfl
theorem ev_f (f : Str) (vs : List V) (dk : Dk) : (ev (n+1)).f f vs dk = callF (ev n) f vs dk := rfl

/-! lists of expressions -/
noncomputable def evLK2 (v : V) (q : List V × IS) : Option (List V × IS) := some (v :: q.1, q.2)
noncomputable def evLK1 (es : List Expr) (p : V × IS) : Option (List V × IS) := (evL r c es p.2).bind (evLK2 p.1)
theorem evL_nil : evL r c [] st = some ([], st) := rfl
theorem evL_cons (e : Expr) (es : List Expr) : evL r c (e :: es) st = (r.e c e st).bind (evLK1 r c es) := rfl
theorem evLK1_eq (es : List Expr) (v : V) : evLK1 r c es (v, st) = (evL r c es st).bind (evLK2 v) := rfl
theorem evLK2_eq (v : V) (vs : List V) : evLK2 v (vs, st) = some (v :: vs, st) := rfl

/-! expressions -/
noncomputable def retE (v : V) : V × IS := (v, st)
theorem retE_eq (v : V) : retE st v = (v, st) := rfl
noncomputable def retO (v : V) : Option (V × IS) := some (v, st)
theorem retO_eq (v : V) : retO st v = some (v, st) := rfl
theorem evE_int (i : Int) (k p) : evE r c (.Constant (.int i) k p) st = some (.d (.int i), st) := rfl
theorem evE_str (s : Str) (k p) (h : PyData.canLay0 (.str s) = true) : evE r c (.Constant (.str s) k p) st = some (.d (.str s), st) := if_pos h
theorem evE_bool (b : Bool) (k p) : evE r c (.Constant (.bool b) k p) st = some (.d (.bool b), st) := rfl
theorem evE_none (k p) : evE r c (.Constant .none k p) st = some (.d .none, st) := rfl
theorem evE_name (x : Str) (p) : evE r c (.Name x p) st = (nameV c st x).map (retE st) := rfl
theorem nameV_loc (x : Str) (h : c.sc.names.lookup x = some .local) (hd : notDebug x = true) : nameV c st x = getV st.vars x := by simp [nameV, h, hd]
noncomputable def getC : List (Str × PyData) → Str → Option PyData
  | [], _ => none
  | (y, v) :: r, x => if x = y then some v else getC r x
theorem getC_eq (l : List (Str × PyData)) (x : Str) : l.lookup x = getC l x := by
  induction l with
  | nil => rfl
  | cons a l ih =>
    obtain ⟨a, b⟩ := a
    rw [List.lookup_cons, getC]
    by_cases h : x = a
    · rw [if_pos h, beq_iff_eq.mpr h]
    · rw [if_neg h, beq_false_of_ne h]; exact ih
theorem nameV_cell (x : Str) (h : c.sc.names.lookup x = some .cell) (hd : notDebug x = true) : nameV c st x = (getC c.cells x).map .d := by simp [nameV, h, hd, getC_eq]
theorem nameV_free (x : Str) (h : c.sc.names.lookup x = some .free) (hd : notDebug x = true) : nameV c st x = (getC c.cells x).map .d := by simp [nameV, h, hd, getC_eq]
theorem nameV_unit (h : c.sc.names.lookup (Str.ofString "_law_unit") = some .globalImplicit) : nameV c st (Str.ofString "_law_unit") = some (.d (.int 1000000)) := by
  have hd : notDebug (Str.ofString "_law_unit") = true := by decide +kernel
  simp [nameV, h, hd, constV]
theorem nameV_eo (h : c.sc.names.lookup (Str.ofString "EVEN_ODD") = some .globalImplicit) : nameV c st (Str.ofString "EVEN_ODD") = some (.d (.str (Str.ofString "evenodd"))) := by
  have hd : notDebug (Str.ofString "EVEN_ODD") = true := by decide +kernel
  have h' : (Str.ofString "EVEN_ODD" = Str.ofString "_law_unit") = False := eq_false (by decide +kernel)
  simp [nameV, h, hd, constV, h']

noncomputable def binK2 (op : Operator) (v : V) (q : V × IS) : Option (V × IS) := (binV op v q.1).map (retE q.2)
noncomputable def binK1 (op : Operator) (x : Expr) (p : V × IS) : Option (V × IS) := (r.e c x p.2).bind (binK2 op p.1)
theorem evE_bin (l : Expr) (op) (x : Expr) (p) : evE r c (.BinOp l op x p) st = (r.e c l st).bind (binK1 r c op x) := rfl
theorem binK1_eq (op x v) : binK1 r c op x (v, st) = (r.e c x st).bind (binK2 op v) := rfl
theorem binK2_eq (op v w) : binK2 op v (w, st) = (binV op v w).map (retE st) := rfl
theorem binV_add (a b : Int) : binV .Add (.d (.int a)) (.d (.int b)) = some (.d (.int (a + b))) := rfl
theorem binV_sub (a b : Int) : binV .Sub (.d (.int a)) (.d (.int b)) = some (.d (.int (a - b))) := rfl
theorem binV_mul (a b : Int) (h : small a = true) : binV .Mult (.d (.int a)) (.d (.int b)) = some (.d (.int (a * b))) := if_pos h
theorem binV_div (a b : Int) (h : b ≠ 0) (h' : b.natAbs < 1073741824) : binV .FloorDiv (.d (.int a)) (.d (.int b)) = some (.d (.int (a.fdiv b))) := if_pos ⟨h, h'⟩
theorem binV_mod (a b : Int) (h : b ≠ 0) : binV .Mod (.d (.int a)) (.d (.int b)) = some (.d (.int (a.fmod b))) := if_pos h
theorem binV_list (a b : List PyData) (h : a.length + b.length ≤ 1000000) : binV .Add (.d (.list a)) (.d (.list b)) = some (.d (.list (a ++ b))) := if_pos ⟨rfl, decide_eq_true h⟩
theorem binV_tup (a b : List PyData) (h : a.length + b.length ≤ 1000000) : binV .Add (.d (.tuple a)) (.d (.tuple b)) = some (.d (.tuple (a ++ b))) := if_pos ⟨rfl, decide_eq_true h⟩

noncomputable def negK (p : V × IS) : Option (V × IS) := (intOf p.1).map fun i => (.d (.int (-i)), p.2)
theorem evE_neg (x : Expr) (p) : evE r c (.UnaryOp .USub x p) st = (r.e c x st).bind negK := rfl
theorem negK_eq (i : Int) : negK (.d (.int i), st) = some (.d (.int (-i)), st) := rfl

noncomputable def ifEK (b o : Expr) (p : Bool × IS) : Option (V × IS) := if p.1 then r.e c b p.2 else r.e c o p.2
theorem evE_if (t b o : Expr) (p) : evE r c (.IfExp t b o p) st = (r.t c t st).bind (ifEK r c b o) := rfl
theorem ifEK_eq (b o : Expr) (q : Bool) : ifEK r c b o (q, st) = if q = true then r.e c b st else r.e c o st := rfl

noncomputable def tupK (p : List V × IS) : Option (V × IS) := if sizeOk p.1.length then some (mkTup p.1, p.2) else none
theorem evE_tuple (es : List Expr) (k p) : evE r c (.Tuple es k p) st = (evL r c es st).bind tupK := rfl
theorem tupK_eq (vs : List V) (h : vs.length ≤ 1000000) : tupK (vs, st) = some (mkTup vs, st) := if_pos (decide_eq_true h)

theorem evE_list0 (p) : evE r c (.List [] p) st = some (.own st.own.length, { st with own := st.own ++ [[]] }) := rfl
noncomputable def list1K (v : V) : V × IS := (.own st.own.length, { st with own := st.own ++ [[v]] })
theorem evE_list1 (x q p) : evE r c (.List [.Name x q] p) st = (nameV c st x).map (list1K st) := rfl
theorem list1K_eq (v : V) : list1K st v = (.own st.own.length, { st with own := st.own ++ [[v]] }) := rfl
noncomputable def listK (p : List V × IS) : Option (V × IS) := (allD p.1).bind fun ds => if sizeOk ds.length then some (.d (.list ds), p.2) else none
theorem evE_list2 (a b es p) : evE r c (.List (a :: b :: es) p) st = (evL r c (a :: b :: es) st).bind listK := by cases a <;> rfl
theorem evE_listS (o i q p) : evE r c (.List [.Subscript o i q] p) st = (evL r c [.Subscript o i q] st).bind listK := rfl
noncomputable def listK1 (ds : List PyData) : Option (V × IS) := if sizeOk ds.length then some (.d (.list ds), st) else none
theorem listK_eq (vs : List V) : listK (vs, st) = (allD vs).bind (listK1 st) := rfl
theorem listK1_eq (ds : List PyData) (h' : ds.length ≤ 1000000) : listK1 st ds = some (.d (.list ds), st) := if_pos (sizeOk_of h')

noncomputable def revK (v : V) (q : V × IS) : Option (V × IS) := match v, q.1 with
  | .d (.list xs), .d (.int i) => if i = -1 ∧ sizeOk xs.length then some (.d (.list xs.reverse), q.2) else none
  | _, _ => none
noncomputable def revK1 (x : Expr) (p : V × IS) : Option (V × IS) := (r.e c x p.2).bind (revK p.1)
theorem evE_rev (o x p p') : evE r c (.Subscript o (.Slice none none (some x) p) p') st = (r.e c o st).bind (revK1 r c x) := rfl
theorem revK1_eq (x v) : revK1 r c x (v, st) = (r.e c x st).bind (revK v) := rfl
theorem revK_eq (xs : List PyData) (h : xs.length ≤ 1000000) : revK (.d (.list xs)) (.d (.int (-1)), st) = some (.d (.list xs.reverse), st) := if_pos ⟨rfl, decide_eq_true h⟩

noncomputable def sloK (v : V) (q : V × IS) : Option (V × IS) := (intOf q.1).bind fun i => (sliceV (some i) none v).map (·, q.2)
noncomputable def sloK1 (x : Expr) (p : V × IS) : Option (V × IS) := (r.e c x p.2).bind (sloK p.1)
theorem evE_slo (o x p p') : evE r c (.Subscript o (.Slice (some x) none none p) p') st = (r.e c o st).bind (sloK1 r c x) := rfl
theorem sloK1_eq (x v) : sloK1 r c x (v, st) = (r.e c x st).bind (sloK v) := rfl
theorem sloK_eq (i : Int) (v : V) : sloK v (.d (.int i), st) = (sliceV (some i) none v).map (retE st) := rfl
noncomputable def supK (v : V) (q : V × IS) : Option (V × IS) := (intOf q.1).bind fun i => (sliceV none (some i) v).map (·, q.2)
noncomputable def supK1 (x : Expr) (p : V × IS) : Option (V × IS) := (r.e c x p.2).bind (supK p.1)
theorem evE_sup (o x p p') : evE r c (.Subscript o (.Slice none (some x) none p) p') st = (r.e c o st).bind (supK1 r c x) := rfl
theorem supK1_eq (x v) : supK1 r c x (v, st) = (r.e c x st).bind (supK v) := rfl
theorem supK_eq (i : Int) (v : V) : supK v (.d (.int i), st) = (sliceV none (some i) v).map (retE st) := rfl

noncomputable def subK (v : V) (q : V × IS) : Option (V × IS) := (itemV q.2 v q.1).map (retE q.2)
noncomputable def subK1 (x : Expr) (p : V × IS) : Option (V × IS) := (r.e c x p.2).bind (subK p.1)
theorem evE_subC (o k a p p') : evE r c (.Subscript o (.Constant k a p) p') st = (r.e c o st).bind (subK1 r c (.Constant k a p)) := rfl
theorem evE_subN (o x p p') : evE r c (.Subscript o (.Name x p) p') st = (r.e c o st).bind (subK1 r c (.Name x p)) := rfl
theorem evE_subU (o k a p p') : evE r c (.Subscript o (.UnaryOp k a p) p') st = (r.e c o st).bind (subK1 r c (.UnaryOp k a p)) := rfl
theorem evE_subB (o k a b p p') : evE r c (.Subscript o (.BinOp k a b p) p') st = (r.e c o st).bind (subK1 r c (.BinOp k a b p)) := rfl
theorem subK1_eq (x v) : subK1 r c x (v, st) = (r.e c x st).bind (subK v) := rfl
theorem subK_eq (v w : V) : subK v (w, st) = (itemV st v w).map (retE st) := rfl

theorem itemV_list (xs : List PyData) (i : Int) (h1 : i.natAbs < 4611686018427387904) (h2 : xs.length ≤ 1000000) : itemV st (.d (.list xs)) (.d (.int i)) = (itemL xs i).map .d := if_pos (by simp [small, sizeOk, h1, h2])
theorem itemV_tuple (xs : List PyData) (i : Int) (h1 : i.natAbs < 4611686018427387904) (h2 : xs.length ≤ 1000000) : itemV st (.d (.tuple xs)) (.d (.int i)) = (itemL xs i).map .d := if_pos (by simp [small, sizeOk, h1, h2])
noncomputable def itemOK (i : Int) (xs : List V) : Option V := if small i && sizeOk xs.length then itemL xs i else none
theorem itemV_own (k : Nat) (i : Int) : itemV st (.own k) (.d (.int i)) = (st.own[k]?).bind (itemOK i) := rfl
theorem itemOK_eq (xs : List V) (i : Int) (h1 : i.natAbs < 4611686018427387904) (h2 : xs.length ≤ 1000000) : itemOK i xs = itemL xs i := if_pos (by simp [small, sizeOk, h1, h2])
theorem itemV_tup (xs : List V) (i : Int) (h1 : i.natAbs < 4611686018427387904) (h2 : xs.length ≤ 1000000) : itemV st (.tup xs) (.d (.int i)) = itemL xs i := if_pos (by simp [small, sizeOk, h1, h2])
theorem itemV_left (vs : Vars) (own : List (List V)) (l : List Int) (m : Int) : itemV ⟨vs, own, some (l, m)⟩ .deck (.d (.str (Str.ofString "left"))) = some .left := by simp [itemV]
theorem itemV_mixed (vs : Vars) (own : List (List V)) (l : List Int) (m : Int) : itemV ⟨vs, own, some (l, m)⟩ .deck (.d (.str (Str.ofString "mixed"))) = some (.d (.int m)) := by
  have h' : (Str.ofString "mixed" = Str.ofString "left") = False := eq_false (by decide +kernel)
  simp [itemV, h']

/-! comparisons -/
noncomputable def retB (b : Bool) : Bool × IS := (b, st)
theorem retB_eq (b : Bool) : retB st b = (b, st) := rfl
noncomputable def cmpVK (p : Bool × IS) : V × IS := (.d (.bool p.1), p.2)
theorem cmpVK_eq (b : Bool) : cmpVK (b, st) = (.d (.bool b), st) := rfl
theorem evE_cmp (l ops xs p) : evE r c (.Compare l ops xs p) st = (cmpE r c l ops xs st).map cmpVK := rfl
noncomputable def neK (p : V × IS) : Option (Bool × IS) := (neNil p.2 p.1).map (retB p.2)
theorem cmpE_ne (l p) : cmpE r c l [.NotEq] [.List [] p] st = (r.e c l st).bind neK := rfl
theorem neK_eq (v : V) : neK (v, st) = (neNil st v).map (retB st) := rfl
noncomputable def cmpK (op : CmpOp) (v : V) (q : V × IS) : Option (Bool × IS) := (cmpV op v q.1).map (retB q.2)
noncomputable def cmpK1 (op : CmpOp) (x : Expr) (p : V × IS) : Option (Bool × IS) := (r.e c x p.2).bind (cmpK op p.1)
theorem cmpE_eq1 (l x) : cmpE r c l [.Eq] [x] st = (r.e c l st).bind (cmpK1 r c .Eq x) := rfl
theorem cmpE_lt (l x) : cmpE r c l [.Lt] [x] st = (r.e c l st).bind (cmpK1 r c .Lt x) := rfl
theorem cmpE_le (l x) : cmpE r c l [.LtE] [x] st = (r.e c l st).bind (cmpK1 r c .LtE x) := rfl
theorem cmpE_gt (l x) : cmpE r c l [.Gt] [x] st = (r.e c l st).bind (cmpK1 r c .Gt x) := rfl
theorem cmpE_ge (l x) : cmpE r c l [.GtE] [x] st = (r.e c l st).bind (cmpK1 r c .GtE x) := rfl
theorem cmpE_is (l x) : cmpE r c l [.Is] [x] st = (r.e c l st).bind (cmpK1 r c .Is x) := rfl
theorem cmpE_isnot (l x) : cmpE r c l [.IsNot] [x] st = (r.e c l st).bind (cmpK1 r c .IsNot x) := rfl
theorem cmpE_neC (l k a p) : cmpE r c l [.NotEq] [.Constant k a p] st = (r.e c l st).bind (cmpK1 r c .NotEq (.Constant k a p)) := rfl
theorem cmpE_neN (l x p) : cmpE r c l [.NotEq] [.Name x p] st = (r.e c l st).bind (cmpK1 r c .NotEq (.Name x p)) := rfl
theorem cmpE_neT (l x k p) : cmpE r c l [.NotEq] [.Tuple x k p] st = (r.e c l st).bind (cmpK1 r c .NotEq (.Tuple x k p)) := rfl
theorem cmpE_neB (l x k y p) : cmpE r c l [.NotEq] [.BinOp x k y p] st = (r.e c l st).bind (cmpK1 r c .NotEq (.BinOp x k y p)) := rfl
theorem cmpK1_eq (op x v) : cmpK1 r c op x (v, st) = (r.e c x st).bind (cmpK op v) := rfl
theorem cmpK_eq (op v w) : cmpK op v (w, st) = (cmpV op v w).map (retB st) := rfl
noncomputable def cmp2K3 (o2 : CmpOp) (w : V) (q : V × IS) : Option (Bool × IS) := (cmpV o2 w q.1).map (retB q.2)
noncomputable def cmp2K2b (o2 : CmpOp) (x : Expr) (w : V) (b : Bool) : Option (Bool × IS) := if b then (r.e c x st).bind (cmpK o2 w) else some (false, st)
noncomputable def cmp2K2 (o1 o2 : CmpOp) (x : Expr) (v : V) (q : V × IS) : Option (Bool × IS) := (cmpV o1 v q.1).bind (cmp2K2b r c q.2 o2 x q.1)
noncomputable def cmp2K1 (o1 o2 : CmpOp) (m x : Expr) (p : V × IS) : Option (Bool × IS) := (r.e c m p.2).bind (cmp2K2 r c o1 o2 x p.1)
theorem cmpE_2 (l m x) (o1 o2 : CmpOp) (h : ¬ (o2 = .In ∨ o2 = .NotIn)) : cmpE r c l [o1, o2] [m, x] st = (r.e c l st).bind (cmp2K1 r c o1 o2 m x) := by
  rw [show cmpE r c l [o1, o2] [m, x] st = (if o2 = .In ∨ o2 = .NotIn then none else (r.e c l st).bind fun p => (r.e c m p.2).bind fun q => (cmpV o1 p.1 q.1).bind fun b =>
      if b then (r.e c x q.2).bind fun q' => (cmpV o2 q.1 q'.1).map (·, q'.2) else some (false, q.2)) by cases o1 <;> rfl, if_neg h]
  rfl
theorem cmp2K1_eq (o1 o2 m x v) : cmp2K1 r c o1 o2 m x (v, st) = (r.e c m st).bind (cmp2K2 r c o1 o2 x v) := rfl
theorem cmp2K2_eq (o1 o2 x v w) : cmp2K2 r c o1 o2 x v (w, st) = (cmpV o1 v w).bind (cmp2K2b r c st o2 x w) := rfl
theorem cmp2K2b_eq (o2 x w) (b : Bool) : cmp2K2b r c st o2 x w b = if b = true then (r.e c x st).bind (cmpK o2 w) else some (false, st) := rfl
theorem cmpV_lt (a b : Int) : cmpV .Lt (.d (.int a)) (.d (.int b)) = some (decide (a < b)) := rfl
theorem cmpV_le (a b : Int) : cmpV .LtE (.d (.int a)) (.d (.int b)) = some (decide (a ≤ b)) := rfl
theorem cmpV_gt (a b : Int) : cmpV .Gt (.d (.int a)) (.d (.int b)) = some (decide (a > b)) := rfl
theorem cmpV_ge (a b : Int) : cmpV .GtE (.d (.int a)) (.d (.int b)) = some (decide (a ≥ b)) := rfl
theorem cmpV_eqI (a b : Int) : cmpV .Eq (.d (.int a)) (.d (.int b)) = some (a == b) := rfl
theorem cmpV_neI (a b : Int) : cmpV .NotEq (.d (.int a)) (.d (.int b)) = some (!(a == b)) := rfl
theorem cmpV_eqS (a b : Str) : cmpV .Eq (.d (.str a)) (.d (.str b)) = some (a == b) := rfl
theorem cmpV_isN : cmpV .Is (.d .none) (.d .none) = some true := rfl
theorem cmpV_isT (t) : cmpV .Is (.d (.tuple t)) (.d .none) = some false := rfl
theorem cmpV_isnotB (a b : Bool) : cmpV .IsNot (.d (.bool a)) (.d (.bool b)) = some (a != b) := rfl
theorem neNil_list (xs : List PyData) : neNil st (.d (.list xs)) = some (!xs.isEmpty) := rfl
theorem neNil_left (vs : Vars) (own : List (List V)) (l : List Int) (m : Int) : neNil ⟨vs, own, some (l, m)⟩ .left = some (!l.isEmpty) := rfl

noncomputable def andEK (y : Expr) (p : V × IS) : Option (V × IS) := (boolOf p.1).bind fun q => if q then r.e c y p.2 else some (.d (.bool false), p.2)
theorem evE_and (x y p) : evE r c (.BoolOp .And [x, y] p) st = (r.e c x st).bind (andEK r c y) := rfl
theorem andEK_eq (y) (b : Bool) : andEK r c y (.d (.bool b), st) = if b = true then r.e c y st else some (.d (.bool false), st) := rfl

/-! calls -/
noncomputable def callK (f : Str) (p : List V × IS) : Option (V × IS) := callV r c f p.1 p.2
theorem evE_call (f p args p') : evE r c (.Call (.Name f p) args [] p') st = (evL r c args st).bind (callK r c f) := rfl
theorem callK_eq (f vs) : callK r c f (vs, st) = callV r c f vs st := rfl
noncomputable def retF (p : V × Dk) : V × IS := (p.1, { st with dk := p.2 })
theorem retF_eq (v dk) : retF st (v, dk) = (v, { st with dk := dk }) := rfl
noncomputable def notBlt (f : Str) : Bool := !(f == Str.ofString "min") && !(f == Str.ofString "max") && !(f == Str.ofString "len") && !(f == Str.ofString "sum") && !(f == Str.ofString "tuple") && !(f == Str.ofString "int")
theorem callV_own (f v vs) (h : isGlob ⟨c.sc, []⟩ f = true) (h' : notBlt f = true) : callV r c f (v :: vs) st = (r.f f (v :: vs) st.dk).map (retF st) := by
  simp only [notBlt, Bool.and_eq_true, Bool.not_eq_true', beq_eq_false_iff_ne] at h'
  obtain ⟨⟨⟨⟨⟨h1, h2⟩, h3⟩, h4⟩, h5⟩, h6⟩ := h'
  have h : isGlob c f = true := h
  unfold callV
  rw [h, if_pos (show (true && !(v :: vs).isEmpty) = true from rfl), if_neg h1, if_neg h2, if_neg h3, if_neg h4, if_neg h5, if_neg h6]
  rfl

section
variable (hg : isGlob ⟨c.sc, []⟩ f = true)
theorem bltAux {f v vs} (hg : isGlob ⟨c.sc, []⟩ f = true) {X : Option (V × IS)} : (if isGlob c f && !(v :: vs : List V).isEmpty then X else none) = X := if_pos (by
  have h : isGlob c f = true := hg
  rw [h]; rfl)
theorem callV_min (a b : Int) (hg : isGlob ⟨c.sc, []⟩ (Str.ofString "min") = true) : callV r c (Str.ofString "min") [.d (.int a), .d (.int b)] st = some (.d (.int (min a b)), st) := by
  unfold callV
  rw [bltAux c hg, if_pos rfl]
  show some (V.d (.int (if b < a then b else a)), st) = _
  congr 4
  omega
theorem callV_max (a b : Int) (hg : isGlob ⟨c.sc, []⟩ (Str.ofString "max") = true) : callV r c (Str.ofString "max") [.d (.int a), .d (.int b)] st = some (.d (.int (max a b)), st) := by
  unfold callV
  rw [bltAux c hg, if_neg (by decide +kernel), if_pos rfl]
  show some (V.d (.int (if b > a then b else a)), st) = _
  congr 4
  omega
theorem callV_lenL (xs : List PyData) (hg : isGlob ⟨c.sc, []⟩ (Str.ofString "len") = true) (h : xs.length ≤ 1000000) : callV r c (Str.ofString "len") [.d (.list xs)] st = some (.d (.int xs.length), st) := by
  unfold callV
  rw [bltAux c hg, if_neg (by decide +kernel), if_neg (by decide +kernel), if_pos rfl]
  exact if_pos (decide_eq_true h)
theorem callV_lenT (xs : List PyData) (hg : isGlob ⟨c.sc, []⟩ (Str.ofString "len") = true) (h : xs.length ≤ 1000000) : callV r c (Str.ofString "len") [.d (.tuple xs)] st = some (.d (.int xs.length), st) := by
  unfold callV
  rw [bltAux c hg, if_neg (by decide +kernel), if_neg (by decide +kernel), if_pos rfl]
  exact if_pos (decide_eq_true h)
noncomputable def sumK (ns : List Int) : V × IS := (.d (.int ns.sum), st)
theorem sumK_eq (ns) : sumK st ns = (.d (.int ns.sum), st) := rfl
theorem callV_sum (xs : List PyData) (hg : isGlob ⟨c.sc, []⟩ (Str.ofString "sum") = true) (h : xs.length ≤ 1000000) : callV r c (Str.ofString "sum") [.d (.list xs)] st = (intsOf xs).map (sumK st) := by
  unfold callV
  rw [bltAux c hg, if_neg (by decide +kernel), if_neg (by decide +kernel), if_neg (by decide +kernel), if_pos rfl]
  show (if _ then (intsOf xs).map _ else none) = _
  rw [if_pos (sizeOk_of h)]
  rfl
theorem callV_tupL (xs : List PyData) (hg : isGlob ⟨c.sc, []⟩ (Str.ofString "tuple") = true) (h : xs.length ≤ 1000000) : callV r c (Str.ofString "tuple") [.d (.list xs)] st = some (.d (.tuple xs), st) := by
  unfold callV
  rw [bltAux c hg, if_neg (by decide +kernel), if_neg (by decide +kernel), if_neg (by decide +kernel), if_neg (by decide +kernel), if_pos rfl]
  exact if_pos (decide_eq_true h)
noncomputable def tupOK1 (xs : List PyData) : Option (V × IS) := if sizeOk xs.length then some (.d (.tuple xs), st) else none
theorem tupOK1_eq (xs : List PyData) (h : xs.length ≤ 1000000) : tupOK1 st xs = some (.d (.tuple xs), st) := if_pos (sizeOk_of h)
noncomputable def tupOK (l : List V) : Option (V × IS) := (allD l).bind (tupOK1 st)
theorem tupOK_eq (l) : tupOK st l = (allD l).bind (tupOK1 st) := rfl
theorem callV_tupO (k : Nat) (hg : isGlob ⟨c.sc, []⟩ (Str.ofString "tuple") = true) : callV r c (Str.ofString "tuple") [.own k] st = (st.own[k]?).bind (tupOK st) := by
  unfold callV
  rw [bltAux c hg, if_neg (by decide +kernel), if_neg (by decide +kernel), if_neg (by decide +kernel), if_neg (by decide +kernel), if_pos rfl]
  rfl
end

/-! methods -/
noncomputable def popK2 (m : Str) (v : V) (q : V × IS) : Option (V × IS) := popV m v q.1 q.2
noncomputable def popK1 (m : Str) (a : Expr) (p : V × IS) : Option (V × IS) := if p.2.dk.isSome then (r.e c a p.2).bind (popK2 m p.1) else none
theorem evE_pop (o m ap a cp) (h : (baseOk o && ap.endLine == cp.line) = true) : evE r c (.Call (.Attribute o m ap) [a] [] cp) st = (r.e c o st).bind (popK1 r c m a) := if_pos h
theorem popK1_eq (m a v) (h : st.dk.isSome = true) : popK1 r c m a (v, st) = (r.e c a st).bind (popK2 m v) := if_pos h
theorem popK2_eq (vs : Vars) (own : List (List V)) (x : Int) (xs : List Int) (k : Int) (h' : xs.length + 1 ≤ 1000000) : popK2 (Str.ofString "pop") .left (.d (.int 0), ⟨vs, own, some (x :: xs, k)⟩) = some (.d (.int x), ⟨vs, own, some (xs, k)⟩) := if_pos ⟨rfl, decide_eq_true h'⟩

/-! comprehensions -/
noncomputable def compK3 (q : V × IS) : Option (Option PyData) := match q.1 with
  | .d y => some (some y)
  | _ => none
noncomputable def compK2 (elt : Expr) (p : Bool × IS) : Option (Option PyData) := if p.1 then (r.e c elt p.2).bind compK3 else some none
noncomputable def compK1 (ifs : List Expr) (elt : Expr) (st : IS) : Option (Option PyData) := (testsE r c ifs st).bind (compK2 r c elt)
theorem compStep_eq (scope target ifs elt x) : compStep r c scope target ifs elt x = (r.a c target (.d x) (blank scope)).bind (compK1 r c ifs elt) := rfl
theorem compK1_eq (ifs elt) : compK1 r c ifs elt st = (testsE r c ifs st).bind (compK2 r c elt) := rfl
theorem compK2_eq (elt) (b : Bool) : compK2 r c elt (b, st) = if b = true then (r.e c elt st).bind compK3 else some none := rfl
theorem compK3_eq (y : PyData) : compK3 (.d y, st) = some (some y) := rfl
theorem testsE_0 : testsE r c [] st = some (true, st) := rfl
theorem testsE_1 (x) : testsE r c [x] st = r.t c x st := rfl
noncomputable def retL (ys : List PyData) : List PyData × IS := (ys, st)
theorem retL_eq (ys) : retL st ys = (ys, st) := rfl
noncomputable def compS (sc scope : Scope) : Scope := relabel scope { (default : Env) with scope := sc }
theorem compScope_eq (scope) : compScope c scope = compS c.sc scope := rfl
noncomputable def compK (elt target : Expr) (ifs : List Expr) (scope : Scope) (p : List PyData × IS) : Option (List PyData × IS) := (compL (compStep r ⟨compScope c scope, c.cells⟩ scope target ifs elt) p.1).map (retL p.2)
theorem compK_eq (elt target ifs scope xs) : compK r c elt target ifs scope (xs, st) = (compL (compStep r ⟨compScope c scope, c.cells⟩ scope target ifs elt) xs).map (retL st) := rfl
theorem lookup_keys (l : List (Str × PyData)) (x : Str) : ((l.map fun p => (p.1, PyData.none)).lookup x).isSome = (l.lookup x).isSome := by
  induction l with
  | nil => rfl
  | cons a l ih =>
    obtain ⟨a, b⟩ := a
    rw [List.map_cons, List.lookup_cons, List.lookup_cons]
    cases x == a
    · exact ih
    · rfl
theorem compV_eq (elt target iter ifs scope) (h : (compOk ⟨c.sc, c.cells.map fun p => (p.1, PyData.none)⟩ scope target && tgtOk iter target) = true) : compV r c elt target iter ifs scope st = (iterV r c iter st).bind (compK r c elt target ifs scope) := by
  have h' : (compOk c scope target && tgtOk iter target) = true := by
    unfold compOk at h ⊢
    simp only [lookup_keys] at h
    exact h
  unfold compV
  rw [if_pos h']
  congr 1
  funext p
  show _ = (compL (compStep r ⟨compScope c scope, c.cells⟩ scope target ifs elt) p.1).map (retL p.2)
  rw [Option.map_eq_bind]
  rfl
noncomputable def compVK (p : List PyData × IS) : V × IS := (.d (.list p.1), p.2)
theorem compVK_eq (xs) : compVK (xs, st) = (.d (.list xs), st) := rfl
theorem evE_comp (elt target iter ifs scope p) : evE r c (.ListComp elt [⟨target, iter, ifs, 0⟩] scope p) st = (compV r c elt target iter ifs scope st).map compVK := rfl

/-! iterables -/
noncomputable def rangeK (p : List V × IS) : Option (List PyData × IS) := (rangeV p.1).bind fun xs => if sizeOk xs.length then some (xs, p.2) else none
noncomputable def rangeK1 (xs : List PyData) : Option (List PyData × IS) := if sizeOk xs.length then some (xs, st) else none
theorem rangeK_eq (vs) : rangeK (vs, st) = (rangeV vs).bind (rangeK1 st) := rfl
theorem rangeK1_eq (xs) (h' : xs.length ≤ 1000000) : rangeK1 st xs = some (xs, st) := if_pos (sizeOk_of h')
theorem iterV_range (args p p') (h : isGlob ⟨c.sc, []⟩ (Str.ofString "range") = true) : iterV r c (.Call (.Name (Str.ofString "range") p) args [] p') st = (evL r c args st).bind (rangeK) := by
  unfold iterV
  rw [show rangeArgs (.Call (.Name (Str.ofString "range") p) args [] p') = some args by unfold rangeArgs; exact if_pos rfl]
  dsimp only
  exact if_pos h
noncomputable def enumK (p : V × IS) : Option (List PyData × IS) := (listOf' p.1).bind fun xs => if sizeOk xs.length then some (enumL 0 xs, p.2) else none
theorem enumK_eq (xs) (h' : xs.length ≤ 1000000) : enumK (.d (.list xs), st) = some (enumL 0 xs, st) := by
  show (some xs).bind _ = _
  exact if_pos (decide_eq_true h')
theorem iterV_enum (y p p') (h : isGlob ⟨c.sc, []⟩ (Str.ofString "enumerate") = true) : iterV r c (.Call (.Name (Str.ofString "enumerate") p) [y] [] p') st = (r.e c y st).bind (enumK) := by
  unfold iterV
  rw [show rangeArgs (.Call (.Name (Str.ofString "enumerate") p) [y] [] p') = none by unfold rangeArgs; exact if_neg (by decide +kernel)]
  dsimp only
  rw [show enumArg (.Call (.Name (Str.ofString "enumerate") p) [y] [] p') = some y by unfold enumArg; exact if_pos rfl]
  exact if_pos h
noncomputable def seqIK (p : V × IS) : Option (List PyData × IS) := (seqOf p.1).bind fun xs => if sizeOk xs.length then some (xs, p.2) else none
theorem seqIK_list (xs) (h' : xs.length ≤ 1000000) : seqIK (.d (.list xs), st) = some (xs, st) := by
  show (some xs).bind _ = _
  exact if_pos (decide_eq_true h')
theorem seqIK_tuple (xs) (h' : xs.length ≤ 1000000) : seqIK (.d (.tuple xs), st) = some (xs, st) := by
  show (some xs).bind _ = _
  exact if_pos (decide_eq_true h')
theorem iterV_name (x p) : iterV r c (.Name x p) st = (r.e c (.Name x p) st).bind seqIK := rfl
theorem iterV_subS (o x p) : iterV r c (.Subscript o x p) st = (r.e c (.Subscript o x p) st).bind seqIK := rfl
theorem iterV_call (f p args p') (h : (f == Str.ofString "range") = false) (h' : (f == Str.ofString "enumerate") = false) : iterV r c (.Call (.Name f p) args [] p') st = (r.e c (.Call (.Name f p) args [] p') st).bind seqIK := by
  have h1 : f ≠ Str.ofString "range" := by simpa using h
  have h2 : f ≠ Str.ofString "enumerate" := by simpa using h'
  unfold iterV
  rw [show rangeArgs (.Call (.Name f p) args [] p') = none by unfold rangeArgs; exact if_neg h1]
  dsimp only
  rw [show enumArg (.Call (.Name f p) args [] p') = none by
    unfold enumArg
    split
    · rename_i q; injection q with q1; injection q1 with q1; exact if_neg (q1 ▸ h2)
    · rfl]
  rfl

/-! tests -/
noncomputable def boolK (q : V × IS) : Option (Bool × IS) := (boolOf q.1).map (retB q.2)
theorem boolK_eq (b : Bool) : boolK (.d (.bool b), st) = some (b, st) := rfl
theorem evT_bool (op xs p) : evT r c (.BoolOp op xs p) st = allT r c op xs st := rfl
theorem evT_cmp (l ops xs p) : evT r c (.Compare l ops xs p) st = cmpE r c l ops xs st := rfl
theorem evT_name (x p) : evT r c (.Name x p) st = (r.e c (.Name x p) st).bind boolK := rfl
theorem evT_call (f p args p') : evT r c (.Call (.Name f p) args [] p') st = (r.e c (.Call (.Name f p) args [] p') st).bind boolK := rfl
noncomputable def andTK (xs : List Expr) (p : Bool × IS) : Option (Bool × IS) := if p.1 then allT r c .And xs p.2 else some (false, p.2)
noncomputable def orTK (xs : List Expr) (p : Bool × IS) : Option (Bool × IS) := if p.1 then some (true, p.2) else allT r c .Or xs p.2
theorem allT_and0 : allT r c .And [] st = some (true, st) := rfl
theorem allT_or0 : allT r c .Or [] st = some (false, st) := rfl
theorem allT_and (x xs) : allT r c .And (x :: xs) st = (r.t c x st).bind (andTK r c xs) := rfl
theorem allT_or (x xs) : allT r c .Or (x :: xs) st = (r.t c x st).bind (orTK r c xs) := rfl
theorem andTK_eq (xs) (b : Bool) : andTK r c xs (b, st) = if b = true then allT r c .And xs st else some (false, st) := rfl
theorem orTK_eq (xs) (b : Bool) : orTK r c xs (b, st) = if b = true then some (true, st) else allT r c .Or xs st := rfl

/-! stores -/
theorem storeN_eq (x v) (h : c.sc.names.lookup x = some .local) : storeN c x v st = some { st with vars := setV st.vars x v } := if_pos h
theorem asg_name (x p v) : asg r c (.Name x p) v st = storeN c x v st := rfl
theorem asgL_nil : asgL r c [] [] st = some st := rfl
noncomputable def asgLK (ts : List Expr) (vs : List V) (st : IS) : Option IS := asgL r c ts vs st
theorem asgL_cons (t ts v vs) : asgL r c (t :: ts) (v :: vs) st = (r.a c t v st).bind (asgLK r c ts vs) := rfl
theorem asgLK_eq (ts vs) : asgLK r c ts vs st = asgL r c ts vs st := rfl
theorem asg_tup_d (ts k p xs) (h1 : xs.length ≤ 1000000) (h2 : (ts.all (fun | .Starred .. => false | _ => true)) = true) : asg r c (.Tuple ts k p) (.d (.tuple xs)) st = asgL r c ts (xs.map .d) st := by
  unfold asg
  dsimp only
  rw [show itemsOf (.d (.tuple xs)) = some (xs.map .d) from rfl, Option.bind_some]
  refine if_pos ?_
  rw [List.length_map]
  exact Bool.and_eq_true_iff.mpr ⟨decide_eq_true h1, h2⟩
theorem asg_tup_v (ts k p vs) (h1 : vs.length ≤ 1000000) (h2 : (ts.all (fun | .Starred .. => false | _ => true)) = true) : asg r c (.Tuple ts k p) (.tup vs) st = asgL r c ts vs st := by
  unfold asg
  dsimp only
  rw [show itemsOf (.tup vs) = some vs from rfl, Option.bind_some]
  exact if_pos (Bool.and_eq_true_iff.mpr ⟨decide_eq_true h1, h2⟩)
noncomputable def asgSK2 (v w : V) (q : V × IS) : Option IS := match w, q.1 with
  | .own k, .d (.int j) => (q.2.own[k]?).bind fun xs => if j = -1 ∧ xs.length ≠ 0 ∧ sizeOk xs.length then some { q.2 with own := q.2.own.set k (xs.set (xs.length - 1) v) } else none
  | .deck, .d (.str s) => if s = Str.ofString "mixed" then (q.2.dk.bind fun dk => (intOf v).map fun i => { q.2 with dk := some (dk.1, i) }) else none
  | _, _ => none
noncomputable def asgSK1 (i : Expr) (v : V) (p : V × IS) : Option IS := (r.e c i p.2).bind (asgSK2 v p.1)
theorem asg_sub (o i p v) : asg r c (.Subscript o i p) v st = (r.e c o st).bind (asgSK1 r c i v) := rfl
theorem asgSK1_eq (i v w) : asgSK1 r c i v (w, st) = (r.e c i st).bind (asgSK2 v w) := rfl
noncomputable def setOK (v : V) (k : Nat) (xs : List V) : Option IS := if (-1 : Int) = -1 ∧ xs.length ≠ 0 ∧ sizeOk xs.length then some { st with own := st.own.set k (xs.set (xs.length - 1) v) } else none
theorem setOK_eq (v k xs) (h1 : xs.length ≠ 0) (h2 : xs.length ≤ 1000000) : setOK st v k xs = some { st with own := st.own.set k (xs.set (xs.length - 1) v) } := if_pos ⟨rfl, h1, decide_eq_true h2⟩
theorem asgSK2_own (v k) : asgSK2 v (.own k) (.d (.int (-1)), st) = (st.own[k]?).bind (setOK st v k) := rfl
theorem asgSK2_deck (vs : Vars) (own : List (List V)) (i : Int) (l m) : asgSK2 (.d (.int i)) .deck (.d (.str (Str.ofString "mixed")), ⟨vs, own, some (l, m)⟩) = some ⟨vs, own, some (l, i)⟩ := by
  unfold asgSK2
  dsimp only
  rw [if_pos rfl]; rfl

/-! statements -/
noncomputable def nextK (st : IS) : Fl × IS := (.next, st)
theorem nextK_eq : nextK st = (.next, st) := rfl
noncomputable def stoK (x : Str) (q : V × IS) : Option (Fl × IS) := (storeN c x q.1 q.2).map nextK
theorem stoK_eq (x v) : stoK c x (v, st) = (storeN c x v st).map nextK := rfl
theorem exS_name (x p e p') (h : isComp e = false) : exS r c (.Assign [.Name x p] e p') st = (r.e c e st).bind (stoK c x) := by
  show (if isComp e then _ else _) = _
  rw [h]; rfl
noncomputable def stoCK (x : Str) (q : List PyData × IS) : Option (Fl × IS) := (storeN c x (.d (.list q.1)) q.2).map nextK
theorem stoCK_eq (x xs) : stoCK c x (xs, st) = (storeN c x (.d (.list xs)) st).map nextK := rfl
theorem exS_nameC (x p elt target iter ifs scope pos p') (h : swapsC ⟨c.sc, []⟩ (.ListComp elt [⟨target, iter, ifs, 0⟩] scope pos) x p = true) :
    exS r c (.Assign [.Name x p] (.ListComp elt [⟨target, iter, ifs, 0⟩] scope pos) p') st = (compV r c elt target iter ifs scope st).bind (stoCK c x) := if_pos h
noncomputable def tasK (ts : List Expr) (k : Nat) (p : Pos) (q : V × IS) : Option (Fl × IS) := (r.a c (.Tuple ts k p) q.1 q.2).map nextK
theorem tasK_eq (ts k p v) : tasK r c ts k p (v, st) = (r.a c (.Tuple ts k p) v st).map nextK := rfl
theorem exS_tup (ts k p e p') (h : isComp e = false) (h' : swpC ⟨c.sc, []⟩ ts e = some none) : exS r c (.Assign [.Tuple ts k p] e p') st = (r.e c e st).bind (tasK r c ts k p) := by
  have h' : swpC c ts e = some none := h'
  show (if isComp e then _ else _) = _
  rw [h, h']; rfl
noncomputable def swpK (names : List Str) (q : V × IS) : Option (Fl × IS) := (itemsOf q.1).bind fun vs => if vs.length = names.length && sizeOk vs.length then (storeL c names.reverse vs.reverse q.2).map nextK else none
theorem exS_swp2 (a b pa pb k p e p') (h : isComp e = false) (h' : swpC ⟨c.sc, []⟩ [.Name a pa, .Name b pb] e = some (some [a, b])) : exS r c (.Assign [.Tuple [.Name a pa, .Name b pb] k p] e p') st = (r.e c e st).bind (swpK c [a, b]) := by
  have h' : swpC c [.Name a pa, .Name b pb] e = some (some [a, b]) := h'
  show (if isComp e then _ else _) = _
  rw [h, h']; rfl
theorem exS_swp3 (a b d pa pb pd k p e p') (h : isComp e = false) (h' : swpC ⟨c.sc, []⟩ [.Name a pa, .Name b pb, .Name d pd] e = some (some [a, b, d])) : exS r c (.Assign [.Tuple [.Name a pa, .Name b pb, .Name d pd] k p] e p') st = (r.e c e st).bind (swpK c [a, b, d]) := by
  have h' : swpC c [.Name a pa, .Name b pb, .Name d pd] e = some (some [a, b, d]) := h'
  show (if isComp e then _ else _) = _
  rw [h, h']; rfl
theorem swpK2_d (a b x y) : swpK c [a, b] (.d (.tuple [x, y]), st) = (storeL c [b, a] [.d y, .d x] st).map nextK := rfl
theorem swpK2_v (a b x y) : swpK c [a, b] (.tup [x, y], st) = (storeL c [b, a] [y, x] st).map nextK := rfl
theorem swpK3_v (a b d x y z) : swpK c [a, b, d] (.tup [x, y, z], st) = (storeL c [d, b, a] [z, y, x] st).map nextK := rfl
theorem storeL_nil : storeL c [] [] st = some st := rfl
noncomputable def storeLK (xs : List Str) (vs : List V) (st : IS) : Option IS := storeL c xs vs st
theorem storeL_cons (x xs v vs) : storeL c (x :: xs) (v :: vs) st = (storeN c x v st).bind (storeLK c xs vs) := rfl
theorem storeLK_eq (xs vs) : storeLK c xs vs st = storeL c xs vs st := rfl
noncomputable def sasK (o i : Expr) (p : Pos) (q : V × IS) : Option (Fl × IS) := (r.a c (.Subscript o i p) q.1 q.2).map nextK
theorem sasK_eq (o i p v) : sasK r c o i p (v, st) = (r.a c (.Subscript o i p) v st).map nextK := rfl
theorem exS_sub (o i p e p') (h : isComp e = false) : exS r c (.Assign [.Subscript o i p] e p') st = (r.e c e st).bind (sasK r c o i p) := by
  show (if isComp e then _ else _) = _
  rw [h]; rfl
noncomputable def augK2 (x : Str) (v : V) (q : V × IS) : Option (Fl × IS) := match v, q.1 with
  | .d (.int a), .d (.int b) => (storeN c x (.d (.int (a + b))) q.2).map nextK
  | _, _ => none
noncomputable def augK1 (x : Str) (e : Expr) (q : V × IS) : Option (Fl × IS) := (r.e c e q.2).bind (augK2 c x q.1)
theorem exS_aug (x p e p') (h : notDebug x = true) : exS r c (.AugAssign (.Name x p) .Add e p') st = (r.e c (.Name x p) st).bind (augK1 r c x e) := by
  show (if notDebug x then _ else _) = _
  rw [h]; rfl
theorem augK1_eq (x e v) : augK1 r c x e (v, st) = (r.e c e st).bind (augK2 c x v) := rfl
theorem augK2_eq (x) (a b : Int) : augK2 c x (.d (.int a)) (.d (.int b), st) = (storeN c x (.d (.int (a + b))) st).map nextK := rfl
noncomputable def ifSK (b o : List Stmt) (p : Bool × IS) : Option (Fl × IS) := if p.1 then r.b c b p.2 else r.b c o p.2
theorem exS_if (t b o p) : exS r c (.If t b o p) st = (r.t c t st).bind (ifSK r c b o) := rfl
theorem ifSK_eq (b o) (q : Bool) : ifSK r c b o (q, st) = if q = true then r.b c b st else r.b c o st := rfl
noncomputable def forStep (t : Expr) (b : List Stmt) (x : PyData) (st : IS) : Option (Fl × IS) := (r.a c t (.d x) st).bind (r.b c b)
theorem forStep_eq (t b x) : forStep r c t b x st = (r.a c t (.d x) st).bind (r.b c b) := rfl
noncomputable def forK (t : Expr) (b : List Stmt) (p : List PyData × IS) : Option (Fl × IS) := loopF (forStep r c t b) p.1 p.2
theorem forK_eq (t b xs) : forK r c t b (xs, st) = loopF (forStep r c t b) xs st := rfl
theorem exS_for (t it b p) (h : tgtOk it t = true) : exS r c (.For t it b [] p) st = (iterV r c it st).bind (forK r c t b) := if_pos h
noncomputable def loopK (step : PyData → IS → Option (Fl × IS)) (xs : List PyData) (p : Fl × IS) : Option (Fl × IS) := match p.1 with
  | .next => loopF step xs p.2
  | .ret v => some (.ret v, p.2)
theorem loopF_nil (step) : loopF step [] st = some (.next, st) := rfl
theorem loopF_cons (step x xs) : loopF step (x :: xs) st = (step x st).bind (loopK step xs) := rfl
theorem loopK_next (step xs) : loopK step xs (.next, st) = loopF step xs st := rfl
theorem loopK_ret (step xs v) : loopK step xs (.ret v, st) = some (.ret v, st) := rfl
noncomputable def rtnK (p : V × IS) : Fl × IS := (.ret p.1, p.2)
theorem rtnK_eq (v) : rtnK (v, st) = (.ret v, st) := rfl
theorem exS_ret (e p) : exS r c (.Return (some e) p) st = (r.e c e st).map rtnK := rfl
noncomputable def methK2 (m : Str) (v : V) (q : V × IS) : Option (Fl × IS) := (methV m v q.1 q.2).map nextK
noncomputable def methK1 (m : Str) (a : Expr) (p : V × IS) : Option (Fl × IS) := (r.e c a p.2).bind (methK2 m p.1)
theorem exS_meth (o m ap a cp p) (h : (baseOk o && ap.endLine == cp.line) = true) : exS r c (.Expr (.Call (.Attribute o m ap) [a] [] cp) p) st = (r.e c o st).bind (methK1 r c m a) := if_pos h
theorem methK1_eq (m a v) : methK1 r c m a (v, st) = (r.e c a st).bind (methK2 m v) := rfl
noncomputable def appK (k : Nat) (v : V) (l : List V) : Option (Fl × IS) := if sizeOk l.length then some (.next, { st with own := st.own.set k (l ++ [v]) }) else none
theorem appK_eq (k v l) (h1 : l.length ≤ 1000000) : appK st k v l = some (.next, { st with own := st.own.set k (l ++ [v]) }) := if_pos (sizeOk_of h1)
theorem methK2_app (v k) : methK2 (Str.ofString "append") (.own k) (v, st) = (st.own[k]?).bind (appK st k v) := by
  show ((st.own[k]?).bind _).map nextK = _
  cases st.own[k]? with
  | none => rfl
  | some l =>
    rw [Option.bind_some, Option.bind_some, if_pos rfl]
    unfold appK
    split <;> rfl
noncomputable def extK (k : Nat) (ds : List PyData) (l : List V) : Option (Fl × IS) := if sizeOk (l.length + ds.length) then some (.next, { st with own := st.own.set k (l ++ ds.map .d) }) else none
theorem extK_eq (k ds l) (h1 : l.length + ds.length ≤ 1000000) : extK st k ds l = some (.next, { st with own := st.own.set k (l ++ ds.map .d) }) := if_pos (sizeOk_of h1)
theorem methK2_ext (k) (ds : List PyData) : methK2 (Str.ofString "extend") (.own k) (.d (.list ds), st) = (st.own[k]?).bind (extK st k ds) := by
  show ((st.own[k]?).bind _).map nextK = _
  cases st.own[k]? with
  | none => rfl
  | some l =>
    rw [Option.bind_some, Option.bind_some, if_neg (by decide +kernel), if_pos rfl]
    unfold extK
    dsimp only
    split <;> rfl
noncomputable def seqK (rest : List Stmt) (p : Fl × IS) : Option (Fl × IS) := match p.1 with
  | .next => exB r c rest p.2
  | .ret v => some (.ret v, p.2)
theorem exB_nil : exB r c [] st = some (.next, st) := rfl
theorem exB_cons (s rest) : exB r c (s :: rest) st = (exS r c s st).bind (seqK r c rest) := rfl
theorem seqK_next (rest) : seqK r c rest (.next, st) = exB r c rest st := rfl
theorem seqK_ret (rest v) : seqK r c rest (.ret v, st) = some (.ret v, st) := rfl

/-! calls of defs -/
noncomputable def fzK (dk : Dk) (x : PyData) : V × Dk := (.d x, dk)
theorem fzK_eq (dk x) : fzK dk x = (.d x, dk) := rfl
noncomputable def retFK (p : Fl × IS) : Option (V × Dk) := match p.1 with
  | .ret v => (freeze 10 p.2.own v).map (fzK p.2.dk)
  | .next => none
theorem retFK_eq (v) : retFK (.ret v, st) = (freeze 10 st.own v).map (fzK st.dk) := rfl
theorem callF_eq {f d} (vs dk) (h : fnRec f = some d) (hok : okRec d = true) (ha : vs.all argOk = true) (hl : vs.length = d.params.args.length) : callF r f vs dk = (r.b ⟨d.scope, initC d vs⟩ d.body ⟨initV d vs, [], dk⟩).bind retFK := by
  unfold callF
  rw [h, Option.bind_some, if_pos (by rw [hok, ha]; simpa using hl)]
  rfl
end
theorem layStr_left : PyData.canLay0 (.str (Str.ofString "left")) = true := by decide +kernel
theorem layStr_mixed : PyData.canLay0 (.str (Str.ofString "mixed")) = true := by decide +kernel
theorem layStr_m : PyData.canLay0 (.str (Str.ofString "m")) = true := by decide +kernel
theorem layStr_l : PyData.canLay0 (.str (Str.ofString "l")) = true := by decide +kernel
theorem layStr_z : PyData.canLay0 (.str (Str.ofString "z")) = true := by decide +kernel
theorem layStr_w : PyData.canLay0 (.str (Str.ofString "winding")) = true := by decide +kernel
theorem layStr_e : PyData.canLay0 (.str (Str.ofString "evenodd")) = true := by decide +kernel
end Mine
namespace Mine
open PySem PySem.W PyProof.Rows PySem.Calls
set_option maxRecDepth 100000
noncomputable abbrev Pt := Int × Int
noncomputable def encP (p : Pt) : PyData := .tuple [.int p.1, .int p.2]
noncomputable def encL (l : Pt × Pt) : PyData := .tuple [encP l.1, encP l.2]
theorem itemL_0 {α : Type} (a : α) (l : List α) : itemL (a :: l) 0 = some a := rfl
theorem itemL_1 {α : Type} (a b : α) (l : List α) : itemL (a :: b :: l) 1 = some b := rfl
theorem itemL_2 {α : Type} (a b d : α) (l : List α) : itemL (a :: b :: d :: l) 2 = some d := rfl
theorem itemL_m1 {α : Type} (l : List α) (a : α) : itemL (l ++ [a]) (-1) = some a := by
  unfold itemL
  rw [if_neg (by omega), if_pos (by simp only [List.length_append, List.length_singleton]; omega)]
  simp only [List.length_append, List.length_singleton]
  rw [show (-1 + ((l.length + 1 : Nat) : Int)).toNat = l.length by omega]
  simp

theorem gv_Quarter_0 (a0 a1 : Option V) : getV [(Str.ofString "x", a0), (Str.ofString "y", a1)] (Str.ofString "x") = a0 := rfl
theorem sv_Quarter_0 (a0 a1 : Option V) (v : V) : setV [(Str.ofString "x", a0), (Str.ofString "y", a1)] (Str.ofString "x") v = [(Str.ofString "x", some v), (Str.ofString "y", a1)] := rfl
theorem gv_Quarter_1 (a0 a1 : Option V) : getV [(Str.ofString "x", a0), (Str.ofString "y", a1)] (Str.ofString "y") = a1 := rfl
theorem sv_Quarter_1 (a0 a1 : Option V) (v : V) : setV [(Str.ofString "x", a0), (Str.ofString "y", a1)] (Str.ofString "y") v = [(Str.ofString "x", a0), (Str.ofString "y", some v)] := rfl
noncomputable def rQuarter : {d : DefRec // fnRec (Str.ofString "_law_quarter") = some d} := ⟨_, rfl⟩
noncomputable def quarter (x y : Int) : Int := if x > 0 ∧ y ≥ 0 then 0 else if x ≤ 0 ∧ y > 0 then 1 else if x < 0 then 2 else 3
theorem quarter_f (n : Nat) (x y : Int) (dk : Dk) : (ev (n+6)).f (Str.ofString "_law_quarter") [.d (.int x), .d (.int y)] dk = some (.d (.int (quarter x y)), dk) := by
  rw [ev_f, callF_eq _ _ _ rQuarter.2 (by decide +kernel) rfl rfl, show initV rQuarter.1 [.d (.int x), .d (.int y)] = [(Str.ofString "x", some (.d (.int x))), (Str.ofString "y", some (.d (.int y)))] from rfl, show initC rQuarter.1 [.d (.int x), .d (.int y)] = [] from rfl]
  unfold quarter
  by_cases h1 : 0 < x <;> by_cases h2 : 0 ≤ y <;> by_cases h3 : 0 < y <;> by_cases h4 : x < 0 <;> by_cases h5 : x ≤ 0 <;> try omega
  all_goals simp (decide := true) only [rQuarter, h1, h2, h3, h4, h5, and_true, and_false, true_and, false_and, ev_e, ev_t, ev_a, ev_b, evL_nil, evL_cons, evLK1_eq, evLK2_eq, retE_eq, retO_eq, evE_int, evE_str, evE_bool, evE_none, evE_name, nameV_loc, nameV_cell, nameV_free, nameV_unit, nameV_eo, evE_bin, binK1_eq, binK2_eq, binV_add, binV_sub, binV_mul, binV_div, binV_mod, binV_list, binV_tup, evE_neg, negK_eq, evE_if, ifEK_eq, evE_tuple, tupK_eq, evE_list0, evE_list1, list1K_eq, evE_list2, evE_listS, listK_eq, listK1_eq, evE_rev, revK1_eq, revK_eq, evE_slo, sloK1_eq, sloK_eq, evE_sup, supK1_eq, supK_eq, evE_subC, evE_subN, evE_subU, evE_subB, subK1_eq, subK_eq, itemV_list, itemV_tuple, itemV_own, itemOK_eq, itemV_tup, itemV_left, itemV_mixed, retB_eq, cmpVK_eq, evE_cmp, cmpE_ne, neK_eq, cmpE_eq1, cmpE_lt, cmpE_le, cmpE_gt, cmpE_ge, cmpE_is, cmpE_isnot, cmpE_neC, cmpE_neN, cmpE_neT, cmpE_neB, cmpK1_eq, cmpK_eq, cmpE_2, cmp2K1_eq, cmp2K2_eq, cmp2K2b_eq, cmpV_lt, cmpV_le, cmpV_gt, cmpV_ge, cmpV_eqI, cmpV_neI, cmpV_eqS, cmpV_isN, cmpV_isT, cmpV_isnotB, neNil_list, neNil_left, evE_and, andEK_eq, evE_call, callK_eq, retF_eq, callV_own, callV_min, callV_max, callV_lenL, callV_lenT, sumK_eq, callV_sum, callV_tupL, tupOK1_eq, tupOK_eq, callV_tupO, evE_pop, popK1_eq, popK2_eq, compStep_eq, compK1_eq, compK2_eq, compK3_eq, testsE_0, testsE_1, retL_eq, compScope_eq, compK_eq, compV_eq, compVK_eq, evE_comp, rangeK_eq, rangeK1_eq, iterV_range, enumK_eq, iterV_enum, seqIK_list, seqIK_tuple, iterV_name, iterV_subS, iterV_call, boolK_eq, evT_bool, evT_cmp, evT_name, evT_call, allT_and0, allT_or0, allT_and, allT_or, andTK_eq, orTK_eq, storeN_eq, asg_name, asgL_nil, asgL_cons, asgLK_eq, asg_tup_d, asg_tup_v, asg_sub, asgSK1_eq, setOK_eq, asgSK2_own, asgSK2_deck, nextK_eq, stoK_eq, exS_name, stoCK_eq, exS_nameC, tasK_eq, exS_tup, exS_swp2, exS_swp3, swpK2_d, swpK2_v, swpK3_v, storeL_nil, storeL_cons, storeLK_eq, sasK_eq, exS_sub, exS_aug, augK1_eq, augK2_eq, exS_if, ifSK_eq, forStep_eq, forK_eq, exS_for, loopF_nil, loopF_cons, loopK_next, loopK_ret, rtnK_eq, exS_ret, exS_meth, methK1_eq, appK_eq, methK2_app, extK_eq, methK2_ext, exB_nil, exB_cons, seqK_next, seqK_ret, fzK_eq, retFK_eq, layStr_left, layStr_mixed, layStr_m, layStr_l, layStr_z, layStr_w, layStr_e, Option.bind_some, Option.map_some, List.length_cons, List.length_nil, if_true, if_false, Bool.false_eq_true, decide_eq_true_eq, Bool.not_true, Bool.not_false, Bool.not_eq_true, List.map_cons, List.map_nil, List.reverse_cons, List.reverse_nil, List.nil_append, List.cons_append, gt_iff_lt, ge_iff_le, beq_iff_eq, Nat.reduceAdd, ite_self, mkTup, allD, Option.some.injEq, List.all_cons, List.all_nil, Bool.and_true, Bool.true_and, argOk, freeze, Option.isSome_some, decide_true, decide_false, Option.bind_none, Option.map_none, List.getElem?_cons_zero, List.getElem?_cons_succ, blank, encP, encL, getC, Bool.not_eq_true', compL, Option.toList_some, Option.toList_none, List.append_nil, itemL_0, itemL_1, itemL_2, itemL_m1, Int.cast_ofNat_Int, intsOf, List.set_cons_zero, List.set_cons_succ, Int.reduceAdd, Int.reduceSub, Int.reduceNeg, Int.reduceMul, gv_Quarter_0, sv_Quarter_0, gv_Quarter_1, sv_Quarter_1]

/-- coordinates that stay small -/
noncomputable def Bd (p : Pt) : Prop := p.1.natAbs ≤ 100000000 ∧ p.2.natAbs ≤ 100000000
noncomputable def BdL (l : Pt × Pt) : Prop := Bd l.1 ∧ Bd l.2
noncomputable def crossL (l : Pt × Pt) (x y : Int) : Int := (l.1.1 - x) * (l.2.2 - y) - (l.2.1 - x) * (l.1.2 - y)
theorem small_of {i : Int} (h : i.natAbs < 4611686018427387904) : small i = true := decide_eq_true h

theorem gv_Cross_0 (a0 a1 a2 a3 a4 a5 a6 : Option V) : getV [(Str.ofString "line", a0), (Str.ofString "x", a1), (Str.ofString "y", a2), (Str.ofString "ax", a3), (Str.ofString "ay", a4), (Str.ofString "bx", a5), (Str.ofString "by", a6)] (Str.ofString "line") = a0 := rfl
theorem sv_Cross_0 (a0 a1 a2 a3 a4 a5 a6 : Option V) (v : V) : setV [(Str.ofString "line", a0), (Str.ofString "x", a1), (Str.ofString "y", a2), (Str.ofString "ax", a3), (Str.ofString "ay", a4), (Str.ofString "bx", a5), (Str.ofString "by", a6)] (Str.ofString "line") v = [(Str.ofString "line", some v), (Str.ofString "x", a1), (Str.ofString "y", a2), (Str.ofString "ax", a3), (Str.ofString "ay", a4), (Str.ofString "bx", a5), (Str.ofString "by", a6)] := rfl
theorem gv_Cross_1 (a0 a1 a2 a3 a4 a5 a6 : Option V) : getV [(Str.ofString "line", a0), (Str.ofString "x", a1), (Str.ofString "y", a2), (Str.ofString "ax", a3), (Str.ofString "ay", a4), (Str.ofString "bx", a5), (Str.ofString "by", a6)] (Str.ofString "x") = a1 := rfl
theorem sv_Cross_1 (a0 a1 a2 a3 a4 a5 a6 : Option V) (v : V) : setV [(Str.ofString "line", a0), (Str.ofString "x", a1), (Str.ofString "y", a2), (Str.ofString "ax", a3), (Str.ofString "ay", a4), (Str.ofString "bx", a5), (Str.ofString "by", a6)] (Str.ofString "x") v = [(Str.ofString "line", a0), (Str.ofString "x", some v), (Str.ofString "y", a2), (Str.ofString "ax", a3), (Str.ofString "ay", a4), (Str.ofString "bx", a5), (Str.ofString "by", a6)] := rfl
theorem gv_Cross_2 (a0 a1 a2 a3 a4 a5 a6 : Option V) : getV [(Str.ofString "line", a0), (Str.ofString "x", a1), (Str.ofString "y", a2), (Str.ofString "ax", a3), (Str.ofString "ay", a4), (Str.ofString "bx", a5), (Str.ofString "by", a6)] (Str.ofString "y") = a2 := rfl
theorem sv_Cross_2 (a0 a1 a2 a3 a4 a5 a6 : Option V) (v : V) : setV [(Str.ofString "line", a0), (Str.ofString "x", a1), (Str.ofString "y", a2), (Str.ofString "ax", a3), (Str.ofString "ay", a4), (Str.ofString "bx", a5), (Str.ofString "by", a6)] (Str.ofString "y") v = [(Str.ofString "line", a0), (Str.ofString "x", a1), (Str.ofString "y", some v), (Str.ofString "ax", a3), (Str.ofString "ay", a4), (Str.ofString "bx", a5), (Str.ofString "by", a6)] := rfl
theorem gv_Cross_3 (a0 a1 a2 a3 a4 a5 a6 : Option V) : getV [(Str.ofString "line", a0), (Str.ofString "x", a1), (Str.ofString "y", a2), (Str.ofString "ax", a3), (Str.ofString "ay", a4), (Str.ofString "bx", a5), (Str.ofString "by", a6)] (Str.ofString "ax") = a3 := rfl
theorem sv_Cross_3 (a0 a1 a2 a3 a4 a5 a6 : Option V) (v : V) : setV [(Str.ofString "line", a0), (Str.ofString "x", a1), (Str.ofString "y", a2), (Str.ofString "ax", a3), (Str.ofString "ay", a4), (Str.ofString "bx", a5), (Str.ofString "by", a6)] (Str.ofString "ax") v = [(Str.ofString "line", a0), (Str.ofString "x", a1), (Str.ofString "y", a2), (Str.ofString "ax", some v), (Str.ofString "ay", a4), (Str.ofString "bx", a5), (Str.ofString "by", a6)] := rfl
theorem gv_Cross_4 (a0 a1 a2 a3 a4 a5 a6 : Option V) : getV [(Str.ofString "line", a0), (Str.ofString "x", a1), (Str.ofString "y", a2), (Str.ofString "ax", a3), (Str.ofString "ay", a4), (Str.ofString "bx", a5), (Str.ofString "by", a6)] (Str.ofString "ay") = a4 := rfl
theorem sv_Cross_4 (a0 a1 a2 a3 a4 a5 a6 : Option V) (v : V) : setV [(Str.ofString "line", a0), (Str.ofString "x", a1), (Str.ofString "y", a2), (Str.ofString "ax", a3), (Str.ofString "ay", a4), (Str.ofString "bx", a5), (Str.ofString "by", a6)] (Str.ofString "ay") v = [(Str.ofString "line", a0), (Str.ofString "x", a1), (Str.ofString "y", a2), (Str.ofString "ax", a3), (Str.ofString "ay", some v), (Str.ofString "bx", a5), (Str.ofString "by", a6)] := rfl
theorem gv_Cross_5 (a0 a1 a2 a3 a4 a5 a6 : Option V) : getV [(Str.ofString "line", a0), (Str.ofString "x", a1), (Str.ofString "y", a2), (Str.ofString "ax", a3), (Str.ofString "ay", a4), (Str.ofString "bx", a5), (Str.ofString "by", a6)] (Str.ofString "bx") = a5 := rfl
theorem sv_Cross_5 (a0 a1 a2 a3 a4 a5 a6 : Option V) (v : V) : setV [(Str.ofString "line", a0), (Str.ofString "x", a1), (Str.ofString "y", a2), (Str.ofString "ax", a3), (Str.ofString "ay", a4), (Str.ofString "bx", a5), (Str.ofString "by", a6)] (Str.ofString "bx") v = [(Str.ofString "line", a0), (Str.ofString "x", a1), (Str.ofString "y", a2), (Str.ofString "ax", a3), (Str.ofString "ay", a4), (Str.ofString "bx", some v), (Str.ofString "by", a6)] := rfl
theorem gv_Cross_6 (a0 a1 a2 a3 a4 a5 a6 : Option V) : getV [(Str.ofString "line", a0), (Str.ofString "x", a1), (Str.ofString "y", a2), (Str.ofString "ax", a3), (Str.ofString "ay", a4), (Str.ofString "bx", a5), (Str.ofString "by", a6)] (Str.ofString "by") = a6 := rfl
theorem sv_Cross_6 (a0 a1 a2 a3 a4 a5 a6 : Option V) (v : V) : setV [(Str.ofString "line", a0), (Str.ofString "x", a1), (Str.ofString "y", a2), (Str.ofString "ax", a3), (Str.ofString "ay", a4), (Str.ofString "bx", a5), (Str.ofString "by", a6)] (Str.ofString "by") v = [(Str.ofString "line", a0), (Str.ofString "x", a1), (Str.ofString "y", a2), (Str.ofString "ax", a3), (Str.ofString "ay", a4), (Str.ofString "bx", a5), (Str.ofString "by", some v)] := rfl
noncomputable def rCross : {d : DefRec // fnRec (Str.ofString "_law_cross") = some d} := ⟨_, rfl⟩
theorem cross_f (n : Nat) (l : Pt × Pt) (x y : Int) (dk : Dk) (hl : BdL l) (hp : Bd (x, y)) : (ev (n+8)).f (Str.ofString "_law_cross") [.d (encL l), .d (.int x), .d (.int y)] dk = some (.d (.int (crossL l x y)), dk) := by
  obtain ⟨⟨ax, ay⟩, ⟨bx, b⟩⟩ := l
  obtain ⟨⟨h1, h2⟩, ⟨h3, h4⟩⟩ := hl
  obtain ⟨h5, h6⟩ := hp
  dsimp only at h1 h2 h3 h4 h5 h6
  rw [ev_f, callF_eq _ _ _ rCross.2 (by decide +kernel) rfl rfl, show initV rCross.1 [.d (encL ((ax, ay), (bx, b))), .d (.int x), .d (.int y)] = [(Str.ofString "line", some (.d (encL ((ax, ay), (bx, b))))), (Str.ofString "x", some (.d (.int x))), (Str.ofString "y", some (.d (.int y))), (Str.ofString "ax", none), (Str.ofString "ay", none), (Str.ofString "bx", none), (Str.ofString "by", none)] from rfl, show initC rCross.1 [.d (encL ((ax, ay), (bx, b))), .d (.int x), .d (.int y)] = [] from rfl]
  have s1 : small (ax - x) = true := small_of (by omega)
  have s2 : small (bx - x) = true := small_of (by omega)
  simp (decide := true) only [rCross, s1, s2, crossL, ev_e, ev_t, ev_a, ev_b, evL_nil, evL_cons, evLK1_eq, evLK2_eq, retE_eq, retO_eq, evE_int, evE_str, evE_bool, evE_none, evE_name, nameV_loc, nameV_cell, nameV_free, nameV_unit, nameV_eo, evE_bin, binK1_eq, binK2_eq, binV_add, binV_sub, binV_mul, binV_div, binV_mod, binV_list, binV_tup, evE_neg, negK_eq, evE_if, ifEK_eq, evE_tuple, tupK_eq, evE_list0, evE_list1, list1K_eq, evE_list2, evE_listS, listK_eq, listK1_eq, evE_rev, revK1_eq, revK_eq, evE_slo, sloK1_eq, sloK_eq, evE_sup, supK1_eq, supK_eq, evE_subC, evE_subN, evE_subU, evE_subB, subK1_eq, subK_eq, itemV_list, itemV_tuple, itemV_own, itemOK_eq, itemV_tup, itemV_left, itemV_mixed, retB_eq, cmpVK_eq, evE_cmp, cmpE_ne, neK_eq, cmpE_eq1, cmpE_lt, cmpE_le, cmpE_gt, cmpE_ge, cmpE_is, cmpE_isnot, cmpE_neC, cmpE_neN, cmpE_neT, cmpE_neB, cmpK1_eq, cmpK_eq, cmpE_2, cmp2K1_eq, cmp2K2_eq, cmp2K2b_eq, cmpV_lt, cmpV_le, cmpV_gt, cmpV_ge, cmpV_eqI, cmpV_neI, cmpV_eqS, cmpV_isN, cmpV_isT, cmpV_isnotB, neNil_list, neNil_left, evE_and, andEK_eq, evE_call, callK_eq, retF_eq, callV_own, callV_min, callV_max, callV_lenL, callV_lenT, sumK_eq, callV_sum, callV_tupL, tupOK1_eq, tupOK_eq, callV_tupO, evE_pop, popK1_eq, popK2_eq, compStep_eq, compK1_eq, compK2_eq, compK3_eq, testsE_0, testsE_1, retL_eq, compScope_eq, compK_eq, compV_eq, compVK_eq, evE_comp, rangeK_eq, rangeK1_eq, iterV_range, enumK_eq, iterV_enum, seqIK_list, seqIK_tuple, iterV_name, iterV_subS, iterV_call, boolK_eq, evT_bool, evT_cmp, evT_name, evT_call, allT_and0, allT_or0, allT_and, allT_or, andTK_eq, orTK_eq, storeN_eq, asg_name, asgL_nil, asgL_cons, asgLK_eq, asg_tup_d, asg_tup_v, asg_sub, asgSK1_eq, setOK_eq, asgSK2_own, asgSK2_deck, nextK_eq, stoK_eq, exS_name, stoCK_eq, exS_nameC, tasK_eq, exS_tup, exS_swp2, exS_swp3, swpK2_d, swpK2_v, swpK3_v, storeL_nil, storeL_cons, storeLK_eq, sasK_eq, exS_sub, exS_aug, augK1_eq, augK2_eq, exS_if, ifSK_eq, forStep_eq, forK_eq, exS_for, loopF_nil, loopF_cons, loopK_next, loopK_ret, rtnK_eq, exS_ret, exS_meth, methK1_eq, appK_eq, methK2_app, extK_eq, methK2_ext, exB_nil, exB_cons, seqK_next, seqK_ret, fzK_eq, retFK_eq, layStr_left, layStr_mixed, layStr_m, layStr_l, layStr_z, layStr_w, layStr_e, Option.bind_some, Option.map_some, List.length_cons, List.length_nil, if_true, if_false, Bool.false_eq_true, decide_eq_true_eq, Bool.not_true, Bool.not_false, Bool.not_eq_true, List.map_cons, List.map_nil, List.reverse_cons, List.reverse_nil, List.nil_append, List.cons_append, gt_iff_lt, ge_iff_le, beq_iff_eq, Nat.reduceAdd, ite_self, mkTup, allD, Option.some.injEq, List.all_cons, List.all_nil, Bool.and_true, Bool.true_and, argOk, freeze, Option.isSome_some, decide_true, decide_false, Option.bind_none, Option.map_none, List.getElem?_cons_zero, List.getElem?_cons_succ, blank, encP, encL, getC, Bool.not_eq_true', compL, Option.toList_some, Option.toList_none, List.append_nil, itemL_0, itemL_1, itemL_2, itemL_m1, Int.cast_ofNat_Int, intsOf, List.set_cons_zero, List.set_cons_succ, Int.reduceAdd, Int.reduceSub, Int.reduceNeg, Int.reduceMul, gv_Cross_0, sv_Cross_0, gv_Cross_1, sv_Cross_1, gv_Cross_2, sv_Cross_2, gv_Cross_3, sv_Cross_3, gv_Cross_4, sv_Cross_4, gv_Cross_5, sv_Cross_5, gv_Cross_6, sv_Cross_6]

noncomputable def isOnL (l : Pt × Pt) (x y : Int) : Bool := decide (min l.1.1 l.2.1 ≤ x ∧ x ≤ max l.1.1 l.2.1 ∧ min l.1.2 l.2.2 ≤ y ∧ y ≤ max l.1.2 l.2.2 ∧ crossL l x y = 0)
theorem gv_LawOn_0 (a0 a1 a2 a3 a4 a5 a6 a7 : Option V) : getV [(Str.ofString "line", a0), (Str.ofString "x", a1), (Str.ofString "y", a2), (Str.ofString "ax", a3), (Str.ofString "ay", a4), (Str.ofString "bx", a5), (Str.ofString "by", a6), (Str.ofString "is_between", a7)] (Str.ofString "line") = a0 := rfl
theorem sv_LawOn_0 (a0 a1 a2 a3 a4 a5 a6 a7 : Option V) (v : V) : setV [(Str.ofString "line", a0), (Str.ofString "x", a1), (Str.ofString "y", a2), (Str.ofString "ax", a3), (Str.ofString "ay", a4), (Str.ofString "bx", a5), (Str.ofString "by", a6), (Str.ofString "is_between", a7)] (Str.ofString "line") v = [(Str.ofString "line", some v), (Str.ofString "x", a1), (Str.ofString "y", a2), (Str.ofString "ax", a3), (Str.ofString "ay", a4), (Str.ofString "bx", a5), (Str.ofString "by", a6), (Str.ofString "is_between", a7)] := rfl
theorem gv_LawOn_1 (a0 a1 a2 a3 a4 a5 a6 a7 : Option V) : getV [(Str.ofString "line", a0), (Str.ofString "x", a1), (Str.ofString "y", a2), (Str.ofString "ax", a3), (Str.ofString "ay", a4), (Str.ofString "bx", a5), (Str.ofString "by", a6), (Str.ofString "is_between", a7)] (Str.ofString "x") = a1 := rfl
theorem sv_LawOn_1 (a0 a1 a2 a3 a4 a5 a6 a7 : Option V) (v : V) : setV [(Str.ofString "line", a0), (Str.ofString "x", a1), (Str.ofString "y", a2), (Str.ofString "ax", a3), (Str.ofString "ay", a4), (Str.ofString "bx", a5), (Str.ofString "by", a6), (Str.ofString "is_between", a7)] (Str.ofString "x") v = [(Str.ofString "line", a0), (Str.ofString "x", some v), (Str.ofString "y", a2), (Str.ofString "ax", a3), (Str.ofString "ay", a4), (Str.ofString "bx", a5), (Str.ofString "by", a6), (Str.ofString "is_between", a7)] := rfl
theorem gv_LawOn_2 (a0 a1 a2 a3 a4 a5 a6 a7 : Option V) : getV [(Str.ofString "line", a0), (Str.ofString "x", a1), (Str.ofString "y", a2), (Str.ofString "ax", a3), (Str.ofString "ay", a4), (Str.ofString "bx", a5), (Str.ofString "by", a6), (Str.ofString "is_between", a7)] (Str.ofString "y") = a2 := rfl
theorem sv_LawOn_2 (a0 a1 a2 a3 a4 a5 a6 a7 : Option V) (v : V) : setV [(Str.ofString "line", a0), (Str.ofString "x", a1), (Str.ofString "y", a2), (Str.ofString "ax", a3), (Str.ofString "ay", a4), (Str.ofString "bx", a5), (Str.ofString "by", a6), (Str.ofString "is_between", a7)] (Str.ofString "y") v = [(Str.ofString "line", a0), (Str.ofString "x", a1), (Str.ofString "y", some v), (Str.ofString "ax", a3), (Str.ofString "ay", a4), (Str.ofString "bx", a5), (Str.ofString "by", a6), (Str.ofString "is_between", a7)] := rfl
theorem gv_LawOn_3 (a0 a1 a2 a3 a4 a5 a6 a7 : Option V) : getV [(Str.ofString "line", a0), (Str.ofString "x", a1), (Str.ofString "y", a2), (Str.ofString "ax", a3), (Str.ofString "ay", a4), (Str.ofString "bx", a5), (Str.ofString "by", a6), (Str.ofString "is_between", a7)] (Str.ofString "ax") = a3 := rfl
theorem sv_LawOn_3 (a0 a1 a2 a3 a4 a5 a6 a7 : Option V) (v : V) : setV [(Str.ofString "line", a0), (Str.ofString "x", a1), (Str.ofString "y", a2), (Str.ofString "ax", a3), (Str.ofString "ay", a4), (Str.ofString "bx", a5), (Str.ofString "by", a6), (Str.ofString "is_between", a7)] (Str.ofString "ax") v = [(Str.ofString "line", a0), (Str.ofString "x", a1), (Str.ofString "y", a2), (Str.ofString "ax", some v), (Str.ofString "ay", a4), (Str.ofString "bx", a5), (Str.ofString "by", a6), (Str.ofString "is_between", a7)] := rfl
theorem gv_LawOn_4 (a0 a1 a2 a3 a4 a5 a6 a7 : Option V) : getV [(Str.ofString "line", a0), (Str.ofString "x", a1), (Str.ofString "y", a2), (Str.ofString "ax", a3), (Str.ofString "ay", a4), (Str.ofString "bx", a5), (Str.ofString "by", a6), (Str.ofString "is_between", a7)] (Str.ofString "ay") = a4 := rfl
theorem sv_LawOn_4 (a0 a1 a2 a3 a4 a5 a6 a7 : Option V) (v : V) : setV [(Str.ofString "line", a0), (Str.ofString "x", a1), (Str.ofString "y", a2), (Str.ofString "ax", a3), (Str.ofString "ay", a4), (Str.ofString "bx", a5), (Str.ofString "by", a6), (Str.ofString "is_between", a7)] (Str.ofString "ay") v = [(Str.ofString "line", a0), (Str.ofString "x", a1), (Str.ofString "y", a2), (Str.ofString "ax", a3), (Str.ofString "ay", some v), (Str.ofString "bx", a5), (Str.ofString "by", a6), (Str.ofString "is_between", a7)] := rfl
theorem gv_LawOn_5 (a0 a1 a2 a3 a4 a5 a6 a7 : Option V) : getV [(Str.ofString "line", a0), (Str.ofString "x", a1), (Str.ofString "y", a2), (Str.ofString "ax", a3), (Str.ofString "ay", a4), (Str.ofString "bx", a5), (Str.ofString "by", a6), (Str.ofString "is_between", a7)] (Str.ofString "bx") = a5 := rfl
theorem sv_LawOn_5 (a0 a1 a2 a3 a4 a5 a6 a7 : Option V) (v : V) : setV [(Str.ofString "line", a0), (Str.ofString "x", a1), (Str.ofString "y", a2), (Str.ofString "ax", a3), (Str.ofString "ay", a4), (Str.ofString "bx", a5), (Str.ofString "by", a6), (Str.ofString "is_between", a7)] (Str.ofString "bx") v = [(Str.ofString "line", a0), (Str.ofString "x", a1), (Str.ofString "y", a2), (Str.ofString "ax", a3), (Str.ofString "ay", a4), (Str.ofString "bx", some v), (Str.ofString "by", a6), (Str.ofString "is_between", a7)] := rfl
theorem gv_LawOn_6 (a0 a1 a2 a3 a4 a5 a6 a7 : Option V) : getV [(Str.ofString "line", a0), (Str.ofString "x", a1), (Str.ofString "y", a2), (Str.ofString "ax", a3), (Str.ofString "ay", a4), (Str.ofString "bx", a5), (Str.ofString "by", a6), (Str.ofString "is_between", a7)] (Str.ofString "by") = a6 := rfl
theorem sv_LawOn_6 (a0 a1 a2 a3 a4 a5 a6 a7 : Option V) (v : V) : setV [(Str.ofString "line", a0), (Str.ofString "x", a1), (Str.ofString "y", a2), (Str.ofString "ax", a3), (Str.ofString "ay", a4), (Str.ofString "bx", a5), (Str.ofString "by", a6), (Str.ofString "is_between", a7)] (Str.ofString "by") v = [(Str.ofString "line", a0), (Str.ofString "x", a1), (Str.ofString "y", a2), (Str.ofString "ax", a3), (Str.ofString "ay", a4), (Str.ofString "bx", a5), (Str.ofString "by", some v), (Str.ofString "is_between", a7)] := rfl
theorem gv_LawOn_7 (a0 a1 a2 a3 a4 a5 a6 a7 : Option V) : getV [(Str.ofString "line", a0), (Str.ofString "x", a1), (Str.ofString "y", a2), (Str.ofString "ax", a3), (Str.ofString "ay", a4), (Str.ofString "bx", a5), (Str.ofString "by", a6), (Str.ofString "is_between", a7)] (Str.ofString "is_between") = a7 := rfl
theorem sv_LawOn_7 (a0 a1 a2 a3 a4 a5 a6 a7 : Option V) (v : V) : setV [(Str.ofString "line", a0), (Str.ofString "x", a1), (Str.ofString "y", a2), (Str.ofString "ax", a3), (Str.ofString "ay", a4), (Str.ofString "bx", a5), (Str.ofString "by", a6), (Str.ofString "is_between", a7)] (Str.ofString "is_between") v = [(Str.ofString "line", a0), (Str.ofString "x", a1), (Str.ofString "y", a2), (Str.ofString "ax", a3), (Str.ofString "ay", a4), (Str.ofString "bx", a5), (Str.ofString "by", a6), (Str.ofString "is_between", some v)] := rfl
noncomputable def rLawOn : {d : DefRec // fnRec (Str.ofString "_law_is_on") = some d} := ⟨_, rfl⟩
theorem lawOn_f (n : Nat) (l : Pt × Pt) (x y : Int) (dk : Dk) (hl : BdL l) (hp : Bd (x, y)) : (ev (n+16)).f (Str.ofString "_law_is_on") [.d (encL l), .d (.int x), .d (.int y)] dk = some (.d (.bool (isOnL l x y)), dk) := by
  have hc := fun n dk => cross_f n l x y dk hl hp
  obtain ⟨⟨ax, ay⟩, ⟨bx, b⟩⟩ := l
  rw [ev_f, callF_eq _ _ _ rLawOn.2 (by decide +kernel) rfl rfl, show initV rLawOn.1 [.d (encL ((ax, ay), (bx, b))), .d (.int x), .d (.int y)] = [(Str.ofString "line", some (.d (encL ((ax, ay), (bx, b))))), (Str.ofString "x", some (.d (.int x))), (Str.ofString "y", some (.d (.int y))), (Str.ofString "ax", none), (Str.ofString "ay", none), (Str.ofString "bx", none), (Str.ofString "by", none), (Str.ofString "is_between", none)] from rfl, show initC rLawOn.1 [.d (encL ((ax, ay), (bx, b))), .d (.int x), .d (.int y)] = [] from rfl]
  unfold isOnL
  dsimp only
  by_cases h1 : min ax bx ≤ x
  case neg => simp (decide := true) only [rLawOn, h1, and_true, and_false, true_and, false_and, ev_e, ev_t, ev_a, ev_b, evL_nil, evL_cons, evLK1_eq, evLK2_eq, retE_eq, retO_eq, evE_int, evE_str, evE_bool, evE_none, evE_name, nameV_loc, nameV_cell, nameV_free, nameV_unit, nameV_eo, evE_bin, binK1_eq, binK2_eq, binV_add, binV_sub, binV_mul, binV_div, binV_mod, binV_list, binV_tup, evE_neg, negK_eq, evE_if, ifEK_eq, evE_tuple, tupK_eq, evE_list0, evE_list1, list1K_eq, evE_list2, evE_listS, listK_eq, listK1_eq, evE_rev, revK1_eq, revK_eq, evE_slo, sloK1_eq, sloK_eq, evE_sup, supK1_eq, supK_eq, evE_subC, evE_subN, evE_subU, evE_subB, subK1_eq, subK_eq, itemV_list, itemV_tuple, itemV_own, itemOK_eq, itemV_tup, itemV_left, itemV_mixed, retB_eq, cmpVK_eq, evE_cmp, cmpE_ne, neK_eq, cmpE_eq1, cmpE_lt, cmpE_le, cmpE_gt, cmpE_ge, cmpE_is, cmpE_isnot, cmpE_neC, cmpE_neN, cmpE_neT, cmpE_neB, cmpK1_eq, cmpK_eq, cmpE_2, cmp2K1_eq, cmp2K2_eq, cmp2K2b_eq, cmpV_lt, cmpV_le, cmpV_gt, cmpV_ge, cmpV_eqI, cmpV_neI, cmpV_eqS, cmpV_isN, cmpV_isT, cmpV_isnotB, neNil_list, neNil_left, evE_and, andEK_eq, evE_call, callK_eq, retF_eq, callV_own, callV_min, callV_max, callV_lenL, callV_lenT, sumK_eq, callV_sum, callV_tupL, tupOK1_eq, tupOK_eq, callV_tupO, evE_pop, popK1_eq, popK2_eq, compStep_eq, compK1_eq, compK2_eq, compK3_eq, testsE_0, testsE_1, retL_eq, compScope_eq, compK_eq, compV_eq, compVK_eq, evE_comp, rangeK_eq, rangeK1_eq, iterV_range, enumK_eq, iterV_enum, seqIK_list, seqIK_tuple, iterV_name, iterV_subS, iterV_call, boolK_eq, evT_bool, evT_cmp, evT_name, evT_call, allT_and0, allT_or0, allT_and, allT_or, andTK_eq, orTK_eq, storeN_eq, asg_name, asgL_nil, asgL_cons, asgLK_eq, asg_tup_d, asg_tup_v, asg_sub, asgSK1_eq, setOK_eq, asgSK2_own, asgSK2_deck, nextK_eq, stoK_eq, exS_name, stoCK_eq, exS_nameC, tasK_eq, exS_tup, exS_swp2, exS_swp3, swpK2_d, swpK2_v, swpK3_v, storeL_nil, storeL_cons, storeLK_eq, sasK_eq, exS_sub, exS_aug, augK1_eq, augK2_eq, exS_if, ifSK_eq, forStep_eq, forK_eq, exS_for, loopF_nil, loopF_cons, loopK_next, loopK_ret, rtnK_eq, exS_ret, exS_meth, methK1_eq, appK_eq, methK2_app, extK_eq, methK2_ext, exB_nil, exB_cons, seqK_next, seqK_ret, fzK_eq, retFK_eq, layStr_left, layStr_mixed, layStr_m, layStr_l, layStr_z, layStr_w, layStr_e, Option.bind_some, Option.map_some, List.length_cons, List.length_nil, if_true, if_false, Bool.false_eq_true, decide_eq_true_eq, Bool.not_true, Bool.not_false, Bool.not_eq_true, List.map_cons, List.map_nil, List.reverse_cons, List.reverse_nil, List.nil_append, List.cons_append, gt_iff_lt, ge_iff_le, beq_iff_eq, Nat.reduceAdd, ite_self, mkTup, allD, Option.some.injEq, List.all_cons, List.all_nil, Bool.and_true, Bool.true_and, argOk, freeze, Option.isSome_some, decide_true, decide_false, Option.bind_none, Option.map_none, List.getElem?_cons_zero, List.getElem?_cons_succ, blank, encP, encL, getC, Bool.not_eq_true', compL, Option.toList_some, Option.toList_none, List.append_nil, itemL_0, itemL_1, itemL_2, itemL_m1, Int.cast_ofNat_Int, intsOf, List.set_cons_zero, List.set_cons_succ, Int.reduceAdd, Int.reduceSub, Int.reduceNeg, Int.reduceMul, gv_LawOn_0, sv_LawOn_0, gv_LawOn_1, sv_LawOn_1, gv_LawOn_2, sv_LawOn_2, gv_LawOn_3, sv_LawOn_3, gv_LawOn_4, sv_LawOn_4, gv_LawOn_5, sv_LawOn_5, gv_LawOn_6, sv_LawOn_6, gv_LawOn_7, sv_LawOn_7]
  by_cases h2 : x ≤ max ax bx
  case neg => simp (decide := true) only [rLawOn, h1, h2, and_true, and_false, true_and, false_and, ev_e, ev_t, ev_a, ev_b, evL_nil, evL_cons, evLK1_eq, evLK2_eq, retE_eq, retO_eq, evE_int, evE_str, evE_bool, evE_none, evE_name, nameV_loc, nameV_cell, nameV_free, nameV_unit, nameV_eo, evE_bin, binK1_eq, binK2_eq, binV_add, binV_sub, binV_mul, binV_div, binV_mod, binV_list, binV_tup, evE_neg, negK_eq, evE_if, ifEK_eq, evE_tuple, tupK_eq, evE_list0, evE_list1, list1K_eq, evE_list2, evE_listS, listK_eq, listK1_eq, evE_rev, revK1_eq, revK_eq, evE_slo, sloK1_eq, sloK_eq, evE_sup, supK1_eq, supK_eq, evE_subC, evE_subN, evE_subU, evE_subB, subK1_eq, subK_eq, itemV_list, itemV_tuple, itemV_own, itemOK_eq, itemV_tup, itemV_left, itemV_mixed, retB_eq, cmpVK_eq, evE_cmp, cmpE_ne, neK_eq, cmpE_eq1, cmpE_lt, cmpE_le, cmpE_gt, cmpE_ge, cmpE_is, cmpE_isnot, cmpE_neC, cmpE_neN, cmpE_neT, cmpE_neB, cmpK1_eq, cmpK_eq, cmpE_2, cmp2K1_eq, cmp2K2_eq, cmp2K2b_eq, cmpV_lt, cmpV_le, cmpV_gt, cmpV_ge, cmpV_eqI, cmpV_neI, cmpV_eqS, cmpV_isN, cmpV_isT, cmpV_isnotB, neNil_list, neNil_left, evE_and, andEK_eq, evE_call, callK_eq, retF_eq, callV_own, callV_min, callV_max, callV_lenL, callV_lenT, sumK_eq, callV_sum, callV_tupL, tupOK1_eq, tupOK_eq, callV_tupO, evE_pop, popK1_eq, popK2_eq, compStep_eq, compK1_eq, compK2_eq, compK3_eq, testsE_0, testsE_1, retL_eq, compScope_eq, compK_eq, compV_eq, compVK_eq, evE_comp, rangeK_eq, rangeK1_eq, iterV_range, enumK_eq, iterV_enum, seqIK_list, seqIK_tuple, iterV_name, iterV_subS, iterV_call, boolK_eq, evT_bool, evT_cmp, evT_name, evT_call, allT_and0, allT_or0, allT_and, allT_or, andTK_eq, orTK_eq, storeN_eq, asg_name, asgL_nil, asgL_cons, asgLK_eq, asg_tup_d, asg_tup_v, asg_sub, asgSK1_eq, setOK_eq, asgSK2_own, asgSK2_deck, nextK_eq, stoK_eq, exS_name, stoCK_eq, exS_nameC, tasK_eq, exS_tup, exS_swp2, exS_swp3, swpK2_d, swpK2_v, swpK3_v, storeL_nil, storeL_cons, storeLK_eq, sasK_eq, exS_sub, exS_aug, augK1_eq, augK2_eq, exS_if, ifSK_eq, forStep_eq, forK_eq, exS_for, loopF_nil, loopF_cons, loopK_next, loopK_ret, rtnK_eq, exS_ret, exS_meth, methK1_eq, appK_eq, methK2_app, extK_eq, methK2_ext, exB_nil, exB_cons, seqK_next, seqK_ret, fzK_eq, retFK_eq, layStr_left, layStr_mixed, layStr_m, layStr_l, layStr_z, layStr_w, layStr_e, Option.bind_some, Option.map_some, List.length_cons, List.length_nil, if_true, if_false, Bool.false_eq_true, decide_eq_true_eq, Bool.not_true, Bool.not_false, Bool.not_eq_true, List.map_cons, List.map_nil, List.reverse_cons, List.reverse_nil, List.nil_append, List.cons_append, gt_iff_lt, ge_iff_le, beq_iff_eq, Nat.reduceAdd, ite_self, mkTup, allD, Option.some.injEq, List.all_cons, List.all_nil, Bool.and_true, Bool.true_and, argOk, freeze, Option.isSome_some, decide_true, decide_false, Option.bind_none, Option.map_none, List.getElem?_cons_zero, List.getElem?_cons_succ, blank, encP, encL, getC, Bool.not_eq_true', compL, Option.toList_some, Option.toList_none, List.append_nil, itemL_0, itemL_1, itemL_2, itemL_m1, Int.cast_ofNat_Int, intsOf, List.set_cons_zero, List.set_cons_succ, Int.reduceAdd, Int.reduceSub, Int.reduceNeg, Int.reduceMul, gv_LawOn_0, sv_LawOn_0, gv_LawOn_1, sv_LawOn_1, gv_LawOn_2, sv_LawOn_2, gv_LawOn_3, sv_LawOn_3, gv_LawOn_4, sv_LawOn_4, gv_LawOn_5, sv_LawOn_5, gv_LawOn_6, sv_LawOn_6, gv_LawOn_7, sv_LawOn_7]
  by_cases h3 : min ay b ≤ y
  case neg => simp (decide := true) only [rLawOn, h1, h2, h3, and_true, and_false, true_and, false_and, ev_e, ev_t, ev_a, ev_b, evL_nil, evL_cons, evLK1_eq, evLK2_eq, retE_eq, retO_eq, evE_int, evE_str, evE_bool, evE_none, evE_name, nameV_loc, nameV_cell, nameV_free, nameV_unit, nameV_eo, evE_bin, binK1_eq, binK2_eq, binV_add, binV_sub, binV_mul, binV_div, binV_mod, binV_list, binV_tup, evE_neg, negK_eq, evE_if, ifEK_eq, evE_tuple, tupK_eq, evE_list0, evE_list1, list1K_eq, evE_list2, evE_listS, listK_eq, listK1_eq, evE_rev, revK1_eq, revK_eq, evE_slo, sloK1_eq, sloK_eq, evE_sup, supK1_eq, supK_eq, evE_subC, evE_subN, evE_subU, evE_subB, subK1_eq, subK_eq, itemV_list, itemV_tuple, itemV_own, itemOK_eq, itemV_tup, itemV_left, itemV_mixed, retB_eq, cmpVK_eq, evE_cmp, cmpE_ne, neK_eq, cmpE_eq1, cmpE_lt, cmpE_le, cmpE_gt, cmpE_ge, cmpE_is, cmpE_isnot, cmpE_neC, cmpE_neN, cmpE_neT, cmpE_neB, cmpK1_eq, cmpK_eq, cmpE_2, cmp2K1_eq, cmp2K2_eq, cmp2K2b_eq, cmpV_lt, cmpV_le, cmpV_gt, cmpV_ge, cmpV_eqI, cmpV_neI, cmpV_eqS, cmpV_isN, cmpV_isT, cmpV_isnotB, neNil_list, neNil_left, evE_and, andEK_eq, evE_call, callK_eq, retF_eq, callV_own, callV_min, callV_max, callV_lenL, callV_lenT, sumK_eq, callV_sum, callV_tupL, tupOK1_eq, tupOK_eq, callV_tupO, evE_pop, popK1_eq, popK2_eq, compStep_eq, compK1_eq, compK2_eq, compK3_eq, testsE_0, testsE_1, retL_eq, compScope_eq, compK_eq, compV_eq, compVK_eq, evE_comp, rangeK_eq, rangeK1_eq, iterV_range, enumK_eq, iterV_enum, seqIK_list, seqIK_tuple, iterV_name, iterV_subS, iterV_call, boolK_eq, evT_bool, evT_cmp, evT_name, evT_call, allT_and0, allT_or0, allT_and, allT_or, andTK_eq, orTK_eq, storeN_eq, asg_name, asgL_nil, asgL_cons, asgLK_eq, asg_tup_d, asg_tup_v, asg_sub, asgSK1_eq, setOK_eq, asgSK2_own, asgSK2_deck, nextK_eq, stoK_eq, exS_name, stoCK_eq, exS_nameC, tasK_eq, exS_tup, exS_swp2, exS_swp3, swpK2_d, swpK2_v, swpK3_v, storeL_nil, storeL_cons, storeLK_eq, sasK_eq, exS_sub, exS_aug, augK1_eq, augK2_eq, exS_if, ifSK_eq, forStep_eq, forK_eq, exS_for, loopF_nil, loopF_cons, loopK_next, loopK_ret, rtnK_eq, exS_ret, exS_meth, methK1_eq, appK_eq, methK2_app, extK_eq, methK2_ext, exB_nil, exB_cons, seqK_next, seqK_ret, fzK_eq, retFK_eq, layStr_left, layStr_mixed, layStr_m, layStr_l, layStr_z, layStr_w, layStr_e, Option.bind_some, Option.map_some, List.length_cons, List.length_nil, if_true, if_false, Bool.false_eq_true, decide_eq_true_eq, Bool.not_true, Bool.not_false, Bool.not_eq_true, List.map_cons, List.map_nil, List.reverse_cons, List.reverse_nil, List.nil_append, List.cons_append, gt_iff_lt, ge_iff_le, beq_iff_eq, Nat.reduceAdd, ite_self, mkTup, allD, Option.some.injEq, List.all_cons, List.all_nil, Bool.and_true, Bool.true_and, argOk, freeze, Option.isSome_some, decide_true, decide_false, Option.bind_none, Option.map_none, List.getElem?_cons_zero, List.getElem?_cons_succ, blank, encP, encL, getC, Bool.not_eq_true', compL, Option.toList_some, Option.toList_none, List.append_nil, itemL_0, itemL_1, itemL_2, itemL_m1, Int.cast_ofNat_Int, intsOf, List.set_cons_zero, List.set_cons_succ, Int.reduceAdd, Int.reduceSub, Int.reduceNeg, Int.reduceMul, gv_LawOn_0, sv_LawOn_0, gv_LawOn_1, sv_LawOn_1, gv_LawOn_2, sv_LawOn_2, gv_LawOn_3, sv_LawOn_3, gv_LawOn_4, sv_LawOn_4, gv_LawOn_5, sv_LawOn_5, gv_LawOn_6, sv_LawOn_6, gv_LawOn_7, sv_LawOn_7]
  by_cases h4 : y ≤ max ay b
  case neg => simp (decide := true) only [rLawOn, h1, h2, h3, h4, and_true, and_false, true_and, false_and, ev_e, ev_t, ev_a, ev_b, evL_nil, evL_cons, evLK1_eq, evLK2_eq, retE_eq, retO_eq, evE_int, evE_str, evE_bool, evE_none, evE_name, nameV_loc, nameV_cell, nameV_free, nameV_unit, nameV_eo, evE_bin, binK1_eq, binK2_eq, binV_add, binV_sub, binV_mul, binV_div, binV_mod, binV_list, binV_tup, evE_neg, negK_eq, evE_if, ifEK_eq, evE_tuple, tupK_eq, evE_list0, evE_list1, list1K_eq, evE_list2, evE_listS, listK_eq, listK1_eq, evE_rev, revK1_eq, revK_eq, evE_slo, sloK1_eq, sloK_eq, evE_sup, supK1_eq, supK_eq, evE_subC, evE_subN, evE_subU, evE_subB, subK1_eq, subK_eq, itemV_list, itemV_tuple, itemV_own, itemOK_eq, itemV_tup, itemV_left, itemV_mixed, retB_eq, cmpVK_eq, evE_cmp, cmpE_ne, neK_eq, cmpE_eq1, cmpE_lt, cmpE_le, cmpE_gt, cmpE_ge, cmpE_is, cmpE_isnot, cmpE_neC, cmpE_neN, cmpE_neT, cmpE_neB, cmpK1_eq, cmpK_eq, cmpE_2, cmp2K1_eq, cmp2K2_eq, cmp2K2b_eq, cmpV_lt, cmpV_le, cmpV_gt, cmpV_ge, cmpV_eqI, cmpV_neI, cmpV_eqS, cmpV_isN, cmpV_isT, cmpV_isnotB, neNil_list, neNil_left, evE_and, andEK_eq, evE_call, callK_eq, retF_eq, callV_own, callV_min, callV_max, callV_lenL, callV_lenT, sumK_eq, callV_sum, callV_tupL, tupOK1_eq, tupOK_eq, callV_tupO, evE_pop, popK1_eq, popK2_eq, compStep_eq, compK1_eq, compK2_eq, compK3_eq, testsE_0, testsE_1, retL_eq, compScope_eq, compK_eq, compV_eq, compVK_eq, evE_comp, rangeK_eq, rangeK1_eq, iterV_range, enumK_eq, iterV_enum, seqIK_list, seqIK_tuple, iterV_name, iterV_subS, iterV_call, boolK_eq, evT_bool, evT_cmp, evT_name, evT_call, allT_and0, allT_or0, allT_and, allT_or, andTK_eq, orTK_eq, storeN_eq, asg_name, asgL_nil, asgL_cons, asgLK_eq, asg_tup_d, asg_tup_v, asg_sub, asgSK1_eq, setOK_eq, asgSK2_own, asgSK2_deck, nextK_eq, stoK_eq, exS_name, stoCK_eq, exS_nameC, tasK_eq, exS_tup, exS_swp2, exS_swp3, swpK2_d, swpK2_v, swpK3_v, storeL_nil, storeL_cons, storeLK_eq, sasK_eq, exS_sub, exS_aug, augK1_eq, augK2_eq, exS_if, ifSK_eq, forStep_eq, forK_eq, exS_for, loopF_nil, loopF_cons, loopK_next, loopK_ret, rtnK_eq, exS_ret, exS_meth, methK1_eq, appK_eq, methK2_app, extK_eq, methK2_ext, exB_nil, exB_cons, seqK_next, seqK_ret, fzK_eq, retFK_eq, layStr_left, layStr_mixed, layStr_m, layStr_l, layStr_z, layStr_w, layStr_e, Option.bind_some, Option.map_some, List.length_cons, List.length_nil, if_true, if_false, Bool.false_eq_true, decide_eq_true_eq, Bool.not_true, Bool.not_false, Bool.not_eq_true, List.map_cons, List.map_nil, List.reverse_cons, List.reverse_nil, List.nil_append, List.cons_append, gt_iff_lt, ge_iff_le, beq_iff_eq, Nat.reduceAdd, ite_self, mkTup, allD, Option.some.injEq, List.all_cons, List.all_nil, Bool.and_true, Bool.true_and, argOk, freeze, Option.isSome_some, decide_true, decide_false, Option.bind_none, Option.map_none, List.getElem?_cons_zero, List.getElem?_cons_succ, blank, encP, encL, getC, Bool.not_eq_true', compL, Option.toList_some, Option.toList_none, List.append_nil, itemL_0, itemL_1, itemL_2, itemL_m1, Int.cast_ofNat_Int, intsOf, List.set_cons_zero, List.set_cons_succ, Int.reduceAdd, Int.reduceSub, Int.reduceNeg, Int.reduceMul, gv_LawOn_0, sv_LawOn_0, gv_LawOn_1, sv_LawOn_1, gv_LawOn_2, sv_LawOn_2, gv_LawOn_3, sv_LawOn_3, gv_LawOn_4, sv_LawOn_4, gv_LawOn_5, sv_LawOn_5, gv_LawOn_6, sv_LawOn_6, gv_LawOn_7, sv_LawOn_7]
  simp only [encL, encP] at hc
  simp (decide := true) only [rLawOn, h1, h2, h3, h4, and_true, and_false, true_and, false_and, hc, ev_e, ev_t, ev_a, ev_b, evL_nil, evL_cons, evLK1_eq, evLK2_eq, retE_eq, retO_eq, evE_int, evE_str, evE_bool, evE_none, evE_name, nameV_loc, nameV_cell, nameV_free, nameV_unit, nameV_eo, evE_bin, binK1_eq, binK2_eq, binV_add, binV_sub, binV_mul, binV_div, binV_mod, binV_list, binV_tup, evE_neg, negK_eq, evE_if, ifEK_eq, evE_tuple, tupK_eq, evE_list0, evE_list1, list1K_eq, evE_list2, evE_listS, listK_eq, listK1_eq, evE_rev, revK1_eq, revK_eq, evE_slo, sloK1_eq, sloK_eq, evE_sup, supK1_eq, supK_eq, evE_subC, evE_subN, evE_subU, evE_subB, subK1_eq, subK_eq, itemV_list, itemV_tuple, itemV_own, itemOK_eq, itemV_tup, itemV_left, itemV_mixed, retB_eq, cmpVK_eq, evE_cmp, cmpE_ne, neK_eq, cmpE_eq1, cmpE_lt, cmpE_le, cmpE_gt, cmpE_ge, cmpE_is, cmpE_isnot, cmpE_neC, cmpE_neN, cmpE_neT, cmpE_neB, cmpK1_eq, cmpK_eq, cmpE_2, cmp2K1_eq, cmp2K2_eq, cmp2K2b_eq, cmpV_lt, cmpV_le, cmpV_gt, cmpV_ge, cmpV_eqI, cmpV_neI, cmpV_eqS, cmpV_isN, cmpV_isT, cmpV_isnotB, neNil_list, neNil_left, evE_and, andEK_eq, evE_call, callK_eq, retF_eq, callV_own, callV_min, callV_max, callV_lenL, callV_lenT, sumK_eq, callV_sum, callV_tupL, tupOK1_eq, tupOK_eq, callV_tupO, evE_pop, popK1_eq, popK2_eq, compStep_eq, compK1_eq, compK2_eq, compK3_eq, testsE_0, testsE_1, retL_eq, compScope_eq, compK_eq, compV_eq, compVK_eq, evE_comp, rangeK_eq, rangeK1_eq, iterV_range, enumK_eq, iterV_enum, seqIK_list, seqIK_tuple, iterV_name, iterV_subS, iterV_call, boolK_eq, evT_bool, evT_cmp, evT_name, evT_call, allT_and0, allT_or0, allT_and, allT_or, andTK_eq, orTK_eq, storeN_eq, asg_name, asgL_nil, asgL_cons, asgLK_eq, asg_tup_d, asg_tup_v, asg_sub, asgSK1_eq, setOK_eq, asgSK2_own, asgSK2_deck, nextK_eq, stoK_eq, exS_name, stoCK_eq, exS_nameC, tasK_eq, exS_tup, exS_swp2, exS_swp3, swpK2_d, swpK2_v, swpK3_v, storeL_nil, storeL_cons, storeLK_eq, sasK_eq, exS_sub, exS_aug, augK1_eq, augK2_eq, exS_if, ifSK_eq, forStep_eq, forK_eq, exS_for, loopF_nil, loopF_cons, loopK_next, loopK_ret, rtnK_eq, exS_ret, exS_meth, methK1_eq, appK_eq, methK2_app, extK_eq, methK2_ext, exB_nil, exB_cons, seqK_next, seqK_ret, fzK_eq, retFK_eq, layStr_left, layStr_mixed, layStr_m, layStr_l, layStr_z, layStr_w, layStr_e, Option.bind_some, Option.map_some, List.length_cons, List.length_nil, if_true, if_false, Bool.false_eq_true, decide_eq_true_eq, Bool.not_true, Bool.not_false, Bool.not_eq_true, List.map_cons, List.map_nil, List.reverse_cons, List.reverse_nil, List.nil_append, List.cons_append, gt_iff_lt, ge_iff_le, beq_iff_eq, Nat.reduceAdd, ite_self, mkTup, allD, Option.some.injEq, List.all_cons, List.all_nil, Bool.and_true, Bool.true_and, argOk, freeze, Option.isSome_some, decide_true, decide_false, Option.bind_none, Option.map_none, List.getElem?_cons_zero, List.getElem?_cons_succ, blank, encP, encL, getC, Bool.not_eq_true', compL, Option.toList_some, Option.toList_none, List.append_nil, itemL_0, itemL_1, itemL_2, itemL_m1, Int.cast_ofNat_Int, intsOf, List.set_cons_zero, List.set_cons_succ, Int.reduceAdd, Int.reduceSub, Int.reduceNeg, Int.reduceMul, gv_LawOn_0, sv_LawOn_0, gv_LawOn_1, sv_LawOn_1, gv_LawOn_2, sv_LawOn_2, gv_LawOn_3, sv_LawOn_3, gv_LawOn_4, sv_LawOn_4, gv_LawOn_5, sv_LawOn_5, gv_LawOn_6, sv_LawOn_6, gv_LawOn_7, sv_LawOn_7]
  rfl

end Mine
namespace Mine
open PySem PySem.W PyProof.Rows PySem.Calls
set_option maxRecDepth 100000
noncomputable def sideL (l : Pt × Pt) (x y : Int) : Int := (l.2.1 - l.1.1) * (y - l.1.2) - (x - l.1.1) * (l.2.2 - l.1.2)
theorem side_cross (l : Pt × Pt) (x y : Int) : sideL l x y = crossL l x y := by
  unfold sideL crossL
  simp only [Int.sub_mul, Int.mul_sub]
  have := Int.mul_comm l.2.1 y
  have := Int.mul_comm l.2.1 l.1.2
  have := Int.mul_comm x l.2.2
  have := Int.mul_comm x l.1.2
  omega
theorem gv_On_0 (a0 a1 a2 a3 a4 a5 a6 : Option V) : getV [(Str.ofString "edge", a0), (Str.ofString "x", a1), (Str.ofString "y", a2), (Str.ofString "ax", a3), (Str.ofString "ay", a4), (Str.ofString "bx", a5), (Str.ofString "by", a6)] (Str.ofString "edge") = a0 := rfl
theorem sv_On_0 (a0 a1 a2 a3 a4 a5 a6 : Option V) (v : V) : setV [(Str.ofString "edge", a0), (Str.ofString "x", a1), (Str.ofString "y", a2), (Str.ofString "ax", a3), (Str.ofString "ay", a4), (Str.ofString "bx", a5), (Str.ofString "by", a6)] (Str.ofString "edge") v = [(Str.ofString "edge", some v), (Str.ofString "x", a1), (Str.ofString "y", a2), (Str.ofString "ax", a3), (Str.ofString "ay", a4), (Str.ofString "bx", a5), (Str.ofString "by", a6)] := rfl
theorem gv_On_1 (a0 a1 a2 a3 a4 a5 a6 : Option V) : getV [(Str.ofString "edge", a0), (Str.ofString "x", a1), (Str.ofString "y", a2), (Str.ofString "ax", a3), (Str.ofString "ay", a4), (Str.ofString "bx", a5), (Str.ofString "by", a6)] (Str.ofString "x") = a1 := rfl
theorem sv_On_1 (a0 a1 a2 a3 a4 a5 a6 : Option V) (v : V) : setV [(Str.ofString "edge", a0), (Str.ofString "x", a1), (Str.ofString "y", a2), (Str.ofString "ax", a3), (Str.ofString "ay", a4), (Str.ofString "bx", a5), (Str.ofString "by", a6)] (Str.ofString "x") v = [(Str.ofString "edge", a0), (Str.ofString "x", some v), (Str.ofString "y", a2), (Str.ofString "ax", a3), (Str.ofString "ay", a4), (Str.ofString "bx", a5), (Str.ofString "by", a6)] := rfl
theorem gv_On_2 (a0 a1 a2 a3 a4 a5 a6 : Option V) : getV [(Str.ofString "edge", a0), (Str.ofString "x", a1), (Str.ofString "y", a2), (Str.ofString "ax", a3), (Str.ofString "ay", a4), (Str.ofString "bx", a5), (Str.ofString "by", a6)] (Str.ofString "y") = a2 := rfl
theorem sv_On_2 (a0 a1 a2 a3 a4 a5 a6 : Option V) (v : V) : setV [(Str.ofString "edge", a0), (Str.ofString "x", a1), (Str.ofString "y", a2), (Str.ofString "ax", a3), (Str.ofString "ay", a4), (Str.ofString "bx", a5), (Str.ofString "by", a6)] (Str.ofString "y") v = [(Str.ofString "edge", a0), (Str.ofString "x", a1), (Str.ofString "y", some v), (Str.ofString "ax", a3), (Str.ofString "ay", a4), (Str.ofString "bx", a5), (Str.ofString "by", a6)] := rfl
theorem gv_On_3 (a0 a1 a2 a3 a4 a5 a6 : Option V) : getV [(Str.ofString "edge", a0), (Str.ofString "x", a1), (Str.ofString "y", a2), (Str.ofString "ax", a3), (Str.ofString "ay", a4), (Str.ofString "bx", a5), (Str.ofString "by", a6)] (Str.ofString "ax") = a3 := rfl
theorem sv_On_3 (a0 a1 a2 a3 a4 a5 a6 : Option V) (v : V) : setV [(Str.ofString "edge", a0), (Str.ofString "x", a1), (Str.ofString "y", a2), (Str.ofString "ax", a3), (Str.ofString "ay", a4), (Str.ofString "bx", a5), (Str.ofString "by", a6)] (Str.ofString "ax") v = [(Str.ofString "edge", a0), (Str.ofString "x", a1), (Str.ofString "y", a2), (Str.ofString "ax", some v), (Str.ofString "ay", a4), (Str.ofString "bx", a5), (Str.ofString "by", a6)] := rfl
theorem gv_On_4 (a0 a1 a2 a3 a4 a5 a6 : Option V) : getV [(Str.ofString "edge", a0), (Str.ofString "x", a1), (Str.ofString "y", a2), (Str.ofString "ax", a3), (Str.ofString "ay", a4), (Str.ofString "bx", a5), (Str.ofString "by", a6)] (Str.ofString "ay") = a4 := rfl
theorem sv_On_4 (a0 a1 a2 a3 a4 a5 a6 : Option V) (v : V) : setV [(Str.ofString "edge", a0), (Str.ofString "x", a1), (Str.ofString "y", a2), (Str.ofString "ax", a3), (Str.ofString "ay", a4), (Str.ofString "bx", a5), (Str.ofString "by", a6)] (Str.ofString "ay") v = [(Str.ofString "edge", a0), (Str.ofString "x", a1), (Str.ofString "y", a2), (Str.ofString "ax", a3), (Str.ofString "ay", some v), (Str.ofString "bx", a5), (Str.ofString "by", a6)] := rfl
theorem gv_On_5 (a0 a1 a2 a3 a4 a5 a6 : Option V) : getV [(Str.ofString "edge", a0), (Str.ofString "x", a1), (Str.ofString "y", a2), (Str.ofString "ax", a3), (Str.ofString "ay", a4), (Str.ofString "bx", a5), (Str.ofString "by", a6)] (Str.ofString "bx") = a5 := rfl
theorem sv_On_5 (a0 a1 a2 a3 a4 a5 a6 : Option V) (v : V) : setV [(Str.ofString "edge", a0), (Str.ofString "x", a1), (Str.ofString "y", a2), (Str.ofString "ax", a3), (Str.ofString "ay", a4), (Str.ofString "bx", a5), (Str.ofString "by", a6)] (Str.ofString "bx") v = [(Str.ofString "edge", a0), (Str.ofString "x", a1), (Str.ofString "y", a2), (Str.ofString "ax", a3), (Str.ofString "ay", a4), (Str.ofString "bx", some v), (Str.ofString "by", a6)] := rfl
theorem gv_On_6 (a0 a1 a2 a3 a4 a5 a6 : Option V) : getV [(Str.ofString "edge", a0), (Str.ofString "x", a1), (Str.ofString "y", a2), (Str.ofString "ax", a3), (Str.ofString "ay", a4), (Str.ofString "bx", a5), (Str.ofString "by", a6)] (Str.ofString "by") = a6 := rfl
theorem sv_On_6 (a0 a1 a2 a3 a4 a5 a6 : Option V) (v : V) : setV [(Str.ofString "edge", a0), (Str.ofString "x", a1), (Str.ofString "y", a2), (Str.ofString "ax", a3), (Str.ofString "ay", a4), (Str.ofString "bx", a5), (Str.ofString "by", a6)] (Str.ofString "by") v = [(Str.ofString "edge", a0), (Str.ofString "x", a1), (Str.ofString "y", a2), (Str.ofString "ax", a3), (Str.ofString "ay", a4), (Str.ofString "bx", a5), (Str.ofString "by", some v)] := rfl
noncomputable def rOn : {d : DefRec // fnRec (Str.ofString "path_is_on") = some d} := ⟨_, rfl⟩
theorem on_f (n : Nat) (l : Pt × Pt) (x y : Int) (dk : Dk) (hl : BdL l) (hp : Bd (x, y)) : (ev (n+16)).f (Str.ofString "path_is_on") [.d (encL l), .d (.int x), .d (.int y)] dk = some (.d (.bool (isOnL l x y)), dk) := by
  have hs := side_cross l x y
  unfold isOnL
  rw [← hs]
  unfold sideL at hs ⊢
  obtain ⟨⟨ax, ay⟩, ⟨bx, b⟩⟩ := l
  obtain ⟨⟨h1, h2⟩, ⟨h3, h4⟩⟩ := hl
  obtain ⟨h5, h6⟩ := hp
  dsimp only at h1 h2 h3 h4 h5 h6
  rw [ev_f, callF_eq _ _ _ rOn.2 (by decide +kernel) rfl rfl, show initV rOn.1 [.d (encL ((ax, ay), (bx, b))), .d (.int x), .d (.int y)] = [(Str.ofString "edge", some (.d (encL ((ax, ay), (bx, b))))), (Str.ofString "x", some (.d (.int x))), (Str.ofString "y", some (.d (.int y))), (Str.ofString "ax", none), (Str.ofString "ay", none), (Str.ofString "bx", none), (Str.ofString "by", none)] from rfl, show initC rOn.1 [.d (encL ((ax, ay), (bx, b))), .d (.int x), .d (.int y)] = [] from rfl]
  have s1 : small (bx - ax) = true := small_of (by omega)
  have s2 : small (x - ax) = true := small_of (by omega)
  dsimp only
  by_cases h0 : (bx - ax) * (y - ay) = (x - ax) * (b - ay)
  case neg =>
    have h0' : ¬ (bx - ax) * (y - ay) - (x - ax) * (b - ay) = 0 := by omega
    have h0b : ((bx - ax) * (y - ay) == (x - ax) * (b - ay)) = false := beq_false_of_ne h0
    simp (decide := true) only [rOn, s1, s2, h0', h0b, and_true, and_false, true_and, false_and, ev_e, ev_t, ev_a, ev_b, evL_nil, evL_cons, evLK1_eq, evLK2_eq, retE_eq, retO_eq, evE_int, evE_str, evE_bool, evE_none, evE_name, nameV_loc, nameV_cell, nameV_free, nameV_unit, nameV_eo, evE_bin, binK1_eq, binK2_eq, binV_add, binV_sub, binV_mul, binV_div, binV_mod, binV_list, binV_tup, evE_neg, negK_eq, evE_if, ifEK_eq, evE_tuple, tupK_eq, evE_list0, evE_list1, list1K_eq, evE_list2, evE_listS, listK_eq, listK1_eq, evE_rev, revK1_eq, revK_eq, evE_slo, sloK1_eq, sloK_eq, evE_sup, supK1_eq, supK_eq, evE_subC, evE_subN, evE_subU, evE_subB, subK1_eq, subK_eq, itemV_list, itemV_tuple, itemV_own, itemOK_eq, itemV_tup, itemV_left, itemV_mixed, retB_eq, cmpVK_eq, evE_cmp, cmpE_ne, neK_eq, cmpE_eq1, cmpE_lt, cmpE_le, cmpE_gt, cmpE_ge, cmpE_is, cmpE_isnot, cmpE_neC, cmpE_neN, cmpE_neT, cmpE_neB, cmpK1_eq, cmpK_eq, cmpE_2, cmp2K1_eq, cmp2K2_eq, cmp2K2b_eq, cmpV_lt, cmpV_le, cmpV_gt, cmpV_ge, cmpV_eqI, cmpV_neI, cmpV_eqS, cmpV_isN, cmpV_isT, cmpV_isnotB, neNil_list, neNil_left, evE_and, andEK_eq, evE_call, callK_eq, retF_eq, callV_own, callV_min, callV_max, callV_lenL, callV_lenT, sumK_eq, callV_sum, callV_tupL, tupOK1_eq, tupOK_eq, callV_tupO, evE_pop, popK1_eq, popK2_eq, compStep_eq, compK1_eq, compK2_eq, compK3_eq, testsE_0, testsE_1, retL_eq, compScope_eq, compK_eq, compV_eq, compVK_eq, evE_comp, rangeK_eq, rangeK1_eq, iterV_range, enumK_eq, iterV_enum, seqIK_list, seqIK_tuple, iterV_name, iterV_subS, iterV_call, boolK_eq, evT_bool, evT_cmp, evT_name, evT_call, allT_and0, allT_or0, allT_and, allT_or, andTK_eq, orTK_eq, storeN_eq, asg_name, asgL_nil, asgL_cons, asgLK_eq, asg_tup_d, asg_tup_v, asg_sub, asgSK1_eq, setOK_eq, asgSK2_own, asgSK2_deck, nextK_eq, stoK_eq, exS_name, stoCK_eq, exS_nameC, tasK_eq, exS_tup, exS_swp2, exS_swp3, swpK2_d, swpK2_v, swpK3_v, storeL_nil, storeL_cons, storeLK_eq, sasK_eq, exS_sub, exS_aug, augK1_eq, augK2_eq, exS_if, ifSK_eq, forStep_eq, forK_eq, exS_for, loopF_nil, loopF_cons, loopK_next, loopK_ret, rtnK_eq, exS_ret, exS_meth, methK1_eq, appK_eq, methK2_app, extK_eq, methK2_ext, exB_nil, exB_cons, seqK_next, seqK_ret, fzK_eq, retFK_eq, layStr_left, layStr_mixed, layStr_m, layStr_l, layStr_z, layStr_w, layStr_e, Option.bind_some, Option.map_some, List.length_cons, List.length_nil, if_true, if_false, Bool.false_eq_true, decide_eq_true_eq, Bool.not_true, Bool.not_false, Bool.not_eq_true, List.map_cons, List.map_nil, List.reverse_cons, List.reverse_nil, List.nil_append, List.cons_append, gt_iff_lt, ge_iff_le, beq_iff_eq, Nat.reduceAdd, ite_self, mkTup, allD, Option.some.injEq, List.all_cons, List.all_nil, Bool.and_true, Bool.true_and, argOk, freeze, Option.isSome_some, decide_true, decide_false, Option.bind_none, Option.map_none, List.getElem?_cons_zero, List.getElem?_cons_succ, blank, encP, encL, getC, Bool.not_eq_true', compL, Option.toList_some, Option.toList_none, List.append_nil, itemL_0, itemL_1, itemL_2, itemL_m1, Int.cast_ofNat_Int, intsOf, List.set_cons_zero, List.set_cons_succ, Int.reduceAdd, Int.reduceSub, Int.reduceNeg, Int.reduceMul, gv_On_0, sv_On_0, gv_On_1, sv_On_1, gv_On_2, sv_On_2, gv_On_3, sv_On_3, gv_On_4, sv_On_4, gv_On_5, sv_On_5, gv_On_6, sv_On_6]
  have h0' : (bx - ax) * (y - ay) - (x - ax) * (b - ay) = 0 := by omega
  have h0b : ((bx - ax) * (y - ay) == (x - ax) * (b - ay)) = true := beq_iff_eq.mpr h0
  by_cases h1 : min ax bx ≤ x
  case neg => simp (decide := true) only [rOn, s1, s2, h1, h0', h0b, and_true, and_false, true_and, false_and, ev_e, ev_t, ev_a, ev_b, evL_nil, evL_cons, evLK1_eq, evLK2_eq, retE_eq, retO_eq, evE_int, evE_str, evE_bool, evE_none, evE_name, nameV_loc, nameV_cell, nameV_free, nameV_unit, nameV_eo, evE_bin, binK1_eq, binK2_eq, binV_add, binV_sub, binV_mul, binV_div, binV_mod, binV_list, binV_tup, evE_neg, negK_eq, evE_if, ifEK_eq, evE_tuple, tupK_eq, evE_list0, evE_list1, list1K_eq, evE_list2, evE_listS, listK_eq, listK1_eq, evE_rev, revK1_eq, revK_eq, evE_slo, sloK1_eq, sloK_eq, evE_sup, supK1_eq, supK_eq, evE_subC, evE_subN, evE_subU, evE_subB, subK1_eq, subK_eq, itemV_list, itemV_tuple, itemV_own, itemOK_eq, itemV_tup, itemV_left, itemV_mixed, retB_eq, cmpVK_eq, evE_cmp, cmpE_ne, neK_eq, cmpE_eq1, cmpE_lt, cmpE_le, cmpE_gt, cmpE_ge, cmpE_is, cmpE_isnot, cmpE_neC, cmpE_neN, cmpE_neT, cmpE_neB, cmpK1_eq, cmpK_eq, cmpE_2, cmp2K1_eq, cmp2K2_eq, cmp2K2b_eq, cmpV_lt, cmpV_le, cmpV_gt, cmpV_ge, cmpV_eqI, cmpV_neI, cmpV_eqS, cmpV_isN, cmpV_isT, cmpV_isnotB, neNil_list, neNil_left, evE_and, andEK_eq, evE_call, callK_eq, retF_eq, callV_own, callV_min, callV_max, callV_lenL, callV_lenT, sumK_eq, callV_sum, callV_tupL, tupOK1_eq, tupOK_eq, callV_tupO, evE_pop, popK1_eq, popK2_eq, compStep_eq, compK1_eq, compK2_eq, compK3_eq, testsE_0, testsE_1, retL_eq, compScope_eq, compK_eq, compV_eq, compVK_eq, evE_comp, rangeK_eq, rangeK1_eq, iterV_range, enumK_eq, iterV_enum, seqIK_list, seqIK_tuple, iterV_name, iterV_subS, iterV_call, boolK_eq, evT_bool, evT_cmp, evT_name, evT_call, allT_and0, allT_or0, allT_and, allT_or, andTK_eq, orTK_eq, storeN_eq, asg_name, asgL_nil, asgL_cons, asgLK_eq, asg_tup_d, asg_tup_v, asg_sub, asgSK1_eq, setOK_eq, asgSK2_own, asgSK2_deck, nextK_eq, stoK_eq, exS_name, stoCK_eq, exS_nameC, tasK_eq, exS_tup, exS_swp2, exS_swp3, swpK2_d, swpK2_v, swpK3_v, storeL_nil, storeL_cons, storeLK_eq, sasK_eq, exS_sub, exS_aug, augK1_eq, augK2_eq, exS_if, ifSK_eq, forStep_eq, forK_eq, exS_for, loopF_nil, loopF_cons, loopK_next, loopK_ret, rtnK_eq, exS_ret, exS_meth, methK1_eq, appK_eq, methK2_app, extK_eq, methK2_ext, exB_nil, exB_cons, seqK_next, seqK_ret, fzK_eq, retFK_eq, layStr_left, layStr_mixed, layStr_m, layStr_l, layStr_z, layStr_w, layStr_e, Option.bind_some, Option.map_some, List.length_cons, List.length_nil, if_true, if_false, Bool.false_eq_true, decide_eq_true_eq, Bool.not_true, Bool.not_false, Bool.not_eq_true, List.map_cons, List.map_nil, List.reverse_cons, List.reverse_nil, List.nil_append, List.cons_append, gt_iff_lt, ge_iff_le, beq_iff_eq, Nat.reduceAdd, ite_self, mkTup, allD, Option.some.injEq, List.all_cons, List.all_nil, Bool.and_true, Bool.true_and, argOk, freeze, Option.isSome_some, decide_true, decide_false, Option.bind_none, Option.map_none, List.getElem?_cons_zero, List.getElem?_cons_succ, blank, encP, encL, getC, Bool.not_eq_true', compL, Option.toList_some, Option.toList_none, List.append_nil, itemL_0, itemL_1, itemL_2, itemL_m1, Int.cast_ofNat_Int, intsOf, List.set_cons_zero, List.set_cons_succ, Int.reduceAdd, Int.reduceSub, Int.reduceNeg, Int.reduceMul, gv_On_0, sv_On_0, gv_On_1, sv_On_1, gv_On_2, sv_On_2, gv_On_3, sv_On_3, gv_On_4, sv_On_4, gv_On_5, sv_On_5, gv_On_6, sv_On_6]
  by_cases h2 : x ≤ max ax bx
  case neg => simp (decide := true) only [rOn, s1, s2, h1, h2, h0', h0b, and_true, and_false, true_and, false_and, ev_e, ev_t, ev_a, ev_b, evL_nil, evL_cons, evLK1_eq, evLK2_eq, retE_eq, retO_eq, evE_int, evE_str, evE_bool, evE_none, evE_name, nameV_loc, nameV_cell, nameV_free, nameV_unit, nameV_eo, evE_bin, binK1_eq, binK2_eq, binV_add, binV_sub, binV_mul, binV_div, binV_mod, binV_list, binV_tup, evE_neg, negK_eq, evE_if, ifEK_eq, evE_tuple, tupK_eq, evE_list0, evE_list1, list1K_eq, evE_list2, evE_listS, listK_eq, listK1_eq, evE_rev, revK1_eq, revK_eq, evE_slo, sloK1_eq, sloK_eq, evE_sup, supK1_eq, supK_eq, evE_subC, evE_subN, evE_subU, evE_subB, subK1_eq, subK_eq, itemV_list, itemV_tuple, itemV_own, itemOK_eq, itemV_tup, itemV_left, itemV_mixed, retB_eq, cmpVK_eq, evE_cmp, cmpE_ne, neK_eq, cmpE_eq1, cmpE_lt, cmpE_le, cmpE_gt, cmpE_ge, cmpE_is, cmpE_isnot, cmpE_neC, cmpE_neN, cmpE_neT, cmpE_neB, cmpK1_eq, cmpK_eq, cmpE_2, cmp2K1_eq, cmp2K2_eq, cmp2K2b_eq, cmpV_lt, cmpV_le, cmpV_gt, cmpV_ge, cmpV_eqI, cmpV_neI, cmpV_eqS, cmpV_isN, cmpV_isT, cmpV_isnotB, neNil_list, neNil_left, evE_and, andEK_eq, evE_call, callK_eq, retF_eq, callV_own, callV_min, callV_max, callV_lenL, callV_lenT, sumK_eq, callV_sum, callV_tupL, tupOK1_eq, tupOK_eq, callV_tupO, evE_pop, popK1_eq, popK2_eq, compStep_eq, compK1_eq, compK2_eq, compK3_eq, testsE_0, testsE_1, retL_eq, compScope_eq, compK_eq, compV_eq, compVK_eq, evE_comp, rangeK_eq, rangeK1_eq, iterV_range, enumK_eq, iterV_enum, seqIK_list, seqIK_tuple, iterV_name, iterV_subS, iterV_call, boolK_eq, evT_bool, evT_cmp, evT_name, evT_call, allT_and0, allT_or0, allT_and, allT_or, andTK_eq, orTK_eq, storeN_eq, asg_name, asgL_nil, asgL_cons, asgLK_eq, asg_tup_d, asg_tup_v, asg_sub, asgSK1_eq, setOK_eq, asgSK2_own, asgSK2_deck, nextK_eq, stoK_eq, exS_name, stoCK_eq, exS_nameC, tasK_eq, exS_tup, exS_swp2, exS_swp3, swpK2_d, swpK2_v, swpK3_v, storeL_nil, storeL_cons, storeLK_eq, sasK_eq, exS_sub, exS_aug, augK1_eq, augK2_eq, exS_if, ifSK_eq, forStep_eq, forK_eq, exS_for, loopF_nil, loopF_cons, loopK_next, loopK_ret, rtnK_eq, exS_ret, exS_meth, methK1_eq, appK_eq, methK2_app, extK_eq, methK2_ext, exB_nil, exB_cons, seqK_next, seqK_ret, fzK_eq, retFK_eq, layStr_left, layStr_mixed, layStr_m, layStr_l, layStr_z, layStr_w, layStr_e, Option.bind_some, Option.map_some, List.length_cons, List.length_nil, if_true, if_false, Bool.false_eq_true, decide_eq_true_eq, Bool.not_true, Bool.not_false, Bool.not_eq_true, List.map_cons, List.map_nil, List.reverse_cons, List.reverse_nil, List.nil_append, List.cons_append, gt_iff_lt, ge_iff_le, beq_iff_eq, Nat.reduceAdd, ite_self, mkTup, allD, Option.some.injEq, List.all_cons, List.all_nil, Bool.and_true, Bool.true_and, argOk, freeze, Option.isSome_some, decide_true, decide_false, Option.bind_none, Option.map_none, List.getElem?_cons_zero, List.getElem?_cons_succ, blank, encP, encL, getC, Bool.not_eq_true', compL, Option.toList_some, Option.toList_none, List.append_nil, itemL_0, itemL_1, itemL_2, itemL_m1, Int.cast_ofNat_Int, intsOf, List.set_cons_zero, List.set_cons_succ, Int.reduceAdd, Int.reduceSub, Int.reduceNeg, Int.reduceMul, gv_On_0, sv_On_0, gv_On_1, sv_On_1, gv_On_2, sv_On_2, gv_On_3, sv_On_3, gv_On_4, sv_On_4, gv_On_5, sv_On_5, gv_On_6, sv_On_6]
  by_cases h3 : min ay b ≤ y
  case neg => simp (decide := true) only [rOn, s1, s2, h1, h2, h3, h0', h0b, and_true, and_false, true_and, false_and, ev_e, ev_t, ev_a, ev_b, evL_nil, evL_cons, evLK1_eq, evLK2_eq, retE_eq, retO_eq, evE_int, evE_str, evE_bool, evE_none, evE_name, nameV_loc, nameV_cell, nameV_free, nameV_unit, nameV_eo, evE_bin, binK1_eq, binK2_eq, binV_add, binV_sub, binV_mul, binV_div, binV_mod, binV_list, binV_tup, evE_neg, negK_eq, evE_if, ifEK_eq, evE_tuple, tupK_eq, evE_list0, evE_list1, list1K_eq, evE_list2, evE_listS, listK_eq, listK1_eq, evE_rev, revK1_eq, revK_eq, evE_slo, sloK1_eq, sloK_eq, evE_sup, supK1_eq, supK_eq, evE_subC, evE_subN, evE_subU, evE_subB, subK1_eq, subK_eq, itemV_list, itemV_tuple, itemV_own, itemOK_eq, itemV_tup, itemV_left, itemV_mixed, retB_eq, cmpVK_eq, evE_cmp, cmpE_ne, neK_eq, cmpE_eq1, cmpE_lt, cmpE_le, cmpE_gt, cmpE_ge, cmpE_is, cmpE_isnot, cmpE_neC, cmpE_neN, cmpE_neT, cmpE_neB, cmpK1_eq, cmpK_eq, cmpE_2, cmp2K1_eq, cmp2K2_eq, cmp2K2b_eq, cmpV_lt, cmpV_le, cmpV_gt, cmpV_ge, cmpV_eqI, cmpV_neI, cmpV_eqS, cmpV_isN, cmpV_isT, cmpV_isnotB, neNil_list, neNil_left, evE_and, andEK_eq, evE_call, callK_eq, retF_eq, callV_own, callV_min, callV_max, callV_lenL, callV_lenT, sumK_eq, callV_sum, callV_tupL, tupOK1_eq, tupOK_eq, callV_tupO, evE_pop, popK1_eq, popK2_eq, compStep_eq, compK1_eq, compK2_eq, compK3_eq, testsE_0, testsE_1, retL_eq, compScope_eq, compK_eq, compV_eq, compVK_eq, evE_comp, rangeK_eq, rangeK1_eq, iterV_range, enumK_eq, iterV_enum, seqIK_list, seqIK_tuple, iterV_name, iterV_subS, iterV_call, boolK_eq, evT_bool, evT_cmp, evT_name, evT_call, allT_and0, allT_or0, allT_and, allT_or, andTK_eq, orTK_eq, storeN_eq, asg_name, asgL_nil, asgL_cons, asgLK_eq, asg_tup_d, asg_tup_v, asg_sub, asgSK1_eq, setOK_eq, asgSK2_own, asgSK2_deck, nextK_eq, stoK_eq, exS_name, stoCK_eq, exS_nameC, tasK_eq, exS_tup, exS_swp2, exS_swp3, swpK2_d, swpK2_v, swpK3_v, storeL_nil, storeL_cons, storeLK_eq, sasK_eq, exS_sub, exS_aug, augK1_eq, augK2_eq, exS_if, ifSK_eq, forStep_eq, forK_eq, exS_for, loopF_nil, loopF_cons, loopK_next, loopK_ret, rtnK_eq, exS_ret, exS_meth, methK1_eq, appK_eq, methK2_app, extK_eq, methK2_ext, exB_nil, exB_cons, seqK_next, seqK_ret, fzK_eq, retFK_eq, layStr_left, layStr_mixed, layStr_m, layStr_l, layStr_z, layStr_w, layStr_e, Option.bind_some, Option.map_some, List.length_cons, List.length_nil, if_true, if_false, Bool.false_eq_true, decide_eq_true_eq, Bool.not_true, Bool.not_false, Bool.not_eq_true, List.map_cons, List.map_nil, List.reverse_cons, List.reverse_nil, List.nil_append, List.cons_append, gt_iff_lt, ge_iff_le, beq_iff_eq, Nat.reduceAdd, ite_self, mkTup, allD, Option.some.injEq, List.all_cons, List.all_nil, Bool.and_true, Bool.true_and, argOk, freeze, Option.isSome_some, decide_true, decide_false, Option.bind_none, Option.map_none, List.getElem?_cons_zero, List.getElem?_cons_succ, blank, encP, encL, getC, Bool.not_eq_true', compL, Option.toList_some, Option.toList_none, List.append_nil, itemL_0, itemL_1, itemL_2, itemL_m1, Int.cast_ofNat_Int, intsOf, List.set_cons_zero, List.set_cons_succ, Int.reduceAdd, Int.reduceSub, Int.reduceNeg, Int.reduceMul, gv_On_0, sv_On_0, gv_On_1, sv_On_1, gv_On_2, sv_On_2, gv_On_3, sv_On_3, gv_On_4, sv_On_4, gv_On_5, sv_On_5, gv_On_6, sv_On_6]
  by_cases h4 : y ≤ max ay b
  case neg => simp (decide := true) only [rOn, s1, s2, h1, h2, h3, h4, h0', h0b, and_true, and_false, true_and, false_and, ev_e, ev_t, ev_a, ev_b, evL_nil, evL_cons, evLK1_eq, evLK2_eq, retE_eq, retO_eq, evE_int, evE_str, evE_bool, evE_none, evE_name, nameV_loc, nameV_cell, nameV_free, nameV_unit, nameV_eo, evE_bin, binK1_eq, binK2_eq, binV_add, binV_sub, binV_mul, binV_div, binV_mod, binV_list, binV_tup, evE_neg, negK_eq, evE_if, ifEK_eq, evE_tuple, tupK_eq, evE_list0, evE_list1, list1K_eq, evE_list2, evE_listS, listK_eq, listK1_eq, evE_rev, revK1_eq, revK_eq, evE_slo, sloK1_eq, sloK_eq, evE_sup, supK1_eq, supK_eq, evE_subC, evE_subN, evE_subU, evE_subB, subK1_eq, subK_eq, itemV_list, itemV_tuple, itemV_own, itemOK_eq, itemV_tup, itemV_left, itemV_mixed, retB_eq, cmpVK_eq, evE_cmp, cmpE_ne, neK_eq, cmpE_eq1, cmpE_lt, cmpE_le, cmpE_gt, cmpE_ge, cmpE_is, cmpE_isnot, cmpE_neC, cmpE_neN, cmpE_neT, cmpE_neB, cmpK1_eq, cmpK_eq, cmpE_2, cmp2K1_eq, cmp2K2_eq, cmp2K2b_eq, cmpV_lt, cmpV_le, cmpV_gt, cmpV_ge, cmpV_eqI, cmpV_neI, cmpV_eqS, cmpV_isN, cmpV_isT, cmpV_isnotB, neNil_list, neNil_left, evE_and, andEK_eq, evE_call, callK_eq, retF_eq, callV_own, callV_min, callV_max, callV_lenL, callV_lenT, sumK_eq, callV_sum, callV_tupL, tupOK1_eq, tupOK_eq, callV_tupO, evE_pop, popK1_eq, popK2_eq, compStep_eq, compK1_eq, compK2_eq, compK3_eq, testsE_0, testsE_1, retL_eq, compScope_eq, compK_eq, compV_eq, compVK_eq, evE_comp, rangeK_eq, rangeK1_eq, iterV_range, enumK_eq, iterV_enum, seqIK_list, seqIK_tuple, iterV_name, iterV_subS, iterV_call, boolK_eq, evT_bool, evT_cmp, evT_name, evT_call, allT_and0, allT_or0, allT_and, allT_or, andTK_eq, orTK_eq, storeN_eq, asg_name, asgL_nil, asgL_cons, asgLK_eq, asg_tup_d, asg_tup_v, asg_sub, asgSK1_eq, setOK_eq, asgSK2_own, asgSK2_deck, nextK_eq, stoK_eq, exS_name, stoCK_eq, exS_nameC, tasK_eq, exS_tup, exS_swp2, exS_swp3, swpK2_d, swpK2_v, swpK3_v, storeL_nil, storeL_cons, storeLK_eq, sasK_eq, exS_sub, exS_aug, augK1_eq, augK2_eq, exS_if, ifSK_eq, forStep_eq, forK_eq, exS_for, loopF_nil, loopF_cons, loopK_next, loopK_ret, rtnK_eq, exS_ret, exS_meth, methK1_eq, appK_eq, methK2_app, extK_eq, methK2_ext, exB_nil, exB_cons, seqK_next, seqK_ret, fzK_eq, retFK_eq, layStr_left, layStr_mixed, layStr_m, layStr_l, layStr_z, layStr_w, layStr_e, Option.bind_some, Option.map_some, List.length_cons, List.length_nil, if_true, if_false, Bool.false_eq_true, decide_eq_true_eq, Bool.not_true, Bool.not_false, Bool.not_eq_true, List.map_cons, List.map_nil, List.reverse_cons, List.reverse_nil, List.nil_append, List.cons_append, gt_iff_lt, ge_iff_le, beq_iff_eq, Nat.reduceAdd, ite_self, mkTup, allD, Option.some.injEq, List.all_cons, List.all_nil, Bool.and_true, Bool.true_and, argOk, freeze, Option.isSome_some, decide_true, decide_false, Option.bind_none, Option.map_none, List.getElem?_cons_zero, List.getElem?_cons_succ, blank, encP, encL, getC, Bool.not_eq_true', compL, Option.toList_some, Option.toList_none, List.append_nil, itemL_0, itemL_1, itemL_2, itemL_m1, Int.cast_ofNat_Int, intsOf, List.set_cons_zero, List.set_cons_succ, Int.reduceAdd, Int.reduceSub, Int.reduceNeg, Int.reduceMul, gv_On_0, sv_On_0, gv_On_1, sv_On_1, gv_On_2, sv_On_2, gv_On_3, sv_On_3, gv_On_4, sv_On_4, gv_On_5, sv_On_5, gv_On_6, sv_On_6]
  simp (decide := true) only [rOn, s1, s2, h1, h2, h3, h4, h0', h0b, and_true, and_false, true_and, false_and, ev_e, ev_t, ev_a, ev_b, evL_nil, evL_cons, evLK1_eq, evLK2_eq, retE_eq, retO_eq, evE_int, evE_str, evE_bool, evE_none, evE_name, nameV_loc, nameV_cell, nameV_free, nameV_unit, nameV_eo, evE_bin, binK1_eq, binK2_eq, binV_add, binV_sub, binV_mul, binV_div, binV_mod, binV_list, binV_tup, evE_neg, negK_eq, evE_if, ifEK_eq, evE_tuple, tupK_eq, evE_list0, evE_list1, list1K_eq, evE_list2, evE_listS, listK_eq, listK1_eq, evE_rev, revK1_eq, revK_eq, evE_slo, sloK1_eq, sloK_eq, evE_sup, supK1_eq, supK_eq, evE_subC, evE_subN, evE_subU, evE_subB, subK1_eq, subK_eq, itemV_list, itemV_tuple, itemV_own, itemOK_eq, itemV_tup, itemV_left, itemV_mixed, retB_eq, cmpVK_eq, evE_cmp, cmpE_ne, neK_eq, cmpE_eq1, cmpE_lt, cmpE_le, cmpE_gt, cmpE_ge, cmpE_is, cmpE_isnot, cmpE_neC, cmpE_neN, cmpE_neT, cmpE_neB, cmpK1_eq, cmpK_eq, cmpE_2, cmp2K1_eq, cmp2K2_eq, cmp2K2b_eq, cmpV_lt, cmpV_le, cmpV_gt, cmpV_ge, cmpV_eqI, cmpV_neI, cmpV_eqS, cmpV_isN, cmpV_isT, cmpV_isnotB, neNil_list, neNil_left, evE_and, andEK_eq, evE_call, callK_eq, retF_eq, callV_own, callV_min, callV_max, callV_lenL, callV_lenT, sumK_eq, callV_sum, callV_tupL, tupOK1_eq, tupOK_eq, callV_tupO, evE_pop, popK1_eq, popK2_eq, compStep_eq, compK1_eq, compK2_eq, compK3_eq, testsE_0, testsE_1, retL_eq, compScope_eq, compK_eq, compV_eq, compVK_eq, evE_comp, rangeK_eq, rangeK1_eq, iterV_range, enumK_eq, iterV_enum, seqIK_list, seqIK_tuple, iterV_name, iterV_subS, iterV_call, boolK_eq, evT_bool, evT_cmp, evT_name, evT_call, allT_and0, allT_or0, allT_and, allT_or, andTK_eq, orTK_eq, storeN_eq, asg_name, asgL_nil, asgL_cons, asgLK_eq, asg_tup_d, asg_tup_v, asg_sub, asgSK1_eq, setOK_eq, asgSK2_own, asgSK2_deck, nextK_eq, stoK_eq, exS_name, stoCK_eq, exS_nameC, tasK_eq, exS_tup, exS_swp2, exS_swp3, swpK2_d, swpK2_v, swpK3_v, storeL_nil, storeL_cons, storeLK_eq, sasK_eq, exS_sub, exS_aug, augK1_eq, augK2_eq, exS_if, ifSK_eq, forStep_eq, forK_eq, exS_for, loopF_nil, loopF_cons, loopK_next, loopK_ret, rtnK_eq, exS_ret, exS_meth, methK1_eq, appK_eq, methK2_app, extK_eq, methK2_ext, exB_nil, exB_cons, seqK_next, seqK_ret, fzK_eq, retFK_eq, layStr_left, layStr_mixed, layStr_m, layStr_l, layStr_z, layStr_w, layStr_e, Option.bind_some, Option.map_some, List.length_cons, List.length_nil, if_true, if_false, Bool.false_eq_true, decide_eq_true_eq, Bool.not_true, Bool.not_false, Bool.not_eq_true, List.map_cons, List.map_nil, List.reverse_cons, List.reverse_nil, List.nil_append, List.cons_append, gt_iff_lt, ge_iff_le, beq_iff_eq, Nat.reduceAdd, ite_self, mkTup, allD, Option.some.injEq, List.all_cons, List.all_nil, Bool.and_true, Bool.true_and, argOk, freeze, Option.isSome_some, decide_true, decide_false, Option.bind_none, Option.map_none, List.getElem?_cons_zero, List.getElem?_cons_succ, blank, encP, encL, getC, Bool.not_eq_true', compL, Option.toList_some, Option.toList_none, List.append_nil, itemL_0, itemL_1, itemL_2, itemL_m1, Int.cast_ofNat_Int, intsOf, List.set_cons_zero, List.set_cons_succ, Int.reduceAdd, Int.reduceSub, Int.reduceNeg, Int.reduceMul, gv_On_0, sv_On_0, gv_On_1, sv_On_1, gv_On_2, sv_On_2, gv_On_3, sv_On_3, gv_On_4, sv_On_4, gv_On_5, sv_On_5, gv_On_6, sv_On_6]

noncomputable def row2 (s : Str) (p : Pt) : PyData := .tuple [.str s, .int p.1, .int p.2]
noncomputable def sM : Str := Str.ofString "m"
noncomputable def sL : Str := Str.ofString "l"
noncomputable def sZ : Str := Str.ofString "z"
theorem range132 : rangeV [.d (.int 1), .d (.int 3), .d (.int 2)] = some [.int 1] := rfl

noncomputable def rPoints : {d : DefRec // fnRec (Str.ofString "path_points") = some d} := ⟨_, rfl⟩
theorem points_f (n : Nat) (s : Str) (p : Pt) (dk : Dk) : (ev (n+12)).f (Str.ofString "path_points") [.d (row2 s p)] dk = some (.d (.list [encP p]), dk) := by
  obtain ⟨x, y⟩ := p
  rw [ev_f, callF_eq _ _ _ rPoints.2 (by decide +kernel) rfl rfl, show initV rPoints.1 [.d (row2 s (x, y))] = [] from rfl, show initC rPoints.1 [.d (row2 s (x, y))] = [(Str.ofString "row", (row2 s (x, y)))] from rfl]
  simp (decide := true) only [rPoints, row2, range132, ev_e, ev_t, ev_a, ev_b, evL_nil, evL_cons, evLK1_eq, evLK2_eq, retE_eq, retO_eq, evE_int, evE_str, evE_bool, evE_none, evE_name, nameV_loc, nameV_cell, nameV_free, nameV_unit, nameV_eo, evE_bin, binK1_eq, binK2_eq, binV_add, binV_sub, binV_mul, binV_div, binV_mod, binV_list, binV_tup, evE_neg, negK_eq, evE_if, ifEK_eq, evE_tuple, tupK_eq, evE_list0, evE_list1, list1K_eq, evE_list2, evE_listS, listK_eq, listK1_eq, evE_rev, revK1_eq, revK_eq, evE_slo, sloK1_eq, sloK_eq, evE_sup, supK1_eq, supK_eq, evE_subC, evE_subN, evE_subU, evE_subB, subK1_eq, subK_eq, itemV_list, itemV_tuple, itemV_own, itemOK_eq, itemV_tup, itemV_left, itemV_mixed, retB_eq, cmpVK_eq, evE_cmp, cmpE_ne, neK_eq, cmpE_eq1, cmpE_lt, cmpE_le, cmpE_gt, cmpE_ge, cmpE_is, cmpE_isnot, cmpE_neC, cmpE_neN, cmpE_neT, cmpE_neB, cmpK1_eq, cmpK_eq, cmpE_2, cmp2K1_eq, cmp2K2_eq, cmp2K2b_eq, cmpV_lt, cmpV_le, cmpV_gt, cmpV_ge, cmpV_eqI, cmpV_neI, cmpV_eqS, cmpV_isN, cmpV_isT, cmpV_isnotB, neNil_list, neNil_left, evE_and, andEK_eq, evE_call, callK_eq, retF_eq, callV_own, callV_min, callV_max, callV_lenL, callV_lenT, sumK_eq, callV_sum, callV_tupL, tupOK1_eq, tupOK_eq, callV_tupO, evE_pop, popK1_eq, popK2_eq, compStep_eq, compK1_eq, compK2_eq, compK3_eq, testsE_0, testsE_1, retL_eq, compScope_eq, compK_eq, compV_eq, compVK_eq, evE_comp, rangeK_eq, rangeK1_eq, iterV_range, enumK_eq, iterV_enum, seqIK_list, seqIK_tuple, iterV_name, iterV_subS, iterV_call, boolK_eq, evT_bool, evT_cmp, evT_name, evT_call, allT_and0, allT_or0, allT_and, allT_or, andTK_eq, orTK_eq, storeN_eq, asg_name, asgL_nil, asgL_cons, asgLK_eq, asg_tup_d, asg_tup_v, asg_sub, asgSK1_eq, setOK_eq, asgSK2_own, asgSK2_deck, nextK_eq, stoK_eq, exS_name, stoCK_eq, exS_nameC, tasK_eq, exS_tup, exS_swp2, exS_swp3, swpK2_d, swpK2_v, swpK3_v, storeL_nil, storeL_cons, storeLK_eq, sasK_eq, exS_sub, exS_aug, augK1_eq, augK2_eq, exS_if, ifSK_eq, forStep_eq, forK_eq, exS_for, loopF_nil, loopF_cons, loopK_next, loopK_ret, rtnK_eq, exS_ret, exS_meth, methK1_eq, appK_eq, methK2_app, extK_eq, methK2_ext, exB_nil, exB_cons, seqK_next, seqK_ret, fzK_eq, retFK_eq, layStr_left, layStr_mixed, layStr_m, layStr_l, layStr_z, layStr_w, layStr_e, getV, setV, Option.bind_some, Option.map_some, List.length_cons, List.length_nil, if_true, if_false, Bool.false_eq_true, decide_eq_true_eq, Bool.not_true, Bool.not_false, Bool.not_eq_true, List.map_cons, List.map_nil, List.reverse_cons, List.reverse_nil, List.nil_append, List.cons_append, gt_iff_lt, ge_iff_le, beq_iff_eq, Nat.reduceAdd, ite_self, mkTup, allD, Option.some.injEq, List.all_cons, List.all_nil, Bool.and_true, Bool.true_and, argOk, freeze, Option.isSome_some, decide_true, decide_false, Option.bind_none, Option.map_none, List.getElem?_cons_zero, List.getElem?_cons_succ, blank, encP, encL, getC, Bool.not_eq_true', compL, Option.toList_some, Option.toList_none, List.append_nil, itemL_0, itemL_1, itemL_2, itemL_m1, Int.cast_ofNat_Int, intsOf, List.set_cons_zero, List.set_cons_succ, Int.reduceAdd, Int.reduceSub, Int.reduceNeg, Int.reduceMul]

theorem gv_Row_0 (a0 a1 a2 a3 a4 : Option V) : getV [(Str.ofString "word", a0), (Str.ofString "points", a1), (Str.ofString "found", a2), (Str.ofString "x", a3), (Str.ofString "y", a4)] (Str.ofString "word") = a0 := rfl
theorem sv_Row_0 (a0 a1 a2 a3 a4 : Option V) (v : V) : setV [(Str.ofString "word", a0), (Str.ofString "points", a1), (Str.ofString "found", a2), (Str.ofString "x", a3), (Str.ofString "y", a4)] (Str.ofString "word") v = [(Str.ofString "word", some v), (Str.ofString "points", a1), (Str.ofString "found", a2), (Str.ofString "x", a3), (Str.ofString "y", a4)] := rfl
theorem gv_Row_1 (a0 a1 a2 a3 a4 : Option V) : getV [(Str.ofString "word", a0), (Str.ofString "points", a1), (Str.ofString "found", a2), (Str.ofString "x", a3), (Str.ofString "y", a4)] (Str.ofString "points") = a1 := rfl
theorem sv_Row_1 (a0 a1 a2 a3 a4 : Option V) (v : V) : setV [(Str.ofString "word", a0), (Str.ofString "points", a1), (Str.ofString "found", a2), (Str.ofString "x", a3), (Str.ofString "y", a4)] (Str.ofString "points") v = [(Str.ofString "word", a0), (Str.ofString "points", some v), (Str.ofString "found", a2), (Str.ofString "x", a3), (Str.ofString "y", a4)] := rfl
theorem gv_Row_2 (a0 a1 a2 a3 a4 : Option V) : getV [(Str.ofString "word", a0), (Str.ofString "points", a1), (Str.ofString "found", a2), (Str.ofString "x", a3), (Str.ofString "y", a4)] (Str.ofString "found") = a2 := rfl
theorem sv_Row_2 (a0 a1 a2 a3 a4 : Option V) (v : V) : setV [(Str.ofString "word", a0), (Str.ofString "points", a1), (Str.ofString "found", a2), (Str.ofString "x", a3), (Str.ofString "y", a4)] (Str.ofString "found") v = [(Str.ofString "word", a0), (Str.ofString "points", a1), (Str.ofString "found", some v), (Str.ofString "x", a3), (Str.ofString "y", a4)] := rfl
theorem gv_Row_3 (a0 a1 a2 a3 a4 : Option V) : getV [(Str.ofString "word", a0), (Str.ofString "points", a1), (Str.ofString "found", a2), (Str.ofString "x", a3), (Str.ofString "y", a4)] (Str.ofString "x") = a3 := rfl
theorem sv_Row_3 (a0 a1 a2 a3 a4 : Option V) (v : V) : setV [(Str.ofString "word", a0), (Str.ofString "points", a1), (Str.ofString "found", a2), (Str.ofString "x", a3), (Str.ofString "y", a4)] (Str.ofString "x") v = [(Str.ofString "word", a0), (Str.ofString "points", a1), (Str.ofString "found", a2), (Str.ofString "x", some v), (Str.ofString "y", a4)] := rfl
theorem gv_Row_4 (a0 a1 a2 a3 a4 : Option V) : getV [(Str.ofString "word", a0), (Str.ofString "points", a1), (Str.ofString "found", a2), (Str.ofString "x", a3), (Str.ofString "y", a4)] (Str.ofString "y") = a4 := rfl
theorem sv_Row_4 (a0 a1 a2 a3 a4 : Option V) (v : V) : setV [(Str.ofString "word", a0), (Str.ofString "points", a1), (Str.ofString "found", a2), (Str.ofString "x", a3), (Str.ofString "y", a4)] (Str.ofString "y") v = [(Str.ofString "word", a0), (Str.ofString "points", a1), (Str.ofString "found", a2), (Str.ofString "x", a3), (Str.ofString "y", some v)] := rfl
noncomputable def rRow : {d : DefRec // fnRec (Str.ofString "path_row") = some d} := ⟨_, rfl⟩
theorem row_f (n : Nat) (s : Str) (p : Pt) (dk : Dk) : (ev (n+12)).f (Str.ofString "path_row") [.d (.str s), .d (.list [encP p])] dk = some (.d (row2 s p), dk) := by
  obtain ⟨x, y⟩ := p
  rw [ev_f, callF_eq _ _ _ rRow.2 (by decide +kernel) rfl rfl, show initV rRow.1 [.d (.str s), .d (.list [encP (x, y)])] = [(Str.ofString "word", some (.d (.str s))), (Str.ofString "points", some (.d (.list [encP (x, y)]))), (Str.ofString "found", none), (Str.ofString "x", none), (Str.ofString "y", none)] from rfl, show initC rRow.1 [.d (.str s), .d (.list [encP (x, y)])] = [] from rfl]
  simp (decide := true) only [rRow, row2, ev_e, ev_t, ev_a, ev_b, evL_nil, evL_cons, evLK1_eq, evLK2_eq, retE_eq, retO_eq, evE_int, evE_str, evE_bool, evE_none, evE_name, nameV_loc, nameV_cell, nameV_free, nameV_unit, nameV_eo, evE_bin, binK1_eq, binK2_eq, binV_add, binV_sub, binV_mul, binV_div, binV_mod, binV_list, binV_tup, evE_neg, negK_eq, evE_if, ifEK_eq, evE_tuple, tupK_eq, evE_list0, evE_list1, list1K_eq, evE_list2, evE_listS, listK_eq, listK1_eq, evE_rev, revK1_eq, revK_eq, evE_slo, sloK1_eq, sloK_eq, evE_sup, supK1_eq, supK_eq, evE_subC, evE_subN, evE_subU, evE_subB, subK1_eq, subK_eq, itemV_list, itemV_tuple, itemV_own, itemOK_eq, itemV_tup, itemV_left, itemV_mixed, retB_eq, cmpVK_eq, evE_cmp, cmpE_ne, neK_eq, cmpE_eq1, cmpE_lt, cmpE_le, cmpE_gt, cmpE_ge, cmpE_is, cmpE_isnot, cmpE_neC, cmpE_neN, cmpE_neT, cmpE_neB, cmpK1_eq, cmpK_eq, cmpE_2, cmp2K1_eq, cmp2K2_eq, cmp2K2b_eq, cmpV_lt, cmpV_le, cmpV_gt, cmpV_ge, cmpV_eqI, cmpV_neI, cmpV_eqS, cmpV_isN, cmpV_isT, cmpV_isnotB, neNil_list, neNil_left, evE_and, andEK_eq, evE_call, callK_eq, retF_eq, callV_own, callV_min, callV_max, callV_lenL, callV_lenT, sumK_eq, callV_sum, callV_tupL, tupOK1_eq, tupOK_eq, callV_tupO, evE_pop, popK1_eq, popK2_eq, compStep_eq, compK1_eq, compK2_eq, compK3_eq, testsE_0, testsE_1, retL_eq, compScope_eq, compK_eq, compV_eq, compVK_eq, evE_comp, rangeK_eq, rangeK1_eq, iterV_range, enumK_eq, iterV_enum, seqIK_list, seqIK_tuple, iterV_name, iterV_subS, iterV_call, boolK_eq, evT_bool, evT_cmp, evT_name, evT_call, allT_and0, allT_or0, allT_and, allT_or, andTK_eq, orTK_eq, storeN_eq, asg_name, asgL_nil, asgL_cons, asgLK_eq, asg_tup_d, asg_tup_v, asg_sub, asgSK1_eq, setOK_eq, asgSK2_own, asgSK2_deck, nextK_eq, stoK_eq, exS_name, stoCK_eq, exS_nameC, tasK_eq, exS_tup, exS_swp2, exS_swp3, swpK2_d, swpK2_v, swpK3_v, storeL_nil, storeL_cons, storeLK_eq, sasK_eq, exS_sub, exS_aug, augK1_eq, augK2_eq, exS_if, ifSK_eq, forStep_eq, forK_eq, exS_for, loopF_nil, loopF_cons, loopK_next, loopK_ret, rtnK_eq, exS_ret, exS_meth, methK1_eq, appK_eq, methK2_app, extK_eq, methK2_ext, exB_nil, exB_cons, seqK_next, seqK_ret, fzK_eq, retFK_eq, layStr_left, layStr_mixed, layStr_m, layStr_l, layStr_z, layStr_w, layStr_e, Option.bind_some, Option.map_some, List.length_cons, List.length_nil, if_true, if_false, Bool.false_eq_true, decide_eq_true_eq, Bool.not_true, Bool.not_false, Bool.not_eq_true, List.map_cons, List.map_nil, List.reverse_cons, List.reverse_nil, List.nil_append, List.cons_append, gt_iff_lt, ge_iff_le, beq_iff_eq, Nat.reduceAdd, ite_self, mkTup, allD, Option.some.injEq, List.all_cons, List.all_nil, Bool.and_true, Bool.true_and, argOk, freeze, Option.isSome_some, decide_true, decide_false, Option.bind_none, Option.map_none, List.getElem?_cons_zero, List.getElem?_cons_succ, blank, encP, encL, getC, Bool.not_eq_true', compL, Option.toList_some, Option.toList_none, List.append_nil, itemL_0, itemL_1, itemL_2, itemL_m1, Int.cast_ofNat_Int, intsOf, List.set_cons_zero, List.set_cons_succ, Int.reduceAdd, Int.reduceSub, Int.reduceNeg, Int.reduceMul, gv_Row_0, sv_Row_0, gv_Row_1, sv_Row_1, gv_Row_2, sv_Row_2, gv_Row_3, sv_Row_3, gv_Row_4, sv_Row_4]

theorem gv_Draw_0 (a0 a1 : Option V) : getV [(Str.ofString "deck", a0), (Str.ofString "many", a1)] (Str.ofString "deck") = a0 := rfl
theorem sv_Draw_0 (a0 a1 : Option V) (v : V) : setV [(Str.ofString "deck", a0), (Str.ofString "many", a1)] (Str.ofString "deck") v = [(Str.ofString "deck", some v), (Str.ofString "many", a1)] := rfl
theorem gv_Draw_1 (a0 a1 : Option V) : getV [(Str.ofString "deck", a0), (Str.ofString "many", a1)] (Str.ofString "many") = a1 := rfl
theorem sv_Draw_1 (a0 a1 : Option V) (v : V) : setV [(Str.ofString "deck", a0), (Str.ofString "many", a1)] (Str.ofString "many") v = [(Str.ofString "deck", a0), (Str.ofString "many", some v)] := rfl
noncomputable def rDraw : {d : DefRec // fnRec (Str.ofString "_law_draw") = some d} := ⟨_, rfl⟩
noncomputable abbrev Dkt := List Int × Int
noncomputable def okDk (d : Dkt) : Prop := d.1.length ≤ 1000 ∧ 0 ≤ d.2 ∧ d.2 < 1000003
noncomputable def draw (d : Dkt) (m : Int) : Int × Dkt := match d.1 with
  | x :: xs => (x.fmod m, (xs, d.2))
  | [] => let k := (d.2 * 4801 + 31).fmod 1000003; ((k.fdiv 7).fmod m, ([], k))
theorem draw_f (n : Nat) (d : Dkt) (hd : okDk d) (m : Int) (hm : m ≠ 0) : (ev (n+12)).f (Str.ofString "_law_draw") [.deck, .d (.int m)] (some d) = some (.d (.int (draw d m).1), some (draw d m).2) := by
  obtain ⟨l, k⟩ := d
  obtain ⟨h1, h2, h3⟩ := hd
  dsimp only at h1 h2 h3
  rw [ev_f, callF_eq _ _ _ rDraw.2 (by decide +kernel) rfl rfl, show initV rDraw.1 [.deck, .d (.int m)] = [(Str.ofString "deck", some (.deck)), (Str.ofString "many", some (.d (.int m)))] from rfl, show initC rDraw.1 [.deck, .d (.int m)] = [] from rfl]
  cases l with
  | nil =>
    have s1 : small k = true := small_of (by omega)
    simp (decide := true) only [rDraw, draw, s1, hm, List.isEmpty_nil, ne_eq, not_false_eq_true, ev_e, ev_t, ev_a, ev_b, evL_nil, evL_cons, evLK1_eq, evLK2_eq, retE_eq, retO_eq, evE_int, evE_str, evE_bool, evE_none, evE_name, nameV_loc, nameV_cell, nameV_free, nameV_unit, nameV_eo, evE_bin, binK1_eq, binK2_eq, binV_add, binV_sub, binV_mul, binV_div, binV_mod, binV_list, binV_tup, evE_neg, negK_eq, evE_if, ifEK_eq, evE_tuple, tupK_eq, evE_list0, evE_list1, list1K_eq, evE_list2, evE_listS, listK_eq, listK1_eq, evE_rev, revK1_eq, revK_eq, evE_slo, sloK1_eq, sloK_eq, evE_sup, supK1_eq, supK_eq, evE_subC, evE_subN, evE_subU, evE_subB, subK1_eq, subK_eq, itemV_list, itemV_tuple, itemV_own, itemOK_eq, itemV_tup, itemV_left, itemV_mixed, retB_eq, cmpVK_eq, evE_cmp, cmpE_ne, neK_eq, cmpE_eq1, cmpE_lt, cmpE_le, cmpE_gt, cmpE_ge, cmpE_is, cmpE_isnot, cmpE_neC, cmpE_neN, cmpE_neT, cmpE_neB, cmpK1_eq, cmpK_eq, cmpE_2, cmp2K1_eq, cmp2K2_eq, cmp2K2b_eq, cmpV_lt, cmpV_le, cmpV_gt, cmpV_ge, cmpV_eqI, cmpV_neI, cmpV_eqS, cmpV_isN, cmpV_isT, cmpV_isnotB, neNil_list, neNil_left, evE_and, andEK_eq, evE_call, callK_eq, retF_eq, callV_own, callV_min, callV_max, callV_lenL, callV_lenT, sumK_eq, callV_sum, callV_tupL, tupOK1_eq, tupOK_eq, callV_tupO, evE_pop, popK1_eq, popK2_eq, compStep_eq, compK1_eq, compK2_eq, compK3_eq, testsE_0, testsE_1, retL_eq, compScope_eq, compK_eq, compV_eq, compVK_eq, evE_comp, rangeK_eq, rangeK1_eq, iterV_range, enumK_eq, iterV_enum, seqIK_list, seqIK_tuple, iterV_name, iterV_subS, iterV_call, boolK_eq, evT_bool, evT_cmp, evT_name, evT_call, allT_and0, allT_or0, allT_and, allT_or, andTK_eq, orTK_eq, storeN_eq, asg_name, asgL_nil, asgL_cons, asgLK_eq, asg_tup_d, asg_tup_v, asg_sub, asgSK1_eq, setOK_eq, asgSK2_own, asgSK2_deck, nextK_eq, stoK_eq, exS_name, stoCK_eq, exS_nameC, tasK_eq, exS_tup, exS_swp2, exS_swp3, swpK2_d, swpK2_v, swpK3_v, storeL_nil, storeL_cons, storeLK_eq, sasK_eq, exS_sub, exS_aug, augK1_eq, augK2_eq, exS_if, ifSK_eq, forStep_eq, forK_eq, exS_for, loopF_nil, loopF_cons, loopK_next, loopK_ret, rtnK_eq, exS_ret, exS_meth, methK1_eq, appK_eq, methK2_app, extK_eq, methK2_ext, exB_nil, exB_cons, seqK_next, seqK_ret, fzK_eq, retFK_eq, layStr_left, layStr_mixed, layStr_m, layStr_l, layStr_z, layStr_w, layStr_e, Option.bind_some, Option.map_some, List.length_cons, List.length_nil, if_true, if_false, Bool.false_eq_true, decide_eq_true_eq, Bool.not_true, Bool.not_false, Bool.not_eq_true, List.map_cons, List.map_nil, List.reverse_cons, List.reverse_nil, List.nil_append, List.cons_append, gt_iff_lt, ge_iff_le, beq_iff_eq, Nat.reduceAdd, ite_self, mkTup, allD, Option.some.injEq, List.all_cons, List.all_nil, Bool.and_true, Bool.true_and, argOk, freeze, Option.isSome_some, decide_true, decide_false, Option.bind_none, Option.map_none, List.getElem?_cons_zero, List.getElem?_cons_succ, blank, encP, encL, getC, Bool.not_eq_true', compL, Option.toList_some, Option.toList_none, List.append_nil, itemL_0, itemL_1, itemL_2, itemL_m1, Int.cast_ofNat_Int, intsOf, List.set_cons_zero, List.set_cons_succ, Int.reduceAdd, Int.reduceSub, Int.reduceNeg, Int.reduceMul, gv_Draw_0, sv_Draw_0, gv_Draw_1, sv_Draw_1]
  | cons a l =>
    have s1 : l.length + 1 ≤ 1000000 := by simp at h1; omega
    simp (decide := true) only [rDraw, draw, s1, hm, List.isEmpty_cons, ne_eq, not_false_eq_true, ev_e, ev_t, ev_a, ev_b, evL_nil, evL_cons, evLK1_eq, evLK2_eq, retE_eq, retO_eq, evE_int, evE_str, evE_bool, evE_none, evE_name, nameV_loc, nameV_cell, nameV_free, nameV_unit, nameV_eo, evE_bin, binK1_eq, binK2_eq, binV_add, binV_sub, binV_mul, binV_div, binV_mod, binV_list, binV_tup, evE_neg, negK_eq, evE_if, ifEK_eq, evE_tuple, tupK_eq, evE_list0, evE_list1, list1K_eq, evE_list2, evE_listS, listK_eq, listK1_eq, evE_rev, revK1_eq, revK_eq, evE_slo, sloK1_eq, sloK_eq, evE_sup, supK1_eq, supK_eq, evE_subC, evE_subN, evE_subU, evE_subB, subK1_eq, subK_eq, itemV_list, itemV_tuple, itemV_own, itemOK_eq, itemV_tup, itemV_left, itemV_mixed, retB_eq, cmpVK_eq, evE_cmp, cmpE_ne, neK_eq, cmpE_eq1, cmpE_lt, cmpE_le, cmpE_gt, cmpE_ge, cmpE_is, cmpE_isnot, cmpE_neC, cmpE_neN, cmpE_neT, cmpE_neB, cmpK1_eq, cmpK_eq, cmpE_2, cmp2K1_eq, cmp2K2_eq, cmp2K2b_eq, cmpV_lt, cmpV_le, cmpV_gt, cmpV_ge, cmpV_eqI, cmpV_neI, cmpV_eqS, cmpV_isN, cmpV_isT, cmpV_isnotB, neNil_list, neNil_left, evE_and, andEK_eq, evE_call, callK_eq, retF_eq, callV_own, callV_min, callV_max, callV_lenL, callV_lenT, sumK_eq, callV_sum, callV_tupL, tupOK1_eq, tupOK_eq, callV_tupO, evE_pop, popK1_eq, popK2_eq, compStep_eq, compK1_eq, compK2_eq, compK3_eq, testsE_0, testsE_1, retL_eq, compScope_eq, compK_eq, compV_eq, compVK_eq, evE_comp, rangeK_eq, rangeK1_eq, iterV_range, enumK_eq, iterV_enum, seqIK_list, seqIK_tuple, iterV_name, iterV_subS, iterV_call, boolK_eq, evT_bool, evT_cmp, evT_name, evT_call, allT_and0, allT_or0, allT_and, allT_or, andTK_eq, orTK_eq, storeN_eq, asg_name, asgL_nil, asgL_cons, asgLK_eq, asg_tup_d, asg_tup_v, asg_sub, asgSK1_eq, setOK_eq, asgSK2_own, asgSK2_deck, nextK_eq, stoK_eq, exS_name, stoCK_eq, exS_nameC, tasK_eq, exS_tup, exS_swp2, exS_swp3, swpK2_d, swpK2_v, swpK3_v, storeL_nil, storeL_cons, storeLK_eq, sasK_eq, exS_sub, exS_aug, augK1_eq, augK2_eq, exS_if, ifSK_eq, forStep_eq, forK_eq, exS_for, loopF_nil, loopF_cons, loopK_next, loopK_ret, rtnK_eq, exS_ret, exS_meth, methK1_eq, appK_eq, methK2_app, extK_eq, methK2_ext, exB_nil, exB_cons, seqK_next, seqK_ret, fzK_eq, retFK_eq, layStr_left, layStr_mixed, layStr_m, layStr_l, layStr_z, layStr_w, layStr_e, Option.bind_some, Option.map_some, List.length_cons, List.length_nil, if_true, if_false, Bool.false_eq_true, decide_eq_true_eq, Bool.not_true, Bool.not_false, Bool.not_eq_true, List.map_cons, List.map_nil, List.reverse_cons, List.reverse_nil, List.nil_append, List.cons_append, gt_iff_lt, ge_iff_le, beq_iff_eq, Nat.reduceAdd, ite_self, mkTup, allD, Option.some.injEq, List.all_cons, List.all_nil, Bool.and_true, Bool.true_and, argOk, freeze, Option.isSome_some, decide_true, decide_false, Option.bind_none, Option.map_none, List.getElem?_cons_zero, List.getElem?_cons_succ, blank, encP, encL, getC, Bool.not_eq_true', compL, Option.toList_some, Option.toList_none, List.append_nil, itemL_0, itemL_1, itemL_2, itemL_m1, Int.cast_ofNat_Int, intsOf, List.set_cons_zero, List.set_cons_succ, Int.reduceAdd, Int.reduceSub, Int.reduceNeg, Int.reduceMul, gv_Draw_0, sv_Draw_0, gv_Draw_1, sv_Draw_1]

end Mine
namespace Mine
open PySem PySem.W PyProof.Rows PySem.Calls
set_option maxRecDepth 100000

theorem loop_rw {α σ : Type} {step : PyData → IS → Option (Fl × IS)} (enc : α → PyData) (rep : σ → IS) (f : σ → α → σ) (good : α → Prop) (l : List α) (s : σ) (hg : ∀ a ∈ l, good a)
    (h : ∀ s a, good a → step (enc a) (rep s) = some (.next, rep (f s a))) : loopF step (l.map enc) (rep s) = some (.next, rep (l.foldl f s)) := by
  induction l generalizing s with
  | nil => rfl
  | cons a l ih =>
    rw [List.map_cons, loopF_cons, h s a (hg a (List.mem_cons_self ..)), Option.bind_some, loopK_next, ih _ (fun b hb => hg b (List.mem_cons_of_mem _ hb))]
    rfl

/-- a line's part in the winding, and in the crossings -/
noncomputable def wcL (l : Pt × Pt) (x y : Int) : Int := if l.1.2 ≤ y ∧ y < l.2.2 ∧ 0 < sideL l x y then 1 else if l.2.2 ≤ y ∧ y < l.1.2 ∧ sideL l x y < 0 then -1 else 0
noncomputable def kcL (l : Pt × Pt) (x y : Int) : Int := if l.1.2 ≤ y ∧ y < l.2.2 ∧ 0 < sideL l x y then 1 else if l.2.2 ≤ y ∧ y < l.1.2 ∧ sideL l x y < 0 then 1 else 0

structure SW where
  w : Int
  k : Int
  a : Option V
  b : Option V
  c : Option V
  d : Option V
  s : Option V
noncomputable abbrev repW (ls : List (Pt × Pt)) (x y : Int) (dk : Dk) (s : SW) : IS := ⟨[(Str.ofString "edges", some (.d (.list (ls.map encL)))), (Str.ofString "x", some (.d (.int x))), (Str.ofString "y", some (.d (.int y))), (Str.ofString "winding", some (.d (.int s.w))), (Str.ofString "crossed", some (.d (.int s.k))), (Str.ofString "ax", s.a), (Str.ofString "ay", s.b), (Str.ofString "bx", s.c), (Str.ofString "by", s.d), (Str.ofString "side", s.s)], [], dk⟩
noncomputable abbrev fW (x y : Int) (s : SW) (l : Pt × Pt) : SW := ⟨s.w + wcL l x y, s.k + kcL l x y, some (.d (.int l.1.1)), some (.d (.int l.1.2)), some (.d (.int l.2.1)), some (.d (.int l.2.2)), some (.d (.int (sideL l x y)))⟩
theorem fW_w (x y : Int) (ls : List (Pt × Pt)) (s : SW) : (ls.foldl (fW x y) s).w = s.w + (ls.map (wcL · x y)).sum ∧ (ls.foldl (fW x y) s).k = s.k + (ls.map (kcL · x y)).sum := by
  induction ls generalizing s with
  | nil => simp
  | cons a l ih =>
    rw [List.foldl_cons]
    obtain ⟨h1, h2⟩ := ih (fW x y s a)
    rw [h1, h2]
    simp only [List.map_cons, List.sum_cons]
    omega
theorem gv_Wind_0 (a0 a1 a2 a3 a4 a5 a6 a7 a8 a9 : Option V) : getV [(Str.ofString "edges", a0), (Str.ofString "x", a1), (Str.ofString "y", a2), (Str.ofString "winding", a3), (Str.ofString "crossed", a4), (Str.ofString "ax", a5), (Str.ofString "ay", a6), (Str.ofString "bx", a7), (Str.ofString "by", a8), (Str.ofString "side", a9)] (Str.ofString "edges") = a0 := rfl
theorem sv_Wind_0 (a0 a1 a2 a3 a4 a5 a6 a7 a8 a9 : Option V) (v : V) : setV [(Str.ofString "edges", a0), (Str.ofString "x", a1), (Str.ofString "y", a2), (Str.ofString "winding", a3), (Str.ofString "crossed", a4), (Str.ofString "ax", a5), (Str.ofString "ay", a6), (Str.ofString "bx", a7), (Str.ofString "by", a8), (Str.ofString "side", a9)] (Str.ofString "edges") v = [(Str.ofString "edges", some v), (Str.ofString "x", a1), (Str.ofString "y", a2), (Str.ofString "winding", a3), (Str.ofString "crossed", a4), (Str.ofString "ax", a5), (Str.ofString "ay", a6), (Str.ofString "bx", a7), (Str.ofString "by", a8), (Str.ofString "side", a9)] := rfl
theorem gv_Wind_1 (a0 a1 a2 a3 a4 a5 a6 a7 a8 a9 : Option V) : getV [(Str.ofString "edges", a0), (Str.ofString "x", a1), (Str.ofString "y", a2), (Str.ofString "winding", a3), (Str.ofString "crossed", a4), (Str.ofString "ax", a5), (Str.ofString "ay", a6), (Str.ofString "bx", a7), (Str.ofString "by", a8), (Str.ofString "side", a9)] (Str.ofString "x") = a1 := rfl
theorem sv_Wind_1 (a0 a1 a2 a3 a4 a5 a6 a7 a8 a9 : Option V) (v : V) : setV [(Str.ofString "edges", a0), (Str.ofString "x", a1), (Str.ofString "y", a2), (Str.ofString "winding", a3), (Str.ofString "crossed", a4), (Str.ofString "ax", a5), (Str.ofString "ay", a6), (Str.ofString "bx", a7), (Str.ofString "by", a8), (Str.ofString "side", a9)] (Str.ofString "x") v = [(Str.ofString "edges", a0), (Str.ofString "x", some v), (Str.ofString "y", a2), (Str.ofString "winding", a3), (Str.ofString "crossed", a4), (Str.ofString "ax", a5), (Str.ofString "ay", a6), (Str.ofString "bx", a7), (Str.ofString "by", a8), (Str.ofString "side", a9)] := rfl
theorem gv_Wind_2 (a0 a1 a2 a3 a4 a5 a6 a7 a8 a9 : Option V) : getV [(Str.ofString "edges", a0), (Str.ofString "x", a1), (Str.ofString "y", a2), (Str.ofString "winding", a3), (Str.ofString "crossed", a4), (Str.ofString "ax", a5), (Str.ofString "ay", a6), (Str.ofString "bx", a7), (Str.ofString "by", a8), (Str.ofString "side", a9)] (Str.ofString "y") = a2 := rfl
theorem sv_Wind_2 (a0 a1 a2 a3 a4 a5 a6 a7 a8 a9 : Option V) (v : V) : setV [(Str.ofString "edges", a0), (Str.ofString "x", a1), (Str.ofString "y", a2), (Str.ofString "winding", a3), (Str.ofString "crossed", a4), (Str.ofString "ax", a5), (Str.ofString "ay", a6), (Str.ofString "bx", a7), (Str.ofString "by", a8), (Str.ofString "side", a9)] (Str.ofString "y") v = [(Str.ofString "edges", a0), (Str.ofString "x", a1), (Str.ofString "y", some v), (Str.ofString "winding", a3), (Str.ofString "crossed", a4), (Str.ofString "ax", a5), (Str.ofString "ay", a6), (Str.ofString "bx", a7), (Str.ofString "by", a8), (Str.ofString "side", a9)] := rfl
theorem gv_Wind_3 (a0 a1 a2 a3 a4 a5 a6 a7 a8 a9 : Option V) : getV [(Str.ofString "edges", a0), (Str.ofString "x", a1), (Str.ofString "y", a2), (Str.ofString "winding", a3), (Str.ofString "crossed", a4), (Str.ofString "ax", a5), (Str.ofString "ay", a6), (Str.ofString "bx", a7), (Str.ofString "by", a8), (Str.ofString "side", a9)] (Str.ofString "winding") = a3 := rfl
theorem sv_Wind_3 (a0 a1 a2 a3 a4 a5 a6 a7 a8 a9 : Option V) (v : V) : setV [(Str.ofString "edges", a0), (Str.ofString "x", a1), (Str.ofString "y", a2), (Str.ofString "winding", a3), (Str.ofString "crossed", a4), (Str.ofString "ax", a5), (Str.ofString "ay", a6), (Str.ofString "bx", a7), (Str.ofString "by", a8), (Str.ofString "side", a9)] (Str.ofString "winding") v = [(Str.ofString "edges", a0), (Str.ofString "x", a1), (Str.ofString "y", a2), (Str.ofString "winding", some v), (Str.ofString "crossed", a4), (Str.ofString "ax", a5), (Str.ofString "ay", a6), (Str.ofString "bx", a7), (Str.ofString "by", a8), (Str.ofString "side", a9)] := rfl
theorem gv_Wind_4 (a0 a1 a2 a3 a4 a5 a6 a7 a8 a9 : Option V) : getV [(Str.ofString "edges", a0), (Str.ofString "x", a1), (Str.ofString "y", a2), (Str.ofString "winding", a3), (Str.ofString "crossed", a4), (Str.ofString "ax", a5), (Str.ofString "ay", a6), (Str.ofString "bx", a7), (Str.ofString "by", a8), (Str.ofString "side", a9)] (Str.ofString "crossed") = a4 := rfl
theorem sv_Wind_4 (a0 a1 a2 a3 a4 a5 a6 a7 a8 a9 : Option V) (v : V) : setV [(Str.ofString "edges", a0), (Str.ofString "x", a1), (Str.ofString "y", a2), (Str.ofString "winding", a3), (Str.ofString "crossed", a4), (Str.ofString "ax", a5), (Str.ofString "ay", a6), (Str.ofString "bx", a7), (Str.ofString "by", a8), (Str.ofString "side", a9)] (Str.ofString "crossed") v = [(Str.ofString "edges", a0), (Str.ofString "x", a1), (Str.ofString "y", a2), (Str.ofString "winding", a3), (Str.ofString "crossed", some v), (Str.ofString "ax", a5), (Str.ofString "ay", a6), (Str.ofString "bx", a7), (Str.ofString "by", a8), (Str.ofString "side", a9)] := rfl
theorem gv_Wind_5 (a0 a1 a2 a3 a4 a5 a6 a7 a8 a9 : Option V) : getV [(Str.ofString "edges", a0), (Str.ofString "x", a1), (Str.ofString "y", a2), (Str.ofString "winding", a3), (Str.ofString "crossed", a4), (Str.ofString "ax", a5), (Str.ofString "ay", a6), (Str.ofString "bx", a7), (Str.ofString "by", a8), (Str.ofString "side", a9)] (Str.ofString "ax") = a5 := rfl
theorem sv_Wind_5 (a0 a1 a2 a3 a4 a5 a6 a7 a8 a9 : Option V) (v : V) : setV [(Str.ofString "edges", a0), (Str.ofString "x", a1), (Str.ofString "y", a2), (Str.ofString "winding", a3), (Str.ofString "crossed", a4), (Str.ofString "ax", a5), (Str.ofString "ay", a6), (Str.ofString "bx", a7), (Str.ofString "by", a8), (Str.ofString "side", a9)] (Str.ofString "ax") v = [(Str.ofString "edges", a0), (Str.ofString "x", a1), (Str.ofString "y", a2), (Str.ofString "winding", a3), (Str.ofString "crossed", a4), (Str.ofString "ax", some v), (Str.ofString "ay", a6), (Str.ofString "bx", a7), (Str.ofString "by", a8), (Str.ofString "side", a9)] := rfl
theorem gv_Wind_6 (a0 a1 a2 a3 a4 a5 a6 a7 a8 a9 : Option V) : getV [(Str.ofString "edges", a0), (Str.ofString "x", a1), (Str.ofString "y", a2), (Str.ofString "winding", a3), (Str.ofString "crossed", a4), (Str.ofString "ax", a5), (Str.ofString "ay", a6), (Str.ofString "bx", a7), (Str.ofString "by", a8), (Str.ofString "side", a9)] (Str.ofString "ay") = a6 := rfl
theorem sv_Wind_6 (a0 a1 a2 a3 a4 a5 a6 a7 a8 a9 : Option V) (v : V) : setV [(Str.ofString "edges", a0), (Str.ofString "x", a1), (Str.ofString "y", a2), (Str.ofString "winding", a3), (Str.ofString "crossed", a4), (Str.ofString "ax", a5), (Str.ofString "ay", a6), (Str.ofString "bx", a7), (Str.ofString "by", a8), (Str.ofString "side", a9)] (Str.ofString "ay") v = [(Str.ofString "edges", a0), (Str.ofString "x", a1), (Str.ofString "y", a2), (Str.ofString "winding", a3), (Str.ofString "crossed", a4), (Str.ofString "ax", a5), (Str.ofString "ay", some v), (Str.ofString "bx", a7), (Str.ofString "by", a8), (Str.ofString "side", a9)] := rfl
theorem gv_Wind_7 (a0 a1 a2 a3 a4 a5 a6 a7 a8 a9 : Option V) : getV [(Str.ofString "edges", a0), (Str.ofString "x", a1), (Str.ofString "y", a2), (Str.ofString "winding", a3), (Str.ofString "crossed", a4), (Str.ofString "ax", a5), (Str.ofString "ay", a6), (Str.ofString "bx", a7), (Str.ofString "by", a8), (Str.ofString "side", a9)] (Str.ofString "bx") = a7 := rfl
theorem sv_Wind_7 (a0 a1 a2 a3 a4 a5 a6 a7 a8 a9 : Option V) (v : V) : setV [(Str.ofString "edges", a0), (Str.ofString "x", a1), (Str.ofString "y", a2), (Str.ofString "winding", a3), (Str.ofString "crossed", a4), (Str.ofString "ax", a5), (Str.ofString "ay", a6), (Str.ofString "bx", a7), (Str.ofString "by", a8), (Str.ofString "side", a9)] (Str.ofString "bx") v = [(Str.ofString "edges", a0), (Str.ofString "x", a1), (Str.ofString "y", a2), (Str.ofString "winding", a3), (Str.ofString "crossed", a4), (Str.ofString "ax", a5), (Str.ofString "ay", a6), (Str.ofString "bx", some v), (Str.ofString "by", a8), (Str.ofString "side", a9)] := rfl
theorem gv_Wind_8 (a0 a1 a2 a3 a4 a5 a6 a7 a8 a9 : Option V) : getV [(Str.ofString "edges", a0), (Str.ofString "x", a1), (Str.ofString "y", a2), (Str.ofString "winding", a3), (Str.ofString "crossed", a4), (Str.ofString "ax", a5), (Str.ofString "ay", a6), (Str.ofString "bx", a7), (Str.ofString "by", a8), (Str.ofString "side", a9)] (Str.ofString "by") = a8 := rfl
theorem sv_Wind_8 (a0 a1 a2 a3 a4 a5 a6 a7 a8 a9 : Option V) (v : V) : setV [(Str.ofString "edges", a0), (Str.ofString "x", a1), (Str.ofString "y", a2), (Str.ofString "winding", a3), (Str.ofString "crossed", a4), (Str.ofString "ax", a5), (Str.ofString "ay", a6), (Str.ofString "bx", a7), (Str.ofString "by", a8), (Str.ofString "side", a9)] (Str.ofString "by") v = [(Str.ofString "edges", a0), (Str.ofString "x", a1), (Str.ofString "y", a2), (Str.ofString "winding", a3), (Str.ofString "crossed", a4), (Str.ofString "ax", a5), (Str.ofString "ay", a6), (Str.ofString "bx", a7), (Str.ofString "by", some v), (Str.ofString "side", a9)] := rfl
theorem gv_Wind_9 (a0 a1 a2 a3 a4 a5 a6 a7 a8 a9 : Option V) : getV [(Str.ofString "edges", a0), (Str.ofString "x", a1), (Str.ofString "y", a2), (Str.ofString "winding", a3), (Str.ofString "crossed", a4), (Str.ofString "ax", a5), (Str.ofString "ay", a6), (Str.ofString "bx", a7), (Str.ofString "by", a8), (Str.ofString "side", a9)] (Str.ofString "side") = a9 := rfl
theorem sv_Wind_9 (a0 a1 a2 a3 a4 a5 a6 a7 a8 a9 : Option V) (v : V) : setV [(Str.ofString "edges", a0), (Str.ofString "x", a1), (Str.ofString "y", a2), (Str.ofString "winding", a3), (Str.ofString "crossed", a4), (Str.ofString "ax", a5), (Str.ofString "ay", a6), (Str.ofString "bx", a7), (Str.ofString "by", a8), (Str.ofString "side", a9)] (Str.ofString "side") v = [(Str.ofString "edges", a0), (Str.ofString "x", a1), (Str.ofString "y", a2), (Str.ofString "winding", a3), (Str.ofString "crossed", a4), (Str.ofString "ax", a5), (Str.ofString "ay", a6), (Str.ofString "bx", a7), (Str.ofString "by", a8), (Str.ofString "side", some v)] := rfl
noncomputable def rWind : {d : DefRec // fnRec (Str.ofString "path_winding") = some d} := ⟨_, rfl⟩
theorem wind_f (n : Nat) (ls : List (Pt × Pt)) (x y : Int) (dk : Dk) (hl : ∀ l ∈ ls, BdL l) (hp : Bd (x, y)) (hn : ls.length ≤ 1000) :
    (ev (n+16)).f (Str.ofString "path_winding") [.d (.list (ls.map encL)), .d (.int x), .d (.int y)] dk = some (.d (.tuple [.int (ls.map (wcL · x y)).sum, .int (ls.map (kcL · x y)).sum]), dk) := by
  rw [ev_f, callF_eq _ _ _ rWind.2 (by decide +kernel) rfl rfl, show initV rWind.1 [.d (.list (ls.map encL)), .d (.int x), .d (.int y)] = [(Str.ofString "edges", some (.d (.list (ls.map encL)))), (Str.ofString "x", some (.d (.int x))), (Str.ofString "y", some (.d (.int y))), (Str.ofString "winding", none), (Str.ofString "crossed", none), (Str.ofString "ax", none), (Str.ofString "ay", none), (Str.ofString "bx", none), (Str.ofString "by", none), (Str.ofString "side", none)] from rfl, show initC rWind.1 [.d (.list (ls.map encL)), .d (.int x), .d (.int y)] = [] from rfl]
  have hn' : (ls.map encL).length ≤ 1000000 := by rw [List.length_map]; omega
  simp (decide := true) only [rWind, hn', ev_e, ev_t, ev_a, ev_b, evL_nil, evL_cons, evLK1_eq, evLK2_eq, retE_eq, retO_eq, evE_int, evE_str, evE_bool, evE_none, evE_name, nameV_loc, nameV_cell, nameV_free, nameV_unit, nameV_eo, evE_bin, binK1_eq, binK2_eq, binV_add, binV_sub, binV_mul, binV_div, binV_mod, binV_list, binV_tup, evE_neg, negK_eq, evE_if, ifEK_eq, evE_tuple, tupK_eq, evE_list0, evE_list1, list1K_eq, evE_list2, evE_listS, listK_eq, listK1_eq, evE_rev, revK1_eq, revK_eq, evE_slo, sloK1_eq, sloK_eq, evE_sup, supK1_eq, supK_eq, evE_subC, evE_subN, evE_subU, evE_subB, subK1_eq, subK_eq, itemV_list, itemV_tuple, itemV_own, itemOK_eq, itemV_tup, itemV_left, itemV_mixed, retB_eq, cmpVK_eq, evE_cmp, cmpE_ne, neK_eq, cmpE_eq1, cmpE_lt, cmpE_le, cmpE_gt, cmpE_ge, cmpE_is, cmpE_isnot, cmpE_neC, cmpE_neN, cmpE_neT, cmpE_neB, cmpK1_eq, cmpK_eq, cmpE_2, cmp2K1_eq, cmp2K2_eq, cmp2K2b_eq, cmpV_lt, cmpV_le, cmpV_gt, cmpV_ge, cmpV_eqI, cmpV_neI, cmpV_eqS, cmpV_isN, cmpV_isT, cmpV_isnotB, neNil_list, neNil_left, evE_and, andEK_eq, evE_call, callK_eq, retF_eq, callV_own, callV_min, callV_max, callV_lenL, callV_lenT, sumK_eq, callV_sum, callV_tupL, tupOK1_eq, tupOK_eq, callV_tupO, evE_pop, popK1_eq, popK2_eq, compStep_eq, compK1_eq, compK2_eq, compK3_eq, testsE_0, testsE_1, retL_eq, compScope_eq, compK_eq, compV_eq, compVK_eq, evE_comp, rangeK_eq, rangeK1_eq, iterV_range, enumK_eq, iterV_enum, seqIK_list, seqIK_tuple, iterV_name, iterV_subS, iterV_call, boolK_eq, evT_bool, evT_cmp, evT_name, evT_call, allT_and0, allT_or0, allT_and, allT_or, andTK_eq, orTK_eq, storeN_eq, asg_name, asgL_nil, asgL_cons, asgLK_eq, asg_tup_d, asg_tup_v, asg_sub, asgSK1_eq, setOK_eq, asgSK2_own, asgSK2_deck, nextK_eq, stoK_eq, exS_name, stoCK_eq, exS_nameC, tasK_eq, exS_tup, exS_swp2, exS_swp3, swpK2_d, swpK2_v, swpK3_v, storeL_nil, storeL_cons, storeLK_eq, sasK_eq, exS_sub, exS_aug, augK1_eq, augK2_eq, exS_if, ifSK_eq, forStep_eq, forK_eq, exS_for, loopF_nil, loopF_cons, loopK_next, loopK_ret, rtnK_eq, exS_ret, exS_meth, methK1_eq, appK_eq, methK2_app, extK_eq, methK2_ext, exB_nil, exB_cons, seqK_next, seqK_ret, fzK_eq, retFK_eq, layStr_left, layStr_mixed, layStr_m, layStr_l, layStr_z, layStr_w, layStr_e, Option.bind_some, Option.map_some, List.length_cons, List.length_nil, if_true, if_false, Bool.false_eq_true, decide_eq_true_eq, Bool.not_true, Bool.not_false, Bool.not_eq_true, List.map_cons, List.map_nil, List.reverse_cons, List.reverse_nil, List.nil_append, List.cons_append, gt_iff_lt, ge_iff_le, beq_iff_eq, Nat.reduceAdd, ite_self, mkTup, allD, Option.some.injEq, List.all_cons, List.all_nil, Bool.and_true, Bool.true_and, argOk, freeze, Option.isSome_some, decide_true, decide_false, Option.bind_none, Option.map_none, List.getElem?_cons_zero, List.getElem?_cons_succ, blank, encP, encL, getC, Bool.not_eq_true', compL, Option.toList_some, Option.toList_none, List.append_nil, itemL_0, itemL_1, itemL_2, itemL_m1, Int.cast_ofNat_Int, intsOf, List.set_cons_zero, List.set_cons_succ, Int.reduceAdd, Int.reduceSub, Int.reduceNeg, Int.reduceMul, gv_Wind_0, sv_Wind_0, gv_Wind_1, sv_Wind_1, gv_Wind_2, sv_Wind_2, gv_Wind_3, sv_Wind_3, gv_Wind_4, sv_Wind_4, gv_Wind_5, sv_Wind_5, gv_Wind_6, sv_Wind_6, gv_Wind_7, sv_Wind_7, gv_Wind_8, sv_Wind_8, gv_Wind_9, sv_Wind_9]
  rw [loop_rw encL (repW ls x y dk) (fW x y) BdL ls ⟨0, 0, none, none, none, none, none⟩ hl]
  · obtain ⟨e1, e2⟩ := fW_w x y ls ⟨0, 0, none, none, none, none, none⟩
    simp (decide := true) only [repW, e1, e2, Int.zero_add, ev_e, ev_t, ev_a, ev_b, evL_nil, evL_cons, evLK1_eq, evLK2_eq, retE_eq, retO_eq, evE_int, evE_str, evE_bool, evE_none, evE_name, nameV_loc, nameV_cell, nameV_free, nameV_unit, nameV_eo, evE_bin, binK1_eq, binK2_eq, binV_add, binV_sub, binV_mul, binV_div, binV_mod, binV_list, binV_tup, evE_neg, negK_eq, evE_if, ifEK_eq, evE_tuple, tupK_eq, evE_list0, evE_list1, list1K_eq, evE_list2, evE_listS, listK_eq, listK1_eq, evE_rev, revK1_eq, revK_eq, evE_slo, sloK1_eq, sloK_eq, evE_sup, supK1_eq, supK_eq, evE_subC, evE_subN, evE_subU, evE_subB, subK1_eq, subK_eq, itemV_list, itemV_tuple, itemV_own, itemOK_eq, itemV_tup, itemV_left, itemV_mixed, retB_eq, cmpVK_eq, evE_cmp, cmpE_ne, neK_eq, cmpE_eq1, cmpE_lt, cmpE_le, cmpE_gt, cmpE_ge, cmpE_is, cmpE_isnot, cmpE_neC, cmpE_neN, cmpE_neT, cmpE_neB, cmpK1_eq, cmpK_eq, cmpE_2, cmp2K1_eq, cmp2K2_eq, cmp2K2b_eq, cmpV_lt, cmpV_le, cmpV_gt, cmpV_ge, cmpV_eqI, cmpV_neI, cmpV_eqS, cmpV_isN, cmpV_isT, cmpV_isnotB, neNil_list, neNil_left, evE_and, andEK_eq, evE_call, callK_eq, retF_eq, callV_own, callV_min, callV_max, callV_lenL, callV_lenT, sumK_eq, callV_sum, callV_tupL, tupOK1_eq, tupOK_eq, callV_tupO, evE_pop, popK1_eq, popK2_eq, compStep_eq, compK1_eq, compK2_eq, compK3_eq, testsE_0, testsE_1, retL_eq, compScope_eq, compK_eq, compV_eq, compVK_eq, evE_comp, rangeK_eq, rangeK1_eq, iterV_range, enumK_eq, iterV_enum, seqIK_list, seqIK_tuple, iterV_name, iterV_subS, iterV_call, boolK_eq, evT_bool, evT_cmp, evT_name, evT_call, allT_and0, allT_or0, allT_and, allT_or, andTK_eq, orTK_eq, storeN_eq, asg_name, asgL_nil, asgL_cons, asgLK_eq, asg_tup_d, asg_tup_v, asg_sub, asgSK1_eq, setOK_eq, asgSK2_own, asgSK2_deck, nextK_eq, stoK_eq, exS_name, stoCK_eq, exS_nameC, tasK_eq, exS_tup, exS_swp2, exS_swp3, swpK2_d, swpK2_v, swpK3_v, storeL_nil, storeL_cons, storeLK_eq, sasK_eq, exS_sub, exS_aug, augK1_eq, augK2_eq, exS_if, ifSK_eq, forStep_eq, forK_eq, exS_for, loopF_nil, loopF_cons, loopK_next, loopK_ret, rtnK_eq, exS_ret, exS_meth, methK1_eq, appK_eq, methK2_app, extK_eq, methK2_ext, exB_nil, exB_cons, seqK_next, seqK_ret, fzK_eq, retFK_eq, layStr_left, layStr_mixed, layStr_m, layStr_l, layStr_z, layStr_w, layStr_e, Option.bind_some, Option.map_some, List.length_cons, List.length_nil, if_true, if_false, Bool.false_eq_true, decide_eq_true_eq, Bool.not_true, Bool.not_false, Bool.not_eq_true, List.map_cons, List.map_nil, List.reverse_cons, List.reverse_nil, List.nil_append, List.cons_append, gt_iff_lt, ge_iff_le, beq_iff_eq, Nat.reduceAdd, ite_self, mkTup, allD, Option.some.injEq, List.all_cons, List.all_nil, Bool.and_true, Bool.true_and, argOk, freeze, Option.isSome_some, decide_true, decide_false, Option.bind_none, Option.map_none, List.getElem?_cons_zero, List.getElem?_cons_succ, blank, encP, encL, getC, Bool.not_eq_true', compL, Option.toList_some, Option.toList_none, List.append_nil, itemL_0, itemL_1, itemL_2, itemL_m1, Int.cast_ofNat_Int, intsOf, List.set_cons_zero, List.set_cons_succ, Int.reduceAdd, Int.reduceSub, Int.reduceNeg, Int.reduceMul, gv_Wind_0, sv_Wind_0, gv_Wind_1, sv_Wind_1, gv_Wind_2, sv_Wind_2, gv_Wind_3, sv_Wind_3, gv_Wind_4, sv_Wind_4, gv_Wind_5, sv_Wind_5, gv_Wind_6, sv_Wind_6, gv_Wind_7, sv_Wind_7, gv_Wind_8, sv_Wind_8, gv_Wind_9, sv_Wind_9]
  · intro s l hg
    obtain ⟨⟨ax, ay⟩, ⟨bx, b⟩⟩ := l
    obtain ⟨⟨h1, h2⟩, ⟨h3, h4⟩⟩ := hg
    obtain ⟨h5, h6⟩ := hp
    dsimp only at h1 h2 h3 h4 h5 h6
    have s1 : small (bx - ax) = true := small_of (by omega)
    have s2 : small (x - ax) = true := small_of (by omega)
    have i1 : (y < ay) = ¬ (ay ≤ y) := propext ⟨by omega, by omega⟩
    have i2 : (b ≤ y) = ¬ (y < b) := propext ⟨by omega, by omega⟩
    have hs : sideL ((ax, ay), (bx, b)) x y = (bx - ax) * (y - ay) - (x - ax) * (b - ay) := rfl
    have hm1 : ∀ a : Int, a - 1 = a + -1 := fun a => Int.sub_eq_add_neg
    unfold repW fW wcL kcL
    by_cases hA : ay ≤ y <;> by_cases hB : y < b <;> by_cases hC : 0 < (bx - ax) * (y - ay) - (x - ax) * (b - ay) <;> by_cases hD : (bx - ax) * (y - ay) - (x - ax) * (b - ay) < 0 <;> try omega
    all_goals simp (decide := true) only [s1, s2, i1, i2, hA, hB, hC, hD, hs, not_true_eq_false, not_false_eq_true, and_true, true_and, and_false, false_and, hm1, Int.add_zero, ev_e, ev_t, ev_a, ev_b, evL_nil, evL_cons, evLK1_eq, evLK2_eq, retE_eq, retO_eq, evE_int, evE_str, evE_bool, evE_none, evE_name, nameV_loc, nameV_cell, nameV_free, nameV_unit, nameV_eo, evE_bin, binK1_eq, binK2_eq, binV_add, binV_sub, binV_mul, binV_div, binV_mod, binV_list, binV_tup, evE_neg, negK_eq, evE_if, ifEK_eq, evE_tuple, tupK_eq, evE_list0, evE_list1, list1K_eq, evE_list2, evE_listS, listK_eq, listK1_eq, evE_rev, revK1_eq, revK_eq, evE_slo, sloK1_eq, sloK_eq, evE_sup, supK1_eq, supK_eq, evE_subC, evE_subN, evE_subU, evE_subB, subK1_eq, subK_eq, itemV_list, itemV_tuple, itemV_own, itemOK_eq, itemV_tup, itemV_left, itemV_mixed, retB_eq, cmpVK_eq, evE_cmp, cmpE_ne, neK_eq, cmpE_eq1, cmpE_lt, cmpE_le, cmpE_gt, cmpE_ge, cmpE_is, cmpE_isnot, cmpE_neC, cmpE_neN, cmpE_neT, cmpE_neB, cmpK1_eq, cmpK_eq, cmpE_2, cmp2K1_eq, cmp2K2_eq, cmp2K2b_eq, cmpV_lt, cmpV_le, cmpV_gt, cmpV_ge, cmpV_eqI, cmpV_neI, cmpV_eqS, cmpV_isN, cmpV_isT, cmpV_isnotB, neNil_list, neNil_left, evE_and, andEK_eq, evE_call, callK_eq, retF_eq, callV_own, callV_min, callV_max, callV_lenL, callV_lenT, sumK_eq, callV_sum, callV_tupL, tupOK1_eq, tupOK_eq, callV_tupO, evE_pop, popK1_eq, popK2_eq, compStep_eq, compK1_eq, compK2_eq, compK3_eq, testsE_0, testsE_1, retL_eq, compScope_eq, compK_eq, compV_eq, compVK_eq, evE_comp, rangeK_eq, rangeK1_eq, iterV_range, enumK_eq, iterV_enum, seqIK_list, seqIK_tuple, iterV_name, iterV_subS, iterV_call, boolK_eq, evT_bool, evT_cmp, evT_name, evT_call, allT_and0, allT_or0, allT_and, allT_or, andTK_eq, orTK_eq, storeN_eq, asg_name, asgL_nil, asgL_cons, asgLK_eq, asg_tup_d, asg_tup_v, asg_sub, asgSK1_eq, setOK_eq, asgSK2_own, asgSK2_deck, nextK_eq, stoK_eq, exS_name, stoCK_eq, exS_nameC, tasK_eq, exS_tup, exS_swp2, exS_swp3, swpK2_d, swpK2_v, swpK3_v, storeL_nil, storeL_cons, storeLK_eq, sasK_eq, exS_sub, exS_aug, augK1_eq, augK2_eq, exS_if, ifSK_eq, forStep_eq, forK_eq, exS_for, loopF_nil, loopF_cons, loopK_next, loopK_ret, rtnK_eq, exS_ret, exS_meth, methK1_eq, appK_eq, methK2_app, extK_eq, methK2_ext, exB_nil, exB_cons, seqK_next, seqK_ret, fzK_eq, retFK_eq, layStr_left, layStr_mixed, layStr_m, layStr_l, layStr_z, layStr_w, layStr_e, Option.bind_some, Option.map_some, List.length_cons, List.length_nil, if_true, if_false, Bool.false_eq_true, decide_eq_true_eq, Bool.not_true, Bool.not_false, Bool.not_eq_true, List.map_cons, List.map_nil, List.reverse_cons, List.reverse_nil, List.nil_append, List.cons_append, gt_iff_lt, ge_iff_le, beq_iff_eq, Nat.reduceAdd, ite_self, mkTup, allD, Option.some.injEq, List.all_cons, List.all_nil, Bool.and_true, Bool.true_and, argOk, freeze, Option.isSome_some, decide_true, decide_false, Option.bind_none, Option.map_none, List.getElem?_cons_zero, List.getElem?_cons_succ, blank, encP, encL, getC, Bool.not_eq_true', compL, Option.toList_some, Option.toList_none, List.append_nil, itemL_0, itemL_1, itemL_2, itemL_m1, Int.cast_ofNat_Int, intsOf, List.set_cons_zero, List.set_cons_succ, Int.reduceAdd, Int.reduceSub, Int.reduceNeg, Int.reduceMul, gv_Wind_0, sv_Wind_0, gv_Wind_1, sv_Wind_1, gv_Wind_2, sv_Wind_2, gv_Wind_3, sv_Wind_3, gv_Wind_4, sv_Wind_4, gv_Wind_5, sv_Wind_5, gv_Wind_6, sv_Wind_6, gv_Wind_7, sv_Wind_7, gv_Wind_8, sv_Wind_8, gv_Wind_9, sv_Wind_9]


structure SA where
  w : Int
  a : Option V
  b : Option V
  c : Option V
  d : Option V
noncomputable def arL (l : Pt × Pt) : Int := l.1.1 * l.2.2 - l.2.1 * l.1.2

/-- the step of quarters -/
noncomputable def qsL (l : Pt × Pt) (x y : Int) : Int := if ((quarter (l.2.1 - x) (l.2.2 - y) - quarter (l.1.1 - x) (l.1.2 - y)).fmod 4) = 2 then (if 0 < crossL l x y then 2 else -2)
  else if ((quarter (l.2.1 - x) (l.2.2 - y) - quarter (l.1.1 - x) (l.1.2 - y)).fmod 4) = 3 then -1 else ((quarter (l.2.1 - x) (l.2.2 - y) - quarter (l.1.1 - x) (l.1.2 - y)).fmod 4)
noncomputable def stV (l : Pt × Pt) (x y : Int) : Int := if ((quarter (l.2.1 - x) (l.2.2 - y) - quarter (l.1.1 - x) (l.1.2 - y)).fmod 4) = 2 then (if 0 < crossL l x y then 2 else -2) else ((quarter (l.2.1 - x) (l.2.2 - y) - quarter (l.1.1 - x) (l.1.2 - y)).fmod 4)
structure ST where
  w : Int
  l : Option V
  a : Option V
  b : Option V
  c : Option V
  d : Option V
  s : Option V
noncomputable abbrev repT (ls : List (Pt × Pt)) (x y : Int) (dk : Dk) (s : ST) : IS := ⟨[(Str.ofString "lines", some (.d (.list (ls.map encL)))), (Str.ofString "x", some (.d (.int x))), (Str.ofString "y", some (.d (.int y))), (Str.ofString "quarters", some (.d (.int s.w))), (Str.ofString "line", s.l), (Str.ofString "ax", s.a), (Str.ofString "ay", s.b), (Str.ofString "bx", s.c), (Str.ofString "by", s.d), (Str.ofString "step", s.s)], [], dk⟩
noncomputable abbrev fT (x y : Int) (s : ST) (l : Pt × Pt) : ST := ⟨s.w + qsL l x y, some (.d (encL l)), some (.d (.int l.1.1)), some (.d (.int l.1.2)), some (.d (.int l.2.1)), some (.d (.int l.2.2)), some (.d (.int (stV l x y)))⟩
theorem fT_w (x y : Int) (ls : List (Pt × Pt)) (s : ST) : (ls.foldl (fT x y) s).w = s.w + (ls.map (qsL · x y)).sum := by
  induction ls generalizing s with
  | nil => simp
  | cons a l ih =>
    rw [List.foldl_cons, ih (fT x y s a)]
    simp only [List.map_cons, List.sum_cons]
    omega
theorem gv_Turns_0 (a0 a1 a2 a3 a4 a5 a6 a7 a8 a9 : Option V) : getV [(Str.ofString "lines", a0), (Str.ofString "x", a1), (Str.ofString "y", a2), (Str.ofString "quarters", a3), (Str.ofString "line", a4), (Str.ofString "ax", a5), (Str.ofString "ay", a6), (Str.ofString "bx", a7), (Str.ofString "by", a8), (Str.ofString "step", a9)] (Str.ofString "lines") = a0 := rfl
theorem sv_Turns_0 (a0 a1 a2 a3 a4 a5 a6 a7 a8 a9 : Option V) (v : V) : setV [(Str.ofString "lines", a0), (Str.ofString "x", a1), (Str.ofString "y", a2), (Str.ofString "quarters", a3), (Str.ofString "line", a4), (Str.ofString "ax", a5), (Str.ofString "ay", a6), (Str.ofString "bx", a7), (Str.ofString "by", a8), (Str.ofString "step", a9)] (Str.ofString "lines") v = [(Str.ofString "lines", some v), (Str.ofString "x", a1), (Str.ofString "y", a2), (Str.ofString "quarters", a3), (Str.ofString "line", a4), (Str.ofString "ax", a5), (Str.ofString "ay", a6), (Str.ofString "bx", a7), (Str.ofString "by", a8), (Str.ofString "step", a9)] := rfl
theorem gv_Turns_1 (a0 a1 a2 a3 a4 a5 a6 a7 a8 a9 : Option V) : getV [(Str.ofString "lines", a0), (Str.ofString "x", a1), (Str.ofString "y", a2), (Str.ofString "quarters", a3), (Str.ofString "line", a4), (Str.ofString "ax", a5), (Str.ofString "ay", a6), (Str.ofString "bx", a7), (Str.ofString "by", a8), (Str.ofString "step", a9)] (Str.ofString "x") = a1 := rfl
theorem sv_Turns_1 (a0 a1 a2 a3 a4 a5 a6 a7 a8 a9 : Option V) (v : V) : setV [(Str.ofString "lines", a0), (Str.ofString "x", a1), (Str.ofString "y", a2), (Str.ofString "quarters", a3), (Str.ofString "line", a4), (Str.ofString "ax", a5), (Str.ofString "ay", a6), (Str.ofString "bx", a7), (Str.ofString "by", a8), (Str.ofString "step", a9)] (Str.ofString "x") v = [(Str.ofString "lines", a0), (Str.ofString "x", some v), (Str.ofString "y", a2), (Str.ofString "quarters", a3), (Str.ofString "line", a4), (Str.ofString "ax", a5), (Str.ofString "ay", a6), (Str.ofString "bx", a7), (Str.ofString "by", a8), (Str.ofString "step", a9)] := rfl
theorem gv_Turns_2 (a0 a1 a2 a3 a4 a5 a6 a7 a8 a9 : Option V) : getV [(Str.ofString "lines", a0), (Str.ofString "x", a1), (Str.ofString "y", a2), (Str.ofString "quarters", a3), (Str.ofString "line", a4), (Str.ofString "ax", a5), (Str.ofString "ay", a6), (Str.ofString "bx", a7), (Str.ofString "by", a8), (Str.ofString "step", a9)] (Str.ofString "y") = a2 := rfl
theorem sv_Turns_2 (a0 a1 a2 a3 a4 a5 a6 a7 a8 a9 : Option V) (v : V) : setV [(Str.ofString "lines", a0), (Str.ofString "x", a1), (Str.ofString "y", a2), (Str.ofString "quarters", a3), (Str.ofString "line", a4), (Str.ofString "ax", a5), (Str.ofString "ay", a6), (Str.ofString "bx", a7), (Str.ofString "by", a8), (Str.ofString "step", a9)] (Str.ofString "y") v = [(Str.ofString "lines", a0), (Str.ofString "x", a1), (Str.ofString "y", some v), (Str.ofString "quarters", a3), (Str.ofString "line", a4), (Str.ofString "ax", a5), (Str.ofString "ay", a6), (Str.ofString "bx", a7), (Str.ofString "by", a8), (Str.ofString "step", a9)] := rfl
theorem gv_Turns_3 (a0 a1 a2 a3 a4 a5 a6 a7 a8 a9 : Option V) : getV [(Str.ofString "lines", a0), (Str.ofString "x", a1), (Str.ofString "y", a2), (Str.ofString "quarters", a3), (Str.ofString "line", a4), (Str.ofString "ax", a5), (Str.ofString "ay", a6), (Str.ofString "bx", a7), (Str.ofString "by", a8), (Str.ofString "step", a9)] (Str.ofString "quarters") = a3 := rfl
theorem sv_Turns_3 (a0 a1 a2 a3 a4 a5 a6 a7 a8 a9 : Option V) (v : V) : setV [(Str.ofString "lines", a0), (Str.ofString "x", a1), (Str.ofString "y", a2), (Str.ofString "quarters", a3), (Str.ofString "line", a4), (Str.ofString "ax", a5), (Str.ofString "ay", a6), (Str.ofString "bx", a7), (Str.ofString "by", a8), (Str.ofString "step", a9)] (Str.ofString "quarters") v = [(Str.ofString "lines", a0), (Str.ofString "x", a1), (Str.ofString "y", a2), (Str.ofString "quarters", some v), (Str.ofString "line", a4), (Str.ofString "ax", a5), (Str.ofString "ay", a6), (Str.ofString "bx", a7), (Str.ofString "by", a8), (Str.ofString "step", a9)] := rfl
theorem gv_Turns_4 (a0 a1 a2 a3 a4 a5 a6 a7 a8 a9 : Option V) : getV [(Str.ofString "lines", a0), (Str.ofString "x", a1), (Str.ofString "y", a2), (Str.ofString "quarters", a3), (Str.ofString "line", a4), (Str.ofString "ax", a5), (Str.ofString "ay", a6), (Str.ofString "bx", a7), (Str.ofString "by", a8), (Str.ofString "step", a9)] (Str.ofString "line") = a4 := rfl
theorem sv_Turns_4 (a0 a1 a2 a3 a4 a5 a6 a7 a8 a9 : Option V) (v : V) : setV [(Str.ofString "lines", a0), (Str.ofString "x", a1), (Str.ofString "y", a2), (Str.ofString "quarters", a3), (Str.ofString "line", a4), (Str.ofString "ax", a5), (Str.ofString "ay", a6), (Str.ofString "bx", a7), (Str.ofString "by", a8), (Str.ofString "step", a9)] (Str.ofString "line") v = [(Str.ofString "lines", a0), (Str.ofString "x", a1), (Str.ofString "y", a2), (Str.ofString "quarters", a3), (Str.ofString "line", some v), (Str.ofString "ax", a5), (Str.ofString "ay", a6), (Str.ofString "bx", a7), (Str.ofString "by", a8), (Str.ofString "step", a9)] := rfl
theorem gv_Turns_5 (a0 a1 a2 a3 a4 a5 a6 a7 a8 a9 : Option V) : getV [(Str.ofString "lines", a0), (Str.ofString "x", a1), (Str.ofString "y", a2), (Str.ofString "quarters", a3), (Str.ofString "line", a4), (Str.ofString "ax", a5), (Str.ofString "ay", a6), (Str.ofString "bx", a7), (Str.ofString "by", a8), (Str.ofString "step", a9)] (Str.ofString "ax") = a5 := rfl
theorem sv_Turns_5 (a0 a1 a2 a3 a4 a5 a6 a7 a8 a9 : Option V) (v : V) : setV [(Str.ofString "lines", a0), (Str.ofString "x", a1), (Str.ofString "y", a2), (Str.ofString "quarters", a3), (Str.ofString "line", a4), (Str.ofString "ax", a5), (Str.ofString "ay", a6), (Str.ofString "bx", a7), (Str.ofString "by", a8), (Str.ofString "step", a9)] (Str.ofString "ax") v = [(Str.ofString "lines", a0), (Str.ofString "x", a1), (Str.ofString "y", a2), (Str.ofString "quarters", a3), (Str.ofString "line", a4), (Str.ofString "ax", some v), (Str.ofString "ay", a6), (Str.ofString "bx", a7), (Str.ofString "by", a8), (Str.ofString "step", a9)] := rfl
theorem gv_Turns_6 (a0 a1 a2 a3 a4 a5 a6 a7 a8 a9 : Option V) : getV [(Str.ofString "lines", a0), (Str.ofString "x", a1), (Str.ofString "y", a2), (Str.ofString "quarters", a3), (Str.ofString "line", a4), (Str.ofString "ax", a5), (Str.ofString "ay", a6), (Str.ofString "bx", a7), (Str.ofString "by", a8), (Str.ofString "step", a9)] (Str.ofString "ay") = a6 := rfl
theorem sv_Turns_6 (a0 a1 a2 a3 a4 a5 a6 a7 a8 a9 : Option V) (v : V) : setV [(Str.ofString "lines", a0), (Str.ofString "x", a1), (Str.ofString "y", a2), (Str.ofString "quarters", a3), (Str.ofString "line", a4), (Str.ofString "ax", a5), (Str.ofString "ay", a6), (Str.ofString "bx", a7), (Str.ofString "by", a8), (Str.ofString "step", a9)] (Str.ofString "ay") v = [(Str.ofString "lines", a0), (Str.ofString "x", a1), (Str.ofString "y", a2), (Str.ofString "quarters", a3), (Str.ofString "line", a4), (Str.ofString "ax", a5), (Str.ofString "ay", some v), (Str.ofString "bx", a7), (Str.ofString "by", a8), (Str.ofString "step", a9)] := rfl
theorem gv_Turns_7 (a0 a1 a2 a3 a4 a5 a6 a7 a8 a9 : Option V) : getV [(Str.ofString "lines", a0), (Str.ofString "x", a1), (Str.ofString "y", a2), (Str.ofString "quarters", a3), (Str.ofString "line", a4), (Str.ofString "ax", a5), (Str.ofString "ay", a6), (Str.ofString "bx", a7), (Str.ofString "by", a8), (Str.ofString "step", a9)] (Str.ofString "bx") = a7 := rfl
theorem sv_Turns_7 (a0 a1 a2 a3 a4 a5 a6 a7 a8 a9 : Option V) (v : V) : setV [(Str.ofString "lines", a0), (Str.ofString "x", a1), (Str.ofString "y", a2), (Str.ofString "quarters", a3), (Str.ofString "line", a4), (Str.ofString "ax", a5), (Str.ofString "ay", a6), (Str.ofString "bx", a7), (Str.ofString "by", a8), (Str.ofString "step", a9)] (Str.ofString "bx") v = [(Str.ofString "lines", a0), (Str.ofString "x", a1), (Str.ofString "y", a2), (Str.ofString "quarters", a3), (Str.ofString "line", a4), (Str.ofString "ax", a5), (Str.ofString "ay", a6), (Str.ofString "bx", some v), (Str.ofString "by", a8), (Str.ofString "step", a9)] := rfl
theorem gv_Turns_8 (a0 a1 a2 a3 a4 a5 a6 a7 a8 a9 : Option V) : getV [(Str.ofString "lines", a0), (Str.ofString "x", a1), (Str.ofString "y", a2), (Str.ofString "quarters", a3), (Str.ofString "line", a4), (Str.ofString "ax", a5), (Str.ofString "ay", a6), (Str.ofString "bx", a7), (Str.ofString "by", a8), (Str.ofString "step", a9)] (Str.ofString "by") = a8 := rfl
theorem sv_Turns_8 (a0 a1 a2 a3 a4 a5 a6 a7 a8 a9 : Option V) (v : V) : setV [(Str.ofString "lines", a0), (Str.ofString "x", a1), (Str.ofString "y", a2), (Str.ofString "quarters", a3), (Str.ofString "line", a4), (Str.ofString "ax", a5), (Str.ofString "ay", a6), (Str.ofString "bx", a7), (Str.ofString "by", a8), (Str.ofString "step", a9)] (Str.ofString "by") v = [(Str.ofString "lines", a0), (Str.ofString "x", a1), (Str.ofString "y", a2), (Str.ofString "quarters", a3), (Str.ofString "line", a4), (Str.ofString "ax", a5), (Str.ofString "ay", a6), (Str.ofString "bx", a7), (Str.ofString "by", some v), (Str.ofString "step", a9)] := rfl
theorem gv_Turns_9 (a0 a1 a2 a3 a4 a5 a6 a7 a8 a9 : Option V) : getV [(Str.ofString "lines", a0), (Str.ofString "x", a1), (Str.ofString "y", a2), (Str.ofString "quarters", a3), (Str.ofString "line", a4), (Str.ofString "ax", a5), (Str.ofString "ay", a6), (Str.ofString "bx", a7), (Str.ofString "by", a8), (Str.ofString "step", a9)] (Str.ofString "step") = a9 := rfl
theorem sv_Turns_9 (a0 a1 a2 a3 a4 a5 a6 a7 a8 a9 : Option V) (v : V) : setV [(Str.ofString "lines", a0), (Str.ofString "x", a1), (Str.ofString "y", a2), (Str.ofString "quarters", a3), (Str.ofString "line", a4), (Str.ofString "ax", a5), (Str.ofString "ay", a6), (Str.ofString "bx", a7), (Str.ofString "by", a8), (Str.ofString "step", a9)] (Str.ofString "step") v = [(Str.ofString "lines", a0), (Str.ofString "x", a1), (Str.ofString "y", a2), (Str.ofString "quarters", a3), (Str.ofString "line", a4), (Str.ofString "ax", a5), (Str.ofString "ay", a6), (Str.ofString "bx", a7), (Str.ofString "by", a8), (Str.ofString "step", some v)] := rfl
noncomputable def rTurns : {d : DefRec // fnRec (Str.ofString "_law_turns") = some d} := ⟨_, rfl⟩
theorem turns_f (n : Nat) (ls : List (Pt × Pt)) (x y : Int) (dk : Dk) (hl : ∀ l ∈ ls, BdL l) (hp : Bd (x, y)) (hn : ls.length ≤ 1000) :
    (ev (n+24)).f (Str.ofString "_law_turns") [.d (.list (ls.map encL)), .d (.int x), .d (.int y)] dk = some (.d (.int ((ls.map (qsL · x y)).sum.fdiv 4)), dk) := by
  rw [ev_f, callF_eq _ _ _ rTurns.2 (by decide +kernel) rfl rfl, show initV rTurns.1 [.d (.list (ls.map encL)), .d (.int x), .d (.int y)] = [(Str.ofString "lines", some (.d (.list (ls.map encL)))), (Str.ofString "x", some (.d (.int x))), (Str.ofString "y", some (.d (.int y))), (Str.ofString "quarters", none), (Str.ofString "line", none), (Str.ofString "ax", none), (Str.ofString "ay", none), (Str.ofString "bx", none), (Str.ofString "by", none), (Str.ofString "step", none)] from rfl, show initC rTurns.1 [.d (.list (ls.map encL)), .d (.int x), .d (.int y)] = [] from rfl]
  have hn' : (ls.map encL).length ≤ 1000000 := by rw [List.length_map]; omega
  simp (decide := true) only [rTurns, hn', ev_e, ev_t, ev_a, ev_b, evL_nil, evL_cons, evLK1_eq, evLK2_eq, retE_eq, retO_eq, evE_int, evE_str, evE_bool, evE_none, evE_name, nameV_loc, nameV_cell, nameV_free, nameV_unit, nameV_eo, evE_bin, binK1_eq, binK2_eq, binV_add, binV_sub, binV_mul, binV_div, binV_mod, binV_list, binV_tup, evE_neg, negK_eq, evE_if, ifEK_eq, evE_tuple, tupK_eq, evE_list0, evE_list1, list1K_eq, evE_list2, evE_listS, listK_eq, listK1_eq, evE_rev, revK1_eq, revK_eq, evE_slo, sloK1_eq, sloK_eq, evE_sup, supK1_eq, supK_eq, evE_subC, evE_subN, evE_subU, evE_subB, subK1_eq, subK_eq, itemV_list, itemV_tuple, itemV_own, itemOK_eq, itemV_tup, itemV_left, itemV_mixed, retB_eq, cmpVK_eq, evE_cmp, cmpE_ne, neK_eq, cmpE_eq1, cmpE_lt, cmpE_le, cmpE_gt, cmpE_ge, cmpE_is, cmpE_isnot, cmpE_neC, cmpE_neN, cmpE_neT, cmpE_neB, cmpK1_eq, cmpK_eq, cmpE_2, cmp2K1_eq, cmp2K2_eq, cmp2K2b_eq, cmpV_lt, cmpV_le, cmpV_gt, cmpV_ge, cmpV_eqI, cmpV_neI, cmpV_eqS, cmpV_isN, cmpV_isT, cmpV_isnotB, neNil_list, neNil_left, evE_and, andEK_eq, evE_call, callK_eq, retF_eq, callV_own, callV_min, callV_max, callV_lenL, callV_lenT, sumK_eq, callV_sum, callV_tupL, tupOK1_eq, tupOK_eq, callV_tupO, evE_pop, popK1_eq, popK2_eq, compStep_eq, compK1_eq, compK2_eq, compK3_eq, testsE_0, testsE_1, retL_eq, compScope_eq, compK_eq, compV_eq, compVK_eq, evE_comp, rangeK_eq, rangeK1_eq, iterV_range, enumK_eq, iterV_enum, seqIK_list, seqIK_tuple, iterV_name, iterV_subS, iterV_call, boolK_eq, evT_bool, evT_cmp, evT_name, evT_call, allT_and0, allT_or0, allT_and, allT_or, andTK_eq, orTK_eq, storeN_eq, asg_name, asgL_nil, asgL_cons, asgLK_eq, asg_tup_d, asg_tup_v, asg_sub, asgSK1_eq, setOK_eq, asgSK2_own, asgSK2_deck, nextK_eq, stoK_eq, exS_name, stoCK_eq, exS_nameC, tasK_eq, exS_tup, exS_swp2, exS_swp3, swpK2_d, swpK2_v, swpK3_v, storeL_nil, storeL_cons, storeLK_eq, sasK_eq, exS_sub, exS_aug, augK1_eq, augK2_eq, exS_if, ifSK_eq, forStep_eq, forK_eq, exS_for, loopF_nil, loopF_cons, loopK_next, loopK_ret, rtnK_eq, exS_ret, exS_meth, methK1_eq, appK_eq, methK2_app, extK_eq, methK2_ext, exB_nil, exB_cons, seqK_next, seqK_ret, fzK_eq, retFK_eq, layStr_left, layStr_mixed, layStr_m, layStr_l, layStr_z, layStr_w, layStr_e, Option.bind_some, Option.map_some, List.length_cons, List.length_nil, if_true, if_false, Bool.false_eq_true, decide_eq_true_eq, Bool.not_true, Bool.not_false, Bool.not_eq_true, List.map_cons, List.map_nil, List.reverse_cons, List.reverse_nil, List.nil_append, List.cons_append, gt_iff_lt, ge_iff_le, beq_iff_eq, Nat.reduceAdd, ite_self, mkTup, allD, Option.some.injEq, List.all_cons, List.all_nil, Bool.and_true, Bool.true_and, argOk, freeze, Option.isSome_some, decide_true, decide_false, Option.bind_none, Option.map_none, List.getElem?_cons_zero, List.getElem?_cons_succ, blank, encP, encL, getC, Bool.not_eq_true', compL, Option.toList_some, Option.toList_none, List.append_nil, itemL_0, itemL_1, itemL_2, itemL_m1, Int.cast_ofNat_Int, intsOf, List.set_cons_zero, List.set_cons_succ, Int.reduceAdd, Int.reduceSub, Int.reduceNeg, Int.reduceMul, gv_Turns_0, sv_Turns_0, gv_Turns_1, sv_Turns_1, gv_Turns_2, sv_Turns_2, gv_Turns_3, sv_Turns_3, gv_Turns_4, sv_Turns_4, gv_Turns_5, sv_Turns_5, gv_Turns_6, sv_Turns_6, gv_Turns_7, sv_Turns_7, gv_Turns_8, sv_Turns_8, gv_Turns_9, sv_Turns_9]
  rw [loop_rw encL (repT ls x y dk) (fT x y) BdL ls ⟨0, none, none, none, none, none, none⟩ hl]
  · have e1 := fT_w x y ls ⟨0, none, none, none, none, none, none⟩
    simp (decide := true) only [repT, e1, Int.zero_add, ev_e, ev_t, ev_a, ev_b, evL_nil, evL_cons, evLK1_eq, evLK2_eq, retE_eq, retO_eq, evE_int, evE_str, evE_bool, evE_none, evE_name, nameV_loc, nameV_cell, nameV_free, nameV_unit, nameV_eo, evE_bin, binK1_eq, binK2_eq, binV_add, binV_sub, binV_mul, binV_div, binV_mod, binV_list, binV_tup, evE_neg, negK_eq, evE_if, ifEK_eq, evE_tuple, tupK_eq, evE_list0, evE_list1, list1K_eq, evE_list2, evE_listS, listK_eq, listK1_eq, evE_rev, revK1_eq, revK_eq, evE_slo, sloK1_eq, sloK_eq, evE_sup, supK1_eq, supK_eq, evE_subC, evE_subN, evE_subU, evE_subB, subK1_eq, subK_eq, itemV_list, itemV_tuple, itemV_own, itemOK_eq, itemV_tup, itemV_left, itemV_mixed, retB_eq, cmpVK_eq, evE_cmp, cmpE_ne, neK_eq, cmpE_eq1, cmpE_lt, cmpE_le, cmpE_gt, cmpE_ge, cmpE_is, cmpE_isnot, cmpE_neC, cmpE_neN, cmpE_neT, cmpE_neB, cmpK1_eq, cmpK_eq, cmpE_2, cmp2K1_eq, cmp2K2_eq, cmp2K2b_eq, cmpV_lt, cmpV_le, cmpV_gt, cmpV_ge, cmpV_eqI, cmpV_neI, cmpV_eqS, cmpV_isN, cmpV_isT, cmpV_isnotB, neNil_list, neNil_left, evE_and, andEK_eq, evE_call, callK_eq, retF_eq, callV_own, callV_min, callV_max, callV_lenL, callV_lenT, sumK_eq, callV_sum, callV_tupL, tupOK1_eq, tupOK_eq, callV_tupO, evE_pop, popK1_eq, popK2_eq, compStep_eq, compK1_eq, compK2_eq, compK3_eq, testsE_0, testsE_1, retL_eq, compScope_eq, compK_eq, compV_eq, compVK_eq, evE_comp, rangeK_eq, rangeK1_eq, iterV_range, enumK_eq, iterV_enum, seqIK_list, seqIK_tuple, iterV_name, iterV_subS, iterV_call, boolK_eq, evT_bool, evT_cmp, evT_name, evT_call, allT_and0, allT_or0, allT_and, allT_or, andTK_eq, orTK_eq, storeN_eq, asg_name, asgL_nil, asgL_cons, asgLK_eq, asg_tup_d, asg_tup_v, asg_sub, asgSK1_eq, setOK_eq, asgSK2_own, asgSK2_deck, nextK_eq, stoK_eq, exS_name, stoCK_eq, exS_nameC, tasK_eq, exS_tup, exS_swp2, exS_swp3, swpK2_d, swpK2_v, swpK3_v, storeL_nil, storeL_cons, storeLK_eq, sasK_eq, exS_sub, exS_aug, augK1_eq, augK2_eq, exS_if, ifSK_eq, forStep_eq, forK_eq, exS_for, loopF_nil, loopF_cons, loopK_next, loopK_ret, rtnK_eq, exS_ret, exS_meth, methK1_eq, appK_eq, methK2_app, extK_eq, methK2_ext, exB_nil, exB_cons, seqK_next, seqK_ret, fzK_eq, retFK_eq, layStr_left, layStr_mixed, layStr_m, layStr_l, layStr_z, layStr_w, layStr_e, Option.bind_some, Option.map_some, List.length_cons, List.length_nil, if_true, if_false, Bool.false_eq_true, decide_eq_true_eq, Bool.not_true, Bool.not_false, Bool.not_eq_true, List.map_cons, List.map_nil, List.reverse_cons, List.reverse_nil, List.nil_append, List.cons_append, gt_iff_lt, ge_iff_le, beq_iff_eq, Nat.reduceAdd, ite_self, mkTup, allD, Option.some.injEq, List.all_cons, List.all_nil, Bool.and_true, Bool.true_and, argOk, freeze, Option.isSome_some, decide_true, decide_false, Option.bind_none, Option.map_none, List.getElem?_cons_zero, List.getElem?_cons_succ, blank, encP, encL, getC, Bool.not_eq_true', compL, Option.toList_some, Option.toList_none, List.append_nil, itemL_0, itemL_1, itemL_2, itemL_m1, Int.cast_ofNat_Int, intsOf, List.set_cons_zero, List.set_cons_succ, Int.reduceAdd, Int.reduceSub, Int.reduceNeg, Int.reduceMul, gv_Turns_0, sv_Turns_0, gv_Turns_1, sv_Turns_1, gv_Turns_2, sv_Turns_2, gv_Turns_3, sv_Turns_3, gv_Turns_4, sv_Turns_4, gv_Turns_5, sv_Turns_5, gv_Turns_6, sv_Turns_6, gv_Turns_7, sv_Turns_7, gv_Turns_8, sv_Turns_8, gv_Turns_9, sv_Turns_9]
  · intro s l hg
    have hc := fun n dk => cross_f n l x y dk hg hp
    obtain ⟨⟨ax, ay⟩, ⟨bx, b⟩⟩ := l
    simp only [encL, encP] at hc
    have hq : ∀ q : Int, (q == 2) = decide (q = 2) := fun q => rfl
    have hq3 : ∀ q : Int, (q == 3) = decide (q = 3) := fun q => rfl
    unfold repT fT qsL stV
    dsimp only
    by_cases hA : (quarter (bx - x) (b - y) - quarter (ax - x) (ay - y)).fmod 4 = 2
    · by_cases hB : 0 < crossL ((ax, ay), (bx, b)) x y
      · simp (decide := true) only [quarter_f, hc, hA, hB, ev_e, ev_t, ev_a, ev_b, evL_nil, evL_cons, evLK1_eq, evLK2_eq, retE_eq, retO_eq, evE_int, evE_str, evE_bool, evE_none, evE_name, nameV_loc, nameV_cell, nameV_free, nameV_unit, nameV_eo, evE_bin, binK1_eq, binK2_eq, binV_add, binV_sub, binV_mul, binV_div, binV_mod, binV_list, binV_tup, evE_neg, negK_eq, evE_if, ifEK_eq, evE_tuple, tupK_eq, evE_list0, evE_list1, list1K_eq, evE_list2, evE_listS, listK_eq, listK1_eq, evE_rev, revK1_eq, revK_eq, evE_slo, sloK1_eq, sloK_eq, evE_sup, supK1_eq, supK_eq, evE_subC, evE_subN, evE_subU, evE_subB, subK1_eq, subK_eq, itemV_list, itemV_tuple, itemV_own, itemOK_eq, itemV_tup, itemV_left, itemV_mixed, retB_eq, cmpVK_eq, evE_cmp, cmpE_ne, neK_eq, cmpE_eq1, cmpE_lt, cmpE_le, cmpE_gt, cmpE_ge, cmpE_is, cmpE_isnot, cmpE_neC, cmpE_neN, cmpE_neT, cmpE_neB, cmpK1_eq, cmpK_eq, cmpE_2, cmp2K1_eq, cmp2K2_eq, cmp2K2b_eq, cmpV_lt, cmpV_le, cmpV_gt, cmpV_ge, cmpV_eqI, cmpV_neI, cmpV_eqS, cmpV_isN, cmpV_isT, cmpV_isnotB, neNil_list, neNil_left, evE_and, andEK_eq, evE_call, callK_eq, retF_eq, callV_own, callV_min, callV_max, callV_lenL, callV_lenT, sumK_eq, callV_sum, callV_tupL, tupOK1_eq, tupOK_eq, callV_tupO, evE_pop, popK1_eq, popK2_eq, compStep_eq, compK1_eq, compK2_eq, compK3_eq, testsE_0, testsE_1, retL_eq, compScope_eq, compK_eq, compV_eq, compVK_eq, evE_comp, rangeK_eq, rangeK1_eq, iterV_range, enumK_eq, iterV_enum, seqIK_list, seqIK_tuple, iterV_name, iterV_subS, iterV_call, boolK_eq, evT_bool, evT_cmp, evT_name, evT_call, allT_and0, allT_or0, allT_and, allT_or, andTK_eq, orTK_eq, storeN_eq, asg_name, asgL_nil, asgL_cons, asgLK_eq, asg_tup_d, asg_tup_v, asg_sub, asgSK1_eq, setOK_eq, asgSK2_own, asgSK2_deck, nextK_eq, stoK_eq, exS_name, stoCK_eq, exS_nameC, tasK_eq, exS_tup, exS_swp2, exS_swp3, swpK2_d, swpK2_v, swpK3_v, storeL_nil, storeL_cons, storeLK_eq, sasK_eq, exS_sub, exS_aug, augK1_eq, augK2_eq, exS_if, ifSK_eq, forStep_eq, forK_eq, exS_for, loopF_nil, loopF_cons, loopK_next, loopK_ret, rtnK_eq, exS_ret, exS_meth, methK1_eq, appK_eq, methK2_app, extK_eq, methK2_ext, exB_nil, exB_cons, seqK_next, seqK_ret, fzK_eq, retFK_eq, layStr_left, layStr_mixed, layStr_m, layStr_l, layStr_z, layStr_w, layStr_e, Option.bind_some, Option.map_some, List.length_cons, List.length_nil, if_true, if_false, Bool.false_eq_true, decide_eq_true_eq, Bool.not_true, Bool.not_false, Bool.not_eq_true, List.map_cons, List.map_nil, List.reverse_cons, List.reverse_nil, List.nil_append, List.cons_append, gt_iff_lt, ge_iff_le, beq_iff_eq, Nat.reduceAdd, ite_self, mkTup, allD, Option.some.injEq, List.all_cons, List.all_nil, Bool.and_true, Bool.true_and, argOk, freeze, Option.isSome_some, decide_true, decide_false, Option.bind_none, Option.map_none, List.getElem?_cons_zero, List.getElem?_cons_succ, blank, encP, encL, getC, Bool.not_eq_true', compL, Option.toList_some, Option.toList_none, List.append_nil, itemL_0, itemL_1, itemL_2, itemL_m1, Int.cast_ofNat_Int, intsOf, List.set_cons_zero, List.set_cons_succ, Int.reduceAdd, Int.reduceSub, Int.reduceNeg, Int.reduceMul, gv_Turns_0, sv_Turns_0, gv_Turns_1, sv_Turns_1, gv_Turns_2, sv_Turns_2, gv_Turns_3, sv_Turns_3, gv_Turns_4, sv_Turns_4, gv_Turns_5, sv_Turns_5, gv_Turns_6, sv_Turns_6, gv_Turns_7, sv_Turns_7, gv_Turns_8, sv_Turns_8, gv_Turns_9, sv_Turns_9]
      · simp (decide := true) only [quarter_f, hc, hA, hB, ev_e, ev_t, ev_a, ev_b, evL_nil, evL_cons, evLK1_eq, evLK2_eq, retE_eq, retO_eq, evE_int, evE_str, evE_bool, evE_none, evE_name, nameV_loc, nameV_cell, nameV_free, nameV_unit, nameV_eo, evE_bin, binK1_eq, binK2_eq, binV_add, binV_sub, binV_mul, binV_div, binV_mod, binV_list, binV_tup, evE_neg, negK_eq, evE_if, ifEK_eq, evE_tuple, tupK_eq, evE_list0, evE_list1, list1K_eq, evE_list2, evE_listS, listK_eq, listK1_eq, evE_rev, revK1_eq, revK_eq, evE_slo, sloK1_eq, sloK_eq, evE_sup, supK1_eq, supK_eq, evE_subC, evE_subN, evE_subU, evE_subB, subK1_eq, subK_eq, itemV_list, itemV_tuple, itemV_own, itemOK_eq, itemV_tup, itemV_left, itemV_mixed, retB_eq, cmpVK_eq, evE_cmp, cmpE_ne, neK_eq, cmpE_eq1, cmpE_lt, cmpE_le, cmpE_gt, cmpE_ge, cmpE_is, cmpE_isnot, cmpE_neC, cmpE_neN, cmpE_neT, cmpE_neB, cmpK1_eq, cmpK_eq, cmpE_2, cmp2K1_eq, cmp2K2_eq, cmp2K2b_eq, cmpV_lt, cmpV_le, cmpV_gt, cmpV_ge, cmpV_eqI, cmpV_neI, cmpV_eqS, cmpV_isN, cmpV_isT, cmpV_isnotB, neNil_list, neNil_left, evE_and, andEK_eq, evE_call, callK_eq, retF_eq, callV_own, callV_min, callV_max, callV_lenL, callV_lenT, sumK_eq, callV_sum, callV_tupL, tupOK1_eq, tupOK_eq, callV_tupO, evE_pop, popK1_eq, popK2_eq, compStep_eq, compK1_eq, compK2_eq, compK3_eq, testsE_0, testsE_1, retL_eq, compScope_eq, compK_eq, compV_eq, compVK_eq, evE_comp, rangeK_eq, rangeK1_eq, iterV_range, enumK_eq, iterV_enum, seqIK_list, seqIK_tuple, iterV_name, iterV_subS, iterV_call, boolK_eq, evT_bool, evT_cmp, evT_name, evT_call, allT_and0, allT_or0, allT_and, allT_or, andTK_eq, orTK_eq, storeN_eq, asg_name, asgL_nil, asgL_cons, asgLK_eq, asg_tup_d, asg_tup_v, asg_sub, asgSK1_eq, setOK_eq, asgSK2_own, asgSK2_deck, nextK_eq, stoK_eq, exS_name, stoCK_eq, exS_nameC, tasK_eq, exS_tup, exS_swp2, exS_swp3, swpK2_d, swpK2_v, swpK3_v, storeL_nil, storeL_cons, storeLK_eq, sasK_eq, exS_sub, exS_aug, augK1_eq, augK2_eq, exS_if, ifSK_eq, forStep_eq, forK_eq, exS_for, loopF_nil, loopF_cons, loopK_next, loopK_ret, rtnK_eq, exS_ret, exS_meth, methK1_eq, appK_eq, methK2_app, extK_eq, methK2_ext, exB_nil, exB_cons, seqK_next, seqK_ret, fzK_eq, retFK_eq, layStr_left, layStr_mixed, layStr_m, layStr_l, layStr_z, layStr_w, layStr_e, Option.bind_some, Option.map_some, List.length_cons, List.length_nil, if_true, if_false, Bool.false_eq_true, decide_eq_true_eq, Bool.not_true, Bool.not_false, Bool.not_eq_true, List.map_cons, List.map_nil, List.reverse_cons, List.reverse_nil, List.nil_append, List.cons_append, gt_iff_lt, ge_iff_le, beq_iff_eq, Nat.reduceAdd, ite_self, mkTup, allD, Option.some.injEq, List.all_cons, List.all_nil, Bool.and_true, Bool.true_and, argOk, freeze, Option.isSome_some, decide_true, decide_false, Option.bind_none, Option.map_none, List.getElem?_cons_zero, List.getElem?_cons_succ, blank, encP, encL, getC, Bool.not_eq_true', compL, Option.toList_some, Option.toList_none, List.append_nil, itemL_0, itemL_1, itemL_2, itemL_m1, Int.cast_ofNat_Int, intsOf, List.set_cons_zero, List.set_cons_succ, Int.reduceAdd, Int.reduceSub, Int.reduceNeg, Int.reduceMul, gv_Turns_0, sv_Turns_0, gv_Turns_1, sv_Turns_1, gv_Turns_2, sv_Turns_2, gv_Turns_3, sv_Turns_3, gv_Turns_4, sv_Turns_4, gv_Turns_5, sv_Turns_5, gv_Turns_6, sv_Turns_6, gv_Turns_7, sv_Turns_7, gv_Turns_8, sv_Turns_8, gv_Turns_9, sv_Turns_9]
    · by_cases hB : (quarter (bx - x) (b - y) - quarter (ax - x) (ay - y)).fmod 4 = 3
      · simp (decide := true) only [quarter_f, hc, hA, hB, ev_e, ev_t, ev_a, ev_b, evL_nil, evL_cons, evLK1_eq, evLK2_eq, retE_eq, retO_eq, evE_int, evE_str, evE_bool, evE_none, evE_name, nameV_loc, nameV_cell, nameV_free, nameV_unit, nameV_eo, evE_bin, binK1_eq, binK2_eq, binV_add, binV_sub, binV_mul, binV_div, binV_mod, binV_list, binV_tup, evE_neg, negK_eq, evE_if, ifEK_eq, evE_tuple, tupK_eq, evE_list0, evE_list1, list1K_eq, evE_list2, evE_listS, listK_eq, listK1_eq, evE_rev, revK1_eq, revK_eq, evE_slo, sloK1_eq, sloK_eq, evE_sup, supK1_eq, supK_eq, evE_subC, evE_subN, evE_subU, evE_subB, subK1_eq, subK_eq, itemV_list, itemV_tuple, itemV_own, itemOK_eq, itemV_tup, itemV_left, itemV_mixed, retB_eq, cmpVK_eq, evE_cmp, cmpE_ne, neK_eq, cmpE_eq1, cmpE_lt, cmpE_le, cmpE_gt, cmpE_ge, cmpE_is, cmpE_isnot, cmpE_neC, cmpE_neN, cmpE_neT, cmpE_neB, cmpK1_eq, cmpK_eq, cmpE_2, cmp2K1_eq, cmp2K2_eq, cmp2K2b_eq, cmpV_lt, cmpV_le, cmpV_gt, cmpV_ge, cmpV_eqI, cmpV_neI, cmpV_eqS, cmpV_isN, cmpV_isT, cmpV_isnotB, neNil_list, neNil_left, evE_and, andEK_eq, evE_call, callK_eq, retF_eq, callV_own, callV_min, callV_max, callV_lenL, callV_lenT, sumK_eq, callV_sum, callV_tupL, tupOK1_eq, tupOK_eq, callV_tupO, evE_pop, popK1_eq, popK2_eq, compStep_eq, compK1_eq, compK2_eq, compK3_eq, testsE_0, testsE_1, retL_eq, compScope_eq, compK_eq, compV_eq, compVK_eq, evE_comp, rangeK_eq, rangeK1_eq, iterV_range, enumK_eq, iterV_enum, seqIK_list, seqIK_tuple, iterV_name, iterV_subS, iterV_call, boolK_eq, evT_bool, evT_cmp, evT_name, evT_call, allT_and0, allT_or0, allT_and, allT_or, andTK_eq, orTK_eq, storeN_eq, asg_name, asgL_nil, asgL_cons, asgLK_eq, asg_tup_d, asg_tup_v, asg_sub, asgSK1_eq, setOK_eq, asgSK2_own, asgSK2_deck, nextK_eq, stoK_eq, exS_name, stoCK_eq, exS_nameC, tasK_eq, exS_tup, exS_swp2, exS_swp3, swpK2_d, swpK2_v, swpK3_v, storeL_nil, storeL_cons, storeLK_eq, sasK_eq, exS_sub, exS_aug, augK1_eq, augK2_eq, exS_if, ifSK_eq, forStep_eq, forK_eq, exS_for, loopF_nil, loopF_cons, loopK_next, loopK_ret, rtnK_eq, exS_ret, exS_meth, methK1_eq, appK_eq, methK2_app, extK_eq, methK2_ext, exB_nil, exB_cons, seqK_next, seqK_ret, fzK_eq, retFK_eq, layStr_left, layStr_mixed, layStr_m, layStr_l, layStr_z, layStr_w, layStr_e, Option.bind_some, Option.map_some, List.length_cons, List.length_nil, if_true, if_false, Bool.false_eq_true, decide_eq_true_eq, Bool.not_true, Bool.not_false, Bool.not_eq_true, List.map_cons, List.map_nil, List.reverse_cons, List.reverse_nil, List.nil_append, List.cons_append, gt_iff_lt, ge_iff_le, beq_iff_eq, Nat.reduceAdd, ite_self, mkTup, allD, Option.some.injEq, List.all_cons, List.all_nil, Bool.and_true, Bool.true_and, argOk, freeze, Option.isSome_some, decide_true, decide_false, Option.bind_none, Option.map_none, List.getElem?_cons_zero, List.getElem?_cons_succ, blank, encP, encL, getC, Bool.not_eq_true', compL, Option.toList_some, Option.toList_none, List.append_nil, itemL_0, itemL_1, itemL_2, itemL_m1, Int.cast_ofNat_Int, intsOf, List.set_cons_zero, List.set_cons_succ, Int.reduceAdd, Int.reduceSub, Int.reduceNeg, Int.reduceMul, gv_Turns_0, sv_Turns_0, gv_Turns_1, sv_Turns_1, gv_Turns_2, sv_Turns_2, gv_Turns_3, sv_Turns_3, gv_Turns_4, sv_Turns_4, gv_Turns_5, sv_Turns_5, gv_Turns_6, sv_Turns_6, gv_Turns_7, sv_Turns_7, gv_Turns_8, sv_Turns_8, gv_Turns_9, sv_Turns_9]
      · simp (decide := true) only [quarter_f, hc, hA, hB, ev_e, ev_t, ev_a, ev_b, evL_nil, evL_cons, evLK1_eq, evLK2_eq, retE_eq, retO_eq, evE_int, evE_str, evE_bool, evE_none, evE_name, nameV_loc, nameV_cell, nameV_free, nameV_unit, nameV_eo, evE_bin, binK1_eq, binK2_eq, binV_add, binV_sub, binV_mul, binV_div, binV_mod, binV_list, binV_tup, evE_neg, negK_eq, evE_if, ifEK_eq, evE_tuple, tupK_eq, evE_list0, evE_list1, list1K_eq, evE_list2, evE_listS, listK_eq, listK1_eq, evE_rev, revK1_eq, revK_eq, evE_slo, sloK1_eq, sloK_eq, evE_sup, supK1_eq, supK_eq, evE_subC, evE_subN, evE_subU, evE_subB, subK1_eq, subK_eq, itemV_list, itemV_tuple, itemV_own, itemOK_eq, itemV_tup, itemV_left, itemV_mixed, retB_eq, cmpVK_eq, evE_cmp, cmpE_ne, neK_eq, cmpE_eq1, cmpE_lt, cmpE_le, cmpE_gt, cmpE_ge, cmpE_is, cmpE_isnot, cmpE_neC, cmpE_neN, cmpE_neT, cmpE_neB, cmpK1_eq, cmpK_eq, cmpE_2, cmp2K1_eq, cmp2K2_eq, cmp2K2b_eq, cmpV_lt, cmpV_le, cmpV_gt, cmpV_ge, cmpV_eqI, cmpV_neI, cmpV_eqS, cmpV_isN, cmpV_isT, cmpV_isnotB, neNil_list, neNil_left, evE_and, andEK_eq, evE_call, callK_eq, retF_eq, callV_own, callV_min, callV_max, callV_lenL, callV_lenT, sumK_eq, callV_sum, callV_tupL, tupOK1_eq, tupOK_eq, callV_tupO, evE_pop, popK1_eq, popK2_eq, compStep_eq, compK1_eq, compK2_eq, compK3_eq, testsE_0, testsE_1, retL_eq, compScope_eq, compK_eq, compV_eq, compVK_eq, evE_comp, rangeK_eq, rangeK1_eq, iterV_range, enumK_eq, iterV_enum, seqIK_list, seqIK_tuple, iterV_name, iterV_subS, iterV_call, boolK_eq, evT_bool, evT_cmp, evT_name, evT_call, allT_and0, allT_or0, allT_and, allT_or, andTK_eq, orTK_eq, storeN_eq, asg_name, asgL_nil, asgL_cons, asgLK_eq, asg_tup_d, asg_tup_v, asg_sub, asgSK1_eq, setOK_eq, asgSK2_own, asgSK2_deck, nextK_eq, stoK_eq, exS_name, stoCK_eq, exS_nameC, tasK_eq, exS_tup, exS_swp2, exS_swp3, swpK2_d, swpK2_v, swpK3_v, storeL_nil, storeL_cons, storeLK_eq, sasK_eq, exS_sub, exS_aug, augK1_eq, augK2_eq, exS_if, ifSK_eq, forStep_eq, forK_eq, exS_for, loopF_nil, loopF_cons, loopK_next, loopK_ret, rtnK_eq, exS_ret, exS_meth, methK1_eq, appK_eq, methK2_app, extK_eq, methK2_ext, exB_nil, exB_cons, seqK_next, seqK_ret, fzK_eq, retFK_eq, layStr_left, layStr_mixed, layStr_m, layStr_l, layStr_z, layStr_w, layStr_e, Option.bind_some, Option.map_some, List.length_cons, List.length_nil, if_true, if_false, Bool.false_eq_true, decide_eq_true_eq, Bool.not_true, Bool.not_false, Bool.not_eq_true, List.map_cons, List.map_nil, List.reverse_cons, List.reverse_nil, List.nil_append, List.cons_append, gt_iff_lt, ge_iff_le, beq_iff_eq, Nat.reduceAdd, ite_self, mkTup, allD, Option.some.injEq, List.all_cons, List.all_nil, Bool.and_true, Bool.true_and, argOk, freeze, Option.isSome_some, decide_true, decide_false, Option.bind_none, Option.map_none, List.getElem?_cons_zero, List.getElem?_cons_succ, blank, encP, encL, getC, Bool.not_eq_true', compL, Option.toList_some, Option.toList_none, List.append_nil, itemL_0, itemL_1, itemL_2, itemL_m1, Int.cast_ofNat_Int, intsOf, List.set_cons_zero, List.set_cons_succ, Int.reduceAdd, Int.reduceSub, Int.reduceNeg, Int.reduceMul, gv_Turns_0, sv_Turns_0, gv_Turns_1, sv_Turns_1, gv_Turns_2, sv_Turns_2, gv_Turns_3, sv_Turns_3, gv_Turns_4, sv_Turns_4, gv_Turns_5, sv_Turns_5, gv_Turns_6, sv_Turns_6, gv_Turns_7, sv_Turns_7, gv_Turns_8, sv_Turns_8, gv_Turns_9, sv_Turns_9]

end Mine
namespace Mine
open PySem PySem.W PyProof.Rows PySem.Calls
set_option maxRecDepth 100000

theorem compL_rw {α : Type} {step : PyData → Option (Option PyData)} (enc : α → PyData) (g : α → Option PyData) (good : α → Prop) (l : List α) (hg : ∀ a ∈ l, good a)
    (h : ∀ a, good a → step (enc a) = some (g a)) : compL step (l.map enc) = some (l.filterMap g) := by
  induction l with
  | nil => rfl
  | cons a l ih =>
    rw [List.map_cons, compL, h a (hg a (List.mem_cons_self ..)), Option.bind_some, ih (fun b hb => hg b (List.mem_cons_of_mem _ hb)), Option.bind_some, List.filterMap_cons]
    cases g a <;> rfl
noncomputable def onG (x y : Int) (l : Pt × Pt) : Option PyData := if isOnL l x y = true then some (encL l) else none
theorem onList_empty (ls : List (Pt × Pt)) (x y : Int) : (ls.filterMap (onG x y)).isEmpty = !ls.any (isOnL · x y) := by
  unfold onG
  induction ls with
  | nil => rfl
  | cons a l ih =>
    rw [List.filterMap_cons, List.any_cons]
    cases h : isOnL a x y
    · simpa using ih
    · simp

noncomputable def insL (ls : List (Pt × Pt)) (x y : Int) : Bool × Bool := if ls.any (isOnL · x y) = true then (true, true) else
  (!((ls.map (qsL · x y)).sum.fdiv 4 == 0), ((ls.map (qsL · x y)).sum.fdiv 4).fmod 2 == 1)
noncomputable def encB (b : Bool × Bool) : PyData := .list [.bool b.1, .bool b.2]
theorem gv_Ins_0 (a0 a1 : Option V) : getV [(Str.ofString "lines", a0), (Str.ofString "turns", a1)] (Str.ofString "lines") = a0 := rfl
theorem sv_Ins_0 (a0 a1 : Option V) (v : V) : setV [(Str.ofString "lines", a0), (Str.ofString "turns", a1)] (Str.ofString "lines") v = [(Str.ofString "lines", some v), (Str.ofString "turns", a1)] := rfl
theorem gv_Ins_1 (a0 a1 : Option V) : getV [(Str.ofString "lines", a0), (Str.ofString "turns", a1)] (Str.ofString "turns") = a1 := rfl
theorem sv_Ins_1 (a0 a1 : Option V) (v : V) : setV [(Str.ofString "lines", a0), (Str.ofString "turns", a1)] (Str.ofString "turns") v = [(Str.ofString "lines", a0), (Str.ofString "turns", some v)] := rfl
noncomputable def rIns : {d : DefRec // fnRec (Str.ofString "_law_inside") = some d} := ⟨_, rfl⟩
theorem ins_f (n : Nat) (ls : List (Pt × Pt)) (x y : Int) (dk : Dk) (hl : ∀ l ∈ ls, BdL l) (hp : Bd (x, y)) (hn : ls.length ≤ 1000) :
    (ev (n+36)).f (Str.ofString "_law_inside") [.d (.list (ls.map encL)), .d (.int x), .d (.int y)] dk = some (.d (encB (insL ls x y)), dk) := by
  rw [ev_f, callF_eq _ _ _ rIns.2 (by decide +kernel) rfl rfl, show initV rIns.1 [.d (.list (ls.map encL)), .d (.int x), .d (.int y)] = [(Str.ofString "lines", some (.d (.list (ls.map encL)))), (Str.ofString "turns", none)] from rfl, show initC rIns.1 [.d (.list (ls.map encL)), .d (.int x), .d (.int y)] = [(Str.ofString "x", (.int x)), (Str.ofString "y", (.int y))] from rfl]
  have hn' : (ls.map encL).length ≤ 1000000 := by rw [List.length_map]; omega
  have ht := fun n dk => turns_f n ls x y dk hl hp hn
  simp (decide := true) only [rIns, hn', ev_e, ev_t, ev_a, ev_b, evL_nil, evL_cons, evLK1_eq, evLK2_eq, retE_eq, retO_eq, evE_int, evE_str, evE_bool, evE_none, evE_name, nameV_loc, nameV_cell, nameV_free, nameV_unit, nameV_eo, evE_bin, binK1_eq, binK2_eq, binV_add, binV_sub, binV_mul, binV_div, binV_mod, binV_list, binV_tup, evE_neg, negK_eq, evE_if, ifEK_eq, evE_tuple, tupK_eq, evE_list0, evE_list1, list1K_eq, evE_list2, evE_listS, listK_eq, listK1_eq, evE_rev, revK1_eq, revK_eq, evE_slo, sloK1_eq, sloK_eq, evE_sup, supK1_eq, supK_eq, evE_subC, evE_subN, evE_subU, evE_subB, subK1_eq, subK_eq, itemV_list, itemV_tuple, itemV_own, itemOK_eq, itemV_tup, itemV_left, itemV_mixed, retB_eq, cmpVK_eq, evE_cmp, cmpE_ne, neK_eq, cmpE_eq1, cmpE_lt, cmpE_le, cmpE_gt, cmpE_ge, cmpE_is, cmpE_isnot, cmpE_neC, cmpE_neN, cmpE_neT, cmpE_neB, cmpK1_eq, cmpK_eq, cmpE_2, cmp2K1_eq, cmp2K2_eq, cmp2K2b_eq, cmpV_lt, cmpV_le, cmpV_gt, cmpV_ge, cmpV_eqI, cmpV_neI, cmpV_eqS, cmpV_isN, cmpV_isT, cmpV_isnotB, neNil_list, neNil_left, evE_and, andEK_eq, evE_call, callK_eq, retF_eq, callV_own, callV_min, callV_max, callV_lenL, callV_lenT, sumK_eq, callV_sum, callV_tupL, tupOK1_eq, tupOK_eq, callV_tupO, evE_pop, popK1_eq, popK2_eq, compStep_eq, compK1_eq, compK2_eq, compK3_eq, testsE_0, testsE_1, retL_eq, compScope_eq, compK_eq, compV_eq, compVK_eq, evE_comp, rangeK_eq, rangeK1_eq, iterV_range, enumK_eq, iterV_enum, seqIK_list, seqIK_tuple, iterV_name, iterV_subS, iterV_call, boolK_eq, evT_bool, evT_cmp, evT_name, evT_call, allT_and0, allT_or0, allT_and, allT_or, andTK_eq, orTK_eq, storeN_eq, asg_name, asgL_nil, asgL_cons, asgLK_eq, asg_tup_d, asg_tup_v, asg_sub, asgSK1_eq, setOK_eq, asgSK2_own, asgSK2_deck, nextK_eq, stoK_eq, exS_name, stoCK_eq, exS_nameC, tasK_eq, exS_tup, exS_swp2, exS_swp3, swpK2_d, swpK2_v, swpK3_v, storeL_nil, storeL_cons, storeLK_eq, sasK_eq, exS_sub, exS_aug, augK1_eq, augK2_eq, exS_if, ifSK_eq, forStep_eq, forK_eq, exS_for, loopF_nil, loopF_cons, loopK_next, loopK_ret, rtnK_eq, exS_ret, exS_meth, methK1_eq, appK_eq, methK2_app, extK_eq, methK2_ext, exB_nil, exB_cons, seqK_next, seqK_ret, fzK_eq, retFK_eq, layStr_left, layStr_mixed, layStr_m, layStr_l, layStr_z, layStr_w, layStr_e, Option.bind_some, Option.map_some, List.length_cons, List.length_nil, if_true, if_false, Bool.false_eq_true, decide_eq_true_eq, Bool.not_true, Bool.not_false, Bool.not_eq_true, List.map_cons, List.map_nil, List.reverse_cons, List.reverse_nil, List.nil_append, List.cons_append, gt_iff_lt, ge_iff_le, beq_iff_eq, Nat.reduceAdd, ite_self, mkTup, allD, Option.some.injEq, List.all_cons, List.all_nil, Bool.and_true, Bool.true_and, argOk, freeze, Option.isSome_some, decide_true, decide_false, Option.bind_none, Option.map_none, List.getElem?_cons_zero, List.getElem?_cons_succ, blank, encP, encL, getC, Bool.not_eq_true', compL, Option.toList_some, Option.toList_none, List.append_nil, itemL_0, itemL_1, itemL_2, itemL_m1, Int.cast_ofNat_Int, intsOf, List.set_cons_zero, List.set_cons_succ, Int.reduceAdd, Int.reduceSub, Int.reduceNeg, Int.reduceMul, gv_Ins_0, sv_Ins_0, gv_Ins_1, sv_Ins_1]
  rw [compL_rw encL (onG x y) BdL ls hl]
  · unfold insL encB
    cases ha : ls.any (isOnL · x y)
    · simp (decide := true) only [onList_empty, ha, ht, ne_eq, not_false_eq_true, ev_e, ev_t, ev_a, ev_b, evL_nil, evL_cons, evLK1_eq, evLK2_eq, retE_eq, retO_eq, evE_int, evE_str, evE_bool, evE_none, evE_name, nameV_loc, nameV_cell, nameV_free, nameV_unit, nameV_eo, evE_bin, binK1_eq, binK2_eq, binV_add, binV_sub, binV_mul, binV_div, binV_mod, binV_list, binV_tup, evE_neg, negK_eq, evE_if, ifEK_eq, evE_tuple, tupK_eq, evE_list0, evE_list1, list1K_eq, evE_list2, evE_listS, listK_eq, listK1_eq, evE_rev, revK1_eq, revK_eq, evE_slo, sloK1_eq, sloK_eq, evE_sup, supK1_eq, supK_eq, evE_subC, evE_subN, evE_subU, evE_subB, subK1_eq, subK_eq, itemV_list, itemV_tuple, itemV_own, itemOK_eq, itemV_tup, itemV_left, itemV_mixed, retB_eq, cmpVK_eq, evE_cmp, cmpE_ne, neK_eq, cmpE_eq1, cmpE_lt, cmpE_le, cmpE_gt, cmpE_ge, cmpE_is, cmpE_isnot, cmpE_neC, cmpE_neN, cmpE_neT, cmpE_neB, cmpK1_eq, cmpK_eq, cmpE_2, cmp2K1_eq, cmp2K2_eq, cmp2K2b_eq, cmpV_lt, cmpV_le, cmpV_gt, cmpV_ge, cmpV_eqI, cmpV_neI, cmpV_eqS, cmpV_isN, cmpV_isT, cmpV_isnotB, neNil_list, neNil_left, evE_and, andEK_eq, evE_call, callK_eq, retF_eq, callV_own, callV_min, callV_max, callV_lenL, callV_lenT, sumK_eq, callV_sum, callV_tupL, tupOK1_eq, tupOK_eq, callV_tupO, evE_pop, popK1_eq, popK2_eq, compStep_eq, compK1_eq, compK2_eq, compK3_eq, testsE_0, testsE_1, retL_eq, compScope_eq, compK_eq, compV_eq, compVK_eq, evE_comp, rangeK_eq, rangeK1_eq, iterV_range, enumK_eq, iterV_enum, seqIK_list, seqIK_tuple, iterV_name, iterV_subS, iterV_call, boolK_eq, evT_bool, evT_cmp, evT_name, evT_call, allT_and0, allT_or0, allT_and, allT_or, andTK_eq, orTK_eq, storeN_eq, asg_name, asgL_nil, asgL_cons, asgLK_eq, asg_tup_d, asg_tup_v, asg_sub, asgSK1_eq, setOK_eq, asgSK2_own, asgSK2_deck, nextK_eq, stoK_eq, exS_name, stoCK_eq, exS_nameC, tasK_eq, exS_tup, exS_swp2, exS_swp3, swpK2_d, swpK2_v, swpK3_v, storeL_nil, storeL_cons, storeLK_eq, sasK_eq, exS_sub, exS_aug, augK1_eq, augK2_eq, exS_if, ifSK_eq, forStep_eq, forK_eq, exS_for, loopF_nil, loopF_cons, loopK_next, loopK_ret, rtnK_eq, exS_ret, exS_meth, methK1_eq, appK_eq, methK2_app, extK_eq, methK2_ext, exB_nil, exB_cons, seqK_next, seqK_ret, fzK_eq, retFK_eq, layStr_left, layStr_mixed, layStr_m, layStr_l, layStr_z, layStr_w, layStr_e, Option.bind_some, Option.map_some, List.length_cons, List.length_nil, if_true, if_false, Bool.false_eq_true, decide_eq_true_eq, Bool.not_true, Bool.not_false, Bool.not_eq_true, List.map_cons, List.map_nil, List.reverse_cons, List.reverse_nil, List.nil_append, List.cons_append, gt_iff_lt, ge_iff_le, beq_iff_eq, Nat.reduceAdd, ite_self, mkTup, allD, Option.some.injEq, List.all_cons, List.all_nil, Bool.and_true, Bool.true_and, argOk, freeze, Option.isSome_some, decide_true, decide_false, Option.bind_none, Option.map_none, List.getElem?_cons_zero, List.getElem?_cons_succ, blank, encP, encL, getC, Bool.not_eq_true', compL, Option.toList_some, Option.toList_none, List.append_nil, itemL_0, itemL_1, itemL_2, itemL_m1, Int.cast_ofNat_Int, intsOf, List.set_cons_zero, List.set_cons_succ, Int.reduceAdd, Int.reduceSub, Int.reduceNeg, Int.reduceMul, gv_Ins_0, sv_Ins_0, gv_Ins_1, sv_Ins_1]
    · simp (decide := true) only [onList_empty, ha, ht, ev_e, ev_t, ev_a, ev_b, evL_nil, evL_cons, evLK1_eq, evLK2_eq, retE_eq, retO_eq, evE_int, evE_str, evE_bool, evE_none, evE_name, nameV_loc, nameV_cell, nameV_free, nameV_unit, nameV_eo, evE_bin, binK1_eq, binK2_eq, binV_add, binV_sub, binV_mul, binV_div, binV_mod, binV_list, binV_tup, evE_neg, negK_eq, evE_if, ifEK_eq, evE_tuple, tupK_eq, evE_list0, evE_list1, list1K_eq, evE_list2, evE_listS, listK_eq, listK1_eq, evE_rev, revK1_eq, revK_eq, evE_slo, sloK1_eq, sloK_eq, evE_sup, supK1_eq, supK_eq, evE_subC, evE_subN, evE_subU, evE_subB, subK1_eq, subK_eq, itemV_list, itemV_tuple, itemV_own, itemOK_eq, itemV_tup, itemV_left, itemV_mixed, retB_eq, cmpVK_eq, evE_cmp, cmpE_ne, neK_eq, cmpE_eq1, cmpE_lt, cmpE_le, cmpE_gt, cmpE_ge, cmpE_is, cmpE_isnot, cmpE_neC, cmpE_neN, cmpE_neT, cmpE_neB, cmpK1_eq, cmpK_eq, cmpE_2, cmp2K1_eq, cmp2K2_eq, cmp2K2b_eq, cmpV_lt, cmpV_le, cmpV_gt, cmpV_ge, cmpV_eqI, cmpV_neI, cmpV_eqS, cmpV_isN, cmpV_isT, cmpV_isnotB, neNil_list, neNil_left, evE_and, andEK_eq, evE_call, callK_eq, retF_eq, callV_own, callV_min, callV_max, callV_lenL, callV_lenT, sumK_eq, callV_sum, callV_tupL, tupOK1_eq, tupOK_eq, callV_tupO, evE_pop, popK1_eq, popK2_eq, compStep_eq, compK1_eq, compK2_eq, compK3_eq, testsE_0, testsE_1, retL_eq, compScope_eq, compK_eq, compV_eq, compVK_eq, evE_comp, rangeK_eq, rangeK1_eq, iterV_range, enumK_eq, iterV_enum, seqIK_list, seqIK_tuple, iterV_name, iterV_subS, iterV_call, boolK_eq, evT_bool, evT_cmp, evT_name, evT_call, allT_and0, allT_or0, allT_and, allT_or, andTK_eq, orTK_eq, storeN_eq, asg_name, asgL_nil, asgL_cons, asgLK_eq, asg_tup_d, asg_tup_v, asg_sub, asgSK1_eq, setOK_eq, asgSK2_own, asgSK2_deck, nextK_eq, stoK_eq, exS_name, stoCK_eq, exS_nameC, tasK_eq, exS_tup, exS_swp2, exS_swp3, swpK2_d, swpK2_v, swpK3_v, storeL_nil, storeL_cons, storeLK_eq, sasK_eq, exS_sub, exS_aug, augK1_eq, augK2_eq, exS_if, ifSK_eq, forStep_eq, forK_eq, exS_for, loopF_nil, loopF_cons, loopK_next, loopK_ret, rtnK_eq, exS_ret, exS_meth, methK1_eq, appK_eq, methK2_app, extK_eq, methK2_ext, exB_nil, exB_cons, seqK_next, seqK_ret, fzK_eq, retFK_eq, layStr_left, layStr_mixed, layStr_m, layStr_l, layStr_z, layStr_w, layStr_e, Option.bind_some, Option.map_some, List.length_cons, List.length_nil, if_true, if_false, Bool.false_eq_true, decide_eq_true_eq, Bool.not_true, Bool.not_false, Bool.not_eq_true, List.map_cons, List.map_nil, List.reverse_cons, List.reverse_nil, List.nil_append, List.cons_append, gt_iff_lt, ge_iff_le, beq_iff_eq, Nat.reduceAdd, ite_self, mkTup, allD, Option.some.injEq, List.all_cons, List.all_nil, Bool.and_true, Bool.true_and, argOk, freeze, Option.isSome_some, decide_true, decide_false, Option.bind_none, Option.map_none, List.getElem?_cons_zero, List.getElem?_cons_succ, blank, encP, encL, getC, Bool.not_eq_true', compL, Option.toList_some, Option.toList_none, List.append_nil, itemL_0, itemL_1, itemL_2, itemL_m1, Int.cast_ofNat_Int, intsOf, List.set_cons_zero, List.set_cons_succ, Int.reduceAdd, Int.reduceSub, Int.reduceNeg, Int.reduceMul, gv_Ins_0, sv_Ins_0, gv_Ins_1, sv_Ins_1]
  · intro l hg
    have hc := fun n dk => lawOn_f n l x y dk hg hp
    obtain ⟨⟨ax, ay⟩, ⟨bx, b⟩⟩ := l
    simp only [encL, encP] at hc
    cases ha : isOnL ((ax, ay), (bx, b)) x y
    · simp (decide := true) only [onG, ha, hc, ev_e, ev_t, ev_a, ev_b, evL_nil, evL_cons, evLK1_eq, evLK2_eq, retE_eq, retO_eq, evE_int, evE_str, evE_bool, evE_none, evE_name, nameV_loc, nameV_cell, nameV_free, nameV_unit, nameV_eo, evE_bin, binK1_eq, binK2_eq, binV_add, binV_sub, binV_mul, binV_div, binV_mod, binV_list, binV_tup, evE_neg, negK_eq, evE_if, ifEK_eq, evE_tuple, tupK_eq, evE_list0, evE_list1, list1K_eq, evE_list2, evE_listS, listK_eq, listK1_eq, evE_rev, revK1_eq, revK_eq, evE_slo, sloK1_eq, sloK_eq, evE_sup, supK1_eq, supK_eq, evE_subC, evE_subN, evE_subU, evE_subB, subK1_eq, subK_eq, itemV_list, itemV_tuple, itemV_own, itemOK_eq, itemV_tup, itemV_left, itemV_mixed, retB_eq, cmpVK_eq, evE_cmp, cmpE_ne, neK_eq, cmpE_eq1, cmpE_lt, cmpE_le, cmpE_gt, cmpE_ge, cmpE_is, cmpE_isnot, cmpE_neC, cmpE_neN, cmpE_neT, cmpE_neB, cmpK1_eq, cmpK_eq, cmpE_2, cmp2K1_eq, cmp2K2_eq, cmp2K2b_eq, cmpV_lt, cmpV_le, cmpV_gt, cmpV_ge, cmpV_eqI, cmpV_neI, cmpV_eqS, cmpV_isN, cmpV_isT, cmpV_isnotB, neNil_list, neNil_left, evE_and, andEK_eq, evE_call, callK_eq, retF_eq, callV_own, callV_min, callV_max, callV_lenL, callV_lenT, sumK_eq, callV_sum, callV_tupL, tupOK1_eq, tupOK_eq, callV_tupO, evE_pop, popK1_eq, popK2_eq, compStep_eq, compK1_eq, compK2_eq, compK3_eq, testsE_0, testsE_1, retL_eq, compScope_eq, compK_eq, compV_eq, compVK_eq, evE_comp, rangeK_eq, rangeK1_eq, iterV_range, enumK_eq, iterV_enum, seqIK_list, seqIK_tuple, iterV_name, iterV_subS, iterV_call, boolK_eq, evT_bool, evT_cmp, evT_name, evT_call, allT_and0, allT_or0, allT_and, allT_or, andTK_eq, orTK_eq, storeN_eq, asg_name, asgL_nil, asgL_cons, asgLK_eq, asg_tup_d, asg_tup_v, asg_sub, asgSK1_eq, setOK_eq, asgSK2_own, asgSK2_deck, nextK_eq, stoK_eq, exS_name, stoCK_eq, exS_nameC, tasK_eq, exS_tup, exS_swp2, exS_swp3, swpK2_d, swpK2_v, swpK3_v, storeL_nil, storeL_cons, storeLK_eq, sasK_eq, exS_sub, exS_aug, augK1_eq, augK2_eq, exS_if, ifSK_eq, forStep_eq, forK_eq, exS_for, loopF_nil, loopF_cons, loopK_next, loopK_ret, rtnK_eq, exS_ret, exS_meth, methK1_eq, appK_eq, methK2_app, extK_eq, methK2_ext, exB_nil, exB_cons, seqK_next, seqK_ret, fzK_eq, retFK_eq, layStr_left, layStr_mixed, layStr_m, layStr_l, layStr_z, layStr_w, layStr_e, getV, setV, Option.bind_some, Option.map_some, List.length_cons, List.length_nil, if_true, if_false, Bool.false_eq_true, decide_eq_true_eq, Bool.not_true, Bool.not_false, Bool.not_eq_true, List.map_cons, List.map_nil, List.reverse_cons, List.reverse_nil, List.nil_append, List.cons_append, gt_iff_lt, ge_iff_le, beq_iff_eq, Nat.reduceAdd, ite_self, mkTup, allD, Option.some.injEq, List.all_cons, List.all_nil, Bool.and_true, Bool.true_and, argOk, freeze, Option.isSome_some, decide_true, decide_false, Option.bind_none, Option.map_none, List.getElem?_cons_zero, List.getElem?_cons_succ, blank, encP, encL, getC, Bool.not_eq_true', compL, Option.toList_some, Option.toList_none, List.append_nil, itemL_0, itemL_1, itemL_2, itemL_m1, Int.cast_ofNat_Int, intsOf, List.set_cons_zero, List.set_cons_succ, Int.reduceAdd, Int.reduceSub, Int.reduceNeg, Int.reduceMul]
    · simp (decide := true) only [onG, ha, hc, ev_e, ev_t, ev_a, ev_b, evL_nil, evL_cons, evLK1_eq, evLK2_eq, retE_eq, retO_eq, evE_int, evE_str, evE_bool, evE_none, evE_name, nameV_loc, nameV_cell, nameV_free, nameV_unit, nameV_eo, evE_bin, binK1_eq, binK2_eq, binV_add, binV_sub, binV_mul, binV_div, binV_mod, binV_list, binV_tup, evE_neg, negK_eq, evE_if, ifEK_eq, evE_tuple, tupK_eq, evE_list0, evE_list1, list1K_eq, evE_list2, evE_listS, listK_eq, listK1_eq, evE_rev, revK1_eq, revK_eq, evE_slo, sloK1_eq, sloK_eq, evE_sup, supK1_eq, supK_eq, evE_subC, evE_subN, evE_subU, evE_subB, subK1_eq, subK_eq, itemV_list, itemV_tuple, itemV_own, itemOK_eq, itemV_tup, itemV_left, itemV_mixed, retB_eq, cmpVK_eq, evE_cmp, cmpE_ne, neK_eq, cmpE_eq1, cmpE_lt, cmpE_le, cmpE_gt, cmpE_ge, cmpE_is, cmpE_isnot, cmpE_neC, cmpE_neN, cmpE_neT, cmpE_neB, cmpK1_eq, cmpK_eq, cmpE_2, cmp2K1_eq, cmp2K2_eq, cmp2K2b_eq, cmpV_lt, cmpV_le, cmpV_gt, cmpV_ge, cmpV_eqI, cmpV_neI, cmpV_eqS, cmpV_isN, cmpV_isT, cmpV_isnotB, neNil_list, neNil_left, evE_and, andEK_eq, evE_call, callK_eq, retF_eq, callV_own, callV_min, callV_max, callV_lenL, callV_lenT, sumK_eq, callV_sum, callV_tupL, tupOK1_eq, tupOK_eq, callV_tupO, evE_pop, popK1_eq, popK2_eq, compStep_eq, compK1_eq, compK2_eq, compK3_eq, testsE_0, testsE_1, retL_eq, compScope_eq, compK_eq, compV_eq, compVK_eq, evE_comp, rangeK_eq, rangeK1_eq, iterV_range, enumK_eq, iterV_enum, seqIK_list, seqIK_tuple, iterV_name, iterV_subS, iterV_call, boolK_eq, evT_bool, evT_cmp, evT_name, evT_call, allT_and0, allT_or0, allT_and, allT_or, andTK_eq, orTK_eq, storeN_eq, asg_name, asgL_nil, asgL_cons, asgLK_eq, asg_tup_d, asg_tup_v, asg_sub, asgSK1_eq, setOK_eq, asgSK2_own, asgSK2_deck, nextK_eq, stoK_eq, exS_name, stoCK_eq, exS_nameC, tasK_eq, exS_tup, exS_swp2, exS_swp3, swpK2_d, swpK2_v, swpK3_v, storeL_nil, storeL_cons, storeLK_eq, sasK_eq, exS_sub, exS_aug, augK1_eq, augK2_eq, exS_if, ifSK_eq, forStep_eq, forK_eq, exS_for, loopF_nil, loopF_cons, loopK_next, loopK_ret, rtnK_eq, exS_ret, exS_meth, methK1_eq, appK_eq, methK2_app, extK_eq, methK2_ext, exB_nil, exB_cons, seqK_next, seqK_ret, fzK_eq, retFK_eq, layStr_left, layStr_mixed, layStr_m, layStr_l, layStr_z, layStr_w, layStr_e, getV, setV, Option.bind_some, Option.map_some, List.length_cons, List.length_nil, if_true, if_false, Bool.false_eq_true, decide_eq_true_eq, Bool.not_true, Bool.not_false, Bool.not_eq_true, List.map_cons, List.map_nil, List.reverse_cons, List.reverse_nil, List.nil_append, List.cons_append, gt_iff_lt, ge_iff_le, beq_iff_eq, Nat.reduceAdd, ite_self, mkTup, allD, Option.some.injEq, List.all_cons, List.all_nil, Bool.and_true, Bool.true_and, argOk, freeze, Option.isSome_some, decide_true, decide_false, Option.bind_none, Option.map_none, List.getElem?_cons_zero, List.getElem?_cons_succ, blank, encP, encL, getC, Bool.not_eq_true', compL, Option.toList_some, Option.toList_none, List.append_nil, itemL_0, itemL_1, itemL_2, itemL_m1, Int.cast_ofNat_Int, intsOf, List.set_cons_zero, List.set_cons_succ, Int.reduceAdd, Int.reduceSub, Int.reduceNeg, Int.reduceMul]

/-! comparisons of tuples -/
theorem eqD_P (p q : Pt) : eqD (encP p) (encP q) = some (decide (p = q)) := by
  obtain ⟨a, b⟩ := p
  obtain ⟨c, d⟩ := q
  have h : (PyData.eqv (encP (a, b)) (encP (c, d))) = decide ((a, b) = (c, d)) := by
    simp only [encP, PyData.eqv, PyData.eqvAll, Bool.and_true, Prod.mk.injEq]
    by_cases h1 : a = c <;> by_cases h2 : b = d <;> simp [h1, h2]
  rw [← h]
  have s : ∀ x y : Int, SeqAt.shaped (encP (x, y)) = true := fun x y => by
    delta SeqAt.shaped
    simp [encP, PyData.canLay0, PyData.canLayAll0, PyData.depth, PyData.depthAll]
  exact if_pos (e := none) (Bool.and_eq_true_iff.mpr ⟨s a b, s c d⟩)
theorem eqD_B (a b c d : Bool) : eqD (.list [.bool a, .bool b]) (.list [.bool c, .bool d]) = some (a == c && b == d) := by
  have s : ∀ x y : Bool, SeqAt.shaped (.list [.bool x, .bool y]) = true := fun x y => by
    delta SeqAt.shaped
    simp [PyData.canLay0, PyData.canLayAll0, PyData.depth, PyData.depthAll]
  refine (if_pos (e := none) (Bool.and_eq_true_iff.mpr ⟨s a b, s c d⟩)).trans ?_
  simp only [PyData.eqv, PyData.eqvAll, Bool.and_true]
end Mine
namespace Mine
open PySem PySem.W PyProof.Rows PySem.Calls
set_option maxRecDepth 100000

/-- a subpath: where it begins, its lines' ends, closed or not -/
structure Sub where
  start : Pt
  pts : List Pt
  closed : Bool
noncomputable def ends (s : Sub) : List Pt := s.start :: s.pts
noncomputable def tags (s : Sub) : List (Str × Pt) := (sM, s.start) :: s.pts.map (fun p => (sL, p))
noncomputable def encR (q : Str × Pt) : PyData := row2 q.1 q.2
noncomputable def zrow : PyData := .tuple [.str sZ]
noncomputable def partOf (s : Sub) : List PyData := (tags s).map encR
noncomputable def subRows (s : Sub) : List PyData := encR (sM, s.start) :: (s.pts.map (fun p => encR (sL, p)) ++ (if s.closed = true then [zrow] else []))
noncomputable def allRows (ss : List Sub) : List PyData := ss.flatMap subRows

theorem loopF_app {step : PyData → IS → Option (Fl × IS)} (xs ys : List PyData) (st st' : IS) (h : loopF step xs st = some (.next, st')) : loopF step (xs ++ ys) st = loopF step ys st' := by
  induction xs generalizing st with
  | nil => cases h; rfl
  | cons x xs ih =>
    rw [loopF_cons] at h
    obtain ⟨⟨f, s1⟩, h1, h⟩ := Option.bind_eq_some_iff.mp h
    rw [List.cons_append, loopF_cons, h1, Option.bind_some]
    cases f with
    | next => rw [loopK_next] at h ⊢; exact ih s1 h
    | ret v => rw [loopK_ret] at h; cases h

noncomputable abbrev repS (ss : List Sub) (dk : Dk) (F : List V) (P : List (List V)) (j : Option V) : IS := ⟨[(Str.ofString "rows", some (.d (.list (allRows ss)))), (Str.ofString "found", some (.own 0)), (Str.ofString "row", j)], F :: P, dk⟩
noncomputable def tupOf (k : Nat) (b : Bool) : V := .tup [.own (k + 1), .d (.bool b)]
noncomputable def tupsOf : Nat → List Sub → List V
  | _, [] => []
  | k, s :: ss => tupOf k s.closed :: tupsOf (k + 1) ss
noncomputable def partV (s : Sub) : List V := (partOf s).map .d

theorem app_last {α : Type} (P : List α) (R : α) (k : Nat) (h : P.length = k) : (P ++ [R])[k]? = some R := by subst h; simp
theorem app_set {α : Type} (P : List α) (R R' : α) (k : Nat) (h : P.length = k) : (P ++ [R]).set k R' = P ++ [R'] := by subst h; simp

section
variable {step : PyData → IS → Option (Fl × IS)} {ss0 : List Sub} {dk : Dk}
  (hm : ∀ F P j p, F.length ≤ 1000 → P.length = F.length → ∃ j', step (encR (sM, p)) (repS ss0 dk F P j) = some (.next, repS ss0 dk (F ++ [tupOf P.length false]) (P ++ [[.d (encR (sM, p))]]) j'))
  (hl : ∀ F P R j p, F.length ≤ 1000 → R.length ≤ 1000 → ∃ j', step (encR (sL, p)) (repS ss0 dk (F ++ [tupOf P.length false]) (P ++ [R]) j) = some (.next, repS ss0 dk (F ++ [tupOf P.length false]) (P ++ [R ++ [.d (encR (sL, p))]]) j'))
  (hz : ∀ F P R j, F.length ≤ 1000 → R.length ≤ 1000 → ∃ j', step zrow (repS ss0 dk (F ++ [tupOf P.length false]) (P ++ [R]) j) = some (.next, repS ss0 dk (F ++ [tupOf P.length true]) (P ++ [R]) j'))
include hl in
theorem sub_lines (F : List V) (P : List (List V)) (hF : F.length ≤ 1000) : ∀ (pts : List Pt) (R : List V) (j : Option V), R.length + pts.length ≤ 1000 →
    ∃ j', loopF step (pts.map fun p => encR (sL, p)) (repS ss0 dk (F ++ [tupOf P.length false]) (P ++ [R]) j) = some (.next, repS ss0 dk (F ++ [tupOf P.length false]) (P ++ [R ++ pts.map fun p => .d (encR (sL, p))]) j')
  | [], R, j, _ => ⟨j, by simp [loopF_nil]⟩
  | p :: pts, R, j, h => by
    simp only [List.length_cons] at h
    obtain ⟨j1, e1⟩ := hl F P R j p hF (by omega)
    obtain ⟨j2, e2⟩ := sub_lines F P hF pts (R ++ [.d (encR (sL, p))]) j1 (by simp; omega)
    refine ⟨j2, ?_⟩
    rw [List.map_cons, loopF_cons, e1, Option.bind_some, loopK_next, e2]
    simp
include hm hl hz in
theorem sub_loop : ∀ (ss : List Sub) (F : List V) (P : List (List V)) (j : Option V), F.length + ss.length ≤ 1000 → P.length = F.length → (∀ s ∈ ss, s.pts.length ≤ 900) →
    ∃ j', loopF step (allRows ss) (repS ss0 dk F P j) = some (.next, repS ss0 dk (F ++ tupsOf P.length ss) (P ++ ss.map partV) j')
  | [], F, P, j, _, _, _ => ⟨j, by simp [allRows, tupsOf, loopF_nil]⟩
  | s :: ss, F, P, j, h, hP, hs => by
    simp only [List.length_cons] at h
    have hsl := hs s (List.mem_cons_self ..)
    obtain ⟨j1, e1⟩ := hm F P j s.start (by omega) hP
    obtain ⟨j2, e2⟩ := sub_lines hl F P (by omega) s.pts [.d (encR (sM, s.start))] j1 (by simp; omega)
    have e12 : loopF step (encR (sM, s.start) :: s.pts.map (fun p => encR (sL, p))) (repS ss0 dk F P j) = some (.next, repS ss0 dk (F ++ [tupOf P.length false]) (P ++ [partV s]) j2) := by
      rw [loopF_cons, e1, Option.bind_some, loopK_next, e2]
      simp [partV, partOf, tags, Function.comp_def]
    obtain ⟨j3, e3⟩ : ∃ j3, loopF step (subRows s) (repS ss0 dk F P j) = some (.next, repS ss0 dk (F ++ [tupOf P.length s.closed]) (P ++ [partV s]) j3) := by
      unfold subRows
      rw [← List.cons_append, loopF_app _ _ _ _ e12]
      cases hc : s.closed
      · exact ⟨j2, rfl⟩
      · obtain ⟨j3, e3⟩ := hz F P (partV s) j2 (by omega) (by simp [partV, partOf, tags]; omega)
        refine ⟨j3, ?_⟩
        rw [if_pos rfl, loopF_cons, e3, Option.bind_some, loopK_next, loopF_nil]
    obtain ⟨j4, e4⟩ := sub_loop ss (F ++ [tupOf P.length s.closed]) (P ++ [partV s]) j3 (by simp; omega) (by simp [hP]) (fun t ht => hs t (List.mem_cons_of_mem _ ht))
    refine ⟨j4, ?_⟩
    show loopF step (subRows s ++ allRows ss) _ = _
    rw [loopF_app _ _ _ _ e3, e4]
    simp [tupsOf]
end

theorem setOK_app (st : IS) (F : List V) (a v : V) (k : Nat) (h : F.length + 1 ≤ 1000000) : setOK st v k (F ++ [a]) = some { st with own := st.own.set k (F ++ [v]) } := by
  rw [setOK_eq _ _ _ _ (by simp) (by simpa using h)]
  simp
theorem itemOK_app (F : List V) (a : V) (h : F.length + 1 ≤ 1000000) : itemOK (-1) (F ++ [a]) = some a := by
  rw [itemOK_eq _ _ (by decide) (by simpa using h)]
  exact itemL_m1 F a

theorem mapM_some {α β : Type} (f : α → Option β) (g : α → β) : ∀ (l : List α), (∀ a ∈ l, f a = some (g a)) → l.mapM f = some (l.map g)
  | [], _ => rfl
  | a :: l, h => by
    rw [List.mapM_cons, h a (List.mem_cons_self ..), mapM_some f g l (fun b hb => h b (List.mem_cons_of_mem _ hb))]
    rfl
theorem freezeL_d (n : Nat) (own : List (List V)) (xs : List PyData) : freezeL (n + 2) own (xs.map .d) = some xs := by
  rw [freezeL, mapM_some (freeze (n+1) own) (fun v => match v with | .d x => x | _ => .none)]
  · rw [List.map_map]
    show some (xs.map (fun x => x)) = _
    rw [List.map_id']
  · intro a ha
    obtain ⟨x, _, rfl⟩ := List.mem_map.mp ha
    rw [freeze]
noncomputable def encS (s : Sub) : PyData := .tuple [.list (partOf s), .bool s.closed]
theorem freeze_tup (n : Nat) (F : List V) (P : List (List V)) (k : Nat) (s : Sub) (h : P[k]? = some (partV s)) : freeze (n + 5) (F :: P) (tupOf k s.closed) = some (encS s) := by
  have e1 : freeze (n + 3) (F :: P) (.own (k + 1)) = some (.list (partOf s)) := by
    rw [freeze, List.getElem?_cons_succ, h, Option.bind_some, partV, freezeL_d]; rfl
  unfold tupOf
  rw [freeze, freezeL, List.mapM_cons, e1]
  rw [List.mapM_cons, freeze]
  rfl
theorem freeze_tups (n : Nat) (F : List V) : ∀ (ss : List Sub) (P P' : List (List V)), P' = P ++ ss.map partV → (tupsOf P.length ss).mapM (freeze (n + 5) (F :: P')) = some (ss.map encS)
  | [], _, _, _ => rfl
  | s :: ss, P, P', h => by
    rw [tupsOf, List.mapM_cons, freeze_tup n F P' P.length s (by rw [h]; simp)]
    have := freeze_tups n F ss (P ++ [partV s]) P' (by rw [h]; simp)
    rw [List.length_append, List.length_singleton] at this
    rw [this]
    rfl

theorem gv_Subs_0 (a0 a1 a2 : Option V) : getV [(Str.ofString "rows", a0), (Str.ofString "found", a1), (Str.ofString "row", a2)] (Str.ofString "rows") = a0 := rfl
theorem sv_Subs_0 (a0 a1 a2 : Option V) (v : V) : setV [(Str.ofString "rows", a0), (Str.ofString "found", a1), (Str.ofString "row", a2)] (Str.ofString "rows") v = [(Str.ofString "rows", some v), (Str.ofString "found", a1), (Str.ofString "row", a2)] := rfl
theorem gv_Subs_1 (a0 a1 a2 : Option V) : getV [(Str.ofString "rows", a0), (Str.ofString "found", a1), (Str.ofString "row", a2)] (Str.ofString "found") = a1 := rfl
theorem sv_Subs_1 (a0 a1 a2 : Option V) (v : V) : setV [(Str.ofString "rows", a0), (Str.ofString "found", a1), (Str.ofString "row", a2)] (Str.ofString "found") v = [(Str.ofString "rows", a0), (Str.ofString "found", some v), (Str.ofString "row", a2)] := rfl
theorem gv_Subs_2 (a0 a1 a2 : Option V) : getV [(Str.ofString "rows", a0), (Str.ofString "found", a1), (Str.ofString "row", a2)] (Str.ofString "row") = a2 := rfl
theorem sv_Subs_2 (a0 a1 a2 : Option V) (v : V) : setV [(Str.ofString "rows", a0), (Str.ofString "found", a1), (Str.ofString "row", a2)] (Str.ofString "row") v = [(Str.ofString "rows", a0), (Str.ofString "found", a1), (Str.ofString "row", some v)] := rfl
noncomputable def rSubs : {d : DefRec // fnRec (Str.ofString "path_subpaths") = some d} := ⟨_, rfl⟩
theorem subs_f (n : Nat) (ss : List Sub) (dk : Dk) (hn : ss.length ≤ 900) (hs : ∀ s ∈ ss, s.pts.length ≤ 900) (hr : (allRows ss).length ≤ 1000000) :
    (ev (n+16)).f (Str.ofString "path_subpaths") [.d (.list (allRows ss))] dk = some (.d (.list (ss.map encS)), dk) := by
  rw [ev_f, callF_eq _ _ _ rSubs.2 (by decide +kernel) rfl rfl, show initV rSubs.1 [.d (.list (allRows ss))] = [(Str.ofString "rows", some (.d (.list (allRows ss)))), (Str.ofString "found", none), (Str.ofString "row", none)] from rfl, show initC rSubs.1 [.d (.list (allRows ss))] = [] from rfl]
  simp (decide := true) only [rSubs, hr, ev_e, ev_t, ev_a, ev_b, evL_nil, evL_cons, evLK1_eq, evLK2_eq, retE_eq, retO_eq, evE_int, evE_str, evE_bool, evE_none, evE_name, nameV_loc, nameV_cell, nameV_free, nameV_unit, nameV_eo, evE_bin, binK1_eq, binK2_eq, binV_add, binV_sub, binV_mul, binV_div, binV_mod, binV_list, binV_tup, evE_neg, negK_eq, evE_if, ifEK_eq, evE_tuple, tupK_eq, evE_list0, evE_list1, list1K_eq, evE_list2, evE_listS, listK_eq, listK1_eq, evE_rev, revK1_eq, revK_eq, evE_slo, sloK1_eq, sloK_eq, evE_sup, supK1_eq, supK_eq, evE_subC, evE_subN, evE_subU, evE_subB, subK1_eq, subK_eq, itemV_list, itemV_tuple, itemV_own, itemOK_eq, itemV_tup, itemV_left, itemV_mixed, retB_eq, cmpVK_eq, evE_cmp, cmpE_ne, neK_eq, cmpE_eq1, cmpE_lt, cmpE_le, cmpE_gt, cmpE_ge, cmpE_is, cmpE_isnot, cmpE_neC, cmpE_neN, cmpE_neT, cmpE_neB, cmpK1_eq, cmpK_eq, cmpE_2, cmp2K1_eq, cmp2K2_eq, cmp2K2b_eq, cmpV_lt, cmpV_le, cmpV_gt, cmpV_ge, cmpV_eqI, cmpV_neI, cmpV_eqS, cmpV_isN, cmpV_isT, cmpV_isnotB, neNil_list, neNil_left, evE_and, andEK_eq, evE_call, callK_eq, retF_eq, callV_own, callV_min, callV_max, callV_lenL, callV_lenT, sumK_eq, callV_sum, callV_tupL, tupOK1_eq, tupOK_eq, callV_tupO, evE_pop, popK1_eq, popK2_eq, compStep_eq, compK1_eq, compK2_eq, compK3_eq, testsE_0, testsE_1, retL_eq, compScope_eq, compK_eq, compV_eq, compVK_eq, evE_comp, rangeK_eq, rangeK1_eq, iterV_range, enumK_eq, iterV_enum, seqIK_list, seqIK_tuple, iterV_name, iterV_subS, iterV_call, boolK_eq, evT_bool, evT_cmp, evT_name, evT_call, allT_and0, allT_or0, allT_and, allT_or, andTK_eq, orTK_eq, storeN_eq, asg_name, asgL_nil, asgL_cons, asgLK_eq, asg_tup_d, asg_tup_v, asg_sub, asgSK1_eq, setOK_eq, asgSK2_own, asgSK2_deck, nextK_eq, stoK_eq, exS_name, stoCK_eq, exS_nameC, tasK_eq, exS_tup, exS_swp2, exS_swp3, swpK2_d, swpK2_v, swpK3_v, storeL_nil, storeL_cons, storeLK_eq, sasK_eq, exS_sub, exS_aug, augK1_eq, augK2_eq, exS_if, ifSK_eq, forStep_eq, forK_eq, exS_for, loopF_nil, loopF_cons, loopK_next, loopK_ret, rtnK_eq, exS_ret, exS_meth, methK1_eq, appK_eq, methK2_app, extK_eq, methK2_ext, exB_nil, exB_cons, seqK_next, seqK_ret, fzK_eq, retFK_eq, layStr_left, layStr_mixed, layStr_m, layStr_l, layStr_z, layStr_w, layStr_e, Option.bind_some, Option.map_some, List.length_cons, List.length_nil, if_true, if_false, Bool.false_eq_true, decide_eq_true_eq, Bool.not_true, Bool.not_false, Bool.not_eq_true, List.map_cons, List.map_nil, List.reverse_cons, List.reverse_nil, List.nil_append, List.cons_append, gt_iff_lt, ge_iff_le, beq_iff_eq, Nat.reduceAdd, ite_self, mkTup, allD, Option.some.injEq, List.all_cons, List.all_nil, Bool.and_true, Bool.true_and, argOk, freeze, Option.isSome_some, decide_true, decide_false, Option.bind_none, Option.map_none, List.getElem?_cons_zero, List.getElem?_cons_succ, blank, encP, encL, getC, Bool.not_eq_true', compL, Option.toList_some, Option.toList_none, List.append_nil, itemL_0, itemL_1, itemL_2, itemL_m1, Int.cast_ofNat_Int, intsOf, List.set_cons_zero, List.set_cons_succ, Int.reduceAdd, Int.reduceSub, Int.reduceNeg, Int.reduceMul, gv_Subs_0, sv_Subs_0, gv_Subs_1, sv_Subs_1, gv_Subs_2, sv_Subs_2]
  generalize hL : loopF _ _ _ = o
  have key : ∃ j, o = some (.next, repS ss dk ([] ++ tupsOf 0 ss) ([] ++ ss.map partV) j) := by
    rw [← hL]
    refine sub_loop (ss0 := ss) (dk := dk) ?_ ?_ ?_ ss [] [] none (by simp; omega) rfl hs
    · intro F P j p hF hP
      refine ⟨some (.d (encR (sM, p))), ?_⟩
      have hF' : F.length ≤ 1000000 := by omega
      simp (decide := true) only [encR, row2, sM, hF', tupOf, hP, ev_e, ev_t, ev_a, ev_b, evL_nil, evL_cons, evLK1_eq, evLK2_eq, retE_eq, retO_eq, evE_int, evE_str, evE_bool, evE_none, evE_name, nameV_loc, nameV_cell, nameV_free, nameV_unit, nameV_eo, evE_bin, binK1_eq, binK2_eq, binV_add, binV_sub, binV_mul, binV_div, binV_mod, binV_list, binV_tup, evE_neg, negK_eq, evE_if, ifEK_eq, evE_tuple, tupK_eq, evE_list0, evE_list1, list1K_eq, evE_list2, evE_listS, listK_eq, listK1_eq, evE_rev, revK1_eq, revK_eq, evE_slo, sloK1_eq, sloK_eq, evE_sup, supK1_eq, supK_eq, evE_subC, evE_subN, evE_subU, evE_subB, subK1_eq, subK_eq, itemV_list, itemV_tuple, itemV_own, itemOK_eq, itemV_tup, itemV_left, itemV_mixed, retB_eq, cmpVK_eq, evE_cmp, cmpE_ne, neK_eq, cmpE_eq1, cmpE_lt, cmpE_le, cmpE_gt, cmpE_ge, cmpE_is, cmpE_isnot, cmpE_neC, cmpE_neN, cmpE_neT, cmpE_neB, cmpK1_eq, cmpK_eq, cmpE_2, cmp2K1_eq, cmp2K2_eq, cmp2K2b_eq, cmpV_lt, cmpV_le, cmpV_gt, cmpV_ge, cmpV_eqI, cmpV_neI, cmpV_eqS, cmpV_isN, cmpV_isT, cmpV_isnotB, neNil_list, neNil_left, evE_and, andEK_eq, evE_call, callK_eq, retF_eq, callV_own, callV_min, callV_max, callV_lenL, callV_lenT, sumK_eq, callV_sum, callV_tupL, tupOK1_eq, tupOK_eq, callV_tupO, evE_pop, popK1_eq, popK2_eq, compStep_eq, compK1_eq, compK2_eq, compK3_eq, testsE_0, testsE_1, retL_eq, compScope_eq, compK_eq, compV_eq, compVK_eq, evE_comp, rangeK_eq, rangeK1_eq, iterV_range, enumK_eq, iterV_enum, seqIK_list, seqIK_tuple, iterV_name, iterV_subS, iterV_call, boolK_eq, evT_bool, evT_cmp, evT_name, evT_call, allT_and0, allT_or0, allT_and, allT_or, andTK_eq, orTK_eq, storeN_eq, asg_name, asgL_nil, asgL_cons, asgLK_eq, asg_tup_d, asg_tup_v, asg_sub, asgSK1_eq, setOK_eq, asgSK2_own, asgSK2_deck, nextK_eq, stoK_eq, exS_name, stoCK_eq, exS_nameC, tasK_eq, exS_tup, exS_swp2, exS_swp3, swpK2_d, swpK2_v, swpK3_v, storeL_nil, storeL_cons, storeLK_eq, sasK_eq, exS_sub, exS_aug, augK1_eq, augK2_eq, exS_if, ifSK_eq, forStep_eq, forK_eq, exS_for, loopF_nil, loopF_cons, loopK_next, loopK_ret, rtnK_eq, exS_ret, exS_meth, methK1_eq, appK_eq, methK2_app, extK_eq, methK2_ext, exB_nil, exB_cons, seqK_next, seqK_ret, fzK_eq, retFK_eq, layStr_left, layStr_mixed, layStr_m, layStr_l, layStr_z, layStr_w, layStr_e, Option.bind_some, Option.map_some, List.length_cons, List.length_nil, if_true, if_false, Bool.false_eq_true, decide_eq_true_eq, Bool.not_true, Bool.not_false, Bool.not_eq_true, List.map_cons, List.map_nil, List.reverse_cons, List.reverse_nil, List.nil_append, List.cons_append, gt_iff_lt, ge_iff_le, beq_iff_eq, Nat.reduceAdd, ite_self, mkTup, allD, Option.some.injEq, List.all_cons, List.all_nil, Bool.and_true, Bool.true_and, argOk, freeze, Option.isSome_some, decide_true, decide_false, Option.bind_none, Option.map_none, List.getElem?_cons_zero, List.getElem?_cons_succ, blank, encP, encL, getC, Bool.not_eq_true', compL, Option.toList_some, Option.toList_none, List.append_nil, itemL_0, itemL_1, itemL_2, itemL_m1, Int.cast_ofNat_Int, intsOf, List.set_cons_zero, List.set_cons_succ, Int.reduceAdd, Int.reduceSub, Int.reduceNeg, Int.reduceMul, gv_Subs_0, sv_Subs_0, gv_Subs_1, sv_Subs_1, gv_Subs_2, sv_Subs_2]
    · intro F P R j p hF hR
      refine ⟨some (.d (encR (sL, p))), ?_⟩
      have hF' : F.length + 1 ≤ 1000000 := by omega
      have hR' : R.length ≤ 1000000 := by omega
      simp (decide := true) only [encR, row2, sL, hF', hR', tupOf, itemOK_app, app_last, app_set, ev_e, ev_t, ev_a, ev_b, evL_nil, evL_cons, evLK1_eq, evLK2_eq, retE_eq, retO_eq, evE_int, evE_str, evE_bool, evE_none, evE_name, nameV_loc, nameV_cell, nameV_free, nameV_unit, nameV_eo, evE_bin, binK1_eq, binK2_eq, binV_add, binV_sub, binV_mul, binV_div, binV_mod, binV_list, binV_tup, evE_neg, negK_eq, evE_if, ifEK_eq, evE_tuple, tupK_eq, evE_list0, evE_list1, list1K_eq, evE_list2, evE_listS, listK_eq, listK1_eq, evE_rev, revK1_eq, revK_eq, evE_slo, sloK1_eq, sloK_eq, evE_sup, supK1_eq, supK_eq, evE_subC, evE_subN, evE_subU, evE_subB, subK1_eq, subK_eq, itemV_list, itemV_tuple, itemV_own, itemOK_eq, itemV_tup, itemV_left, itemV_mixed, retB_eq, cmpVK_eq, evE_cmp, cmpE_ne, neK_eq, cmpE_eq1, cmpE_lt, cmpE_le, cmpE_gt, cmpE_ge, cmpE_is, cmpE_isnot, cmpE_neC, cmpE_neN, cmpE_neT, cmpE_neB, cmpK1_eq, cmpK_eq, cmpE_2, cmp2K1_eq, cmp2K2_eq, cmp2K2b_eq, cmpV_lt, cmpV_le, cmpV_gt, cmpV_ge, cmpV_eqI, cmpV_neI, cmpV_eqS, cmpV_isN, cmpV_isT, cmpV_isnotB, neNil_list, neNil_left, evE_and, andEK_eq, evE_call, callK_eq, retF_eq, callV_own, callV_min, callV_max, callV_lenL, callV_lenT, sumK_eq, callV_sum, callV_tupL, tupOK1_eq, tupOK_eq, callV_tupO, evE_pop, popK1_eq, popK2_eq, compStep_eq, compK1_eq, compK2_eq, compK3_eq, testsE_0, testsE_1, retL_eq, compScope_eq, compK_eq, compV_eq, compVK_eq, evE_comp, rangeK_eq, rangeK1_eq, iterV_range, enumK_eq, iterV_enum, seqIK_list, seqIK_tuple, iterV_name, iterV_subS, iterV_call, boolK_eq, evT_bool, evT_cmp, evT_name, evT_call, allT_and0, allT_or0, allT_and, allT_or, andTK_eq, orTK_eq, storeN_eq, asg_name, asgL_nil, asgL_cons, asgLK_eq, asg_tup_d, asg_tup_v, asg_sub, asgSK1_eq, setOK_eq, asgSK2_own, asgSK2_deck, nextK_eq, stoK_eq, exS_name, stoCK_eq, exS_nameC, tasK_eq, exS_tup, exS_swp2, exS_swp3, swpK2_d, swpK2_v, swpK3_v, storeL_nil, storeL_cons, storeLK_eq, sasK_eq, exS_sub, exS_aug, augK1_eq, augK2_eq, exS_if, ifSK_eq, forStep_eq, forK_eq, exS_for, loopF_nil, loopF_cons, loopK_next, loopK_ret, rtnK_eq, exS_ret, exS_meth, methK1_eq, appK_eq, methK2_app, extK_eq, methK2_ext, exB_nil, exB_cons, seqK_next, seqK_ret, fzK_eq, retFK_eq, layStr_left, layStr_mixed, layStr_m, layStr_l, layStr_z, layStr_w, layStr_e, Option.bind_some, Option.map_some, List.length_cons, List.length_nil, if_true, if_false, Bool.false_eq_true, decide_eq_true_eq, Bool.not_true, Bool.not_false, Bool.not_eq_true, List.map_cons, List.map_nil, List.reverse_cons, List.reverse_nil, List.nil_append, List.cons_append, gt_iff_lt, ge_iff_le, beq_iff_eq, Nat.reduceAdd, ite_self, mkTup, allD, Option.some.injEq, List.all_cons, List.all_nil, Bool.and_true, Bool.true_and, argOk, freeze, Option.isSome_some, decide_true, decide_false, Option.bind_none, Option.map_none, List.getElem?_cons_zero, List.getElem?_cons_succ, blank, encP, encL, getC, Bool.not_eq_true', compL, Option.toList_some, Option.toList_none, List.append_nil, itemL_0, itemL_1, itemL_2, itemL_m1, Int.cast_ofNat_Int, intsOf, List.set_cons_zero, List.set_cons_succ, Int.reduceAdd, Int.reduceSub, Int.reduceNeg, Int.reduceMul, gv_Subs_0, sv_Subs_0, gv_Subs_1, sv_Subs_1, gv_Subs_2, sv_Subs_2]
    · intro F P R j hF hR
      refine ⟨some (.d zrow), ?_⟩
      have hF' : F.length + 1 ≤ 1000000 := by omega
      have hR' : R.length ≤ 1000000 := by omega
      simp (decide := true) only [zrow, sZ, hF', hR', tupOf, itemOK_app, setOK_app, app_last, app_set, ev_e, ev_t, ev_a, ev_b, evL_nil, evL_cons, evLK1_eq, evLK2_eq, retE_eq, retO_eq, evE_int, evE_str, evE_bool, evE_none, evE_name, nameV_loc, nameV_cell, nameV_free, nameV_unit, nameV_eo, evE_bin, binK1_eq, binK2_eq, binV_add, binV_sub, binV_mul, binV_div, binV_mod, binV_list, binV_tup, evE_neg, negK_eq, evE_if, ifEK_eq, evE_tuple, tupK_eq, evE_list0, evE_list1, list1K_eq, evE_list2, evE_listS, listK_eq, listK1_eq, evE_rev, revK1_eq, revK_eq, evE_slo, sloK1_eq, sloK_eq, evE_sup, supK1_eq, supK_eq, evE_subC, evE_subN, evE_subU, evE_subB, subK1_eq, subK_eq, itemV_list, itemV_tuple, itemV_own, itemOK_eq, itemV_tup, itemV_left, itemV_mixed, retB_eq, cmpVK_eq, evE_cmp, cmpE_ne, neK_eq, cmpE_eq1, cmpE_lt, cmpE_le, cmpE_gt, cmpE_ge, cmpE_is, cmpE_isnot, cmpE_neC, cmpE_neN, cmpE_neT, cmpE_neB, cmpK1_eq, cmpK_eq, cmpE_2, cmp2K1_eq, cmp2K2_eq, cmp2K2b_eq, cmpV_lt, cmpV_le, cmpV_gt, cmpV_ge, cmpV_eqI, cmpV_neI, cmpV_eqS, cmpV_isN, cmpV_isT, cmpV_isnotB, neNil_list, neNil_left, evE_and, andEK_eq, evE_call, callK_eq, retF_eq, callV_own, callV_min, callV_max, callV_lenL, callV_lenT, sumK_eq, callV_sum, callV_tupL, tupOK1_eq, tupOK_eq, callV_tupO, evE_pop, popK1_eq, popK2_eq, compStep_eq, compK1_eq, compK2_eq, compK3_eq, testsE_0, testsE_1, retL_eq, compScope_eq, compK_eq, compV_eq, compVK_eq, evE_comp, rangeK_eq, rangeK1_eq, iterV_range, enumK_eq, iterV_enum, seqIK_list, seqIK_tuple, iterV_name, iterV_subS, iterV_call, boolK_eq, evT_bool, evT_cmp, evT_name, evT_call, allT_and0, allT_or0, allT_and, allT_or, andTK_eq, orTK_eq, storeN_eq, asg_name, asgL_nil, asgL_cons, asgLK_eq, asg_tup_d, asg_tup_v, asg_sub, asgSK1_eq, setOK_eq, asgSK2_own, asgSK2_deck, nextK_eq, stoK_eq, exS_name, stoCK_eq, exS_nameC, tasK_eq, exS_tup, exS_swp2, exS_swp3, swpK2_d, swpK2_v, swpK3_v, storeL_nil, storeL_cons, storeLK_eq, sasK_eq, exS_sub, exS_aug, augK1_eq, augK2_eq, exS_if, ifSK_eq, forStep_eq, forK_eq, exS_for, loopF_nil, loopF_cons, loopK_next, loopK_ret, rtnK_eq, exS_ret, exS_meth, methK1_eq, appK_eq, methK2_app, extK_eq, methK2_ext, exB_nil, exB_cons, seqK_next, seqK_ret, fzK_eq, retFK_eq, layStr_left, layStr_mixed, layStr_m, layStr_l, layStr_z, layStr_w, layStr_e, Option.bind_some, Option.map_some, List.length_cons, List.length_nil, if_true, if_false, Bool.false_eq_true, decide_eq_true_eq, Bool.not_true, Bool.not_false, Bool.not_eq_true, List.map_cons, List.map_nil, List.reverse_cons, List.reverse_nil, List.nil_append, List.cons_append, gt_iff_lt, ge_iff_le, beq_iff_eq, Nat.reduceAdd, ite_self, mkTup, allD, Option.some.injEq, List.all_cons, List.all_nil, Bool.and_true, Bool.true_and, argOk, freeze, Option.isSome_some, decide_true, decide_false, Option.bind_none, Option.map_none, List.getElem?_cons_zero, List.getElem?_cons_succ, blank, encP, encL, getC, Bool.not_eq_true', compL, Option.toList_some, Option.toList_none, List.append_nil, itemL_0, itemL_1, itemL_2, itemL_m1, Int.cast_ofNat_Int, intsOf, List.set_cons_zero, List.set_cons_succ, Int.reduceAdd, Int.reduceSub, Int.reduceNeg, Int.reduceMul, gv_Subs_0, sv_Subs_0, gv_Subs_1, sv_Subs_1, gv_Subs_2, sv_Subs_2]
  obtain ⟨j, rfl⟩ := key
  simp (decide := true) only [repS, ev_e, ev_t, ev_a, ev_b, evL_nil, evL_cons, evLK1_eq, evLK2_eq, retE_eq, retO_eq, evE_int, evE_str, evE_bool, evE_none, evE_name, nameV_loc, nameV_cell, nameV_free, nameV_unit, nameV_eo, evE_bin, binK1_eq, binK2_eq, binV_add, binV_sub, binV_mul, binV_div, binV_mod, binV_list, binV_tup, evE_neg, negK_eq, evE_if, ifEK_eq, evE_tuple, tupK_eq, evE_list0, evE_list1, list1K_eq, evE_list2, evE_listS, listK_eq, listK1_eq, evE_rev, revK1_eq, revK_eq, evE_slo, sloK1_eq, sloK_eq, evE_sup, supK1_eq, supK_eq, evE_subC, evE_subN, evE_subU, evE_subB, subK1_eq, subK_eq, itemV_list, itemV_tuple, itemV_own, itemOK_eq, itemV_tup, itemV_left, itemV_mixed, retB_eq, cmpVK_eq, evE_cmp, cmpE_ne, neK_eq, cmpE_eq1, cmpE_lt, cmpE_le, cmpE_gt, cmpE_ge, cmpE_is, cmpE_isnot, cmpE_neC, cmpE_neN, cmpE_neT, cmpE_neB, cmpK1_eq, cmpK_eq, cmpE_2, cmp2K1_eq, cmp2K2_eq, cmp2K2b_eq, cmpV_lt, cmpV_le, cmpV_gt, cmpV_ge, cmpV_eqI, cmpV_neI, cmpV_eqS, cmpV_isN, cmpV_isT, cmpV_isnotB, neNil_list, neNil_left, evE_and, andEK_eq, evE_call, callK_eq, retF_eq, callV_own, callV_min, callV_max, callV_lenL, callV_lenT, sumK_eq, callV_sum, callV_tupL, tupOK1_eq, tupOK_eq, callV_tupO, evE_pop, popK1_eq, popK2_eq, compStep_eq, compK1_eq, compK2_eq, compK3_eq, testsE_0, testsE_1, retL_eq, compScope_eq, compK_eq, compV_eq, compVK_eq, evE_comp, rangeK_eq, rangeK1_eq, iterV_range, enumK_eq, iterV_enum, seqIK_list, seqIK_tuple, iterV_name, iterV_subS, iterV_call, boolK_eq, evT_bool, evT_cmp, evT_name, evT_call, allT_and0, allT_or0, allT_and, allT_or, andTK_eq, orTK_eq, storeN_eq, asg_name, asgL_nil, asgL_cons, asgLK_eq, asg_tup_d, asg_tup_v, asg_sub, asgSK1_eq, setOK_eq, asgSK2_own, asgSK2_deck, nextK_eq, stoK_eq, exS_name, stoCK_eq, exS_nameC, tasK_eq, exS_tup, exS_swp2, exS_swp3, swpK2_d, swpK2_v, swpK3_v, storeL_nil, storeL_cons, storeLK_eq, sasK_eq, exS_sub, exS_aug, augK1_eq, augK2_eq, exS_if, ifSK_eq, forStep_eq, forK_eq, exS_for, loopF_nil, loopF_cons, loopK_next, loopK_ret, rtnK_eq, exS_ret, exS_meth, methK1_eq, appK_eq, methK2_app, extK_eq, methK2_ext, exB_nil, exB_cons, seqK_next, seqK_ret, fzK_eq, retFK_eq, layStr_left, layStr_mixed, layStr_m, layStr_l, layStr_z, layStr_w, layStr_e, Option.bind_some, Option.map_some, List.length_cons, List.length_nil, if_true, if_false, Bool.false_eq_true, decide_eq_true_eq, Bool.not_true, Bool.not_false, Bool.not_eq_true, List.map_cons, List.map_nil, List.reverse_cons, List.reverse_nil, List.nil_append, List.cons_append, gt_iff_lt, ge_iff_le, beq_iff_eq, Nat.reduceAdd, ite_self, mkTup, allD, Option.some.injEq, List.all_cons, List.all_nil, Bool.and_true, Bool.true_and, argOk, freeze, Option.isSome_some, decide_true, decide_false, Option.bind_none, Option.map_none, List.getElem?_cons_zero, List.getElem?_cons_succ, blank, encP, encL, getC, Bool.not_eq_true', compL, Option.toList_some, Option.toList_none, List.append_nil, itemL_0, itemL_1, itemL_2, itemL_m1, Int.cast_ofNat_Int, intsOf, List.set_cons_zero, List.set_cons_succ, Int.reduceAdd, Int.reduceSub, Int.reduceNeg, Int.reduceMul, gv_Subs_0, sv_Subs_0, gv_Subs_1, sv_Subs_1, gv_Subs_2, sv_Subs_2]
  have e : (tupsOf 0 ss).mapM (freeze 8 (tupsOf 0 ss :: ss.map partV)) = some (ss.map encS) := freeze_tups 3 (tupsOf 0 ss) ss [] (ss.map partV) rfl
  rw [freezeL, e]
  rfl
end Mine
namespace Mine
open PySem PySem.W PyProof.Rows PySem.Calls
set_option maxRecDepth 100000

structure J8 where
  a : Option V
  b : Option V
  c : Option V
  d : Option V
  e : Option V
  f : Option V
  g : Option V
  h : Option V
noncomputable abbrev j0 : J8 := ⟨none, none, none, none, none, none, none, none⟩

theorem loop_ex {α σ J : Type} {step : PyData → IS → Option (Fl × IS)} (enc : α → PyData) (rep : σ → J → IS) (f : σ → α → σ) (good : α → Prop) (inv : Nat → σ → Prop) (l : List α) (s : σ) (j : J) (hg : ∀ a ∈ l, good a) (h0 : inv l.length s)
    (h : ∀ m s j a, good a → inv (m + 1) s → ∃ j', step (enc a) (rep s j) = some (.next, rep (f s a) j') ∧ inv m (f s a)) : ∃ j', loopF step (l.map enc) (rep s j) = some (.next, rep (l.foldl f s) j') := by
  induction l generalizing s j with
  | nil => exact ⟨j, rfl⟩
  | cons a l ih =>
    obtain ⟨j1, e1, h1⟩ := h l.length s j a (hg a (List.mem_cons_self ..)) h0
    obtain ⟨j2, e2⟩ := ih (f s a) j1 (fun b hb => hg b (List.mem_cons_of_mem _ hb)) h1
    refine ⟨j2, ?_⟩
    rw [List.map_cons, loopF_cons, e1, Option.bind_some, loopK_next, e2]
    rfl

/-- the last point -/
noncomputable def lastP : Pt → List Pt → Pt
  | p, [] => p
  | _, q :: r => lastP q r
noncomputable def pairs : Pt → List Pt → List (Pt × Pt)
  | _, [] => []
  | q, p :: r => (q, p) :: pairs p r
theorem lastP_app (p : Pt) (r : List Pt) : ∃ i, p :: r = i ++ [lastP p r] := by
  induction r generalizing p with
  | nil => exact ⟨[], rfl⟩
  | cons q r ih =>
    obtain ⟨i, e⟩ := ih q
    exact ⟨p :: i, congrArg (p :: ·) e⟩
theorem itemL_lastP (p : Pt) (r : List Pt) : itemL ((p :: r).map encP) (-1) = some (encP (lastP p r)) := by
  obtain ⟨i, e⟩ := lastP_app p r
  rw [e, List.map_append, List.map_cons, List.map_nil]
  exact itemL_m1 _ _
theorem itemL_at {α : Type} (pre : List α) (q : α) (l : List α) (k : Nat) (h : k = pre.length + 1) : itemL (pre ++ q :: l) ((k : Int) - 1) = some q := by
  subst h
  unfold itemL
  rw [if_pos (by omega), show (((pre.length + 1 : Nat) : Int) - 1).toNat = pre.length by omega]
  simp

theorem enum_tail {σ J : Type} {step : PyData → IS → Option (Fl × IS)} (rep : σ → J → IS) (f : σ → Pt × Pt → σ) (L : List Pt) (inv : Nat → σ → Prop)
    (h : ∀ m (k : Nat) q p s j, k ≤ L.length → itemL (L.map encP) ((k : Int) - 1) = some (encP q) → inv (m + 1) s → ∃ j', step (.tuple [.int k, encP p]) (rep s j) = some (.next, rep (f s (q, p)) j') ∧ inv m (f s (q, p))) :
    ∀ (l : List Pt) (pre : List Pt) (q : Pt) (k : Nat) (s : σ) (j : J), L = pre ++ q :: l → k = pre.length + 1 → inv l.length s → ∃ j', loopF step (enumL k (l.map encP)) (rep s j) = some (.next, rep ((pairs q l).foldl f s) j')
  | [], _, _, _, _, j, _, _, _ => ⟨j, rfl⟩
  | p :: l, pre, q, k, s, j, hL, hk, hi => by
    obtain ⟨j1, e1, i1⟩ := h l.length k q p s j (by rw [hL, List.length_append, List.length_cons, List.length_cons]; omega) (by rw [hL, List.map_append, List.map_cons]; exact itemL_at _ _ _ _ (by rw [List.length_map]; exact hk)) hi
    obtain ⟨j2, e2⟩ := enum_tail rep f L inv h l (pre ++ [q]) p (k + 1) (f s (q, p)) j1 (by rw [hL, List.append_assoc]; rfl) (by rw [hk]; simp) i1
    refine ⟨j2, ?_⟩
    rw [List.map_cons, enumL, loopF_cons, e1, Option.bind_some, loopK_next, e2]
    rfl
theorem enum_loop {σ J : Type} {step : PyData → IS → Option (Fl × IS)} (rep : σ → J → IS) (f : σ → Pt × Pt → σ) (p : Pt) (r : List Pt) (inv : Nat → σ → Prop) (s : σ) (j : J) (hi : inv (p :: r).length s)
    (h : ∀ m (k : Nat) q p' s j, k ≤ (p :: r).length → itemL ((p :: r).map encP) ((k : Int) - 1) = some (encP q) → inv (m + 1) s → ∃ j', step (.tuple [.int k, encP p']) (rep s j) = some (.next, rep (f s (q, p')) j') ∧ inv m (f s (q, p'))) :
    ∃ j', loopF step (enumL 0 ((p :: r).map encP)) (rep s j) = some (.next, rep ((pairs (lastP p r) (p :: r)).foldl f s) j') := by
  obtain ⟨j1, e1, i1⟩ := h r.length 0 (lastP p r) p s j (Nat.zero_le _) (itemL_lastP p r) hi
  obtain ⟨j2, e2⟩ := enum_tail rep f (p :: r) inv h r [] p 1 (f s (lastP p r, p)) j1 rfl rfl i1
  refine ⟨j2, ?_⟩
  rw [List.map_cons, enumL, loopF_cons, e1, Option.bind_some, loopK_next, e2]
  rfl

noncomputable def cycS (s : Sub) : List (Pt × Pt) := pairs (lastP s.start s.pts) (ends s)
noncomputable def nz (e : Pt × Pt) : Bool := decide (e.1 ≠ e.2)
noncomputable def edgesS (ss : List Sub) : List (Pt × Pt) := ss.flatMap fun s => (cycS s).filter nz
noncomputable def fE (E : List (Pt × Pt)) (e : Pt × Pt) : List (Pt × Pt) := if nz e = true then E ++ [e] else E
noncomputable def fES (E : List (Pt × Pt)) (s : Sub) : List (Pt × Pt) := (cycS s).foldl fE E
theorem fE_eq (l : List (Pt × Pt)) (E : List (Pt × Pt)) : l.foldl fE E = E ++ l.filter nz := by
  induction l generalizing E with
  | nil => simp
  | cons a l ih =>
    rw [List.foldl_cons, ih, List.filter_cons]
    unfold fE
    split <;> simp
theorem fES_eq (ss : List Sub) (E : List (Pt × Pt)) : ss.foldl fES E = E ++ edgesS ss := by
  induction ss generalizing E with
  | nil => simp [edgesS]
  | cons s ss ih =>
    rw [List.foldl_cons, ih, fES, fE_eq]
    simp [edgesS]
theorem pairs_len (q : Pt) (l : List Pt) : (pairs q l).length = l.length := by
  induction l generalizing q with
  | nil => rfl
  | cons a l ih => rw [pairs, List.length_cons, ih, List.length_cons]

noncomputable def GoodS (s : Sub) : Prop := s.pts.length ≤ 8 ∧ Bd s.start ∧ ∀ p ∈ s.pts, Bd p
noncomputable abbrev repE (ss : List Sub) (dk : Dk) (E : List (Pt × Pt)) (j : J8) : IS := ⟨[(Str.ofString "rows", some (.d (.list (allRows ss)))), (Str.ofString "found", some (.own 0)), (Str.ofString "part", j.a), (Str.ofString "is_closed", j.b), (Str.ofString "ends", j.c), (Str.ofString "at", j.d), (Str.ofString "end", j.e), (Str.ofString "begin", j.f)], [(E.map encL).map .d], dk⟩
theorem ends_comp (s : Sub) : (tags s).filterMap (fun q => some (encP q.2)) = (ends s).map encP := by
  simp [tags, ends, Function.comp_def]
theorem gv_Edges_0 (a0 a1 a2 a3 a4 a5 a6 a7 : Option V) : getV [(Str.ofString "rows", a0), (Str.ofString "found", a1), (Str.ofString "part", a2), (Str.ofString "is_closed", a3), (Str.ofString "ends", a4), (Str.ofString "at", a5), (Str.ofString "end", a6), (Str.ofString "begin", a7)] (Str.ofString "rows") = a0 := rfl
theorem sv_Edges_0 (a0 a1 a2 a3 a4 a5 a6 a7 : Option V) (v : V) : setV [(Str.ofString "rows", a0), (Str.ofString "found", a1), (Str.ofString "part", a2), (Str.ofString "is_closed", a3), (Str.ofString "ends", a4), (Str.ofString "at", a5), (Str.ofString "end", a6), (Str.ofString "begin", a7)] (Str.ofString "rows") v = [(Str.ofString "rows", some v), (Str.ofString "found", a1), (Str.ofString "part", a2), (Str.ofString "is_closed", a3), (Str.ofString "ends", a4), (Str.ofString "at", a5), (Str.ofString "end", a6), (Str.ofString "begin", a7)] := rfl
theorem gv_Edges_1 (a0 a1 a2 a3 a4 a5 a6 a7 : Option V) : getV [(Str.ofString "rows", a0), (Str.ofString "found", a1), (Str.ofString "part", a2), (Str.ofString "is_closed", a3), (Str.ofString "ends", a4), (Str.ofString "at", a5), (Str.ofString "end", a6), (Str.ofString "begin", a7)] (Str.ofString "found") = a1 := rfl
theorem sv_Edges_1 (a0 a1 a2 a3 a4 a5 a6 a7 : Option V) (v : V) : setV [(Str.ofString "rows", a0), (Str.ofString "found", a1), (Str.ofString "part", a2), (Str.ofString "is_closed", a3), (Str.ofString "ends", a4), (Str.ofString "at", a5), (Str.ofString "end", a6), (Str.ofString "begin", a7)] (Str.ofString "found") v = [(Str.ofString "rows", a0), (Str.ofString "found", some v), (Str.ofString "part", a2), (Str.ofString "is_closed", a3), (Str.ofString "ends", a4), (Str.ofString "at", a5), (Str.ofString "end", a6), (Str.ofString "begin", a7)] := rfl
theorem gv_Edges_2 (a0 a1 a2 a3 a4 a5 a6 a7 : Option V) : getV [(Str.ofString "rows", a0), (Str.ofString "found", a1), (Str.ofString "part", a2), (Str.ofString "is_closed", a3), (Str.ofString "ends", a4), (Str.ofString "at", a5), (Str.ofString "end", a6), (Str.ofString "begin", a7)] (Str.ofString "part") = a2 := rfl
theorem sv_Edges_2 (a0 a1 a2 a3 a4 a5 a6 a7 : Option V) (v : V) : setV [(Str.ofString "rows", a0), (Str.ofString "found", a1), (Str.ofString "part", a2), (Str.ofString "is_closed", a3), (Str.ofString "ends", a4), (Str.ofString "at", a5), (Str.ofString "end", a6), (Str.ofString "begin", a7)] (Str.ofString "part") v = [(Str.ofString "rows", a0), (Str.ofString "found", a1), (Str.ofString "part", some v), (Str.ofString "is_closed", a3), (Str.ofString "ends", a4), (Str.ofString "at", a5), (Str.ofString "end", a6), (Str.ofString "begin", a7)] := rfl
theorem gv_Edges_3 (a0 a1 a2 a3 a4 a5 a6 a7 : Option V) : getV [(Str.ofString "rows", a0), (Str.ofString "found", a1), (Str.ofString "part", a2), (Str.ofString "is_closed", a3), (Str.ofString "ends", a4), (Str.ofString "at", a5), (Str.ofString "end", a6), (Str.ofString "begin", a7)] (Str.ofString "is_closed") = a3 := rfl
theorem sv_Edges_3 (a0 a1 a2 a3 a4 a5 a6 a7 : Option V) (v : V) : setV [(Str.ofString "rows", a0), (Str.ofString "found", a1), (Str.ofString "part", a2), (Str.ofString "is_closed", a3), (Str.ofString "ends", a4), (Str.ofString "at", a5), (Str.ofString "end", a6), (Str.ofString "begin", a7)] (Str.ofString "is_closed") v = [(Str.ofString "rows", a0), (Str.ofString "found", a1), (Str.ofString "part", a2), (Str.ofString "is_closed", some v), (Str.ofString "ends", a4), (Str.ofString "at", a5), (Str.ofString "end", a6), (Str.ofString "begin", a7)] := rfl
theorem gv_Edges_4 (a0 a1 a2 a3 a4 a5 a6 a7 : Option V) : getV [(Str.ofString "rows", a0), (Str.ofString "found", a1), (Str.ofString "part", a2), (Str.ofString "is_closed", a3), (Str.ofString "ends", a4), (Str.ofString "at", a5), (Str.ofString "end", a6), (Str.ofString "begin", a7)] (Str.ofString "ends") = a4 := rfl
theorem sv_Edges_4 (a0 a1 a2 a3 a4 a5 a6 a7 : Option V) (v : V) : setV [(Str.ofString "rows", a0), (Str.ofString "found", a1), (Str.ofString "part", a2), (Str.ofString "is_closed", a3), (Str.ofString "ends", a4), (Str.ofString "at", a5), (Str.ofString "end", a6), (Str.ofString "begin", a7)] (Str.ofString "ends") v = [(Str.ofString "rows", a0), (Str.ofString "found", a1), (Str.ofString "part", a2), (Str.ofString "is_closed", a3), (Str.ofString "ends", some v), (Str.ofString "at", a5), (Str.ofString "end", a6), (Str.ofString "begin", a7)] := rfl
theorem gv_Edges_5 (a0 a1 a2 a3 a4 a5 a6 a7 : Option V) : getV [(Str.ofString "rows", a0), (Str.ofString "found", a1), (Str.ofString "part", a2), (Str.ofString "is_closed", a3), (Str.ofString "ends", a4), (Str.ofString "at", a5), (Str.ofString "end", a6), (Str.ofString "begin", a7)] (Str.ofString "at") = a5 := rfl
theorem sv_Edges_5 (a0 a1 a2 a3 a4 a5 a6 a7 : Option V) (v : V) : setV [(Str.ofString "rows", a0), (Str.ofString "found", a1), (Str.ofString "part", a2), (Str.ofString "is_closed", a3), (Str.ofString "ends", a4), (Str.ofString "at", a5), (Str.ofString "end", a6), (Str.ofString "begin", a7)] (Str.ofString "at") v = [(Str.ofString "rows", a0), (Str.ofString "found", a1), (Str.ofString "part", a2), (Str.ofString "is_closed", a3), (Str.ofString "ends", a4), (Str.ofString "at", some v), (Str.ofString "end", a6), (Str.ofString "begin", a7)] := rfl
theorem gv_Edges_6 (a0 a1 a2 a3 a4 a5 a6 a7 : Option V) : getV [(Str.ofString "rows", a0), (Str.ofString "found", a1), (Str.ofString "part", a2), (Str.ofString "is_closed", a3), (Str.ofString "ends", a4), (Str.ofString "at", a5), (Str.ofString "end", a6), (Str.ofString "begin", a7)] (Str.ofString "end") = a6 := rfl
theorem sv_Edges_6 (a0 a1 a2 a3 a4 a5 a6 a7 : Option V) (v : V) : setV [(Str.ofString "rows", a0), (Str.ofString "found", a1), (Str.ofString "part", a2), (Str.ofString "is_closed", a3), (Str.ofString "ends", a4), (Str.ofString "at", a5), (Str.ofString "end", a6), (Str.ofString "begin", a7)] (Str.ofString "end") v = [(Str.ofString "rows", a0), (Str.ofString "found", a1), (Str.ofString "part", a2), (Str.ofString "is_closed", a3), (Str.ofString "ends", a4), (Str.ofString "at", a5), (Str.ofString "end", some v), (Str.ofString "begin", a7)] := rfl
theorem gv_Edges_7 (a0 a1 a2 a3 a4 a5 a6 a7 : Option V) : getV [(Str.ofString "rows", a0), (Str.ofString "found", a1), (Str.ofString "part", a2), (Str.ofString "is_closed", a3), (Str.ofString "ends", a4), (Str.ofString "at", a5), (Str.ofString "end", a6), (Str.ofString "begin", a7)] (Str.ofString "begin") = a7 := rfl
theorem sv_Edges_7 (a0 a1 a2 a3 a4 a5 a6 a7 : Option V) (v : V) : setV [(Str.ofString "rows", a0), (Str.ofString "found", a1), (Str.ofString "part", a2), (Str.ofString "is_closed", a3), (Str.ofString "ends", a4), (Str.ofString "at", a5), (Str.ofString "end", a6), (Str.ofString "begin", a7)] (Str.ofString "begin") v = [(Str.ofString "rows", a0), (Str.ofString "found", a1), (Str.ofString "part", a2), (Str.ofString "is_closed", a3), (Str.ofString "ends", a4), (Str.ofString "at", a5), (Str.ofString "end", a6), (Str.ofString "begin", some v)] := rfl
noncomputable def rEdges : {d : DefRec // fnRec (Str.ofString "path_edges") = some d} := ⟨_, rfl⟩
theorem cmpV_neP (p q : Pt) : cmpV .NotEq (.d (encP p)) (.d (encP q)) = some (nz (p, q)) := by
  show (eqD (encP p) (encP q)).map (!·) = _
  rw [eqD_P]
  simp [nz]
theorem cmpV_neT (a b c d : Int) : cmpV .NotEq (.d (.tuple [.int a, .int b])) (.d (.tuple [.int c, .int d])) = some (nz ((a, b), (c, d))) := cmpV_neP (a, b) (c, d)
theorem freeze_own0 (l : List PyData) : freezeL 9 [l.map V.d] (l.map .d) = some l := freezeL_d 7 _ l
theorem allRows_len (ss : List Sub) (hn : ss.length ≤ 8) (hs : ∀ s ∈ ss, GoodS s) : (allRows ss).length ≤ 10 * ss.length := by
  clear hn
  induction ss with
  | nil => simp [allRows]
  | cons s ss ih =>
    have := ih (fun t ht => hs t (List.mem_cons_of_mem _ ht))
    have h1 : (subRows s).length ≤ 10 := by
      have := (hs s (List.mem_cons_self ..)).1
      unfold subRows
      rw [List.length_cons, List.length_append, List.length_map]
      split <;> simp <;> omega
    rw [show allRows (s :: ss) = subRows s ++ allRows ss from rfl, List.length_append, List.length_cons]
    omega
theorem part_len {s : Sub} (h : GoodS s) : (partOf s).length ≤ 1000000 := by have := h.1; simp [partOf, tags]; omega
theorem ends_len' {s : Sub} (h : GoodS s) : (ends s).length ≤ 1000000 := by have := h.1; simp [ends]; omega
theorem ends_len {s : Sub} (h : GoodS s) : ((ends s).map encP).length ≤ 1000000 := by rw [List.length_map]; exact ends_len' h
theorem rows_len {ss : List Sub} (hn : ss.length ≤ 8) (hs : ∀ s ∈ ss, GoodS s) : (allRows ss).length ≤ 1000000 := by have := allRows_len ss hn hs; omega
theorem encS_len {ss : List Sub} (hn : ss.length ≤ 8) : (ss.map encS).length ≤ 1000000 := by rw [List.length_map]; omega
theorem pts_900 {ss : List Sub} (hs : ∀ s ∈ ss, GoodS s) : ∀ s ∈ ss, s.pts.length ≤ 900 := fun s h => Nat.le_trans (hs s h).1 (by decide)
theorem first_len {ss : List Sub} (hn : ss.length ≤ 8) : ([] : List PyData).length + 10 * ss.length ≤ 100000 := by simp only [List.length_nil]; omega
theorem firstE_len {ss : List Sub} (hn : ss.length ≤ 8) : ([] : List (Pt × Pt)).length + 10 * ss.length ≤ 100000 := by simp only [List.length_nil]; omega
theorem edges_f (n : Nat) (ss : List Sub) (dk : Dk) (hn : ss.length ≤ 8) (hs : ∀ s ∈ ss, GoodS s) :
    (ev (n+30)).f (Str.ofString "path_edges") [.d (.list (allRows ss))] dk = some (.d (.list ((edgesS ss).map encL)), dk) := by
  have hr : (allRows ss).length ≤ 1000000 := rows_len hn hs
  have hsub := fun n dk => subs_f n ss dk (Nat.le_trans hn (by decide)) (pts_900 hs) hr
  rw [ev_f, callF_eq _ _ _ rEdges.2 (by decide +kernel) rfl rfl, show initV rEdges.1 [.d (.list (allRows ss))] = [(Str.ofString "rows", some (.d (.list (allRows ss)))), (Str.ofString "found", none), (Str.ofString "part", none), (Str.ofString "is_closed", none), (Str.ofString "ends", none), (Str.ofString "at", none), (Str.ofString "end", none), (Str.ofString "begin", none)] from rfl, show initC rEdges.1 [.d (.list (allRows ss))] = [] from rfl]
  have hsl : (ss.map encS).length ≤ 1000000 := encS_len hn
  simp (decide := true) only [rEdges, hsub, hsl, ev_e, ev_t, ev_a, ev_b, evL_nil, evL_cons, evLK1_eq, evLK2_eq, retE_eq, retO_eq, evE_int, evE_str, evE_bool, evE_none, evE_name, nameV_loc, nameV_cell, nameV_free, nameV_unit, nameV_eo, evE_bin, binK1_eq, binK2_eq, binV_add, binV_sub, binV_mul, binV_div, binV_mod, binV_list, binV_tup, evE_neg, negK_eq, evE_if, ifEK_eq, evE_tuple, tupK_eq, evE_list0, evE_list1, list1K_eq, evE_list2, evE_listS, listK_eq, listK1_eq, evE_rev, revK1_eq, revK_eq, evE_slo, sloK1_eq, sloK_eq, evE_sup, supK1_eq, supK_eq, evE_subC, evE_subN, evE_subU, evE_subB, subK1_eq, subK_eq, itemV_list, itemV_tuple, itemV_own, itemOK_eq, itemV_tup, itemV_left, itemV_mixed, retB_eq, cmpVK_eq, evE_cmp, cmpE_ne, neK_eq, cmpE_eq1, cmpE_lt, cmpE_le, cmpE_gt, cmpE_ge, cmpE_is, cmpE_isnot, cmpE_neC, cmpE_neN, cmpE_neT, cmpE_neB, cmpK1_eq, cmpK_eq, cmpE_2, cmp2K1_eq, cmp2K2_eq, cmp2K2b_eq, cmpV_lt, cmpV_le, cmpV_gt, cmpV_ge, cmpV_eqI, cmpV_neI, cmpV_eqS, cmpV_isN, cmpV_isT, cmpV_isnotB, neNil_list, neNil_left, evE_and, andEK_eq, evE_call, callK_eq, retF_eq, callV_own, callV_min, callV_max, callV_lenL, callV_lenT, sumK_eq, callV_sum, callV_tupL, tupOK1_eq, tupOK_eq, callV_tupO, evE_pop, popK1_eq, popK2_eq, compStep_eq, compK1_eq, compK2_eq, compK3_eq, testsE_0, testsE_1, retL_eq, compScope_eq, compK_eq, compV_eq, compVK_eq, evE_comp, rangeK_eq, rangeK1_eq, iterV_range, enumK_eq, iterV_enum, seqIK_list, seqIK_tuple, iterV_name, iterV_subS, iterV_call, boolK_eq, evT_bool, evT_cmp, evT_name, evT_call, allT_and0, allT_or0, allT_and, allT_or, andTK_eq, orTK_eq, storeN_eq, asg_name, asgL_nil, asgL_cons, asgLK_eq, asg_tup_d, asg_tup_v, asg_sub, asgSK1_eq, setOK_eq, asgSK2_own, asgSK2_deck, nextK_eq, stoK_eq, exS_name, stoCK_eq, exS_nameC, tasK_eq, exS_tup, exS_swp2, exS_swp3, swpK2_d, swpK2_v, swpK3_v, storeL_nil, storeL_cons, storeLK_eq, sasK_eq, exS_sub, exS_aug, augK1_eq, augK2_eq, exS_if, ifSK_eq, forStep_eq, forK_eq, exS_for, loopF_nil, loopF_cons, loopK_next, loopK_ret, rtnK_eq, exS_ret, exS_meth, methK1_eq, appK_eq, methK2_app, extK_eq, methK2_ext, exB_nil, exB_cons, seqK_next, seqK_ret, fzK_eq, retFK_eq, layStr_left, layStr_mixed, layStr_m, layStr_l, layStr_z, layStr_w, layStr_e, Option.bind_some, Option.map_some, List.length_cons, List.length_nil, if_true, if_false, Bool.false_eq_true, decide_eq_true_eq, Bool.not_true, Bool.not_false, Bool.not_eq_true, List.map_cons, List.map_nil, List.reverse_cons, List.reverse_nil, List.nil_append, List.cons_append, gt_iff_lt, ge_iff_le, beq_iff_eq, Nat.reduceAdd, ite_self, mkTup, allD, Option.some.injEq, List.all_cons, List.all_nil, Bool.and_true, Bool.true_and, argOk, freeze, Option.isSome_some, decide_true, decide_false, Option.bind_none, Option.map_none, List.getElem?_cons_zero, List.getElem?_cons_succ, blank, encP, encL, getC, Bool.not_eq_true', compL, Option.toList_some, Option.toList_none, List.append_nil, itemL_0, itemL_1, itemL_2, itemL_m1, Int.cast_ofNat_Int, intsOf, List.set_cons_zero, List.set_cons_succ, Int.reduceAdd, Int.reduceSub, Int.reduceNeg, Int.reduceMul, gv_Edges_0, sv_Edges_0, gv_Edges_1, sv_Edges_1, gv_Edges_2, sv_Edges_2, gv_Edges_3, sv_Edges_3, gv_Edges_4, sv_Edges_4, gv_Edges_5, sv_Edges_5, gv_Edges_6, sv_Edges_6, gv_Edges_7, sv_Edges_7]
  generalize hL : loopF _ _ _ = o
  have key : ∃ j, o = some (.next, repE ss dk (ss.foldl fES []) j) := by
    rw [← hL]
    refine loop_ex encS (repE ss dk) fES GoodS (fun m E => E.length + 10 * m ≤ 100000) ss [] j0 hs (firstE_len hn) ?_
    intro m E j s hg hi
    have hpl : (partOf s).length ≤ 1000000 := part_len hg
    have hel := ends_len hg
    simp (decide := true) only [encS, hpl, ev_e, ev_t, ev_a, ev_b, evL_nil, evL_cons, evLK1_eq, evLK2_eq, retE_eq, retO_eq, evE_int, evE_str, evE_bool, evE_none, evE_name, nameV_loc, nameV_cell, nameV_free, nameV_unit, nameV_eo, evE_bin, binK1_eq, binK2_eq, binV_add, binV_sub, binV_mul, binV_div, binV_mod, binV_list, binV_tup, evE_neg, negK_eq, evE_if, ifEK_eq, evE_tuple, tupK_eq, evE_list0, evE_list1, list1K_eq, evE_list2, evE_listS, listK_eq, listK1_eq, evE_rev, revK1_eq, revK_eq, evE_slo, sloK1_eq, sloK_eq, evE_sup, supK1_eq, supK_eq, evE_subC, evE_subN, evE_subU, evE_subB, subK1_eq, subK_eq, itemV_list, itemV_tuple, itemV_own, itemOK_eq, itemV_tup, itemV_left, itemV_mixed, retB_eq, cmpVK_eq, evE_cmp, cmpE_ne, neK_eq, cmpE_eq1, cmpE_lt, cmpE_le, cmpE_gt, cmpE_ge, cmpE_is, cmpE_isnot, cmpE_neC, cmpE_neN, cmpE_neT, cmpE_neB, cmpK1_eq, cmpK_eq, cmpE_2, cmp2K1_eq, cmp2K2_eq, cmp2K2b_eq, cmpV_lt, cmpV_le, cmpV_gt, cmpV_ge, cmpV_eqI, cmpV_neI, cmpV_eqS, cmpV_isN, cmpV_isT, cmpV_isnotB, neNil_list, neNil_left, evE_and, andEK_eq, evE_call, callK_eq, retF_eq, callV_own, callV_min, callV_max, callV_lenL, callV_lenT, sumK_eq, callV_sum, callV_tupL, tupOK1_eq, tupOK_eq, callV_tupO, evE_pop, popK1_eq, popK2_eq, compStep_eq, compK1_eq, compK2_eq, compK3_eq, testsE_0, testsE_1, retL_eq, compScope_eq, compK_eq, compV_eq, compVK_eq, evE_comp, rangeK_eq, rangeK1_eq, iterV_range, enumK_eq, iterV_enum, seqIK_list, seqIK_tuple, iterV_name, iterV_subS, iterV_call, boolK_eq, evT_bool, evT_cmp, evT_name, evT_call, allT_and0, allT_or0, allT_and, allT_or, andTK_eq, orTK_eq, storeN_eq, asg_name, asgL_nil, asgL_cons, asgLK_eq, asg_tup_d, asg_tup_v, asg_sub, asgSK1_eq, setOK_eq, asgSK2_own, asgSK2_deck, nextK_eq, stoK_eq, exS_name, stoCK_eq, exS_nameC, tasK_eq, exS_tup, exS_swp2, exS_swp3, swpK2_d, swpK2_v, swpK3_v, storeL_nil, storeL_cons, storeLK_eq, sasK_eq, exS_sub, exS_aug, augK1_eq, augK2_eq, exS_if, ifSK_eq, forStep_eq, forK_eq, exS_for, loopF_nil, loopF_cons, loopK_next, loopK_ret, rtnK_eq, exS_ret, exS_meth, methK1_eq, appK_eq, methK2_app, extK_eq, methK2_ext, exB_nil, exB_cons, seqK_next, seqK_ret, fzK_eq, retFK_eq, layStr_left, layStr_mixed, layStr_m, layStr_l, layStr_z, layStr_w, layStr_e, Option.bind_some, Option.map_some, List.length_cons, List.length_nil, if_true, if_false, Bool.false_eq_true, decide_eq_true_eq, Bool.not_true, Bool.not_false, Bool.not_eq_true, List.map_cons, List.map_nil, List.reverse_cons, List.reverse_nil, List.nil_append, List.cons_append, gt_iff_lt, ge_iff_le, beq_iff_eq, Nat.reduceAdd, ite_self, mkTup, allD, Option.some.injEq, List.all_cons, List.all_nil, Bool.and_true, Bool.true_and, argOk, freeze, Option.isSome_some, decide_true, decide_false, Option.bind_none, Option.map_none, List.getElem?_cons_zero, List.getElem?_cons_succ, blank, encP, encL, getC, Bool.not_eq_true', compL, Option.toList_some, Option.toList_none, List.append_nil, itemL_0, itemL_1, itemL_2, itemL_m1, Int.cast_ofNat_Int, intsOf, List.set_cons_zero, List.set_cons_succ, Int.reduceAdd, Int.reduceSub, Int.reduceNeg, Int.reduceMul, gv_Edges_0, sv_Edges_0, gv_Edges_1, sv_Edges_1, gv_Edges_2, sv_Edges_2, gv_Edges_3, sv_Edges_3, gv_Edges_4, sv_Edges_4, gv_Edges_5, sv_Edges_5, gv_Edges_6, sv_Edges_6, gv_Edges_7, sv_Edges_7]
    rw [partOf, compL_rw encR (fun q => some (encP q.2)) (fun _ => True) (tags s) (fun _ _ => trivial), ends_comp]
    · simp (decide := true) only [hel, ev_e, ev_t, ev_a, ev_b, evL_nil, evL_cons, evLK1_eq, evLK2_eq, retE_eq, retO_eq, evE_int, evE_str, evE_bool, evE_none, evE_name, nameV_loc, nameV_cell, nameV_free, nameV_unit, nameV_eo, evE_bin, binK1_eq, binK2_eq, binV_add, binV_sub, binV_mul, binV_div, binV_mod, binV_list, binV_tup, evE_neg, negK_eq, evE_if, ifEK_eq, evE_tuple, tupK_eq, evE_list0, evE_list1, list1K_eq, evE_list2, evE_listS, listK_eq, listK1_eq, evE_rev, revK1_eq, revK_eq, evE_slo, sloK1_eq, sloK_eq, evE_sup, supK1_eq, supK_eq, evE_subC, evE_subN, evE_subU, evE_subB, subK1_eq, subK_eq, itemV_list, itemV_tuple, itemV_own, itemOK_eq, itemV_tup, itemV_left, itemV_mixed, retB_eq, cmpVK_eq, evE_cmp, cmpE_ne, neK_eq, cmpE_eq1, cmpE_lt, cmpE_le, cmpE_gt, cmpE_ge, cmpE_is, cmpE_isnot, cmpE_neC, cmpE_neN, cmpE_neT, cmpE_neB, cmpK1_eq, cmpK_eq, cmpE_2, cmp2K1_eq, cmp2K2_eq, cmp2K2b_eq, cmpV_lt, cmpV_le, cmpV_gt, cmpV_ge, cmpV_eqI, cmpV_neI, cmpV_eqS, cmpV_isN, cmpV_isT, cmpV_isnotB, neNil_list, neNil_left, evE_and, andEK_eq, evE_call, callK_eq, retF_eq, callV_own, callV_min, callV_max, callV_lenL, callV_lenT, sumK_eq, callV_sum, callV_tupL, tupOK1_eq, tupOK_eq, callV_tupO, evE_pop, popK1_eq, popK2_eq, compStep_eq, compK1_eq, compK2_eq, compK3_eq, testsE_0, testsE_1, retL_eq, compScope_eq, compK_eq, compV_eq, compVK_eq, evE_comp, rangeK_eq, rangeK1_eq, iterV_range, enumK_eq, iterV_enum, seqIK_list, seqIK_tuple, iterV_name, iterV_subS, iterV_call, boolK_eq, evT_bool, evT_cmp, evT_name, evT_call, allT_and0, allT_or0, allT_and, allT_or, andTK_eq, orTK_eq, storeN_eq, asg_name, asgL_nil, asgL_cons, asgLK_eq, asg_tup_d, asg_tup_v, asg_sub, asgSK1_eq, setOK_eq, asgSK2_own, asgSK2_deck, nextK_eq, stoK_eq, exS_name, stoCK_eq, exS_nameC, tasK_eq, exS_tup, exS_swp2, exS_swp3, swpK2_d, swpK2_v, swpK3_v, storeL_nil, storeL_cons, storeLK_eq, sasK_eq, exS_sub, exS_aug, augK1_eq, augK2_eq, exS_if, ifSK_eq, forStep_eq, forK_eq, exS_for, loopF_nil, loopF_cons, loopK_next, loopK_ret, rtnK_eq, exS_ret, exS_meth, methK1_eq, appK_eq, methK2_app, extK_eq, methK2_ext, exB_nil, exB_cons, seqK_next, seqK_ret, fzK_eq, retFK_eq, layStr_left, layStr_mixed, layStr_m, layStr_l, layStr_z, layStr_w, layStr_e, Option.bind_some, Option.map_some, List.length_cons, List.length_nil, if_true, if_false, Bool.false_eq_true, decide_eq_true_eq, Bool.not_true, Bool.not_false, Bool.not_eq_true, List.map_cons, List.map_nil, List.reverse_cons, List.reverse_nil, List.nil_append, List.cons_append, gt_iff_lt, ge_iff_le, beq_iff_eq, Nat.reduceAdd, ite_self, mkTup, allD, Option.some.injEq, List.all_cons, List.all_nil, Bool.and_true, Bool.true_and, argOk, freeze, Option.isSome_some, decide_true, decide_false, Option.bind_none, Option.map_none, List.getElem?_cons_zero, List.getElem?_cons_succ, blank, encP, encL, getC, Bool.not_eq_true', compL, Option.toList_some, Option.toList_none, List.append_nil, itemL_0, itemL_1, itemL_2, itemL_m1, Int.cast_ofNat_Int, intsOf, List.set_cons_zero, List.set_cons_succ, Int.reduceAdd, Int.reduceSub, Int.reduceNeg, Int.reduceMul, gv_Edges_0, sv_Edges_0, gv_Edges_1, sv_Edges_1, gv_Edges_2, sv_Edges_2, gv_Edges_3, sv_Edges_3, gv_Edges_4, sv_Edges_4, gv_Edges_5, sv_Edges_5, gv_Edges_6, sv_Edges_6, gv_Edges_7, sv_Edges_7]
      generalize hL2 : loopF _ _ _ = o2
      have key2 : ∃ j2 : J8, o2 = some (.next, repE ss dk (fES E s) ⟨some (.d (.list ((tags s).map encR))), some (.d (.bool s.closed)), some (.d (.list ((ends s).map encP))), j2.d, j2.e, j2.f, none, none⟩) := by
        rw [← hL2]
        refine enum_loop (fun E (j : J8) => repE ss dk E ⟨some (.d (.list ((tags s).map encR))), some (.d (.bool s.closed)), some (.d (.list ((ends s).map encP))), j.d, j.e, j.f, none, none⟩) fE s.start s.pts (fun m E => E.length + m ≤ 100000) E j ?_ ?_
        · have := hg.1
          simp only [List.length_cons]
          omega
        · intro m k q p E j hk hq hi
          have hel' := ends_len' hg
          have hk' : ((k : Int) - 1).natAbs < 4611686018427387904 := by have := hg.1; simp only [List.length_cons] at hk; omega
          have hE : (List.map V.d (List.map encL E)).length ≤ 1000000 := by simp; omega
          refine ⟨⟨none, none, none, some (.d (.int k)), some (.d (encP p)), some (.d (encP q)), none, none⟩, ?_, ?_⟩
          · unfold fE
            obtain ⟨q1, q2⟩ := q
            obtain ⟨p1, p2⟩ := p
            have hq' : itemL ((ends s).map encP) ((k : Int) - 1) = some (encP (q1, q2)) := hq
            cases hz : nz ((q1, q2), (p1, p2))
            · simp (decide := true) only [hel, hk', hq', hz, cmpV_neT, ev_e, ev_t, ev_a, ev_b, evL_nil, evL_cons, evLK1_eq, evLK2_eq, retE_eq, retO_eq, evE_int, evE_str, evE_bool, evE_none, evE_name, nameV_loc, nameV_cell, nameV_free, nameV_unit, nameV_eo, evE_bin, binK1_eq, binK2_eq, binV_add, binV_sub, binV_mul, binV_div, binV_mod, binV_list, binV_tup, evE_neg, negK_eq, evE_if, ifEK_eq, evE_tuple, tupK_eq, evE_list0, evE_list1, list1K_eq, evE_list2, evE_listS, listK_eq, listK1_eq, evE_rev, revK1_eq, revK_eq, evE_slo, sloK1_eq, sloK_eq, evE_sup, supK1_eq, supK_eq, evE_subC, evE_subN, evE_subU, evE_subB, subK1_eq, subK_eq, itemV_list, itemV_tuple, itemV_own, itemOK_eq, itemV_tup, itemV_left, itemV_mixed, retB_eq, cmpVK_eq, evE_cmp, cmpE_ne, neK_eq, cmpE_eq1, cmpE_lt, cmpE_le, cmpE_gt, cmpE_ge, cmpE_is, cmpE_isnot, cmpE_neC, cmpE_neN, cmpE_neT, cmpE_neB, cmpK1_eq, cmpK_eq, cmpE_2, cmp2K1_eq, cmp2K2_eq, cmp2K2b_eq, cmpV_lt, cmpV_le, cmpV_gt, cmpV_ge, cmpV_eqI, cmpV_neI, cmpV_eqS, cmpV_isN, cmpV_isT, cmpV_isnotB, neNil_list, neNil_left, evE_and, andEK_eq, evE_call, callK_eq, retF_eq, callV_own, callV_min, callV_max, callV_lenL, callV_lenT, sumK_eq, callV_sum, callV_tupL, tupOK1_eq, tupOK_eq, callV_tupO, evE_pop, popK1_eq, popK2_eq, compStep_eq, compK1_eq, compK2_eq, compK3_eq, testsE_0, testsE_1, retL_eq, compScope_eq, compK_eq, compV_eq, compVK_eq, evE_comp, rangeK_eq, rangeK1_eq, iterV_range, enumK_eq, iterV_enum, seqIK_list, seqIK_tuple, iterV_name, iterV_subS, iterV_call, boolK_eq, evT_bool, evT_cmp, evT_name, evT_call, allT_and0, allT_or0, allT_and, allT_or, andTK_eq, orTK_eq, storeN_eq, asg_name, asgL_nil, asgL_cons, asgLK_eq, asg_tup_d, asg_tup_v, asg_sub, asgSK1_eq, setOK_eq, asgSK2_own, asgSK2_deck, nextK_eq, stoK_eq, exS_name, stoCK_eq, exS_nameC, tasK_eq, exS_tup, exS_swp2, exS_swp3, swpK2_d, swpK2_v, swpK3_v, storeL_nil, storeL_cons, storeLK_eq, sasK_eq, exS_sub, exS_aug, augK1_eq, augK2_eq, exS_if, ifSK_eq, forStep_eq, forK_eq, exS_for, loopF_nil, loopF_cons, loopK_next, loopK_ret, rtnK_eq, exS_ret, exS_meth, methK1_eq, appK_eq, methK2_app, extK_eq, methK2_ext, exB_nil, exB_cons, seqK_next, seqK_ret, fzK_eq, retFK_eq, layStr_left, layStr_mixed, layStr_m, layStr_l, layStr_z, layStr_w, layStr_e, Option.bind_some, Option.map_some, List.length_cons, List.length_nil, if_true, if_false, Bool.false_eq_true, decide_eq_true_eq, Bool.not_true, Bool.not_false, Bool.not_eq_true, List.map_cons, List.map_nil, List.reverse_cons, List.reverse_nil, List.nil_append, List.cons_append, gt_iff_lt, ge_iff_le, beq_iff_eq, Nat.reduceAdd, ite_self, mkTup, allD, Option.some.injEq, List.all_cons, List.all_nil, Bool.and_true, Bool.true_and, argOk, freeze, Option.isSome_some, decide_true, decide_false, Option.bind_none, Option.map_none, List.getElem?_cons_zero, List.getElem?_cons_succ, blank, encP, encL, getC, Bool.not_eq_true', compL, Option.toList_some, Option.toList_none, List.append_nil, itemL_0, itemL_1, itemL_2, itemL_m1, Int.cast_ofNat_Int, intsOf, List.set_cons_zero, List.set_cons_succ, Int.reduceAdd, Int.reduceSub, Int.reduceNeg, Int.reduceMul, gv_Edges_0, sv_Edges_0, gv_Edges_1, sv_Edges_1, gv_Edges_2, sv_Edges_2, gv_Edges_3, sv_Edges_3, gv_Edges_4, sv_Edges_4, gv_Edges_5, sv_Edges_5, gv_Edges_6, sv_Edges_6, gv_Edges_7, sv_Edges_7]
            · simp (decide := true) only [hel, hk', hq', hz, cmpV_neT, hE, encL, ev_e, ev_t, ev_a, ev_b, evL_nil, evL_cons, evLK1_eq, evLK2_eq, retE_eq, retO_eq, evE_int, evE_str, evE_bool, evE_none, evE_name, nameV_loc, nameV_cell, nameV_free, nameV_unit, nameV_eo, evE_bin, binK1_eq, binK2_eq, binV_add, binV_sub, binV_mul, binV_div, binV_mod, binV_list, binV_tup, evE_neg, negK_eq, evE_if, ifEK_eq, evE_tuple, tupK_eq, evE_list0, evE_list1, list1K_eq, evE_list2, evE_listS, listK_eq, listK1_eq, evE_rev, revK1_eq, revK_eq, evE_slo, sloK1_eq, sloK_eq, evE_sup, supK1_eq, supK_eq, evE_subC, evE_subN, evE_subU, evE_subB, subK1_eq, subK_eq, itemV_list, itemV_tuple, itemV_own, itemOK_eq, itemV_tup, itemV_left, itemV_mixed, retB_eq, cmpVK_eq, evE_cmp, cmpE_ne, neK_eq, cmpE_eq1, cmpE_lt, cmpE_le, cmpE_gt, cmpE_ge, cmpE_is, cmpE_isnot, cmpE_neC, cmpE_neN, cmpE_neT, cmpE_neB, cmpK1_eq, cmpK_eq, cmpE_2, cmp2K1_eq, cmp2K2_eq, cmp2K2b_eq, cmpV_lt, cmpV_le, cmpV_gt, cmpV_ge, cmpV_eqI, cmpV_neI, cmpV_eqS, cmpV_isN, cmpV_isT, cmpV_isnotB, neNil_list, neNil_left, evE_and, andEK_eq, evE_call, callK_eq, retF_eq, callV_own, callV_min, callV_max, callV_lenL, callV_lenT, sumK_eq, callV_sum, callV_tupL, tupOK1_eq, tupOK_eq, callV_tupO, evE_pop, popK1_eq, popK2_eq, compStep_eq, compK1_eq, compK2_eq, compK3_eq, testsE_0, testsE_1, retL_eq, compScope_eq, compK_eq, compV_eq, compVK_eq, evE_comp, rangeK_eq, rangeK1_eq, iterV_range, enumK_eq, iterV_enum, seqIK_list, seqIK_tuple, iterV_name, iterV_subS, iterV_call, boolK_eq, evT_bool, evT_cmp, evT_name, evT_call, allT_and0, allT_or0, allT_and, allT_or, andTK_eq, orTK_eq, storeN_eq, asg_name, asgL_nil, asgL_cons, asgLK_eq, asg_tup_d, asg_tup_v, asg_sub, asgSK1_eq, setOK_eq, asgSK2_own, asgSK2_deck, nextK_eq, stoK_eq, exS_name, stoCK_eq, exS_nameC, tasK_eq, exS_tup, exS_swp2, exS_swp3, swpK2_d, swpK2_v, swpK3_v, storeL_nil, storeL_cons, storeLK_eq, sasK_eq, exS_sub, exS_aug, augK1_eq, augK2_eq, exS_if, ifSK_eq, forStep_eq, forK_eq, exS_for, loopF_nil, loopF_cons, loopK_next, loopK_ret, rtnK_eq, exS_ret, exS_meth, methK1_eq, appK_eq, methK2_app, extK_eq, methK2_ext, exB_nil, exB_cons, seqK_next, seqK_ret, fzK_eq, retFK_eq, layStr_left, layStr_mixed, layStr_m, layStr_l, layStr_z, layStr_w, layStr_e, Option.bind_some, Option.map_some, List.length_cons, List.length_nil, if_true, if_false, Bool.false_eq_true, decide_eq_true_eq, Bool.not_true, Bool.not_false, Bool.not_eq_true, List.map_cons, List.map_nil, List.reverse_cons, List.reverse_nil, List.nil_append, List.cons_append, gt_iff_lt, ge_iff_le, beq_iff_eq, Nat.reduceAdd, ite_self, mkTup, allD, Option.some.injEq, List.all_cons, List.all_nil, Bool.and_true, Bool.true_and, argOk, freeze, Option.isSome_some, decide_true, decide_false, Option.bind_none, Option.map_none, List.getElem?_cons_zero, List.getElem?_cons_succ, blank, encP, encL, getC, Bool.not_eq_true', compL, Option.toList_some, Option.toList_none, List.append_nil, itemL_0, itemL_1, itemL_2, itemL_m1, Int.cast_ofNat_Int, intsOf, List.set_cons_zero, List.set_cons_succ, Int.reduceAdd, Int.reduceSub, Int.reduceNeg, Int.reduceMul, gv_Edges_0, sv_Edges_0, gv_Edges_1, sv_Edges_1, gv_Edges_2, sv_Edges_2, gv_Edges_3, sv_Edges_3, gv_Edges_4, sv_Edges_4, gv_Edges_5, sv_Edges_5, gv_Edges_6, sv_Edges_6, gv_Edges_7, sv_Edges_7]
              simp [encL, encP]
          · unfold fE
            split
            · simp only [List.length_append, List.length_singleton]; omega
            · omega
      obtain ⟨j2, rfl⟩ := key2
      refine ⟨⟨some (.d (.list ((tags s).map encR))), some (.d (.bool s.closed)), some (.d (.list ((ends s).map encP))), j2.d, j2.e, j2.f, none, none⟩, ?_, ?_⟩
      · simp (decide := true) only [ev_e, ev_t, ev_a, ev_b, evL_nil, evL_cons, evLK1_eq, evLK2_eq, retE_eq, retO_eq, evE_int, evE_str, evE_bool, evE_none, evE_name, nameV_loc, nameV_cell, nameV_free, nameV_unit, nameV_eo, evE_bin, binK1_eq, binK2_eq, binV_add, binV_sub, binV_mul, binV_div, binV_mod, binV_list, binV_tup, evE_neg, negK_eq, evE_if, ifEK_eq, evE_tuple, tupK_eq, evE_list0, evE_list1, list1K_eq, evE_list2, evE_listS, listK_eq, listK1_eq, evE_rev, revK1_eq, revK_eq, evE_slo, sloK1_eq, sloK_eq, evE_sup, supK1_eq, supK_eq, evE_subC, evE_subN, evE_subU, evE_subB, subK1_eq, subK_eq, itemV_list, itemV_tuple, itemV_own, itemOK_eq, itemV_tup, itemV_left, itemV_mixed, retB_eq, cmpVK_eq, evE_cmp, cmpE_ne, neK_eq, cmpE_eq1, cmpE_lt, cmpE_le, cmpE_gt, cmpE_ge, cmpE_is, cmpE_isnot, cmpE_neC, cmpE_neN, cmpE_neT, cmpE_neB, cmpK1_eq, cmpK_eq, cmpE_2, cmp2K1_eq, cmp2K2_eq, cmp2K2b_eq, cmpV_lt, cmpV_le, cmpV_gt, cmpV_ge, cmpV_eqI, cmpV_neI, cmpV_eqS, cmpV_isN, cmpV_isT, cmpV_isnotB, neNil_list, neNil_left, evE_and, andEK_eq, evE_call, callK_eq, retF_eq, callV_own, callV_min, callV_max, callV_lenL, callV_lenT, sumK_eq, callV_sum, callV_tupL, tupOK1_eq, tupOK_eq, callV_tupO, evE_pop, popK1_eq, popK2_eq, compStep_eq, compK1_eq, compK2_eq, compK3_eq, testsE_0, testsE_1, retL_eq, compScope_eq, compK_eq, compV_eq, compVK_eq, evE_comp, rangeK_eq, rangeK1_eq, iterV_range, enumK_eq, iterV_enum, seqIK_list, seqIK_tuple, iterV_name, iterV_subS, iterV_call, boolK_eq, evT_bool, evT_cmp, evT_name, evT_call, allT_and0, allT_or0, allT_and, allT_or, andTK_eq, orTK_eq, storeN_eq, asg_name, asgL_nil, asgL_cons, asgLK_eq, asg_tup_d, asg_tup_v, asg_sub, asgSK1_eq, setOK_eq, asgSK2_own, asgSK2_deck, nextK_eq, stoK_eq, exS_name, stoCK_eq, exS_nameC, tasK_eq, exS_tup, exS_swp2, exS_swp3, swpK2_d, swpK2_v, swpK3_v, storeL_nil, storeL_cons, storeLK_eq, sasK_eq, exS_sub, exS_aug, augK1_eq, augK2_eq, exS_if, ifSK_eq, forStep_eq, forK_eq, exS_for, loopF_nil, loopF_cons, loopK_next, loopK_ret, rtnK_eq, exS_ret, exS_meth, methK1_eq, appK_eq, methK2_app, extK_eq, methK2_ext, exB_nil, exB_cons, seqK_next, seqK_ret, fzK_eq, retFK_eq, layStr_left, layStr_mixed, layStr_m, layStr_l, layStr_z, layStr_w, layStr_e, Option.bind_some, Option.map_some, List.length_cons, List.length_nil, if_true, if_false, Bool.false_eq_true, decide_eq_true_eq, Bool.not_true, Bool.not_false, Bool.not_eq_true, List.map_cons, List.map_nil, List.reverse_cons, List.reverse_nil, List.nil_append, List.cons_append, gt_iff_lt, ge_iff_le, beq_iff_eq, Nat.reduceAdd, ite_self, mkTup, allD, Option.some.injEq, List.all_cons, List.all_nil, Bool.and_true, Bool.true_and, argOk, freeze, Option.isSome_some, decide_true, decide_false, Option.bind_none, Option.map_none, List.getElem?_cons_zero, List.getElem?_cons_succ, blank, encP, encL, getC, Bool.not_eq_true', compL, Option.toList_some, Option.toList_none, List.append_nil, itemL_0, itemL_1, itemL_2, itemL_m1, Int.cast_ofNat_Int, intsOf, List.set_cons_zero, List.set_cons_succ, Int.reduceAdd, Int.reduceSub, Int.reduceNeg, Int.reduceMul, gv_Edges_0, sv_Edges_0, gv_Edges_1, sv_Edges_1, gv_Edges_2, sv_Edges_2, gv_Edges_3, sv_Edges_3, gv_Edges_4, sv_Edges_4, gv_Edges_5, sv_Edges_5, gv_Edges_6, sv_Edges_6, gv_Edges_7, sv_Edges_7]
      · rw [fES, fE_eq, List.length_append]
        have h1 := List.length_filter_le nz (cycS s)
        rw [cycS, pairs_len, ends, List.length_cons] at h1
        have := hg.1
        simp only [cycS, ends] at h1 ⊢
        omega
    · intro a _
      simp (decide := true) only [encR, points_f, ev_e, ev_t, ev_a, ev_b, evL_nil, evL_cons, evLK1_eq, evLK2_eq, retE_eq, retO_eq, evE_int, evE_str, evE_bool, evE_none, evE_name, nameV_loc, nameV_cell, nameV_free, nameV_unit, nameV_eo, evE_bin, binK1_eq, binK2_eq, binV_add, binV_sub, binV_mul, binV_div, binV_mod, binV_list, binV_tup, evE_neg, negK_eq, evE_if, ifEK_eq, evE_tuple, tupK_eq, evE_list0, evE_list1, list1K_eq, evE_list2, evE_listS, listK_eq, listK1_eq, evE_rev, revK1_eq, revK_eq, evE_slo, sloK1_eq, sloK_eq, evE_sup, supK1_eq, supK_eq, evE_subC, evE_subN, evE_subU, evE_subB, subK1_eq, subK_eq, itemV_list, itemV_tuple, itemV_own, itemOK_eq, itemV_tup, itemV_left, itemV_mixed, retB_eq, cmpVK_eq, evE_cmp, cmpE_ne, neK_eq, cmpE_eq1, cmpE_lt, cmpE_le, cmpE_gt, cmpE_ge, cmpE_is, cmpE_isnot, cmpE_neC, cmpE_neN, cmpE_neT, cmpE_neB, cmpK1_eq, cmpK_eq, cmpE_2, cmp2K1_eq, cmp2K2_eq, cmp2K2b_eq, cmpV_lt, cmpV_le, cmpV_gt, cmpV_ge, cmpV_eqI, cmpV_neI, cmpV_eqS, cmpV_isN, cmpV_isT, cmpV_isnotB, neNil_list, neNil_left, evE_and, andEK_eq, evE_call, callK_eq, retF_eq, callV_own, callV_min, callV_max, callV_lenL, callV_lenT, sumK_eq, callV_sum, callV_tupL, tupOK1_eq, tupOK_eq, callV_tupO, evE_pop, popK1_eq, popK2_eq, compStep_eq, compK1_eq, compK2_eq, compK3_eq, testsE_0, testsE_1, retL_eq, compScope_eq, compK_eq, compV_eq, compVK_eq, evE_comp, rangeK_eq, rangeK1_eq, iterV_range, enumK_eq, iterV_enum, seqIK_list, seqIK_tuple, iterV_name, iterV_subS, iterV_call, boolK_eq, evT_bool, evT_cmp, evT_name, evT_call, allT_and0, allT_or0, allT_and, allT_or, andTK_eq, orTK_eq, storeN_eq, asg_name, asgL_nil, asgL_cons, asgLK_eq, asg_tup_d, asg_tup_v, asg_sub, asgSK1_eq, setOK_eq, asgSK2_own, asgSK2_deck, nextK_eq, stoK_eq, exS_name, stoCK_eq, exS_nameC, tasK_eq, exS_tup, exS_swp2, exS_swp3, swpK2_d, swpK2_v, swpK3_v, storeL_nil, storeL_cons, storeLK_eq, sasK_eq, exS_sub, exS_aug, augK1_eq, augK2_eq, exS_if, ifSK_eq, forStep_eq, forK_eq, exS_for, loopF_nil, loopF_cons, loopK_next, loopK_ret, rtnK_eq, exS_ret, exS_meth, methK1_eq, appK_eq, methK2_app, extK_eq, methK2_ext, exB_nil, exB_cons, seqK_next, seqK_ret, fzK_eq, retFK_eq, layStr_left, layStr_mixed, layStr_m, layStr_l, layStr_z, layStr_w, layStr_e, getV, setV, Option.bind_some, Option.map_some, List.length_cons, List.length_nil, if_true, if_false, Bool.false_eq_true, decide_eq_true_eq, Bool.not_true, Bool.not_false, Bool.not_eq_true, List.map_cons, List.map_nil, List.reverse_cons, List.reverse_nil, List.nil_append, List.cons_append, gt_iff_lt, ge_iff_le, beq_iff_eq, Nat.reduceAdd, ite_self, mkTup, allD, Option.some.injEq, List.all_cons, List.all_nil, Bool.and_true, Bool.true_and, argOk, freeze, Option.isSome_some, decide_true, decide_false, Option.bind_none, Option.map_none, List.getElem?_cons_zero, List.getElem?_cons_succ, blank, encP, encL, getC, Bool.not_eq_true', compL, Option.toList_some, Option.toList_none, List.append_nil, itemL_0, itemL_1, itemL_2, itemL_m1, Int.cast_ofNat_Int, intsOf, List.set_cons_zero, List.set_cons_succ, Int.reduceAdd, Int.reduceSub, Int.reduceNeg, Int.reduceMul]
      rfl
  obtain ⟨j, rfl⟩ := key
  simp (decide := true) only [repE, ev_e, ev_t, ev_a, ev_b, evL_nil, evL_cons, evLK1_eq, evLK2_eq, retE_eq, retO_eq, evE_int, evE_str, evE_bool, evE_none, evE_name, nameV_loc, nameV_cell, nameV_free, nameV_unit, nameV_eo, evE_bin, binK1_eq, binK2_eq, binV_add, binV_sub, binV_mul, binV_div, binV_mod, binV_list, binV_tup, evE_neg, negK_eq, evE_if, ifEK_eq, evE_tuple, tupK_eq, evE_list0, evE_list1, list1K_eq, evE_list2, evE_listS, listK_eq, listK1_eq, evE_rev, revK1_eq, revK_eq, evE_slo, sloK1_eq, sloK_eq, evE_sup, supK1_eq, supK_eq, evE_subC, evE_subN, evE_subU, evE_subB, subK1_eq, subK_eq, itemV_list, itemV_tuple, itemV_own, itemOK_eq, itemV_tup, itemV_left, itemV_mixed, retB_eq, cmpVK_eq, evE_cmp, cmpE_ne, neK_eq, cmpE_eq1, cmpE_lt, cmpE_le, cmpE_gt, cmpE_ge, cmpE_is, cmpE_isnot, cmpE_neC, cmpE_neN, cmpE_neT, cmpE_neB, cmpK1_eq, cmpK_eq, cmpE_2, cmp2K1_eq, cmp2K2_eq, cmp2K2b_eq, cmpV_lt, cmpV_le, cmpV_gt, cmpV_ge, cmpV_eqI, cmpV_neI, cmpV_eqS, cmpV_isN, cmpV_isT, cmpV_isnotB, neNil_list, neNil_left, evE_and, andEK_eq, evE_call, callK_eq, retF_eq, callV_own, callV_min, callV_max, callV_lenL, callV_lenT, sumK_eq, callV_sum, callV_tupL, tupOK1_eq, tupOK_eq, callV_tupO, evE_pop, popK1_eq, popK2_eq, compStep_eq, compK1_eq, compK2_eq, compK3_eq, testsE_0, testsE_1, retL_eq, compScope_eq, compK_eq, compV_eq, compVK_eq, evE_comp, rangeK_eq, rangeK1_eq, iterV_range, enumK_eq, iterV_enum, seqIK_list, seqIK_tuple, iterV_name, iterV_subS, iterV_call, boolK_eq, evT_bool, evT_cmp, evT_name, evT_call, allT_and0, allT_or0, allT_and, allT_or, andTK_eq, orTK_eq, storeN_eq, asg_name, asgL_nil, asgL_cons, asgLK_eq, asg_tup_d, asg_tup_v, asg_sub, asgSK1_eq, setOK_eq, asgSK2_own, asgSK2_deck, nextK_eq, stoK_eq, exS_name, stoCK_eq, exS_nameC, tasK_eq, exS_tup, exS_swp2, exS_swp3, swpK2_d, swpK2_v, swpK3_v, storeL_nil, storeL_cons, storeLK_eq, sasK_eq, exS_sub, exS_aug, augK1_eq, augK2_eq, exS_if, ifSK_eq, forStep_eq, forK_eq, exS_for, loopF_nil, loopF_cons, loopK_next, loopK_ret, rtnK_eq, exS_ret, exS_meth, methK1_eq, appK_eq, methK2_app, extK_eq, methK2_ext, exB_nil, exB_cons, seqK_next, seqK_ret, fzK_eq, retFK_eq, layStr_left, layStr_mixed, layStr_m, layStr_l, layStr_z, layStr_w, layStr_e, Option.bind_some, Option.map_some, List.length_cons, List.length_nil, if_true, if_false, Bool.false_eq_true, decide_eq_true_eq, Bool.not_true, Bool.not_false, Bool.not_eq_true, List.map_cons, List.map_nil, List.reverse_cons, List.reverse_nil, List.nil_append, List.cons_append, gt_iff_lt, ge_iff_le, beq_iff_eq, Nat.reduceAdd, ite_self, mkTup, allD, Option.some.injEq, List.all_cons, List.all_nil, Bool.and_true, Bool.true_and, argOk, freeze, Option.isSome_some, decide_true, decide_false, Option.bind_none, Option.map_none, List.getElem?_cons_zero, List.getElem?_cons_succ, blank, encP, encL, getC, Bool.not_eq_true', compL, Option.toList_some, Option.toList_none, List.append_nil, itemL_0, itemL_1, itemL_2, itemL_m1, Int.cast_ofNat_Int, intsOf, List.set_cons_zero, List.set_cons_succ, Int.reduceAdd, Int.reduceSub, Int.reduceNeg, Int.reduceMul, gv_Edges_0, sv_Edges_0, gv_Edges_1, sv_Edges_1, gv_Edges_2, sv_Edges_2, gv_Edges_3, sv_Edges_3, gv_Edges_4, sv_Edges_4, gv_Edges_5, sv_Edges_5, gv_Edges_6, sv_Edges_6, gv_Edges_7, sv_Edges_7]
  rw [freeze_own0, fES_eq]
  rfl

end Mine
namespace Mine
open PySem PySem.W PyProof.Rows PySem.Calls
set_option maxRecDepth 100000

theorem pairs_mem (q : Pt) (l : List Pt) (e : Pt × Pt) (h : e ∈ pairs q l) : e.1 ∈ q :: l ∧ e.2 ∈ q :: l := by
  induction l generalizing q with
  | nil => cases h
  | cons a l ih =>
    rw [pairs] at h
    rcases List.mem_cons.mp h with h | h
    · subst h; exact ⟨by simp, by simp⟩
    · obtain ⟨h1, h2⟩ := ih a h
      exact ⟨List.mem_cons_of_mem _ h1, List.mem_cons_of_mem _ h2⟩
theorem lastP_mem (p : Pt) (r : List Pt) : lastP p r ∈ p :: r := by
  obtain ⟨i, e⟩ := lastP_app p r
  rw [e]; simp
theorem cyc_bd {s : Sub} (h : GoodS s) : ∀ e ∈ cycS s, BdL e := by
  intro e he
  have hb : ∀ p ∈ ends s, Bd p := by
    intro p hp
    rcases List.mem_cons.mp hp with h' | h'
    · subst h'; exact h.2.1
    · exact h.2.2 p h'
  obtain ⟨h1, h2⟩ := pairs_mem _ _ _ he
  have hl : Bd (lastP s.start s.pts) := hb _ (lastP_mem _ _)
  refine ⟨?_, ?_⟩
  · rcases List.mem_cons.mp h1 with h' | h'
    · rw [h']; exact hl
    · exact hb _ h'
  · rcases List.mem_cons.mp h2 with h' | h'
    · rw [h']; exact hl
    · exact hb _ h'
theorem edges_bd {ss : List Sub} (hs : ∀ s ∈ ss, GoodS s) : ∀ e ∈ edgesS ss, BdL e := by
  intro e he
  obtain ⟨s, h1, h2⟩ := List.mem_flatMap.mp he
  exact cyc_bd (hs s h1) e ((List.mem_filter.mp h2).1)
theorem edges_len (ss : List Sub) (hs : ∀ s ∈ ss, GoodS s) : (edgesS ss).length ≤ 9 * ss.length := by
  induction ss with
  | nil => simp [edgesS]
  | cons s ss ih =>
    have h0 := ih (fun t ht => hs t (List.mem_cons_of_mem _ ht))
    have h1 := (hs s (List.mem_cons_self ..)).1
    have h2 := List.length_filter_le nz (cycS s)
    have h3 : (cycS s).length = s.pts.length + 1 := by rw [cycS, pairs_len]; rfl
    rw [show edgesS (s :: ss) = (cycS s).filter nz ++ edgesS ss from rfl, List.length_append, List.length_cons]
    omega

/-! the area -/
noncomputable abbrev repA (ss : List Sub) (dk : Dk) (s : SA) : IS := ⟨[(Str.ofString "rows", some (.d (.list (allRows ss)))), (Str.ofString "found", some (.d (.int s.w))), (Str.ofString "ax", s.a), (Str.ofString "ay", s.b), (Str.ofString "bx", s.c), (Str.ofString "by", s.d)], [], dk⟩
noncomputable abbrev fA (s : SA) (l : Pt × Pt) : SA := ⟨s.w + arL l, some (.d (.int l.1.1)), some (.d (.int l.1.2)), some (.d (.int l.2.1)), some (.d (.int l.2.2))⟩
theorem fA_w (ls : List (Pt × Pt)) (s : SA) : (ls.foldl fA s).w = s.w + (ls.map arL).sum := by
  induction ls generalizing s with
  | nil => simp
  | cons a l ih =>
    rw [List.foldl_cons, ih (fA s a)]
    simp only [List.map_cons, List.sum_cons]
    omega
theorem gv_Area_0 (a0 a1 a2 a3 a4 a5 : Option V) : getV [(Str.ofString "rows", a0), (Str.ofString "found", a1), (Str.ofString "ax", a2), (Str.ofString "ay", a3), (Str.ofString "bx", a4), (Str.ofString "by", a5)] (Str.ofString "rows") = a0 := rfl
theorem sv_Area_0 (a0 a1 a2 a3 a4 a5 : Option V) (v : V) : setV [(Str.ofString "rows", a0), (Str.ofString "found", a1), (Str.ofString "ax", a2), (Str.ofString "ay", a3), (Str.ofString "bx", a4), (Str.ofString "by", a5)] (Str.ofString "rows") v = [(Str.ofString "rows", some v), (Str.ofString "found", a1), (Str.ofString "ax", a2), (Str.ofString "ay", a3), (Str.ofString "bx", a4), (Str.ofString "by", a5)] := rfl
theorem gv_Area_1 (a0 a1 a2 a3 a4 a5 : Option V) : getV [(Str.ofString "rows", a0), (Str.ofString "found", a1), (Str.ofString "ax", a2), (Str.ofString "ay", a3), (Str.ofString "bx", a4), (Str.ofString "by", a5)] (Str.ofString "found") = a1 := rfl
theorem sv_Area_1 (a0 a1 a2 a3 a4 a5 : Option V) (v : V) : setV [(Str.ofString "rows", a0), (Str.ofString "found", a1), (Str.ofString "ax", a2), (Str.ofString "ay", a3), (Str.ofString "bx", a4), (Str.ofString "by", a5)] (Str.ofString "found") v = [(Str.ofString "rows", a0), (Str.ofString "found", some v), (Str.ofString "ax", a2), (Str.ofString "ay", a3), (Str.ofString "bx", a4), (Str.ofString "by", a5)] := rfl
theorem gv_Area_2 (a0 a1 a2 a3 a4 a5 : Option V) : getV [(Str.ofString "rows", a0), (Str.ofString "found", a1), (Str.ofString "ax", a2), (Str.ofString "ay", a3), (Str.ofString "bx", a4), (Str.ofString "by", a5)] (Str.ofString "ax") = a2 := rfl
theorem sv_Area_2 (a0 a1 a2 a3 a4 a5 : Option V) (v : V) : setV [(Str.ofString "rows", a0), (Str.ofString "found", a1), (Str.ofString "ax", a2), (Str.ofString "ay", a3), (Str.ofString "bx", a4), (Str.ofString "by", a5)] (Str.ofString "ax") v = [(Str.ofString "rows", a0), (Str.ofString "found", a1), (Str.ofString "ax", some v), (Str.ofString "ay", a3), (Str.ofString "bx", a4), (Str.ofString "by", a5)] := rfl
theorem gv_Area_3 (a0 a1 a2 a3 a4 a5 : Option V) : getV [(Str.ofString "rows", a0), (Str.ofString "found", a1), (Str.ofString "ax", a2), (Str.ofString "ay", a3), (Str.ofString "bx", a4), (Str.ofString "by", a5)] (Str.ofString "ay") = a3 := rfl
theorem sv_Area_3 (a0 a1 a2 a3 a4 a5 : Option V) (v : V) : setV [(Str.ofString "rows", a0), (Str.ofString "found", a1), (Str.ofString "ax", a2), (Str.ofString "ay", a3), (Str.ofString "bx", a4), (Str.ofString "by", a5)] (Str.ofString "ay") v = [(Str.ofString "rows", a0), (Str.ofString "found", a1), (Str.ofString "ax", a2), (Str.ofString "ay", some v), (Str.ofString "bx", a4), (Str.ofString "by", a5)] := rfl
theorem gv_Area_4 (a0 a1 a2 a3 a4 a5 : Option V) : getV [(Str.ofString "rows", a0), (Str.ofString "found", a1), (Str.ofString "ax", a2), (Str.ofString "ay", a3), (Str.ofString "bx", a4), (Str.ofString "by", a5)] (Str.ofString "bx") = a4 := rfl
theorem sv_Area_4 (a0 a1 a2 a3 a4 a5 : Option V) (v : V) : setV [(Str.ofString "rows", a0), (Str.ofString "found", a1), (Str.ofString "ax", a2), (Str.ofString "ay", a3), (Str.ofString "bx", a4), (Str.ofString "by", a5)] (Str.ofString "bx") v = [(Str.ofString "rows", a0), (Str.ofString "found", a1), (Str.ofString "ax", a2), (Str.ofString "ay", a3), (Str.ofString "bx", some v), (Str.ofString "by", a5)] := rfl
theorem gv_Area_5 (a0 a1 a2 a3 a4 a5 : Option V) : getV [(Str.ofString "rows", a0), (Str.ofString "found", a1), (Str.ofString "ax", a2), (Str.ofString "ay", a3), (Str.ofString "bx", a4), (Str.ofString "by", a5)] (Str.ofString "by") = a5 := rfl
theorem sv_Area_5 (a0 a1 a2 a3 a4 a5 : Option V) (v : V) : setV [(Str.ofString "rows", a0), (Str.ofString "found", a1), (Str.ofString "ax", a2), (Str.ofString "ay", a3), (Str.ofString "bx", a4), (Str.ofString "by", a5)] (Str.ofString "by") v = [(Str.ofString "rows", a0), (Str.ofString "found", a1), (Str.ofString "ax", a2), (Str.ofString "ay", a3), (Str.ofString "bx", a4), (Str.ofString "by", some v)] := rfl
noncomputable def rArea : {d : DefRec // fnRec (Str.ofString "path_twice_area") = some d} := ⟨_, rfl⟩
theorem area_f (n : Nat) (ss : List Sub) (dk : Dk) (hn : ss.length ≤ 8) (hs : ∀ s ∈ ss, GoodS s) :
    (ev (n+36)).f (Str.ofString "path_twice_area") [.d (.list (allRows ss))] dk = some (.d (.int ((edgesS ss).map arL).sum), dk) := by
  have hl := edges_bd hs
  have hlen : ((edgesS ss).map encL).length ≤ 1000000 := by have := edges_len ss hs; rw [List.length_map]; omega
  have he := fun n dk => edges_f n ss dk hn hs
  rw [ev_f, callF_eq _ _ _ rArea.2 (by decide +kernel) rfl rfl, show initV rArea.1 [.d (.list (allRows ss))] = [(Str.ofString "rows", some (.d (.list (allRows ss)))), (Str.ofString "found", none), (Str.ofString "ax", none), (Str.ofString "ay", none), (Str.ofString "bx", none), (Str.ofString "by", none)] from rfl, show initC rArea.1 [.d (.list (allRows ss))] = [] from rfl]
  simp (decide := true) only [rArea, he, hlen, ev_e, ev_t, ev_a, ev_b, evL_nil, evL_cons, evLK1_eq, evLK2_eq, retE_eq, retO_eq, evE_int, evE_str, evE_bool, evE_none, evE_name, nameV_loc, nameV_cell, nameV_free, nameV_unit, nameV_eo, evE_bin, binK1_eq, binK2_eq, binV_add, binV_sub, binV_mul, binV_div, binV_mod, binV_list, binV_tup, evE_neg, negK_eq, evE_if, ifEK_eq, evE_tuple, tupK_eq, evE_list0, evE_list1, list1K_eq, evE_list2, evE_listS, listK_eq, listK1_eq, evE_rev, revK1_eq, revK_eq, evE_slo, sloK1_eq, sloK_eq, evE_sup, supK1_eq, supK_eq, evE_subC, evE_subN, evE_subU, evE_subB, subK1_eq, subK_eq, itemV_list, itemV_tuple, itemV_own, itemOK_eq, itemV_tup, itemV_left, itemV_mixed, retB_eq, cmpVK_eq, evE_cmp, cmpE_ne, neK_eq, cmpE_eq1, cmpE_lt, cmpE_le, cmpE_gt, cmpE_ge, cmpE_is, cmpE_isnot, cmpE_neC, cmpE_neN, cmpE_neT, cmpE_neB, cmpK1_eq, cmpK_eq, cmpE_2, cmp2K1_eq, cmp2K2_eq, cmp2K2b_eq, cmpV_lt, cmpV_le, cmpV_gt, cmpV_ge, cmpV_eqI, cmpV_neI, cmpV_eqS, cmpV_isN, cmpV_isT, cmpV_isnotB, neNil_list, neNil_left, evE_and, andEK_eq, evE_call, callK_eq, retF_eq, callV_own, callV_min, callV_max, callV_lenL, callV_lenT, sumK_eq, callV_sum, callV_tupL, tupOK1_eq, tupOK_eq, callV_tupO, evE_pop, popK1_eq, popK2_eq, compStep_eq, compK1_eq, compK2_eq, compK3_eq, testsE_0, testsE_1, retL_eq, compScope_eq, compK_eq, compV_eq, compVK_eq, evE_comp, rangeK_eq, rangeK1_eq, iterV_range, enumK_eq, iterV_enum, seqIK_list, seqIK_tuple, iterV_name, iterV_subS, iterV_call, boolK_eq, evT_bool, evT_cmp, evT_name, evT_call, allT_and0, allT_or0, allT_and, allT_or, andTK_eq, orTK_eq, storeN_eq, asg_name, asgL_nil, asgL_cons, asgLK_eq, asg_tup_d, asg_tup_v, asg_sub, asgSK1_eq, setOK_eq, asgSK2_own, asgSK2_deck, nextK_eq, stoK_eq, exS_name, stoCK_eq, exS_nameC, tasK_eq, exS_tup, exS_swp2, exS_swp3, swpK2_d, swpK2_v, swpK3_v, storeL_nil, storeL_cons, storeLK_eq, sasK_eq, exS_sub, exS_aug, augK1_eq, augK2_eq, exS_if, ifSK_eq, forStep_eq, forK_eq, exS_for, loopF_nil, loopF_cons, loopK_next, loopK_ret, rtnK_eq, exS_ret, exS_meth, methK1_eq, appK_eq, methK2_app, extK_eq, methK2_ext, exB_nil, exB_cons, seqK_next, seqK_ret, fzK_eq, retFK_eq, layStr_left, layStr_mixed, layStr_m, layStr_l, layStr_z, layStr_w, layStr_e, Option.bind_some, Option.map_some, List.length_cons, List.length_nil, if_true, if_false, Bool.false_eq_true, decide_eq_true_eq, Bool.not_true, Bool.not_false, Bool.not_eq_true, List.map_cons, List.map_nil, List.reverse_cons, List.reverse_nil, List.nil_append, List.cons_append, gt_iff_lt, ge_iff_le, beq_iff_eq, Nat.reduceAdd, ite_self, mkTup, allD, Option.some.injEq, List.all_cons, List.all_nil, Bool.and_true, Bool.true_and, argOk, freeze, Option.isSome_some, decide_true, decide_false, Option.bind_none, Option.map_none, List.getElem?_cons_zero, List.getElem?_cons_succ, blank, encP, encL, getC, Bool.not_eq_true', compL, Option.toList_some, Option.toList_none, List.append_nil, itemL_0, itemL_1, itemL_2, itemL_m1, Int.cast_ofNat_Int, intsOf, List.set_cons_zero, List.set_cons_succ, Int.reduceAdd, Int.reduceSub, Int.reduceNeg, Int.reduceMul, gv_Area_0, sv_Area_0, gv_Area_1, sv_Area_1, gv_Area_2, sv_Area_2, gv_Area_3, sv_Area_3, gv_Area_4, sv_Area_4, gv_Area_5, sv_Area_5]
  rw [loop_rw encL (repA ss dk) fA BdL (edgesS ss) ⟨0, none, none, none, none⟩ hl]
  · have e1 := fA_w (edgesS ss) ⟨0, none, none, none, none⟩
    simp (decide := true) only [repA, e1, Int.zero_add, ev_e, ev_t, ev_a, ev_b, evL_nil, evL_cons, evLK1_eq, evLK2_eq, retE_eq, retO_eq, evE_int, evE_str, evE_bool, evE_none, evE_name, nameV_loc, nameV_cell, nameV_free, nameV_unit, nameV_eo, evE_bin, binK1_eq, binK2_eq, binV_add, binV_sub, binV_mul, binV_div, binV_mod, binV_list, binV_tup, evE_neg, negK_eq, evE_if, ifEK_eq, evE_tuple, tupK_eq, evE_list0, evE_list1, list1K_eq, evE_list2, evE_listS, listK_eq, listK1_eq, evE_rev, revK1_eq, revK_eq, evE_slo, sloK1_eq, sloK_eq, evE_sup, supK1_eq, supK_eq, evE_subC, evE_subN, evE_subU, evE_subB, subK1_eq, subK_eq, itemV_list, itemV_tuple, itemV_own, itemOK_eq, itemV_tup, itemV_left, itemV_mixed, retB_eq, cmpVK_eq, evE_cmp, cmpE_ne, neK_eq, cmpE_eq1, cmpE_lt, cmpE_le, cmpE_gt, cmpE_ge, cmpE_is, cmpE_isnot, cmpE_neC, cmpE_neN, cmpE_neT, cmpE_neB, cmpK1_eq, cmpK_eq, cmpE_2, cmp2K1_eq, cmp2K2_eq, cmp2K2b_eq, cmpV_lt, cmpV_le, cmpV_gt, cmpV_ge, cmpV_eqI, cmpV_neI, cmpV_eqS, cmpV_isN, cmpV_isT, cmpV_isnotB, neNil_list, neNil_left, evE_and, andEK_eq, evE_call, callK_eq, retF_eq, callV_own, callV_min, callV_max, callV_lenL, callV_lenT, sumK_eq, callV_sum, callV_tupL, tupOK1_eq, tupOK_eq, callV_tupO, evE_pop, popK1_eq, popK2_eq, compStep_eq, compK1_eq, compK2_eq, compK3_eq, testsE_0, testsE_1, retL_eq, compScope_eq, compK_eq, compV_eq, compVK_eq, evE_comp, rangeK_eq, rangeK1_eq, iterV_range, enumK_eq, iterV_enum, seqIK_list, seqIK_tuple, iterV_name, iterV_subS, iterV_call, boolK_eq, evT_bool, evT_cmp, evT_name, evT_call, allT_and0, allT_or0, allT_and, allT_or, andTK_eq, orTK_eq, storeN_eq, asg_name, asgL_nil, asgL_cons, asgLK_eq, asg_tup_d, asg_tup_v, asg_sub, asgSK1_eq, setOK_eq, asgSK2_own, asgSK2_deck, nextK_eq, stoK_eq, exS_name, stoCK_eq, exS_nameC, tasK_eq, exS_tup, exS_swp2, exS_swp3, swpK2_d, swpK2_v, swpK3_v, storeL_nil, storeL_cons, storeLK_eq, sasK_eq, exS_sub, exS_aug, augK1_eq, augK2_eq, exS_if, ifSK_eq, forStep_eq, forK_eq, exS_for, loopF_nil, loopF_cons, loopK_next, loopK_ret, rtnK_eq, exS_ret, exS_meth, methK1_eq, appK_eq, methK2_app, extK_eq, methK2_ext, exB_nil, exB_cons, seqK_next, seqK_ret, fzK_eq, retFK_eq, layStr_left, layStr_mixed, layStr_m, layStr_l, layStr_z, layStr_w, layStr_e, Option.bind_some, Option.map_some, List.length_cons, List.length_nil, if_true, if_false, Bool.false_eq_true, decide_eq_true_eq, Bool.not_true, Bool.not_false, Bool.not_eq_true, List.map_cons, List.map_nil, List.reverse_cons, List.reverse_nil, List.nil_append, List.cons_append, gt_iff_lt, ge_iff_le, beq_iff_eq, Nat.reduceAdd, ite_self, mkTup, allD, Option.some.injEq, List.all_cons, List.all_nil, Bool.and_true, Bool.true_and, argOk, freeze, Option.isSome_some, decide_true, decide_false, Option.bind_none, Option.map_none, List.getElem?_cons_zero, List.getElem?_cons_succ, blank, encP, encL, getC, Bool.not_eq_true', compL, Option.toList_some, Option.toList_none, List.append_nil, itemL_0, itemL_1, itemL_2, itemL_m1, Int.cast_ofNat_Int, intsOf, List.set_cons_zero, List.set_cons_succ, Int.reduceAdd, Int.reduceSub, Int.reduceNeg, Int.reduceMul, gv_Area_0, sv_Area_0, gv_Area_1, sv_Area_1, gv_Area_2, sv_Area_2, gv_Area_3, sv_Area_3, gv_Area_4, sv_Area_4, gv_Area_5, sv_Area_5]
  · intro s l hg
    obtain ⟨⟨ax, ay⟩, ⟨bx, b⟩⟩ := l
    obtain ⟨⟨h1, h2⟩, ⟨h3, h4⟩⟩ := hg
    dsimp only at h1 h2 h3 h4
    have s1 : small ax = true := small_of (by omega)
    have s2 : small bx = true := small_of (by omega)
    simp (decide := true) only [repA, s1, s2, fA, arL, ev_e, ev_t, ev_a, ev_b, evL_nil, evL_cons, evLK1_eq, evLK2_eq, retE_eq, retO_eq, evE_int, evE_str, evE_bool, evE_none, evE_name, nameV_loc, nameV_cell, nameV_free, nameV_unit, nameV_eo, evE_bin, binK1_eq, binK2_eq, binV_add, binV_sub, binV_mul, binV_div, binV_mod, binV_list, binV_tup, evE_neg, negK_eq, evE_if, ifEK_eq, evE_tuple, tupK_eq, evE_list0, evE_list1, list1K_eq, evE_list2, evE_listS, listK_eq, listK1_eq, evE_rev, revK1_eq, revK_eq, evE_slo, sloK1_eq, sloK_eq, evE_sup, supK1_eq, supK_eq, evE_subC, evE_subN, evE_subU, evE_subB, subK1_eq, subK_eq, itemV_list, itemV_tuple, itemV_own, itemOK_eq, itemV_tup, itemV_left, itemV_mixed, retB_eq, cmpVK_eq, evE_cmp, cmpE_ne, neK_eq, cmpE_eq1, cmpE_lt, cmpE_le, cmpE_gt, cmpE_ge, cmpE_is, cmpE_isnot, cmpE_neC, cmpE_neN, cmpE_neT, cmpE_neB, cmpK1_eq, cmpK_eq, cmpE_2, cmp2K1_eq, cmp2K2_eq, cmp2K2b_eq, cmpV_lt, cmpV_le, cmpV_gt, cmpV_ge, cmpV_eqI, cmpV_neI, cmpV_eqS, cmpV_isN, cmpV_isT, cmpV_isnotB, neNil_list, neNil_left, evE_and, andEK_eq, evE_call, callK_eq, retF_eq, callV_own, callV_min, callV_max, callV_lenL, callV_lenT, sumK_eq, callV_sum, callV_tupL, tupOK1_eq, tupOK_eq, callV_tupO, evE_pop, popK1_eq, popK2_eq, compStep_eq, compK1_eq, compK2_eq, compK3_eq, testsE_0, testsE_1, retL_eq, compScope_eq, compK_eq, compV_eq, compVK_eq, evE_comp, rangeK_eq, rangeK1_eq, iterV_range, enumK_eq, iterV_enum, seqIK_list, seqIK_tuple, iterV_name, iterV_subS, iterV_call, boolK_eq, evT_bool, evT_cmp, evT_name, evT_call, allT_and0, allT_or0, allT_and, allT_or, andTK_eq, orTK_eq, storeN_eq, asg_name, asgL_nil, asgL_cons, asgLK_eq, asg_tup_d, asg_tup_v, asg_sub, asgSK1_eq, setOK_eq, asgSK2_own, asgSK2_deck, nextK_eq, stoK_eq, exS_name, stoCK_eq, exS_nameC, tasK_eq, exS_tup, exS_swp2, exS_swp3, swpK2_d, swpK2_v, swpK3_v, storeL_nil, storeL_cons, storeLK_eq, sasK_eq, exS_sub, exS_aug, augK1_eq, augK2_eq, exS_if, ifSK_eq, forStep_eq, forK_eq, exS_for, loopF_nil, loopF_cons, loopK_next, loopK_ret, rtnK_eq, exS_ret, exS_meth, methK1_eq, appK_eq, methK2_app, extK_eq, methK2_ext, exB_nil, exB_cons, seqK_next, seqK_ret, fzK_eq, retFK_eq, layStr_left, layStr_mixed, layStr_m, layStr_l, layStr_z, layStr_w, layStr_e, Option.bind_some, Option.map_some, List.length_cons, List.length_nil, if_true, if_false, Bool.false_eq_true, decide_eq_true_eq, Bool.not_true, Bool.not_false, Bool.not_eq_true, List.map_cons, List.map_nil, List.reverse_cons, List.reverse_nil, List.nil_append, List.cons_append, gt_iff_lt, ge_iff_le, beq_iff_eq, Nat.reduceAdd, ite_self, mkTup, allD, Option.some.injEq, List.all_cons, List.all_nil, Bool.and_true, Bool.true_and, argOk, freeze, Option.isSome_some, decide_true, decide_false, Option.bind_none, Option.map_none, List.getElem?_cons_zero, List.getElem?_cons_succ, blank, encP, encL, getC, Bool.not_eq_true', compL, Option.toList_some, Option.toList_none, List.append_nil, itemL_0, itemL_1, itemL_2, itemL_m1, Int.cast_ofNat_Int, intsOf, List.set_cons_zero, List.set_cons_succ, Int.reduceAdd, Int.reduceSub, Int.reduceNeg, Int.reduceMul, gv_Area_0, sv_Area_0, gv_Area_1, sv_Area_1, gv_Area_2, sv_Area_2, gv_Area_3, sv_Area_3, gv_Area_4, sv_Area_4, gv_Area_5, sv_Area_5]

/-! insideness -/
noncomputable def eoS : Str := Str.ofString "evenodd"
noncomputable def wiS : Str := Str.ofString "winding"
noncomputable def edOn (ss : List Sub) (x y : Int) : Bool := (edgesS ss).any (isOnL · x y)
noncomputable def insW (ss : List Sub) (x y : Int) : Bool := edOn ss x y || !(((edgesS ss).map (wcL · x y)).sum == 0)
noncomputable def insE (ss : List Sub) (x y : Int) : Bool := edOn ss x y || (((edgesS ss).map (kcL · x y)).sum.fmod 2 == 1)
theorem gv_Insd_0 (a0 a1 a2 a3 a4 : Option V) : getV [(Str.ofString "rows", a0), (Str.ofString "rule", a1), (Str.ofString "edges", a2), (Str.ofString "winding", a3), (Str.ofString "crossed", a4)] (Str.ofString "rows") = a0 := rfl
theorem sv_Insd_0 (a0 a1 a2 a3 a4 : Option V) (v : V) : setV [(Str.ofString "rows", a0), (Str.ofString "rule", a1), (Str.ofString "edges", a2), (Str.ofString "winding", a3), (Str.ofString "crossed", a4)] (Str.ofString "rows") v = [(Str.ofString "rows", some v), (Str.ofString "rule", a1), (Str.ofString "edges", a2), (Str.ofString "winding", a3), (Str.ofString "crossed", a4)] := rfl
theorem gv_Insd_1 (a0 a1 a2 a3 a4 : Option V) : getV [(Str.ofString "rows", a0), (Str.ofString "rule", a1), (Str.ofString "edges", a2), (Str.ofString "winding", a3), (Str.ofString "crossed", a4)] (Str.ofString "rule") = a1 := rfl
theorem sv_Insd_1 (a0 a1 a2 a3 a4 : Option V) (v : V) : setV [(Str.ofString "rows", a0), (Str.ofString "rule", a1), (Str.ofString "edges", a2), (Str.ofString "winding", a3), (Str.ofString "crossed", a4)] (Str.ofString "rule") v = [(Str.ofString "rows", a0), (Str.ofString "rule", some v), (Str.ofString "edges", a2), (Str.ofString "winding", a3), (Str.ofString "crossed", a4)] := rfl
theorem gv_Insd_2 (a0 a1 a2 a3 a4 : Option V) : getV [(Str.ofString "rows", a0), (Str.ofString "rule", a1), (Str.ofString "edges", a2), (Str.ofString "winding", a3), (Str.ofString "crossed", a4)] (Str.ofString "edges") = a2 := rfl
theorem sv_Insd_2 (a0 a1 a2 a3 a4 : Option V) (v : V) : setV [(Str.ofString "rows", a0), (Str.ofString "rule", a1), (Str.ofString "edges", a2), (Str.ofString "winding", a3), (Str.ofString "crossed", a4)] (Str.ofString "edges") v = [(Str.ofString "rows", a0), (Str.ofString "rule", a1), (Str.ofString "edges", some v), (Str.ofString "winding", a3), (Str.ofString "crossed", a4)] := rfl
theorem gv_Insd_3 (a0 a1 a2 a3 a4 : Option V) : getV [(Str.ofString "rows", a0), (Str.ofString "rule", a1), (Str.ofString "edges", a2), (Str.ofString "winding", a3), (Str.ofString "crossed", a4)] (Str.ofString "winding") = a3 := rfl
theorem sv_Insd_3 (a0 a1 a2 a3 a4 : Option V) (v : V) : setV [(Str.ofString "rows", a0), (Str.ofString "rule", a1), (Str.ofString "edges", a2), (Str.ofString "winding", a3), (Str.ofString "crossed", a4)] (Str.ofString "winding") v = [(Str.ofString "rows", a0), (Str.ofString "rule", a1), (Str.ofString "edges", a2), (Str.ofString "winding", some v), (Str.ofString "crossed", a4)] := rfl
theorem gv_Insd_4 (a0 a1 a2 a3 a4 : Option V) : getV [(Str.ofString "rows", a0), (Str.ofString "rule", a1), (Str.ofString "edges", a2), (Str.ofString "winding", a3), (Str.ofString "crossed", a4)] (Str.ofString "crossed") = a4 := rfl
theorem sv_Insd_4 (a0 a1 a2 a3 a4 : Option V) (v : V) : setV [(Str.ofString "rows", a0), (Str.ofString "rule", a1), (Str.ofString "edges", a2), (Str.ofString "winding", a3), (Str.ofString "crossed", a4)] (Str.ofString "crossed") v = [(Str.ofString "rows", a0), (Str.ofString "rule", a1), (Str.ofString "edges", a2), (Str.ofString "winding", a3), (Str.ofString "crossed", some v)] := rfl
noncomputable def rInsd : {d : DefRec // fnRec (Str.ofString "insideness") = some d} := ⟨_, rfl⟩
theorem insd_f (n : Nat) (ss : List Sub) (x y : Int) (rule : Str) (dk : Dk) (hn : ss.length ≤ 8) (hs : ∀ s ∈ ss, GoodS s) (hp : Bd (x, y)) :
    (ev (n+40)).f (Str.ofString "insideness") [.d (.list (allRows ss)), .d (.int x), .d (.int y), .d (.str rule)] dk = some (.d (.bool (if rule = eoS then insE ss x y else insW ss x y)), dk) := by
  have hl := edges_bd hs
  have hlen : ((edgesS ss).map encL).length ≤ 1000000 := by have := edges_len ss hs; rw [List.length_map]; omega
  have hlen' : (edgesS ss).length ≤ 1000 := by have := edges_len ss hs; omega
  have he := fun n dk => edges_f n ss dk hn hs
  have hw := fun n dk => wind_f n (edgesS ss) x y dk hl hp hlen'
  rw [ev_f, callF_eq _ _ _ rInsd.2 (by decide +kernel) rfl rfl, show initV rInsd.1 [.d (.list (allRows ss)), .d (.int x), .d (.int y), .d (.str rule)] = [(Str.ofString "rows", some (.d (.list (allRows ss)))), (Str.ofString "rule", some (.d (.str rule))), (Str.ofString "edges", none), (Str.ofString "winding", none), (Str.ofString "crossed", none)] from rfl, show initC rInsd.1 [.d (.list (allRows ss)), .d (.int x), .d (.int y), .d (.str rule)] = [(Str.ofString "x", (.int x)), (Str.ofString "y", (.int y))] from rfl]
  simp (decide := true) only [rInsd, he, hlen, ev_e, ev_t, ev_a, ev_b, evL_nil, evL_cons, evLK1_eq, evLK2_eq, retE_eq, retO_eq, evE_int, evE_str, evE_bool, evE_none, evE_name, nameV_loc, nameV_cell, nameV_free, nameV_unit, nameV_eo, evE_bin, binK1_eq, binK2_eq, binV_add, binV_sub, binV_mul, binV_div, binV_mod, binV_list, binV_tup, evE_neg, negK_eq, evE_if, ifEK_eq, evE_tuple, tupK_eq, evE_list0, evE_list1, list1K_eq, evE_list2, evE_listS, listK_eq, listK1_eq, evE_rev, revK1_eq, revK_eq, evE_slo, sloK1_eq, sloK_eq, evE_sup, supK1_eq, supK_eq, evE_subC, evE_subN, evE_subU, evE_subB, subK1_eq, subK_eq, itemV_list, itemV_tuple, itemV_own, itemOK_eq, itemV_tup, itemV_left, itemV_mixed, retB_eq, cmpVK_eq, evE_cmp, cmpE_ne, neK_eq, cmpE_eq1, cmpE_lt, cmpE_le, cmpE_gt, cmpE_ge, cmpE_is, cmpE_isnot, cmpE_neC, cmpE_neN, cmpE_neT, cmpE_neB, cmpK1_eq, cmpK_eq, cmpE_2, cmp2K1_eq, cmp2K2_eq, cmp2K2b_eq, cmpV_lt, cmpV_le, cmpV_gt, cmpV_ge, cmpV_eqI, cmpV_neI, cmpV_eqS, cmpV_isN, cmpV_isT, cmpV_isnotB, neNil_list, neNil_left, evE_and, andEK_eq, evE_call, callK_eq, retF_eq, callV_own, callV_min, callV_max, callV_lenL, callV_lenT, sumK_eq, callV_sum, callV_tupL, tupOK1_eq, tupOK_eq, callV_tupO, evE_pop, popK1_eq, popK2_eq, compStep_eq, compK1_eq, compK2_eq, compK3_eq, testsE_0, testsE_1, retL_eq, compScope_eq, compK_eq, compV_eq, compVK_eq, evE_comp, rangeK_eq, rangeK1_eq, iterV_range, enumK_eq, iterV_enum, seqIK_list, seqIK_tuple, iterV_name, iterV_subS, iterV_call, boolK_eq, evT_bool, evT_cmp, evT_name, evT_call, allT_and0, allT_or0, allT_and, allT_or, andTK_eq, orTK_eq, storeN_eq, asg_name, asgL_nil, asgL_cons, asgLK_eq, asg_tup_d, asg_tup_v, asg_sub, asgSK1_eq, setOK_eq, asgSK2_own, asgSK2_deck, nextK_eq, stoK_eq, exS_name, stoCK_eq, exS_nameC, tasK_eq, exS_tup, exS_swp2, exS_swp3, swpK2_d, swpK2_v, swpK3_v, storeL_nil, storeL_cons, storeLK_eq, sasK_eq, exS_sub, exS_aug, augK1_eq, augK2_eq, exS_if, ifSK_eq, forStep_eq, forK_eq, exS_for, loopF_nil, loopF_cons, loopK_next, loopK_ret, rtnK_eq, exS_ret, exS_meth, methK1_eq, appK_eq, methK2_app, extK_eq, methK2_ext, exB_nil, exB_cons, seqK_next, seqK_ret, fzK_eq, retFK_eq, layStr_left, layStr_mixed, layStr_m, layStr_l, layStr_z, layStr_w, layStr_e, Option.bind_some, Option.map_some, List.length_cons, List.length_nil, if_true, if_false, Bool.false_eq_true, decide_eq_true_eq, Bool.not_true, Bool.not_false, Bool.not_eq_true, List.map_cons, List.map_nil, List.reverse_cons, List.reverse_nil, List.nil_append, List.cons_append, gt_iff_lt, ge_iff_le, beq_iff_eq, Nat.reduceAdd, ite_self, mkTup, allD, Option.some.injEq, List.all_cons, List.all_nil, Bool.and_true, Bool.true_and, argOk, freeze, Option.isSome_some, decide_true, decide_false, Option.bind_none, Option.map_none, List.getElem?_cons_zero, List.getElem?_cons_succ, blank, encP, encL, getC, Bool.not_eq_true', compL, Option.toList_some, Option.toList_none, List.append_nil, itemL_0, itemL_1, itemL_2, itemL_m1, Int.cast_ofNat_Int, intsOf, List.set_cons_zero, List.set_cons_succ, Int.reduceAdd, Int.reduceSub, Int.reduceNeg, Int.reduceMul, gv_Insd_0, sv_Insd_0, gv_Insd_1, sv_Insd_1, gv_Insd_2, sv_Insd_2, gv_Insd_3, sv_Insd_3, gv_Insd_4, sv_Insd_4]
  rw [compL_rw encL (onG x y) BdL (edgesS ss) hl]
  · unfold insE insW edOn eoS
    cases ha : (edgesS ss).any (isOnL · x y)
    · by_cases hr : rule = Str.ofString "evenodd"
      · subst hr
        simp (decide := true) only [onList_empty, ha, hw, ne_eq, not_false_eq_true, Bool.false_or, beq_self_eq_true, ev_e, ev_t, ev_a, ev_b, evL_nil, evL_cons, evLK1_eq, evLK2_eq, retE_eq, retO_eq, evE_int, evE_str, evE_bool, evE_none, evE_name, nameV_loc, nameV_cell, nameV_free, nameV_unit, nameV_eo, evE_bin, binK1_eq, binK2_eq, binV_add, binV_sub, binV_mul, binV_div, binV_mod, binV_list, binV_tup, evE_neg, negK_eq, evE_if, ifEK_eq, evE_tuple, tupK_eq, evE_list0, evE_list1, list1K_eq, evE_list2, evE_listS, listK_eq, listK1_eq, evE_rev, revK1_eq, revK_eq, evE_slo, sloK1_eq, sloK_eq, evE_sup, supK1_eq, supK_eq, evE_subC, evE_subN, evE_subU, evE_subB, subK1_eq, subK_eq, itemV_list, itemV_tuple, itemV_own, itemOK_eq, itemV_tup, itemV_left, itemV_mixed, retB_eq, cmpVK_eq, evE_cmp, cmpE_ne, neK_eq, cmpE_eq1, cmpE_lt, cmpE_le, cmpE_gt, cmpE_ge, cmpE_is, cmpE_isnot, cmpE_neC, cmpE_neN, cmpE_neT, cmpE_neB, cmpK1_eq, cmpK_eq, cmpE_2, cmp2K1_eq, cmp2K2_eq, cmp2K2b_eq, cmpV_lt, cmpV_le, cmpV_gt, cmpV_ge, cmpV_eqI, cmpV_neI, cmpV_eqS, cmpV_isN, cmpV_isT, cmpV_isnotB, neNil_list, neNil_left, evE_and, andEK_eq, evE_call, callK_eq, retF_eq, callV_own, callV_min, callV_max, callV_lenL, callV_lenT, sumK_eq, callV_sum, callV_tupL, tupOK1_eq, tupOK_eq, callV_tupO, evE_pop, popK1_eq, popK2_eq, compStep_eq, compK1_eq, compK2_eq, compK3_eq, testsE_0, testsE_1, retL_eq, compScope_eq, compK_eq, compV_eq, compVK_eq, evE_comp, rangeK_eq, rangeK1_eq, iterV_range, enumK_eq, iterV_enum, seqIK_list, seqIK_tuple, iterV_name, iterV_subS, iterV_call, boolK_eq, evT_bool, evT_cmp, evT_name, evT_call, allT_and0, allT_or0, allT_and, allT_or, andTK_eq, orTK_eq, storeN_eq, asg_name, asgL_nil, asgL_cons, asgLK_eq, asg_tup_d, asg_tup_v, asg_sub, asgSK1_eq, setOK_eq, asgSK2_own, asgSK2_deck, nextK_eq, stoK_eq, exS_name, stoCK_eq, exS_nameC, tasK_eq, exS_tup, exS_swp2, exS_swp3, swpK2_d, swpK2_v, swpK3_v, storeL_nil, storeL_cons, storeLK_eq, sasK_eq, exS_sub, exS_aug, augK1_eq, augK2_eq, exS_if, ifSK_eq, forStep_eq, forK_eq, exS_for, loopF_nil, loopF_cons, loopK_next, loopK_ret, rtnK_eq, exS_ret, exS_meth, methK1_eq, appK_eq, methK2_app, extK_eq, methK2_ext, exB_nil, exB_cons, seqK_next, seqK_ret, fzK_eq, retFK_eq, layStr_left, layStr_mixed, layStr_m, layStr_l, layStr_z, layStr_w, layStr_e, Option.bind_some, Option.map_some, List.length_cons, List.length_nil, if_true, if_false, Bool.false_eq_true, decide_eq_true_eq, Bool.not_true, Bool.not_false, Bool.not_eq_true, List.map_cons, List.map_nil, List.reverse_cons, List.reverse_nil, List.nil_append, List.cons_append, gt_iff_lt, ge_iff_le, beq_iff_eq, Nat.reduceAdd, ite_self, mkTup, allD, Option.some.injEq, List.all_cons, List.all_nil, Bool.and_true, Bool.true_and, argOk, freeze, Option.isSome_some, decide_true, decide_false, Option.bind_none, Option.map_none, List.getElem?_cons_zero, List.getElem?_cons_succ, blank, encP, encL, getC, Bool.not_eq_true', compL, Option.toList_some, Option.toList_none, List.append_nil, itemL_0, itemL_1, itemL_2, itemL_m1, Int.cast_ofNat_Int, intsOf, List.set_cons_zero, List.set_cons_succ, Int.reduceAdd, Int.reduceSub, Int.reduceNeg, Int.reduceMul, gv_Insd_0, sv_Insd_0, gv_Insd_1, sv_Insd_1, gv_Insd_2, sv_Insd_2, gv_Insd_3, sv_Insd_3, gv_Insd_4, sv_Insd_4]
      · have hr' : (rule == Str.ofString "evenodd") = false := beq_false_of_ne hr
        simp (decide := true) only [onList_empty, ha, hw, hr, hr', ne_eq, not_false_eq_true, Bool.false_or, ev_e, ev_t, ev_a, ev_b, evL_nil, evL_cons, evLK1_eq, evLK2_eq, retE_eq, retO_eq, evE_int, evE_str, evE_bool, evE_none, evE_name, nameV_loc, nameV_cell, nameV_free, nameV_unit, nameV_eo, evE_bin, binK1_eq, binK2_eq, binV_add, binV_sub, binV_mul, binV_div, binV_mod, binV_list, binV_tup, evE_neg, negK_eq, evE_if, ifEK_eq, evE_tuple, tupK_eq, evE_list0, evE_list1, list1K_eq, evE_list2, evE_listS, listK_eq, listK1_eq, evE_rev, revK1_eq, revK_eq, evE_slo, sloK1_eq, sloK_eq, evE_sup, supK1_eq, supK_eq, evE_subC, evE_subN, evE_subU, evE_subB, subK1_eq, subK_eq, itemV_list, itemV_tuple, itemV_own, itemOK_eq, itemV_tup, itemV_left, itemV_mixed, retB_eq, cmpVK_eq, evE_cmp, cmpE_ne, neK_eq, cmpE_eq1, cmpE_lt, cmpE_le, cmpE_gt, cmpE_ge, cmpE_is, cmpE_isnot, cmpE_neC, cmpE_neN, cmpE_neT, cmpE_neB, cmpK1_eq, cmpK_eq, cmpE_2, cmp2K1_eq, cmp2K2_eq, cmp2K2b_eq, cmpV_lt, cmpV_le, cmpV_gt, cmpV_ge, cmpV_eqI, cmpV_neI, cmpV_eqS, cmpV_isN, cmpV_isT, cmpV_isnotB, neNil_list, neNil_left, evE_and, andEK_eq, evE_call, callK_eq, retF_eq, callV_own, callV_min, callV_max, callV_lenL, callV_lenT, sumK_eq, callV_sum, callV_tupL, tupOK1_eq, tupOK_eq, callV_tupO, evE_pop, popK1_eq, popK2_eq, compStep_eq, compK1_eq, compK2_eq, compK3_eq, testsE_0, testsE_1, retL_eq, compScope_eq, compK_eq, compV_eq, compVK_eq, evE_comp, rangeK_eq, rangeK1_eq, iterV_range, enumK_eq, iterV_enum, seqIK_list, seqIK_tuple, iterV_name, iterV_subS, iterV_call, boolK_eq, evT_bool, evT_cmp, evT_name, evT_call, allT_and0, allT_or0, allT_and, allT_or, andTK_eq, orTK_eq, storeN_eq, asg_name, asgL_nil, asgL_cons, asgLK_eq, asg_tup_d, asg_tup_v, asg_sub, asgSK1_eq, setOK_eq, asgSK2_own, asgSK2_deck, nextK_eq, stoK_eq, exS_name, stoCK_eq, exS_nameC, tasK_eq, exS_tup, exS_swp2, exS_swp3, swpK2_d, swpK2_v, swpK3_v, storeL_nil, storeL_cons, storeLK_eq, sasK_eq, exS_sub, exS_aug, augK1_eq, augK2_eq, exS_if, ifSK_eq, forStep_eq, forK_eq, exS_for, loopF_nil, loopF_cons, loopK_next, loopK_ret, rtnK_eq, exS_ret, exS_meth, methK1_eq, appK_eq, methK2_app, extK_eq, methK2_ext, exB_nil, exB_cons, seqK_next, seqK_ret, fzK_eq, retFK_eq, layStr_left, layStr_mixed, layStr_m, layStr_l, layStr_z, layStr_w, layStr_e, Option.bind_some, Option.map_some, List.length_cons, List.length_nil, if_true, if_false, Bool.false_eq_true, decide_eq_true_eq, Bool.not_true, Bool.not_false, Bool.not_eq_true, List.map_cons, List.map_nil, List.reverse_cons, List.reverse_nil, List.nil_append, List.cons_append, gt_iff_lt, ge_iff_le, beq_iff_eq, Nat.reduceAdd, ite_self, mkTup, allD, Option.some.injEq, List.all_cons, List.all_nil, Bool.and_true, Bool.true_and, argOk, freeze, Option.isSome_some, decide_true, decide_false, Option.bind_none, Option.map_none, List.getElem?_cons_zero, List.getElem?_cons_succ, blank, encP, encL, getC, Bool.not_eq_true', compL, Option.toList_some, Option.toList_none, List.append_nil, itemL_0, itemL_1, itemL_2, itemL_m1, Int.cast_ofNat_Int, intsOf, List.set_cons_zero, List.set_cons_succ, Int.reduceAdd, Int.reduceSub, Int.reduceNeg, Int.reduceMul, gv_Insd_0, sv_Insd_0, gv_Insd_1, sv_Insd_1, gv_Insd_2, sv_Insd_2, gv_Insd_3, sv_Insd_3, gv_Insd_4, sv_Insd_4]
    · simp (decide := true) only [onList_empty, ha, hw, Bool.true_or, ite_self, ev_e, ev_t, ev_a, ev_b, evL_nil, evL_cons, evLK1_eq, evLK2_eq, retE_eq, retO_eq, evE_int, evE_str, evE_bool, evE_none, evE_name, nameV_loc, nameV_cell, nameV_free, nameV_unit, nameV_eo, evE_bin, binK1_eq, binK2_eq, binV_add, binV_sub, binV_mul, binV_div, binV_mod, binV_list, binV_tup, evE_neg, negK_eq, evE_if, ifEK_eq, evE_tuple, tupK_eq, evE_list0, evE_list1, list1K_eq, evE_list2, evE_listS, listK_eq, listK1_eq, evE_rev, revK1_eq, revK_eq, evE_slo, sloK1_eq, sloK_eq, evE_sup, supK1_eq, supK_eq, evE_subC, evE_subN, evE_subU, evE_subB, subK1_eq, subK_eq, itemV_list, itemV_tuple, itemV_own, itemOK_eq, itemV_tup, itemV_left, itemV_mixed, retB_eq, cmpVK_eq, evE_cmp, cmpE_ne, neK_eq, cmpE_eq1, cmpE_lt, cmpE_le, cmpE_gt, cmpE_ge, cmpE_is, cmpE_isnot, cmpE_neC, cmpE_neN, cmpE_neT, cmpE_neB, cmpK1_eq, cmpK_eq, cmpE_2, cmp2K1_eq, cmp2K2_eq, cmp2K2b_eq, cmpV_lt, cmpV_le, cmpV_gt, cmpV_ge, cmpV_eqI, cmpV_neI, cmpV_eqS, cmpV_isN, cmpV_isT, cmpV_isnotB, neNil_list, neNil_left, evE_and, andEK_eq, evE_call, callK_eq, retF_eq, callV_own, callV_min, callV_max, callV_lenL, callV_lenT, sumK_eq, callV_sum, callV_tupL, tupOK1_eq, tupOK_eq, callV_tupO, evE_pop, popK1_eq, popK2_eq, compStep_eq, compK1_eq, compK2_eq, compK3_eq, testsE_0, testsE_1, retL_eq, compScope_eq, compK_eq, compV_eq, compVK_eq, evE_comp, rangeK_eq, rangeK1_eq, iterV_range, enumK_eq, iterV_enum, seqIK_list, seqIK_tuple, iterV_name, iterV_subS, iterV_call, boolK_eq, evT_bool, evT_cmp, evT_name, evT_call, allT_and0, allT_or0, allT_and, allT_or, andTK_eq, orTK_eq, storeN_eq, asg_name, asgL_nil, asgL_cons, asgLK_eq, asg_tup_d, asg_tup_v, asg_sub, asgSK1_eq, setOK_eq, asgSK2_own, asgSK2_deck, nextK_eq, stoK_eq, exS_name, stoCK_eq, exS_nameC, tasK_eq, exS_tup, exS_swp2, exS_swp3, swpK2_d, swpK2_v, swpK3_v, storeL_nil, storeL_cons, storeLK_eq, sasK_eq, exS_sub, exS_aug, augK1_eq, augK2_eq, exS_if, ifSK_eq, forStep_eq, forK_eq, exS_for, loopF_nil, loopF_cons, loopK_next, loopK_ret, rtnK_eq, exS_ret, exS_meth, methK1_eq, appK_eq, methK2_app, extK_eq, methK2_ext, exB_nil, exB_cons, seqK_next, seqK_ret, fzK_eq, retFK_eq, layStr_left, layStr_mixed, layStr_m, layStr_l, layStr_z, layStr_w, layStr_e, Option.bind_some, Option.map_some, List.length_cons, List.length_nil, if_true, if_false, Bool.false_eq_true, decide_eq_true_eq, Bool.not_true, Bool.not_false, Bool.not_eq_true, List.map_cons, List.map_nil, List.reverse_cons, List.reverse_nil, List.nil_append, List.cons_append, gt_iff_lt, ge_iff_le, beq_iff_eq, Nat.reduceAdd, ite_self, mkTup, allD, Option.some.injEq, List.all_cons, List.all_nil, Bool.and_true, Bool.true_and, argOk, freeze, Option.isSome_some, decide_true, decide_false, Option.bind_none, Option.map_none, List.getElem?_cons_zero, List.getElem?_cons_succ, blank, encP, encL, getC, Bool.not_eq_true', compL, Option.toList_some, Option.toList_none, List.append_nil, itemL_0, itemL_1, itemL_2, itemL_m1, Int.cast_ofNat_Int, intsOf, List.set_cons_zero, List.set_cons_succ, Int.reduceAdd, Int.reduceSub, Int.reduceNeg, Int.reduceMul, gv_Insd_0, sv_Insd_0, gv_Insd_1, sv_Insd_1, gv_Insd_2, sv_Insd_2, gv_Insd_3, sv_Insd_3, gv_Insd_4, sv_Insd_4]
  · intro l hg
    have hc := fun n dk => on_f n l x y dk hg hp
    obtain ⟨⟨ax, ay⟩, ⟨bx, b⟩⟩ := l
    simp only [encL, encP] at hc
    cases ha : isOnL ((ax, ay), (bx, b)) x y
    · simp (decide := true) only [onG, ha, hc, ev_e, ev_t, ev_a, ev_b, evL_nil, evL_cons, evLK1_eq, evLK2_eq, retE_eq, retO_eq, evE_int, evE_str, evE_bool, evE_none, evE_name, nameV_loc, nameV_cell, nameV_free, nameV_unit, nameV_eo, evE_bin, binK1_eq, binK2_eq, binV_add, binV_sub, binV_mul, binV_div, binV_mod, binV_list, binV_tup, evE_neg, negK_eq, evE_if, ifEK_eq, evE_tuple, tupK_eq, evE_list0, evE_list1, list1K_eq, evE_list2, evE_listS, listK_eq, listK1_eq, evE_rev, revK1_eq, revK_eq, evE_slo, sloK1_eq, sloK_eq, evE_sup, supK1_eq, supK_eq, evE_subC, evE_subN, evE_subU, evE_subB, subK1_eq, subK_eq, itemV_list, itemV_tuple, itemV_own, itemOK_eq, itemV_tup, itemV_left, itemV_mixed, retB_eq, cmpVK_eq, evE_cmp, cmpE_ne, neK_eq, cmpE_eq1, cmpE_lt, cmpE_le, cmpE_gt, cmpE_ge, cmpE_is, cmpE_isnot, cmpE_neC, cmpE_neN, cmpE_neT, cmpE_neB, cmpK1_eq, cmpK_eq, cmpE_2, cmp2K1_eq, cmp2K2_eq, cmp2K2b_eq, cmpV_lt, cmpV_le, cmpV_gt, cmpV_ge, cmpV_eqI, cmpV_neI, cmpV_eqS, cmpV_isN, cmpV_isT, cmpV_isnotB, neNil_list, neNil_left, evE_and, andEK_eq, evE_call, callK_eq, retF_eq, callV_own, callV_min, callV_max, callV_lenL, callV_lenT, sumK_eq, callV_sum, callV_tupL, tupOK1_eq, tupOK_eq, callV_tupO, evE_pop, popK1_eq, popK2_eq, compStep_eq, compK1_eq, compK2_eq, compK3_eq, testsE_0, testsE_1, retL_eq, compScope_eq, compK_eq, compV_eq, compVK_eq, evE_comp, rangeK_eq, rangeK1_eq, iterV_range, enumK_eq, iterV_enum, seqIK_list, seqIK_tuple, iterV_name, iterV_subS, iterV_call, boolK_eq, evT_bool, evT_cmp, evT_name, evT_call, allT_and0, allT_or0, allT_and, allT_or, andTK_eq, orTK_eq, storeN_eq, asg_name, asgL_nil, asgL_cons, asgLK_eq, asg_tup_d, asg_tup_v, asg_sub, asgSK1_eq, setOK_eq, asgSK2_own, asgSK2_deck, nextK_eq, stoK_eq, exS_name, stoCK_eq, exS_nameC, tasK_eq, exS_tup, exS_swp2, exS_swp3, swpK2_d, swpK2_v, swpK3_v, storeL_nil, storeL_cons, storeLK_eq, sasK_eq, exS_sub, exS_aug, augK1_eq, augK2_eq, exS_if, ifSK_eq, forStep_eq, forK_eq, exS_for, loopF_nil, loopF_cons, loopK_next, loopK_ret, rtnK_eq, exS_ret, exS_meth, methK1_eq, appK_eq, methK2_app, extK_eq, methK2_ext, exB_nil, exB_cons, seqK_next, seqK_ret, fzK_eq, retFK_eq, layStr_left, layStr_mixed, layStr_m, layStr_l, layStr_z, layStr_w, layStr_e, getV, setV, Option.bind_some, Option.map_some, List.length_cons, List.length_nil, if_true, if_false, Bool.false_eq_true, decide_eq_true_eq, Bool.not_true, Bool.not_false, Bool.not_eq_true, List.map_cons, List.map_nil, List.reverse_cons, List.reverse_nil, List.nil_append, List.cons_append, gt_iff_lt, ge_iff_le, beq_iff_eq, Nat.reduceAdd, ite_self, mkTup, allD, Option.some.injEq, List.all_cons, List.all_nil, Bool.and_true, Bool.true_and, argOk, freeze, Option.isSome_some, decide_true, decide_false, Option.bind_none, Option.map_none, List.getElem?_cons_zero, List.getElem?_cons_succ, blank, encP, encL, getC, Bool.not_eq_true', compL, Option.toList_some, Option.toList_none, List.append_nil, itemL_0, itemL_1, itemL_2, itemL_m1, Int.cast_ofNat_Int, intsOf, List.set_cons_zero, List.set_cons_succ, Int.reduceAdd, Int.reduceSub, Int.reduceNeg, Int.reduceMul]
    · simp (decide := true) only [onG, ha, hc, ev_e, ev_t, ev_a, ev_b, evL_nil, evL_cons, evLK1_eq, evLK2_eq, retE_eq, retO_eq, evE_int, evE_str, evE_bool, evE_none, evE_name, nameV_loc, nameV_cell, nameV_free, nameV_unit, nameV_eo, evE_bin, binK1_eq, binK2_eq, binV_add, binV_sub, binV_mul, binV_div, binV_mod, binV_list, binV_tup, evE_neg, negK_eq, evE_if, ifEK_eq, evE_tuple, tupK_eq, evE_list0, evE_list1, list1K_eq, evE_list2, evE_listS, listK_eq, listK1_eq, evE_rev, revK1_eq, revK_eq, evE_slo, sloK1_eq, sloK_eq, evE_sup, supK1_eq, supK_eq, evE_subC, evE_subN, evE_subU, evE_subB, subK1_eq, subK_eq, itemV_list, itemV_tuple, itemV_own, itemOK_eq, itemV_tup, itemV_left, itemV_mixed, retB_eq, cmpVK_eq, evE_cmp, cmpE_ne, neK_eq, cmpE_eq1, cmpE_lt, cmpE_le, cmpE_gt, cmpE_ge, cmpE_is, cmpE_isnot, cmpE_neC, cmpE_neN, cmpE_neT, cmpE_neB, cmpK1_eq, cmpK_eq, cmpE_2, cmp2K1_eq, cmp2K2_eq, cmp2K2b_eq, cmpV_lt, cmpV_le, cmpV_gt, cmpV_ge, cmpV_eqI, cmpV_neI, cmpV_eqS, cmpV_isN, cmpV_isT, cmpV_isnotB, neNil_list, neNil_left, evE_and, andEK_eq, evE_call, callK_eq, retF_eq, callV_own, callV_min, callV_max, callV_lenL, callV_lenT, sumK_eq, callV_sum, callV_tupL, tupOK1_eq, tupOK_eq, callV_tupO, evE_pop, popK1_eq, popK2_eq, compStep_eq, compK1_eq, compK2_eq, compK3_eq, testsE_0, testsE_1, retL_eq, compScope_eq, compK_eq, compV_eq, compVK_eq, evE_comp, rangeK_eq, rangeK1_eq, iterV_range, enumK_eq, iterV_enum, seqIK_list, seqIK_tuple, iterV_name, iterV_subS, iterV_call, boolK_eq, evT_bool, evT_cmp, evT_name, evT_call, allT_and0, allT_or0, allT_and, allT_or, andTK_eq, orTK_eq, storeN_eq, asg_name, asgL_nil, asgL_cons, asgLK_eq, asg_tup_d, asg_tup_v, asg_sub, asgSK1_eq, setOK_eq, asgSK2_own, asgSK2_deck, nextK_eq, stoK_eq, exS_name, stoCK_eq, exS_nameC, tasK_eq, exS_tup, exS_swp2, exS_swp3, swpK2_d, swpK2_v, swpK3_v, storeL_nil, storeL_cons, storeLK_eq, sasK_eq, exS_sub, exS_aug, augK1_eq, augK2_eq, exS_if, ifSK_eq, forStep_eq, forK_eq, exS_for, loopF_nil, loopF_cons, loopK_next, loopK_ret, rtnK_eq, exS_ret, exS_meth, methK1_eq, appK_eq, methK2_app, extK_eq, methK2_ext, exB_nil, exB_cons, seqK_next, seqK_ret, fzK_eq, retFK_eq, layStr_left, layStr_mixed, layStr_m, layStr_l, layStr_z, layStr_w, layStr_e, getV, setV, Option.bind_some, Option.map_some, List.length_cons, List.length_nil, if_true, if_false, Bool.false_eq_true, decide_eq_true_eq, Bool.not_true, Bool.not_false, Bool.not_eq_true, List.map_cons, List.map_nil, List.reverse_cons, List.reverse_nil, List.nil_append, List.cons_append, gt_iff_lt, ge_iff_le, beq_iff_eq, Nat.reduceAdd, ite_self, mkTup, allD, Option.some.injEq, List.all_cons, List.all_nil, Bool.and_true, Bool.true_and, argOk, freeze, Option.isSome_some, decide_true, decide_false, Option.bind_none, Option.map_none, List.getElem?_cons_zero, List.getElem?_cons_succ, blank, encP, encL, getC, Bool.not_eq_true', compL, Option.toList_some, Option.toList_none, List.append_nil, itemL_0, itemL_1, itemL_2, itemL_m1, Int.cast_ofNat_Int, intsOf, List.set_cons_zero, List.set_cons_succ, Int.reduceAdd, Int.reduceSub, Int.reduceNeg, Int.reduceMul]
end Mine
namespace Mine
open PySem PySem.W PyProof.Rows PySem.Calls
set_option maxRecDepth 100000

theorem range_down (n : Nat) (h : n ≤ 8) : rangeV [.d (.int n), .d (.int 0), .d (.int (-1))] = some (rangeL n (-1) n) := by
  have : n = 0 ∨ n = 1 ∨ n = 2 ∨ n = 3 ∨ n = 4 ∨ n = 5 ∨ n = 6 ∨ n = 7 ∨ n = 8 := by omega
  rcases this with h | h | h | h | h | h | h | h | h <;> subst h <;> rfl
theorem rangeL_len (a c : Int) (n : Nat) : (rangeL a c n).length = n := by
  induction n generalizing a with
  | zero => rfl
  | succ n ih => rw [rangeL, List.length_cons, ih]
theorem slice_last (xs : List PyData) (h : xs.length ≤ 1000000) : sliceV none (some (-1)) (.d (.list xs)) = some (.d (.list xs.dropLast)) := by
  unfold sliceV
  dsimp only
  rw [if_pos (sizeOk_of h)]
  rfl
theorem slice_from (xs : List PyData) (k : Nat) (h : xs.length ≤ 1000000) : sliceV (some (k : Int)) none (.d (.list xs)) = some (.d (.list (xs.drop k))) := by
  unfold sliceV
  dsimp only
  rw [if_pos (sizeOk_of h)]
  unfold sliceL
  dsimp only
  rw [if_pos (by omega)]
  rfl
theorem slice_to (xs : List PyData) (k : Nat) (h : xs.length ≤ 1000000) : sliceV none (some (k : Int)) (.d (.list xs)) = some (.d (.list (xs.take k))) := by
  unfold sliceV
  dsimp only
  rw [if_pos (sizeOk_of h)]
  unfold sliceL
  dsimp only
  rw [if_pos (by omega)]
  rfl

theorem down_loop {J : Type} {step : PyData → IS → Option (Fl × IS)} (rep : List PyData → J → IS) (L : List Pt) (inv : Nat → List PyData → Prop)
    (h : ∀ m (k : Nat) q F j, k + 1 < L.length → L[k]? = some q → inv (m + 1) F → ∃ j', step (.int ((k : Int) + 1)) (rep F j) = some (.next, rep (F ++ [row2 sL q]) j') ∧ inv m (F ++ [row2 sL q])) :
    ∀ (k : Nat) (F : List PyData) (j : J), k < L.length → inv k F → ∃ j', loopF step (rangeL k (-1) k) (rep F j) = some (.next, rep (F ++ (L.take k).reverse.map (row2 sL)) j')
  | 0, F, j, _, _ => ⟨j, by simp [rangeL, loopF_nil]⟩
  | k + 1, F, j, hk, hi => by
    have hq : L[k]? = some L[k] := List.getElem?_eq_getElem (by omega)
    obtain ⟨j1, e1, i1⟩ := h k k L[k] F j hk hq hi
    obtain ⟨j2, e2⟩ := down_loop rep L inv h k (F ++ [row2 sL L[k]]) j1 (by omega) i1
    refine ⟨j2, ?_⟩
    rw [rangeL, loopF_cons, show (((k + 1 : Nat) : Int)) = (k : Int) + 1 by omega, e1, Option.bind_some, loopK_next, show (k : Int) + 1 + -1 = k by omega, e2]
    rw [List.take_add_one, hq, List.reverse_append, List.map_append]
    simp only [Option.toList_some, List.reverse_singleton, List.map_cons, List.map_nil, List.append_assoc, List.singleton_append]

/-- the subpath gone along the other way -/
noncomputable def revS (s : Sub) : Sub := ⟨lastP s.start s.pts, (ends s).dropLast.reverse, s.closed⟩
theorem rev_good {s : Sub} (h : GoodS s) : GoodS (revS s) := by
  have hb : ∀ p ∈ ends s, Bd p := by
    intro p hp
    rcases List.mem_cons.mp hp with h' | h'
    · subst h'; exact h.2.1
    · exact h.2.2 p h'
  refine ⟨?_, hb _ (lastP_mem _ _), ?_⟩
  · have := h.1
    simp only [revS, ends, List.length_reverse, List.length_dropLast, List.length_cons]
    omega
  · intro p hp
    simp only [revS, List.mem_reverse] at hp
    exact hb p ((List.dropLast_sublist _).subset hp)
noncomputable abbrev repV (ss : List Sub) (dk : Dk) (F : List PyData) (j : J8) : IS := ⟨[(Str.ofString "rows", some (.d (.list (allRows ss)))), (Str.ofString "found", some (.own 0)), (Str.ofString "part", j.a), (Str.ofString "is_closed", j.b), (Str.ofString "ends", j.c), (Str.ofString "at", j.d), (Str.ofString "points", j.e)], [F.map .d], dk⟩
noncomputable def fV (F : List PyData) (s : Sub) : List PyData := F ++ subRows (revS s)
theorem fV_eq (ss : List Sub) (F : List PyData) : ss.foldl fV F = F ++ allRows (ss.map revS) := by
  induction ss generalizing F with
  | nil => simp [allRows]
  | cons s ss ih =>
    rw [List.foldl_cons, ih, fV]
    simp [allRows]
theorem row_fT (n : Nat) (s : Str) (x y : Int) (dk : Dk) : (ev (n+12)).f (Str.ofString "path_row") [.d (.str s), .d (.list [.tuple [.int x, .int y]])] dk = some (.d (row2 s (x, y)), dk) := row_f n s (x, y) dk
theorem points_fT (n : Nat) (s : Str) (x y : Int) (dk : Dk) : (ev (n+12)).f (Str.ofString "path_points") [.d (.tuple [.str s, .int x, .int y])] dk = some (.d (.list [encP (x, y)]), dk) := points_f n s (x, y) dk
theorem tags_at (s : Sub) (k : Nat) (h : k + 1 < (ends s).length) : ∃ p, itemL ((tags s).map encR) ((k : Int) + 1) = some (row2 sL p) := by
  have h' : k < s.pts.length := by simpa [ends] using h
  refine ⟨s.pts[k], ?_⟩
  unfold itemL
  rw [if_pos (by omega), show ((k : Int) + 1).toNat = k + 1 by omega]
  simp [tags, encR, h']
theorem ends_at (s : Sub) (k : Nat) (q : Pt) (h : (ends s)[k]? = some q) : itemL ((ends s).map encP) ((k : Int) + 1 - 1) = some (encP q) := by
  unfold itemL
  rw [if_pos (by omega), show ((k : Int) + 1 - 1).toNat = k by omega, List.getElem?_map, h]
  rfl
theorem gv_Rev_0 (a0 a1 a2 a3 a4 a5 a6 : Option V) : getV [(Str.ofString "rows", a0), (Str.ofString "found", a1), (Str.ofString "part", a2), (Str.ofString "is_closed", a3), (Str.ofString "ends", a4), (Str.ofString "at", a5), (Str.ofString "points", a6)] (Str.ofString "rows") = a0 := rfl
theorem sv_Rev_0 (a0 a1 a2 a3 a4 a5 a6 : Option V) (v : V) : setV [(Str.ofString "rows", a0), (Str.ofString "found", a1), (Str.ofString "part", a2), (Str.ofString "is_closed", a3), (Str.ofString "ends", a4), (Str.ofString "at", a5), (Str.ofString "points", a6)] (Str.ofString "rows") v = [(Str.ofString "rows", some v), (Str.ofString "found", a1), (Str.ofString "part", a2), (Str.ofString "is_closed", a3), (Str.ofString "ends", a4), (Str.ofString "at", a5), (Str.ofString "points", a6)] := rfl
theorem gv_Rev_1 (a0 a1 a2 a3 a4 a5 a6 : Option V) : getV [(Str.ofString "rows", a0), (Str.ofString "found", a1), (Str.ofString "part", a2), (Str.ofString "is_closed", a3), (Str.ofString "ends", a4), (Str.ofString "at", a5), (Str.ofString "points", a6)] (Str.ofString "found") = a1 := rfl
theorem sv_Rev_1 (a0 a1 a2 a3 a4 a5 a6 : Option V) (v : V) : setV [(Str.ofString "rows", a0), (Str.ofString "found", a1), (Str.ofString "part", a2), (Str.ofString "is_closed", a3), (Str.ofString "ends", a4), (Str.ofString "at", a5), (Str.ofString "points", a6)] (Str.ofString "found") v = [(Str.ofString "rows", a0), (Str.ofString "found", some v), (Str.ofString "part", a2), (Str.ofString "is_closed", a3), (Str.ofString "ends", a4), (Str.ofString "at", a5), (Str.ofString "points", a6)] := rfl
theorem gv_Rev_2 (a0 a1 a2 a3 a4 a5 a6 : Option V) : getV [(Str.ofString "rows", a0), (Str.ofString "found", a1), (Str.ofString "part", a2), (Str.ofString "is_closed", a3), (Str.ofString "ends", a4), (Str.ofString "at", a5), (Str.ofString "points", a6)] (Str.ofString "part") = a2 := rfl
theorem sv_Rev_2 (a0 a1 a2 a3 a4 a5 a6 : Option V) (v : V) : setV [(Str.ofString "rows", a0), (Str.ofString "found", a1), (Str.ofString "part", a2), (Str.ofString "is_closed", a3), (Str.ofString "ends", a4), (Str.ofString "at", a5), (Str.ofString "points", a6)] (Str.ofString "part") v = [(Str.ofString "rows", a0), (Str.ofString "found", a1), (Str.ofString "part", some v), (Str.ofString "is_closed", a3), (Str.ofString "ends", a4), (Str.ofString "at", a5), (Str.ofString "points", a6)] := rfl
theorem gv_Rev_3 (a0 a1 a2 a3 a4 a5 a6 : Option V) : getV [(Str.ofString "rows", a0), (Str.ofString "found", a1), (Str.ofString "part", a2), (Str.ofString "is_closed", a3), (Str.ofString "ends", a4), (Str.ofString "at", a5), (Str.ofString "points", a6)] (Str.ofString "is_closed") = a3 := rfl
theorem sv_Rev_3 (a0 a1 a2 a3 a4 a5 a6 : Option V) (v : V) : setV [(Str.ofString "rows", a0), (Str.ofString "found", a1), (Str.ofString "part", a2), (Str.ofString "is_closed", a3), (Str.ofString "ends", a4), (Str.ofString "at", a5), (Str.ofString "points", a6)] (Str.ofString "is_closed") v = [(Str.ofString "rows", a0), (Str.ofString "found", a1), (Str.ofString "part", a2), (Str.ofString "is_closed", some v), (Str.ofString "ends", a4), (Str.ofString "at", a5), (Str.ofString "points", a6)] := rfl
theorem gv_Rev_4 (a0 a1 a2 a3 a4 a5 a6 : Option V) : getV [(Str.ofString "rows", a0), (Str.ofString "found", a1), (Str.ofString "part", a2), (Str.ofString "is_closed", a3), (Str.ofString "ends", a4), (Str.ofString "at", a5), (Str.ofString "points", a6)] (Str.ofString "ends") = a4 := rfl
theorem sv_Rev_4 (a0 a1 a2 a3 a4 a5 a6 : Option V) (v : V) : setV [(Str.ofString "rows", a0), (Str.ofString "found", a1), (Str.ofString "part", a2), (Str.ofString "is_closed", a3), (Str.ofString "ends", a4), (Str.ofString "at", a5), (Str.ofString "points", a6)] (Str.ofString "ends") v = [(Str.ofString "rows", a0), (Str.ofString "found", a1), (Str.ofString "part", a2), (Str.ofString "is_closed", a3), (Str.ofString "ends", some v), (Str.ofString "at", a5), (Str.ofString "points", a6)] := rfl
theorem gv_Rev_5 (a0 a1 a2 a3 a4 a5 a6 : Option V) : getV [(Str.ofString "rows", a0), (Str.ofString "found", a1), (Str.ofString "part", a2), (Str.ofString "is_closed", a3), (Str.ofString "ends", a4), (Str.ofString "at", a5), (Str.ofString "points", a6)] (Str.ofString "at") = a5 := rfl
theorem sv_Rev_5 (a0 a1 a2 a3 a4 a5 a6 : Option V) (v : V) : setV [(Str.ofString "rows", a0), (Str.ofString "found", a1), (Str.ofString "part", a2), (Str.ofString "is_closed", a3), (Str.ofString "ends", a4), (Str.ofString "at", a5), (Str.ofString "points", a6)] (Str.ofString "at") v = [(Str.ofString "rows", a0), (Str.ofString "found", a1), (Str.ofString "part", a2), (Str.ofString "is_closed", a3), (Str.ofString "ends", a4), (Str.ofString "at", some v), (Str.ofString "points", a6)] := rfl
theorem gv_Rev_6 (a0 a1 a2 a3 a4 a5 a6 : Option V) : getV [(Str.ofString "rows", a0), (Str.ofString "found", a1), (Str.ofString "part", a2), (Str.ofString "is_closed", a3), (Str.ofString "ends", a4), (Str.ofString "at", a5), (Str.ofString "points", a6)] (Str.ofString "points") = a6 := rfl
theorem sv_Rev_6 (a0 a1 a2 a3 a4 a5 a6 : Option V) (v : V) : setV [(Str.ofString "rows", a0), (Str.ofString "found", a1), (Str.ofString "part", a2), (Str.ofString "is_closed", a3), (Str.ofString "ends", a4), (Str.ofString "at", a5), (Str.ofString "points", a6)] (Str.ofString "points") v = [(Str.ofString "rows", a0), (Str.ofString "found", a1), (Str.ofString "part", a2), (Str.ofString "is_closed", a3), (Str.ofString "ends", a4), (Str.ofString "at", a5), (Str.ofString "points", some v)] := rfl
noncomputable def rRev : {d : DefRec // fnRec (Str.ofString "path_reversed") = some d} := ⟨_, rfl⟩
theorem mapd_len {xs : List PyData} {m : Nat} (h : xs.length + m ≤ 100000) : (List.map V.d xs).length ≤ 1000000 := by rw [List.length_map]; omega
theorem down_len {s : Sub} (h : GoodS s) : (rangeL s.pts.length (-1) s.pts.length).length ≤ 1000000 := by rw [rangeL_len]; have := h.1; omega
theorem sub_len {s : Sub} (h : GoodS s) : (subRows s).length ≤ 10 := by
  have := h.1
  unfold subRows
  rw [List.length_cons, List.length_append, List.length_map]
  split <;> simp <;> omega
theorem turn_len {a b m : Nat} (hb : b ≤ 10) (hi : a + 10 * (m + 1) ≤ 100000) : a + b + 10 * m ≤ 100000 := by omega
theorem rev_f (n : Nat) (ss : List Sub) (dk : Dk) (hn : ss.length ≤ 8) (hs : ∀ s ∈ ss, GoodS s) :
    (ev (n+30)).f (Str.ofString "path_reversed") [.d (.list (allRows ss))] dk = some (.d (.list (allRows (ss.map revS))), dk) := by
  have hr : (allRows ss).length ≤ 1000000 := rows_len hn hs
  have hsub := fun n dk => subs_f n ss dk (Nat.le_trans hn (by decide)) (pts_900 hs) hr
  rw [ev_f, callF_eq _ _ _ rRev.2 (by decide +kernel) rfl rfl, show initV rRev.1 [.d (.list (allRows ss))] = [(Str.ofString "rows", some (.d (.list (allRows ss)))), (Str.ofString "found", none), (Str.ofString "part", none), (Str.ofString "is_closed", none), (Str.ofString "ends", none), (Str.ofString "at", none), (Str.ofString "points", none)] from rfl, show initC rRev.1 [.d (.list (allRows ss))] = [] from rfl]
  have hsl : (ss.map encS).length ≤ 1000000 := encS_len hn
  simp (decide := true) only [rRev, hsub, hsl, ev_e, ev_t, ev_a, ev_b, evL_nil, evL_cons, evLK1_eq, evLK2_eq, retE_eq, retO_eq, evE_int, evE_str, evE_bool, evE_none, evE_name, nameV_loc, nameV_cell, nameV_free, nameV_unit, nameV_eo, evE_bin, binK1_eq, binK2_eq, binV_add, binV_sub, binV_mul, binV_div, binV_mod, binV_list, binV_tup, evE_neg, negK_eq, evE_if, ifEK_eq, evE_tuple, tupK_eq, evE_list0, evE_list1, list1K_eq, evE_list2, evE_listS, listK_eq, listK1_eq, evE_rev, revK1_eq, revK_eq, evE_slo, sloK1_eq, sloK_eq, evE_sup, supK1_eq, supK_eq, evE_subC, evE_subN, evE_subU, evE_subB, subK1_eq, subK_eq, itemV_list, itemV_tuple, itemV_own, itemOK_eq, itemV_tup, itemV_left, itemV_mixed, retB_eq, cmpVK_eq, evE_cmp, cmpE_ne, neK_eq, cmpE_eq1, cmpE_lt, cmpE_le, cmpE_gt, cmpE_ge, cmpE_is, cmpE_isnot, cmpE_neC, cmpE_neN, cmpE_neT, cmpE_neB, cmpK1_eq, cmpK_eq, cmpE_2, cmp2K1_eq, cmp2K2_eq, cmp2K2b_eq, cmpV_lt, cmpV_le, cmpV_gt, cmpV_ge, cmpV_eqI, cmpV_neI, cmpV_eqS, cmpV_isN, cmpV_isT, cmpV_isnotB, neNil_list, neNil_left, evE_and, andEK_eq, evE_call, callK_eq, retF_eq, callV_own, callV_min, callV_max, callV_lenL, callV_lenT, sumK_eq, callV_sum, callV_tupL, tupOK1_eq, tupOK_eq, callV_tupO, evE_pop, popK1_eq, popK2_eq, compStep_eq, compK1_eq, compK2_eq, compK3_eq, testsE_0, testsE_1, retL_eq, compScope_eq, compK_eq, compV_eq, compVK_eq, evE_comp, rangeK_eq, rangeK1_eq, iterV_range, enumK_eq, iterV_enum, seqIK_list, seqIK_tuple, iterV_name, iterV_subS, iterV_call, boolK_eq, evT_bool, evT_cmp, evT_name, evT_call, allT_and0, allT_or0, allT_and, allT_or, andTK_eq, orTK_eq, storeN_eq, asg_name, asgL_nil, asgL_cons, asgLK_eq, asg_tup_d, asg_tup_v, asg_sub, asgSK1_eq, setOK_eq, asgSK2_own, asgSK2_deck, nextK_eq, stoK_eq, exS_name, stoCK_eq, exS_nameC, tasK_eq, exS_tup, exS_swp2, exS_swp3, swpK2_d, swpK2_v, swpK3_v, storeL_nil, storeL_cons, storeLK_eq, sasK_eq, exS_sub, exS_aug, augK1_eq, augK2_eq, exS_if, ifSK_eq, forStep_eq, forK_eq, exS_for, loopF_nil, loopF_cons, loopK_next, loopK_ret, rtnK_eq, exS_ret, exS_meth, methK1_eq, appK_eq, methK2_app, extK_eq, methK2_ext, exB_nil, exB_cons, seqK_next, seqK_ret, fzK_eq, retFK_eq, layStr_left, layStr_mixed, layStr_m, layStr_l, layStr_z, layStr_w, layStr_e, Option.bind_some, Option.map_some, List.length_cons, List.length_nil, if_true, if_false, Bool.false_eq_true, decide_eq_true_eq, Bool.not_true, Bool.not_false, Bool.not_eq_true, List.map_cons, List.map_nil, List.reverse_cons, List.reverse_nil, List.nil_append, List.cons_append, gt_iff_lt, ge_iff_le, beq_iff_eq, Nat.reduceAdd, ite_self, mkTup, allD, Option.some.injEq, List.all_cons, List.all_nil, Bool.and_true, Bool.true_and, argOk, freeze, Option.isSome_some, decide_true, decide_false, Option.bind_none, Option.map_none, List.getElem?_cons_zero, List.getElem?_cons_succ, blank, encP, encL, getC, Bool.not_eq_true', compL, Option.toList_some, Option.toList_none, List.append_nil, itemL_0, itemL_1, itemL_2, itemL_m1, Int.cast_ofNat_Int, intsOf, List.set_cons_zero, List.set_cons_succ, Int.reduceAdd, Int.reduceSub, Int.reduceNeg, Int.reduceMul, gv_Rev_0, sv_Rev_0, gv_Rev_1, sv_Rev_1, gv_Rev_2, sv_Rev_2, gv_Rev_3, sv_Rev_3, gv_Rev_4, sv_Rev_4, gv_Rev_5, sv_Rev_5, gv_Rev_6, sv_Rev_6]
  generalize hL : loopF _ _ _ = o
  have key : ∃ j, o = some (.next, repV ss dk (ss.foldl fV []) j) := by
    rw [← hL]
    refine loop_ex encS (repV ss dk) fV GoodS (fun m F => F.length + 10 * m ≤ 100000) ss [] j0 hs (first_len hn) ?_
    intro m F j s hg hi
    have hpl : (partOf s).length ≤ 1000000 := part_len hg
    have hpl' : ((tags s).map encR).length ≤ 1000000 := hpl
    have hel := ends_len hg
    have hlast : itemL ((ends s).map encP) (-1) = some (encP (lastP s.start s.pts)) := itemL_lastP _ _
    have hF := mapd_len hi
    have hlen : ((((tags s).map encR).length : Nat) : Int) - 1 = (s.pts.length : Nat) := by simp [tags]
    have hrg := range_down s.pts.length hg.1
    have hrl := down_len hg
    simp (decide := true) only [encS, hpl, ev_e, ev_t, ev_a, ev_b, evL_nil, evL_cons, evLK1_eq, evLK2_eq, retE_eq, retO_eq, evE_int, evE_str, evE_bool, evE_none, evE_name, nameV_loc, nameV_cell, nameV_free, nameV_unit, nameV_eo, evE_bin, binK1_eq, binK2_eq, binV_add, binV_sub, binV_mul, binV_div, binV_mod, binV_list, binV_tup, evE_neg, negK_eq, evE_if, ifEK_eq, evE_tuple, tupK_eq, evE_list0, evE_list1, list1K_eq, evE_list2, evE_listS, listK_eq, listK1_eq, evE_rev, revK1_eq, revK_eq, evE_slo, sloK1_eq, sloK_eq, evE_sup, supK1_eq, supK_eq, evE_subC, evE_subN, evE_subU, evE_subB, subK1_eq, subK_eq, itemV_list, itemV_tuple, itemV_own, itemOK_eq, itemV_tup, itemV_left, itemV_mixed, retB_eq, cmpVK_eq, evE_cmp, cmpE_ne, neK_eq, cmpE_eq1, cmpE_lt, cmpE_le, cmpE_gt, cmpE_ge, cmpE_is, cmpE_isnot, cmpE_neC, cmpE_neN, cmpE_neT, cmpE_neB, cmpK1_eq, cmpK_eq, cmpE_2, cmp2K1_eq, cmp2K2_eq, cmp2K2b_eq, cmpV_lt, cmpV_le, cmpV_gt, cmpV_ge, cmpV_eqI, cmpV_neI, cmpV_eqS, cmpV_isN, cmpV_isT, cmpV_isnotB, neNil_list, neNil_left, evE_and, andEK_eq, evE_call, callK_eq, retF_eq, callV_own, callV_min, callV_max, callV_lenL, callV_lenT, sumK_eq, callV_sum, callV_tupL, tupOK1_eq, tupOK_eq, callV_tupO, evE_pop, popK1_eq, popK2_eq, compStep_eq, compK1_eq, compK2_eq, compK3_eq, testsE_0, testsE_1, retL_eq, compScope_eq, compK_eq, compV_eq, compVK_eq, evE_comp, rangeK_eq, rangeK1_eq, iterV_range, enumK_eq, iterV_enum, seqIK_list, seqIK_tuple, iterV_name, iterV_subS, iterV_call, boolK_eq, evT_bool, evT_cmp, evT_name, evT_call, allT_and0, allT_or0, allT_and, allT_or, andTK_eq, orTK_eq, storeN_eq, asg_name, asgL_nil, asgL_cons, asgLK_eq, asg_tup_d, asg_tup_v, asg_sub, asgSK1_eq, setOK_eq, asgSK2_own, asgSK2_deck, nextK_eq, stoK_eq, exS_name, stoCK_eq, exS_nameC, tasK_eq, exS_tup, exS_swp2, exS_swp3, swpK2_d, swpK2_v, swpK3_v, storeL_nil, storeL_cons, storeLK_eq, sasK_eq, exS_sub, exS_aug, augK1_eq, augK2_eq, exS_if, ifSK_eq, forStep_eq, forK_eq, exS_for, loopF_nil, loopF_cons, loopK_next, loopK_ret, rtnK_eq, exS_ret, exS_meth, methK1_eq, appK_eq, methK2_app, extK_eq, methK2_ext, exB_nil, exB_cons, seqK_next, seqK_ret, fzK_eq, retFK_eq, layStr_left, layStr_mixed, layStr_m, layStr_l, layStr_z, layStr_w, layStr_e, Option.bind_some, Option.map_some, List.length_cons, List.length_nil, if_true, if_false, Bool.false_eq_true, decide_eq_true_eq, Bool.not_true, Bool.not_false, Bool.not_eq_true, List.map_cons, List.map_nil, List.reverse_cons, List.reverse_nil, List.nil_append, List.cons_append, gt_iff_lt, ge_iff_le, beq_iff_eq, Nat.reduceAdd, ite_self, mkTup, allD, Option.some.injEq, List.all_cons, List.all_nil, Bool.and_true, Bool.true_and, argOk, freeze, Option.isSome_some, decide_true, decide_false, Option.bind_none, Option.map_none, List.getElem?_cons_zero, List.getElem?_cons_succ, blank, encP, encL, getC, Bool.not_eq_true', compL, Option.toList_some, Option.toList_none, List.append_nil, itemL_0, itemL_1, itemL_2, itemL_m1, Int.cast_ofNat_Int, intsOf, List.set_cons_zero, List.set_cons_succ, Int.reduceAdd, Int.reduceSub, Int.reduceNeg, Int.reduceMul, gv_Rev_0, sv_Rev_0, gv_Rev_1, sv_Rev_1, gv_Rev_2, sv_Rev_2, gv_Rev_3, sv_Rev_3, gv_Rev_4, sv_Rev_4, gv_Rev_5, sv_Rev_5, gv_Rev_6, sv_Rev_6]
    rw [partOf, compL_rw encR (fun q => some (encP q.2)) (fun _ => True) (tags s) (fun _ _ => trivial), ends_comp]
    · simp (decide := true) only [hel, hlast, row_fT, layStr_m, hF, hpl', hlen, hrg, hrl, ev_e, ev_t, ev_a, ev_b, evL_nil, evL_cons, evLK1_eq, evLK2_eq, retE_eq, retO_eq, evE_int, evE_str, evE_bool, evE_none, evE_name, nameV_loc, nameV_cell, nameV_free, nameV_unit, nameV_eo, evE_bin, binK1_eq, binK2_eq, binV_add, binV_sub, binV_mul, binV_div, binV_mod, binV_list, binV_tup, evE_neg, negK_eq, evE_if, ifEK_eq, evE_tuple, tupK_eq, evE_list0, evE_list1, list1K_eq, evE_list2, evE_listS, listK_eq, listK1_eq, evE_rev, revK1_eq, revK_eq, evE_slo, sloK1_eq, sloK_eq, evE_sup, supK1_eq, supK_eq, evE_subC, evE_subN, evE_subU, evE_subB, subK1_eq, subK_eq, itemV_list, itemV_tuple, itemV_own, itemOK_eq, itemV_tup, itemV_left, itemV_mixed, retB_eq, cmpVK_eq, evE_cmp, cmpE_ne, neK_eq, cmpE_eq1, cmpE_lt, cmpE_le, cmpE_gt, cmpE_ge, cmpE_is, cmpE_isnot, cmpE_neC, cmpE_neN, cmpE_neT, cmpE_neB, cmpK1_eq, cmpK_eq, cmpE_2, cmp2K1_eq, cmp2K2_eq, cmp2K2b_eq, cmpV_lt, cmpV_le, cmpV_gt, cmpV_ge, cmpV_eqI, cmpV_neI, cmpV_eqS, cmpV_isN, cmpV_isT, cmpV_isnotB, neNil_list, neNil_left, evE_and, andEK_eq, evE_call, callK_eq, retF_eq, callV_own, callV_min, callV_max, callV_lenL, callV_lenT, sumK_eq, callV_sum, callV_tupL, tupOK1_eq, tupOK_eq, callV_tupO, evE_pop, popK1_eq, popK2_eq, compStep_eq, compK1_eq, compK2_eq, compK3_eq, testsE_0, testsE_1, retL_eq, compScope_eq, compK_eq, compV_eq, compVK_eq, evE_comp, rangeK_eq, rangeK1_eq, iterV_range, enumK_eq, iterV_enum, seqIK_list, seqIK_tuple, iterV_name, iterV_subS, iterV_call, boolK_eq, evT_bool, evT_cmp, evT_name, evT_call, allT_and0, allT_or0, allT_and, allT_or, andTK_eq, orTK_eq, storeN_eq, asg_name, asgL_nil, asgL_cons, asgLK_eq, asg_tup_d, asg_tup_v, asg_sub, asgSK1_eq, setOK_eq, asgSK2_own, asgSK2_deck, nextK_eq, stoK_eq, exS_name, stoCK_eq, exS_nameC, tasK_eq, exS_tup, exS_swp2, exS_swp3, swpK2_d, swpK2_v, swpK3_v, storeL_nil, storeL_cons, storeLK_eq, sasK_eq, exS_sub, exS_aug, augK1_eq, augK2_eq, exS_if, ifSK_eq, forStep_eq, forK_eq, exS_for, loopF_nil, loopF_cons, loopK_next, loopK_ret, rtnK_eq, exS_ret, exS_meth, methK1_eq, appK_eq, methK2_app, extK_eq, methK2_ext, exB_nil, exB_cons, seqK_next, seqK_ret, fzK_eq, retFK_eq, layStr_left, layStr_mixed, layStr_m, layStr_l, layStr_z, layStr_w, layStr_e, Option.bind_some, Option.map_some, List.length_cons, List.length_nil, if_true, if_false, Bool.false_eq_true, decide_eq_true_eq, Bool.not_true, Bool.not_false, Bool.not_eq_true, List.map_cons, List.map_nil, List.reverse_cons, List.reverse_nil, List.nil_append, List.cons_append, gt_iff_lt, ge_iff_le, beq_iff_eq, Nat.reduceAdd, ite_self, mkTup, allD, Option.some.injEq, List.all_cons, List.all_nil, Bool.and_true, Bool.true_and, argOk, freeze, Option.isSome_some, decide_true, decide_false, Option.bind_none, Option.map_none, List.getElem?_cons_zero, List.getElem?_cons_succ, blank, encP, encL, getC, Bool.not_eq_true', compL, Option.toList_some, Option.toList_none, List.append_nil, itemL_0, itemL_1, itemL_2, itemL_m1, Int.cast_ofNat_Int, intsOf, List.set_cons_zero, List.set_cons_succ, Int.reduceAdd, Int.reduceSub, Int.reduceNeg, Int.reduceMul, gv_Rev_0, sv_Rev_0, gv_Rev_1, sv_Rev_1, gv_Rev_2, sv_Rev_2, gv_Rev_3, sv_Rev_3, gv_Rev_4, sv_Rev_4, gv_Rev_5, sv_Rev_5, gv_Rev_6, sv_Rev_6]
      generalize hL2 : loopF _ _ _ = o2
      have key2 : ∃ j2 : J8, o2 = some (.next, repV ss dk (F ++ [row2 sM (lastP s.start s.pts)] ++ ((ends s).take s.pts.length).reverse.map (row2 sL)) ⟨some (.d (.list ((tags s).map encR))), some (.d (.bool s.closed)), some (.d (.list ((ends s).map encP))), j2.d, j2.e, none, none, none⟩) := by
        rw [← hL2, show List.map V.d F ++ [V.d (row2 (Str.ofString "m") ((lastP s.start s.pts).1, (lastP s.start s.pts).2))] = (F ++ [row2 sM (lastP s.start s.pts)]).map V.d by simp [sM]]
        refine down_loop (fun F (j : J8) => repV ss dk F ⟨some (.d (.list ((tags s).map encR))), some (.d (.bool s.closed)), some (.d (.list ((ends s).map encP))), j.d, j.e, none, none, none⟩) (ends s) (fun m F => F.length + m ≤ 100000) ?_ s.pts.length _ j (by simp [ends]) ?_
        · intro m k q F j hk hq hi
          obtain ⟨p, hp⟩ := tags_at s k hk
          have he := ends_at s k q hq
          obtain ⟨q1, q2⟩ := q
          obtain ⟨p1, p2⟩ := p
          have hk8 : k ≤ 8 := by have := hg.1; simp only [ends, List.length_cons] at hk; omega
          have hk1 : ((k : Int) + 1).natAbs < 4611686018427387904 := by omega
          have hk2 : ((k : Int) + 1 - 1).natAbs < 4611686018427387904 := by omega
          have hF := mapd_len hi
          refine ⟨⟨none, none, none, some (.d (.int ((k : Int) + 1))), some (.d (.list [])), none, none, none⟩, ?_, ?_⟩
          · unfold repV
            simp (decide := true) only [hpl', hel, hk1, hk2, hp, he, row2, sL, points_fT, row_fT, slice_last, hF, List.dropLast_singleton, ev_e, ev_t, ev_a, ev_b, evL_nil, evL_cons, evLK1_eq, evLK2_eq, retE_eq, retO_eq, evE_int, evE_str, evE_bool, evE_none, evE_name, nameV_loc, nameV_cell, nameV_free, nameV_unit, nameV_eo, evE_bin, binK1_eq, binK2_eq, binV_add, binV_sub, binV_mul, binV_div, binV_mod, binV_list, binV_tup, evE_neg, negK_eq, evE_if, ifEK_eq, evE_tuple, tupK_eq, evE_list0, evE_list1, list1K_eq, evE_list2, evE_listS, listK_eq, listK1_eq, evE_rev, revK1_eq, revK_eq, evE_slo, sloK1_eq, sloK_eq, evE_sup, supK1_eq, supK_eq, evE_subC, evE_subN, evE_subU, evE_subB, subK1_eq, subK_eq, itemV_list, itemV_tuple, itemV_own, itemOK_eq, itemV_tup, itemV_left, itemV_mixed, retB_eq, cmpVK_eq, evE_cmp, cmpE_ne, neK_eq, cmpE_eq1, cmpE_lt, cmpE_le, cmpE_gt, cmpE_ge, cmpE_is, cmpE_isnot, cmpE_neC, cmpE_neN, cmpE_neT, cmpE_neB, cmpK1_eq, cmpK_eq, cmpE_2, cmp2K1_eq, cmp2K2_eq, cmp2K2b_eq, cmpV_lt, cmpV_le, cmpV_gt, cmpV_ge, cmpV_eqI, cmpV_neI, cmpV_eqS, cmpV_isN, cmpV_isT, cmpV_isnotB, neNil_list, neNil_left, evE_and, andEK_eq, evE_call, callK_eq, retF_eq, callV_own, callV_min, callV_max, callV_lenL, callV_lenT, sumK_eq, callV_sum, callV_tupL, tupOK1_eq, tupOK_eq, callV_tupO, evE_pop, popK1_eq, popK2_eq, compStep_eq, compK1_eq, compK2_eq, compK3_eq, testsE_0, testsE_1, retL_eq, compScope_eq, compK_eq, compV_eq, compVK_eq, evE_comp, rangeK_eq, rangeK1_eq, iterV_range, enumK_eq, iterV_enum, seqIK_list, seqIK_tuple, iterV_name, iterV_subS, iterV_call, boolK_eq, evT_bool, evT_cmp, evT_name, evT_call, allT_and0, allT_or0, allT_and, allT_or, andTK_eq, orTK_eq, storeN_eq, asg_name, asgL_nil, asgL_cons, asgLK_eq, asg_tup_d, asg_tup_v, asg_sub, asgSK1_eq, setOK_eq, asgSK2_own, asgSK2_deck, nextK_eq, stoK_eq, exS_name, stoCK_eq, exS_nameC, tasK_eq, exS_tup, exS_swp2, exS_swp3, swpK2_d, swpK2_v, swpK3_v, storeL_nil, storeL_cons, storeLK_eq, sasK_eq, exS_sub, exS_aug, augK1_eq, augK2_eq, exS_if, ifSK_eq, forStep_eq, forK_eq, exS_for, loopF_nil, loopF_cons, loopK_next, loopK_ret, rtnK_eq, exS_ret, exS_meth, methK1_eq, appK_eq, methK2_app, extK_eq, methK2_ext, exB_nil, exB_cons, seqK_next, seqK_ret, fzK_eq, retFK_eq, layStr_left, layStr_mixed, layStr_m, layStr_l, layStr_z, layStr_w, layStr_e, Option.bind_some, Option.map_some, List.length_cons, List.length_nil, if_true, if_false, Bool.false_eq_true, decide_eq_true_eq, Bool.not_true, Bool.not_false, Bool.not_eq_true, List.map_cons, List.map_nil, List.reverse_cons, List.reverse_nil, List.nil_append, List.cons_append, gt_iff_lt, ge_iff_le, beq_iff_eq, Nat.reduceAdd, ite_self, mkTup, allD, Option.some.injEq, List.all_cons, List.all_nil, Bool.and_true, Bool.true_and, argOk, freeze, Option.isSome_some, decide_true, decide_false, Option.bind_none, Option.map_none, List.getElem?_cons_zero, List.getElem?_cons_succ, blank, encP, encL, getC, Bool.not_eq_true', compL, Option.toList_some, Option.toList_none, List.append_nil, itemL_0, itemL_1, itemL_2, itemL_m1, Int.cast_ofNat_Int, intsOf, List.set_cons_zero, List.set_cons_succ, Int.reduceAdd, Int.reduceSub, Int.reduceNeg, Int.reduceMul, gv_Rev_0, sv_Rev_0, gv_Rev_1, sv_Rev_1, gv_Rev_2, sv_Rev_2, gv_Rev_3, sv_Rev_3, gv_Rev_4, sv_Rev_4, gv_Rev_5, sv_Rev_5, gv_Rev_6, sv_Rev_6]
            rw [List.map_append]
            rfl
          · simp only [List.length_append, List.length_singleton]
            omega
        · have := hg.1
          simp only [List.length_append, List.length_singleton]
          omega
      obtain ⟨j2, rfl⟩ := key2
      refine ⟨⟨some (.d (.list ((tags s).map encR))), some (.d (.bool s.closed)), some (.d (.list ((ends s).map encP))), j2.d, j2.e, none, none, none⟩, ?_, ?_⟩
      · have hrow : (ends s).take s.pts.length = (ends s).dropLast := by rw [List.dropLast_eq_take]; rfl
        have hF2 : (List.map V.d (F ++ [row2 sM (lastP s.start s.pts)] ++ List.map (row2 sL) (List.take s.pts.length (ends s)).reverse)).length ≤ 1000000 := by
          have := hg.1
          simp
          omega
        cases hc : s.closed
        · simp (decide := true) only [ev_e, ev_t, ev_a, ev_b, evL_nil, evL_cons, evLK1_eq, evLK2_eq, retE_eq, retO_eq, evE_int, evE_str, evE_bool, evE_none, evE_name, nameV_loc, nameV_cell, nameV_free, nameV_unit, nameV_eo, evE_bin, binK1_eq, binK2_eq, binV_add, binV_sub, binV_mul, binV_div, binV_mod, binV_list, binV_tup, evE_neg, negK_eq, evE_if, ifEK_eq, evE_tuple, tupK_eq, evE_list0, evE_list1, list1K_eq, evE_list2, evE_listS, listK_eq, listK1_eq, evE_rev, revK1_eq, revK_eq, evE_slo, sloK1_eq, sloK_eq, evE_sup, supK1_eq, supK_eq, evE_subC, evE_subN, evE_subU, evE_subB, subK1_eq, subK_eq, itemV_list, itemV_tuple, itemV_own, itemOK_eq, itemV_tup, itemV_left, itemV_mixed, retB_eq, cmpVK_eq, evE_cmp, cmpE_ne, neK_eq, cmpE_eq1, cmpE_lt, cmpE_le, cmpE_gt, cmpE_ge, cmpE_is, cmpE_isnot, cmpE_neC, cmpE_neN, cmpE_neT, cmpE_neB, cmpK1_eq, cmpK_eq, cmpE_2, cmp2K1_eq, cmp2K2_eq, cmp2K2b_eq, cmpV_lt, cmpV_le, cmpV_gt, cmpV_ge, cmpV_eqI, cmpV_neI, cmpV_eqS, cmpV_isN, cmpV_isT, cmpV_isnotB, neNil_list, neNil_left, evE_and, andEK_eq, evE_call, callK_eq, retF_eq, callV_own, callV_min, callV_max, callV_lenL, callV_lenT, sumK_eq, callV_sum, callV_tupL, tupOK1_eq, tupOK_eq, callV_tupO, evE_pop, popK1_eq, popK2_eq, compStep_eq, compK1_eq, compK2_eq, compK3_eq, testsE_0, testsE_1, retL_eq, compScope_eq, compK_eq, compV_eq, compVK_eq, evE_comp, rangeK_eq, rangeK1_eq, iterV_range, enumK_eq, iterV_enum, seqIK_list, seqIK_tuple, iterV_name, iterV_subS, iterV_call, boolK_eq, evT_bool, evT_cmp, evT_name, evT_call, allT_and0, allT_or0, allT_and, allT_or, andTK_eq, orTK_eq, storeN_eq, asg_name, asgL_nil, asgL_cons, asgLK_eq, asg_tup_d, asg_tup_v, asg_sub, asgSK1_eq, setOK_eq, asgSK2_own, asgSK2_deck, nextK_eq, stoK_eq, exS_name, stoCK_eq, exS_nameC, tasK_eq, exS_tup, exS_swp2, exS_swp3, swpK2_d, swpK2_v, swpK3_v, storeL_nil, storeL_cons, storeLK_eq, sasK_eq, exS_sub, exS_aug, augK1_eq, augK2_eq, exS_if, ifSK_eq, forStep_eq, forK_eq, exS_for, loopF_nil, loopF_cons, loopK_next, loopK_ret, rtnK_eq, exS_ret, exS_meth, methK1_eq, appK_eq, methK2_app, extK_eq, methK2_ext, exB_nil, exB_cons, seqK_next, seqK_ret, fzK_eq, retFK_eq, layStr_left, layStr_mixed, layStr_m, layStr_l, layStr_z, layStr_w, layStr_e, Option.bind_some, Option.map_some, List.length_cons, List.length_nil, if_true, if_false, Bool.false_eq_true, decide_eq_true_eq, Bool.not_true, Bool.not_false, Bool.not_eq_true, List.map_cons, List.map_nil, List.reverse_cons, List.reverse_nil, List.nil_append, List.cons_append, gt_iff_lt, ge_iff_le, beq_iff_eq, Nat.reduceAdd, ite_self, mkTup, allD, Option.some.injEq, List.all_cons, List.all_nil, Bool.and_true, Bool.true_and, argOk, freeze, Option.isSome_some, decide_true, decide_false, Option.bind_none, Option.map_none, List.getElem?_cons_zero, List.getElem?_cons_succ, blank, encP, encL, getC, Bool.not_eq_true', compL, Option.toList_some, Option.toList_none, List.append_nil, itemL_0, itemL_1, itemL_2, itemL_m1, Int.cast_ofNat_Int, intsOf, List.set_cons_zero, List.set_cons_succ, Int.reduceAdd, Int.reduceSub, Int.reduceNeg, Int.reduceMul, gv_Rev_0, sv_Rev_0, gv_Rev_1, sv_Rev_1, gv_Rev_2, sv_Rev_2, gv_Rev_3, sv_Rev_3, gv_Rev_4, sv_Rev_4, gv_Rev_5, sv_Rev_5, gv_Rev_6, sv_Rev_6]
          rw [hrow, fV, subRows, show (revS s).closed = s.closed from rfl, hc]
          simp [revS, encR]
        · simp (decide := true) only [layStr_z, hF2, ev_e, ev_t, ev_a, ev_b, evL_nil, evL_cons, evLK1_eq, evLK2_eq, retE_eq, retO_eq, evE_int, evE_str, evE_bool, evE_none, evE_name, nameV_loc, nameV_cell, nameV_free, nameV_unit, nameV_eo, evE_bin, binK1_eq, binK2_eq, binV_add, binV_sub, binV_mul, binV_div, binV_mod, binV_list, binV_tup, evE_neg, negK_eq, evE_if, ifEK_eq, evE_tuple, tupK_eq, evE_list0, evE_list1, list1K_eq, evE_list2, evE_listS, listK_eq, listK1_eq, evE_rev, revK1_eq, revK_eq, evE_slo, sloK1_eq, sloK_eq, evE_sup, supK1_eq, supK_eq, evE_subC, evE_subN, evE_subU, evE_subB, subK1_eq, subK_eq, itemV_list, itemV_tuple, itemV_own, itemOK_eq, itemV_tup, itemV_left, itemV_mixed, retB_eq, cmpVK_eq, evE_cmp, cmpE_ne, neK_eq, cmpE_eq1, cmpE_lt, cmpE_le, cmpE_gt, cmpE_ge, cmpE_is, cmpE_isnot, cmpE_neC, cmpE_neN, cmpE_neT, cmpE_neB, cmpK1_eq, cmpK_eq, cmpE_2, cmp2K1_eq, cmp2K2_eq, cmp2K2b_eq, cmpV_lt, cmpV_le, cmpV_gt, cmpV_ge, cmpV_eqI, cmpV_neI, cmpV_eqS, cmpV_isN, cmpV_isT, cmpV_isnotB, neNil_list, neNil_left, evE_and, andEK_eq, evE_call, callK_eq, retF_eq, callV_own, callV_min, callV_max, callV_lenL, callV_lenT, sumK_eq, callV_sum, callV_tupL, tupOK1_eq, tupOK_eq, callV_tupO, evE_pop, popK1_eq, popK2_eq, compStep_eq, compK1_eq, compK2_eq, compK3_eq, testsE_0, testsE_1, retL_eq, compScope_eq, compK_eq, compV_eq, compVK_eq, evE_comp, rangeK_eq, rangeK1_eq, iterV_range, enumK_eq, iterV_enum, seqIK_list, seqIK_tuple, iterV_name, iterV_subS, iterV_call, boolK_eq, evT_bool, evT_cmp, evT_name, evT_call, allT_and0, allT_or0, allT_and, allT_or, andTK_eq, orTK_eq, storeN_eq, asg_name, asgL_nil, asgL_cons, asgLK_eq, asg_tup_d, asg_tup_v, asg_sub, asgSK1_eq, setOK_eq, asgSK2_own, asgSK2_deck, nextK_eq, stoK_eq, exS_name, stoCK_eq, exS_nameC, tasK_eq, exS_tup, exS_swp2, exS_swp3, swpK2_d, swpK2_v, swpK3_v, storeL_nil, storeL_cons, storeLK_eq, sasK_eq, exS_sub, exS_aug, augK1_eq, augK2_eq, exS_if, ifSK_eq, forStep_eq, forK_eq, exS_for, loopF_nil, loopF_cons, loopK_next, loopK_ret, rtnK_eq, exS_ret, exS_meth, methK1_eq, appK_eq, methK2_app, extK_eq, methK2_ext, exB_nil, exB_cons, seqK_next, seqK_ret, fzK_eq, retFK_eq, layStr_left, layStr_mixed, layStr_m, layStr_l, layStr_z, layStr_w, layStr_e, Option.bind_some, Option.map_some, List.length_cons, List.length_nil, if_true, if_false, Bool.false_eq_true, decide_eq_true_eq, Bool.not_true, Bool.not_false, Bool.not_eq_true, List.map_cons, List.map_nil, List.reverse_cons, List.reverse_nil, List.nil_append, List.cons_append, gt_iff_lt, ge_iff_le, beq_iff_eq, Nat.reduceAdd, ite_self, mkTup, allD, Option.some.injEq, List.all_cons, List.all_nil, Bool.and_true, Bool.true_and, argOk, freeze, Option.isSome_some, decide_true, decide_false, Option.bind_none, Option.map_none, List.getElem?_cons_zero, List.getElem?_cons_succ, blank, encP, encL, getC, Bool.not_eq_true', compL, Option.toList_some, Option.toList_none, List.append_nil, itemL_0, itemL_1, itemL_2, itemL_m1, Int.cast_ofNat_Int, intsOf, List.set_cons_zero, List.set_cons_succ, Int.reduceAdd, Int.reduceSub, Int.reduceNeg, Int.reduceMul, gv_Rev_0, sv_Rev_0, gv_Rev_1, sv_Rev_1, gv_Rev_2, sv_Rev_2, gv_Rev_3, sv_Rev_3, gv_Rev_4, sv_Rev_4, gv_Rev_5, sv_Rev_5, gv_Rev_6, sv_Rev_6]
          rw [hrow, fV, subRows, show (revS s).closed = s.closed from rfl, hc]
          simp [revS, encR, zrow, sZ]
      · rw [fV, List.length_append]
        exact turn_len (sub_len (rev_good hg)) hi
    · intro a _
      simp (decide := true) only [encR, points_f, ev_e, ev_t, ev_a, ev_b, evL_nil, evL_cons, evLK1_eq, evLK2_eq, retE_eq, retO_eq, evE_int, evE_str, evE_bool, evE_none, evE_name, nameV_loc, nameV_cell, nameV_free, nameV_unit, nameV_eo, evE_bin, binK1_eq, binK2_eq, binV_add, binV_sub, binV_mul, binV_div, binV_mod, binV_list, binV_tup, evE_neg, negK_eq, evE_if, ifEK_eq, evE_tuple, tupK_eq, evE_list0, evE_list1, list1K_eq, evE_list2, evE_listS, listK_eq, listK1_eq, evE_rev, revK1_eq, revK_eq, evE_slo, sloK1_eq, sloK_eq, evE_sup, supK1_eq, supK_eq, evE_subC, evE_subN, evE_subU, evE_subB, subK1_eq, subK_eq, itemV_list, itemV_tuple, itemV_own, itemOK_eq, itemV_tup, itemV_left, itemV_mixed, retB_eq, cmpVK_eq, evE_cmp, cmpE_ne, neK_eq, cmpE_eq1, cmpE_lt, cmpE_le, cmpE_gt, cmpE_ge, cmpE_is, cmpE_isnot, cmpE_neC, cmpE_neN, cmpE_neT, cmpE_neB, cmpK1_eq, cmpK_eq, cmpE_2, cmp2K1_eq, cmp2K2_eq, cmp2K2b_eq, cmpV_lt, cmpV_le, cmpV_gt, cmpV_ge, cmpV_eqI, cmpV_neI, cmpV_eqS, cmpV_isN, cmpV_isT, cmpV_isnotB, neNil_list, neNil_left, evE_and, andEK_eq, evE_call, callK_eq, retF_eq, callV_own, callV_min, callV_max, callV_lenL, callV_lenT, sumK_eq, callV_sum, callV_tupL, tupOK1_eq, tupOK_eq, callV_tupO, evE_pop, popK1_eq, popK2_eq, compStep_eq, compK1_eq, compK2_eq, compK3_eq, testsE_0, testsE_1, retL_eq, compScope_eq, compK_eq, compV_eq, compVK_eq, evE_comp, rangeK_eq, rangeK1_eq, iterV_range, enumK_eq, iterV_enum, seqIK_list, seqIK_tuple, iterV_name, iterV_subS, iterV_call, boolK_eq, evT_bool, evT_cmp, evT_name, evT_call, allT_and0, allT_or0, allT_and, allT_or, andTK_eq, orTK_eq, storeN_eq, asg_name, asgL_nil, asgL_cons, asgLK_eq, asg_tup_d, asg_tup_v, asg_sub, asgSK1_eq, setOK_eq, asgSK2_own, asgSK2_deck, nextK_eq, stoK_eq, exS_name, stoCK_eq, exS_nameC, tasK_eq, exS_tup, exS_swp2, exS_swp3, swpK2_d, swpK2_v, swpK3_v, storeL_nil, storeL_cons, storeLK_eq, sasK_eq, exS_sub, exS_aug, augK1_eq, augK2_eq, exS_if, ifSK_eq, forStep_eq, forK_eq, exS_for, loopF_nil, loopF_cons, loopK_next, loopK_ret, rtnK_eq, exS_ret, exS_meth, methK1_eq, appK_eq, methK2_app, extK_eq, methK2_ext, exB_nil, exB_cons, seqK_next, seqK_ret, fzK_eq, retFK_eq, layStr_left, layStr_mixed, layStr_m, layStr_l, layStr_z, layStr_w, layStr_e, getV, setV, Option.bind_some, Option.map_some, List.length_cons, List.length_nil, if_true, if_false, Bool.false_eq_true, decide_eq_true_eq, Bool.not_true, Bool.not_false, Bool.not_eq_true, List.map_cons, List.map_nil, List.reverse_cons, List.reverse_nil, List.nil_append, List.cons_append, gt_iff_lt, ge_iff_le, beq_iff_eq, Nat.reduceAdd, ite_self, mkTup, allD, Option.some.injEq, List.all_cons, List.all_nil, Bool.and_true, Bool.true_and, argOk, freeze, Option.isSome_some, decide_true, decide_false, Option.bind_none, Option.map_none, List.getElem?_cons_zero, List.getElem?_cons_succ, blank, encP, encL, getC, Bool.not_eq_true', compL, Option.toList_some, Option.toList_none, List.append_nil, itemL_0, itemL_1, itemL_2, itemL_m1, Int.cast_ofNat_Int, intsOf, List.set_cons_zero, List.set_cons_succ, Int.reduceAdd, Int.reduceSub, Int.reduceNeg, Int.reduceMul]
      rfl
  obtain ⟨j, rfl⟩ := key
  simp (decide := true) only [repV, ev_e, ev_t, ev_a, ev_b, evL_nil, evL_cons, evLK1_eq, evLK2_eq, retE_eq, retO_eq, evE_int, evE_str, evE_bool, evE_none, evE_name, nameV_loc, nameV_cell, nameV_free, nameV_unit, nameV_eo, evE_bin, binK1_eq, binK2_eq, binV_add, binV_sub, binV_mul, binV_div, binV_mod, binV_list, binV_tup, evE_neg, negK_eq, evE_if, ifEK_eq, evE_tuple, tupK_eq, evE_list0, evE_list1, list1K_eq, evE_list2, evE_listS, listK_eq, listK1_eq, evE_rev, revK1_eq, revK_eq, evE_slo, sloK1_eq, sloK_eq, evE_sup, supK1_eq, supK_eq, evE_subC, evE_subN, evE_subU, evE_subB, subK1_eq, subK_eq, itemV_list, itemV_tuple, itemV_own, itemOK_eq, itemV_tup, itemV_left, itemV_mixed, retB_eq, cmpVK_eq, evE_cmp, cmpE_ne, neK_eq, cmpE_eq1, cmpE_lt, cmpE_le, cmpE_gt, cmpE_ge, cmpE_is, cmpE_isnot, cmpE_neC, cmpE_neN, cmpE_neT, cmpE_neB, cmpK1_eq, cmpK_eq, cmpE_2, cmp2K1_eq, cmp2K2_eq, cmp2K2b_eq, cmpV_lt, cmpV_le, cmpV_gt, cmpV_ge, cmpV_eqI, cmpV_neI, cmpV_eqS, cmpV_isN, cmpV_isT, cmpV_isnotB, neNil_list, neNil_left, evE_and, andEK_eq, evE_call, callK_eq, retF_eq, callV_own, callV_min, callV_max, callV_lenL, callV_lenT, sumK_eq, callV_sum, callV_tupL, tupOK1_eq, tupOK_eq, callV_tupO, evE_pop, popK1_eq, popK2_eq, compStep_eq, compK1_eq, compK2_eq, compK3_eq, testsE_0, testsE_1, retL_eq, compScope_eq, compK_eq, compV_eq, compVK_eq, evE_comp, rangeK_eq, rangeK1_eq, iterV_range, enumK_eq, iterV_enum, seqIK_list, seqIK_tuple, iterV_name, iterV_subS, iterV_call, boolK_eq, evT_bool, evT_cmp, evT_name, evT_call, allT_and0, allT_or0, allT_and, allT_or, andTK_eq, orTK_eq, storeN_eq, asg_name, asgL_nil, asgL_cons, asgLK_eq, asg_tup_d, asg_tup_v, asg_sub, asgSK1_eq, setOK_eq, asgSK2_own, asgSK2_deck, nextK_eq, stoK_eq, exS_name, stoCK_eq, exS_nameC, tasK_eq, exS_tup, exS_swp2, exS_swp3, swpK2_d, swpK2_v, swpK3_v, storeL_nil, storeL_cons, storeLK_eq, sasK_eq, exS_sub, exS_aug, augK1_eq, augK2_eq, exS_if, ifSK_eq, forStep_eq, forK_eq, exS_for, loopF_nil, loopF_cons, loopK_next, loopK_ret, rtnK_eq, exS_ret, exS_meth, methK1_eq, appK_eq, methK2_app, extK_eq, methK2_ext, exB_nil, exB_cons, seqK_next, seqK_ret, fzK_eq, retFK_eq, layStr_left, layStr_mixed, layStr_m, layStr_l, layStr_z, layStr_w, layStr_e, Option.bind_some, Option.map_some, List.length_cons, List.length_nil, if_true, if_false, Bool.false_eq_true, decide_eq_true_eq, Bool.not_true, Bool.not_false, Bool.not_eq_true, List.map_cons, List.map_nil, List.reverse_cons, List.reverse_nil, List.nil_append, List.cons_append, gt_iff_lt, ge_iff_le, beq_iff_eq, Nat.reduceAdd, ite_self, mkTup, allD, Option.some.injEq, List.all_cons, List.all_nil, Bool.and_true, Bool.true_and, argOk, freeze, Option.isSome_some, decide_true, decide_false, Option.bind_none, Option.map_none, List.getElem?_cons_zero, List.getElem?_cons_succ, blank, encP, encL, getC, Bool.not_eq_true', compL, Option.toList_some, Option.toList_none, List.append_nil, itemL_0, itemL_1, itemL_2, itemL_m1, Int.cast_ofNat_Int, intsOf, List.set_cons_zero, List.set_cons_succ, Int.reduceAdd, Int.reduceSub, Int.reduceNeg, Int.reduceMul, gv_Rev_0, sv_Rev_0, gv_Rev_1, sv_Rev_1, gv_Rev_2, sv_Rev_2, gv_Rev_3, sv_Rev_3, gv_Rev_4, sv_Rev_4, gv_Rev_5, sv_Rev_5, gv_Rev_6, sv_Rev_6]
  rw [freeze_own0, fV_eq]
  rfl

end Mine
namespace Mine
open PySem PySem.W PyProof.Rows PySem.Calls
set_option maxRecDepth 100000

theorem draw_ex (d : Dkt) (hd : okDk d) (m : Int) (hm : 0 < m) : ∃ v d', 0 ≤ v ∧ v < m ∧ okDk d' ∧ ∀ n, (ev (n+12)).f (Str.ofString "_law_draw") [.deck, .d (.int m)] (some d) = some (.d (.int v), some d') := by
  refine ⟨(draw d m).1, (draw d m).2, ?_, ?_, ?_, fun n => draw_f n d hd m (by omega)⟩
  · obtain ⟨l, k⟩ := d
    cases l <;> exact Int.fmod_nonneg_of_pos _ hm
  · obtain ⟨l, k⟩ := d
    cases l <;> exact Int.fmod_lt_of_pos _ hm
  · obtain ⟨l, k⟩ := d
    obtain ⟨h1, h2, h3⟩ := hd
    cases l with
    | nil => exact ⟨h1, Int.fmod_nonneg_of_pos _ (by decide), Int.fmod_lt_of_pos _ (by decide)⟩
    | cons a l => exact ⟨by simp only [List.length_cons] at h1; show l.length ≤ 1000; omega, h2, h3⟩

theorem loop_inv {step : PyData → IS → Option (Fl × IS)} (Inv : Nat → IS → Prop) (N : Nat) : ∀ (l : List PyData) (k : Nat) (st : IS) (_ : ∀ k x st, x ∈ l → k < N → Inv k st → ∃ st', step x st = some (.next, st') ∧ Inv (k + 1) st') (_ : k + l.length ≤ N) (_ : Inv k st), ∃ st', loopF step l st = some (.next, st') ∧ Inv (k + l.length) st'
  | [], k, st, _, _, h0 => ⟨st, rfl, h0⟩
  | x :: l, k, st, h, hN, h0 => by
    rw [List.length_cons] at hN
    obtain ⟨s1, e1, i1⟩ := h k x st (List.mem_cons_self ..) (by omega) h0
    obtain ⟨s2, e2, i2⟩ := loop_inv Inv N l (k + 1) s1 (fun k y st hy => h k y st (List.mem_cons_of_mem _ hy)) (by omega) i1
    refine ⟨s2, ?_, ?_⟩
    · rw [loopF_cons, e1, Option.bind_some, loopK_next, e2]
    · rw [List.length_cons, show k + (l.length + 1) = k + 1 + l.length by omega]; exact i2
theorem rangeL_int (a c : Int) (n : Nat) : ∀ x ∈ rangeL a c n, ∃ i, x = .int i := by
  induction n generalizing a with
  | zero => intro x h; cases h
  | succ n ih =>
    intro x h
    rcases List.mem_cons.mp h with h | h
    · exact ⟨a, h⟩
    · exact ih _ x h
theorem range_one (n : Int) (h : small n = true) : rangeV [.d (.int n)] = some (rangeL 0 1 n.toNat) := if_pos h

/-- points of the law -/
noncomputable def Lat (p : Pt) : Prop := 0 ≤ p.1 ∧ p.1 < 5000000 ∧ 0 ≤ p.2 ∧ p.2 < 5000000
/-- subpaths of the law -/
noncomputable def LatS (s : Sub) : Prop := 1 ≤ s.pts.length ∧ s.pts.length ≤ 4 ∧ Lat s.start ∧ (∀ p ∈ s.pts, Lat p) ∧ ∀ e ∈ pairs s.start s.pts, e.1 ≠ e.2
noncomputable def lineS (s : Sub) : List (Pt × Pt) := pairs s.start s.pts ++ [(lastP s.start s.pts, s.start)]
noncomputable def linesS (ss : List Sub) : List (Pt × Pt) := ss.flatMap lineS
theorem lat_last {p : Pt} {r : List Pt} (h0 : Lat p) (h : ∀ q ∈ r, Lat q) : Lat (lastP p r) := by
  rcases List.mem_cons.mp (lastP_mem p r) with e | e
  · rw [e]; exact h0
  · exact h _ e
theorem pairs_app (p : Pt) (r : List Pt) (q : Pt) : pairs p (r ++ [q]) = pairs p r ++ [(lastP p r, q)] := by
  induction r generalizing p with
  | nil => rfl
  | cons a r ih => rw [List.cons_append, pairs, ih]; rfl
theorem last_app (p : Pt) (r : List Pt) (q : Pt) : lastP p (r ++ [q]) = q := by
  induction r generalizing p with
  | nil => rfl
  | cons a r ih => exact ih a
theorem cmpV_eqT (a b c d : Int) : cmpV .Eq (.d (.tuple [.int a, .int b])) (.d (.tuple [.int c, .int d])) = some (decide ((a, b) = (c, d))) := eqD_P (a, b) (c, d)

theorem small_5 {v : Int} (h0 : 0 ≤ v) (h : v < 5) : small v = true := small_of (by omega)
theorem small_9 {v : Int} (h0 : 0 ≤ v) (h : v < 9) : small v = true := small_of (by omega)
theorem small_1 {v k : Int} (h0 : 0 ≤ v) (h : v < k) (hk : k ≤ 4) : small (1 + v) = true := small_of (by omega)
theorem lat5 {a b : Int} (a0 : 0 ≤ a) (a1 : a < 5) (b0 : 0 ≤ b) (b1 : b < 5) : 0 ≤ a * 1000000 ∧ a * 1000000 < 5000000 ∧ 0 ≤ b * 1000000 ∧ b * 1000000 < 5000000 := by omega
theorem small_le {v : Int} (h0 : 0 ≤ v) (h : v < 1000) : small v = true := small_of (by omega)
noncomputable abbrev repP (R : List PyData) (L : List (Pt × Pt)) (d : Dkt) (sv : Option V) (j : J8) : IS := ⟨[(Str.ofString "deck", some (.deck)), (Str.ofString "rows", some (.own 0)), (Str.ofString "lines", some (.own 1)), (Str.ofString "start", sv), (Str.ofString "go", j.a), (Str.ofString "here", j.b), (Str.ofString "step", j.c), (Str.ofString "there", j.d)], [R.map .d, (L.map encL).map .d], some d⟩

theorem gv_Path_0 (a0 a1 a2 a3 a4 a5 a6 a7 : Option V) : getV [(Str.ofString "deck", a0), (Str.ofString "rows", a1), (Str.ofString "lines", a2), (Str.ofString "start", a3), (Str.ofString "go", a4), (Str.ofString "here", a5), (Str.ofString "step", a6), (Str.ofString "there", a7)] (Str.ofString "deck") = a0 := rfl
theorem sv_Path_0 (a0 a1 a2 a3 a4 a5 a6 a7 : Option V) (v : V) : setV [(Str.ofString "deck", a0), (Str.ofString "rows", a1), (Str.ofString "lines", a2), (Str.ofString "start", a3), (Str.ofString "go", a4), (Str.ofString "here", a5), (Str.ofString "step", a6), (Str.ofString "there", a7)] (Str.ofString "deck") v = [(Str.ofString "deck", some v), (Str.ofString "rows", a1), (Str.ofString "lines", a2), (Str.ofString "start", a3), (Str.ofString "go", a4), (Str.ofString "here", a5), (Str.ofString "step", a6), (Str.ofString "there", a7)] := rfl
theorem gv_Path_1 (a0 a1 a2 a3 a4 a5 a6 a7 : Option V) : getV [(Str.ofString "deck", a0), (Str.ofString "rows", a1), (Str.ofString "lines", a2), (Str.ofString "start", a3), (Str.ofString "go", a4), (Str.ofString "here", a5), (Str.ofString "step", a6), (Str.ofString "there", a7)] (Str.ofString "rows") = a1 := rfl
theorem sv_Path_1 (a0 a1 a2 a3 a4 a5 a6 a7 : Option V) (v : V) : setV [(Str.ofString "deck", a0), (Str.ofString "rows", a1), (Str.ofString "lines", a2), (Str.ofString "start", a3), (Str.ofString "go", a4), (Str.ofString "here", a5), (Str.ofString "step", a6), (Str.ofString "there", a7)] (Str.ofString "rows") v = [(Str.ofString "deck", a0), (Str.ofString "rows", some v), (Str.ofString "lines", a2), (Str.ofString "start", a3), (Str.ofString "go", a4), (Str.ofString "here", a5), (Str.ofString "step", a6), (Str.ofString "there", a7)] := rfl
theorem gv_Path_2 (a0 a1 a2 a3 a4 a5 a6 a7 : Option V) : getV [(Str.ofString "deck", a0), (Str.ofString "rows", a1), (Str.ofString "lines", a2), (Str.ofString "start", a3), (Str.ofString "go", a4), (Str.ofString "here", a5), (Str.ofString "step", a6), (Str.ofString "there", a7)] (Str.ofString "lines") = a2 := rfl
theorem sv_Path_2 (a0 a1 a2 a3 a4 a5 a6 a7 : Option V) (v : V) : setV [(Str.ofString "deck", a0), (Str.ofString "rows", a1), (Str.ofString "lines", a2), (Str.ofString "start", a3), (Str.ofString "go", a4), (Str.ofString "here", a5), (Str.ofString "step", a6), (Str.ofString "there", a7)] (Str.ofString "lines") v = [(Str.ofString "deck", a0), (Str.ofString "rows", a1), (Str.ofString "lines", some v), (Str.ofString "start", a3), (Str.ofString "go", a4), (Str.ofString "here", a5), (Str.ofString "step", a6), (Str.ofString "there", a7)] := rfl
theorem gv_Path_3 (a0 a1 a2 a3 a4 a5 a6 a7 : Option V) : getV [(Str.ofString "deck", a0), (Str.ofString "rows", a1), (Str.ofString "lines", a2), (Str.ofString "start", a3), (Str.ofString "go", a4), (Str.ofString "here", a5), (Str.ofString "step", a6), (Str.ofString "there", a7)] (Str.ofString "start") = a3 := rfl
theorem sv_Path_3 (a0 a1 a2 a3 a4 a5 a6 a7 : Option V) (v : V) : setV [(Str.ofString "deck", a0), (Str.ofString "rows", a1), (Str.ofString "lines", a2), (Str.ofString "start", a3), (Str.ofString "go", a4), (Str.ofString "here", a5), (Str.ofString "step", a6), (Str.ofString "there", a7)] (Str.ofString "start") v = [(Str.ofString "deck", a0), (Str.ofString "rows", a1), (Str.ofString "lines", a2), (Str.ofString "start", some v), (Str.ofString "go", a4), (Str.ofString "here", a5), (Str.ofString "step", a6), (Str.ofString "there", a7)] := rfl
theorem gv_Path_4 (a0 a1 a2 a3 a4 a5 a6 a7 : Option V) : getV [(Str.ofString "deck", a0), (Str.ofString "rows", a1), (Str.ofString "lines", a2), (Str.ofString "start", a3), (Str.ofString "go", a4), (Str.ofString "here", a5), (Str.ofString "step", a6), (Str.ofString "there", a7)] (Str.ofString "go") = a4 := rfl
theorem sv_Path_4 (a0 a1 a2 a3 a4 a5 a6 a7 : Option V) (v : V) : setV [(Str.ofString "deck", a0), (Str.ofString "rows", a1), (Str.ofString "lines", a2), (Str.ofString "start", a3), (Str.ofString "go", a4), (Str.ofString "here", a5), (Str.ofString "step", a6), (Str.ofString "there", a7)] (Str.ofString "go") v = [(Str.ofString "deck", a0), (Str.ofString "rows", a1), (Str.ofString "lines", a2), (Str.ofString "start", a3), (Str.ofString "go", some v), (Str.ofString "here", a5), (Str.ofString "step", a6), (Str.ofString "there", a7)] := rfl
theorem gv_Path_5 (a0 a1 a2 a3 a4 a5 a6 a7 : Option V) : getV [(Str.ofString "deck", a0), (Str.ofString "rows", a1), (Str.ofString "lines", a2), (Str.ofString "start", a3), (Str.ofString "go", a4), (Str.ofString "here", a5), (Str.ofString "step", a6), (Str.ofString "there", a7)] (Str.ofString "here") = a5 := rfl
theorem sv_Path_5 (a0 a1 a2 a3 a4 a5 a6 a7 : Option V) (v : V) : setV [(Str.ofString "deck", a0), (Str.ofString "rows", a1), (Str.ofString "lines", a2), (Str.ofString "start", a3), (Str.ofString "go", a4), (Str.ofString "here", a5), (Str.ofString "step", a6), (Str.ofString "there", a7)] (Str.ofString "here") v = [(Str.ofString "deck", a0), (Str.ofString "rows", a1), (Str.ofString "lines", a2), (Str.ofString "start", a3), (Str.ofString "go", a4), (Str.ofString "here", some v), (Str.ofString "step", a6), (Str.ofString "there", a7)] := rfl
theorem gv_Path_6 (a0 a1 a2 a3 a4 a5 a6 a7 : Option V) : getV [(Str.ofString "deck", a0), (Str.ofString "rows", a1), (Str.ofString "lines", a2), (Str.ofString "start", a3), (Str.ofString "go", a4), (Str.ofString "here", a5), (Str.ofString "step", a6), (Str.ofString "there", a7)] (Str.ofString "step") = a6 := rfl
theorem sv_Path_6 (a0 a1 a2 a3 a4 a5 a6 a7 : Option V) (v : V) : setV [(Str.ofString "deck", a0), (Str.ofString "rows", a1), (Str.ofString "lines", a2), (Str.ofString "start", a3), (Str.ofString "go", a4), (Str.ofString "here", a5), (Str.ofString "step", a6), (Str.ofString "there", a7)] (Str.ofString "step") v = [(Str.ofString "deck", a0), (Str.ofString "rows", a1), (Str.ofString "lines", a2), (Str.ofString "start", a3), (Str.ofString "go", a4), (Str.ofString "here", a5), (Str.ofString "step", some v), (Str.ofString "there", a7)] := rfl
theorem gv_Path_7 (a0 a1 a2 a3 a4 a5 a6 a7 : Option V) : getV [(Str.ofString "deck", a0), (Str.ofString "rows", a1), (Str.ofString "lines", a2), (Str.ofString "start", a3), (Str.ofString "go", a4), (Str.ofString "here", a5), (Str.ofString "step", a6), (Str.ofString "there", a7)] (Str.ofString "there") = a7 := rfl
theorem sv_Path_7 (a0 a1 a2 a3 a4 a5 a6 a7 : Option V) (v : V) : setV [(Str.ofString "deck", a0), (Str.ofString "rows", a1), (Str.ofString "lines", a2), (Str.ofString "start", a3), (Str.ofString "go", a4), (Str.ofString "here", a5), (Str.ofString "step", a6), (Str.ofString "there", a7)] (Str.ofString "there") v = [(Str.ofString "deck", a0), (Str.ofString "rows", a1), (Str.ofString "lines", a2), (Str.ofString "start", a3), (Str.ofString "go", a4), (Str.ofString "here", a5), (Str.ofString "step", a6), (Str.ofString "there", some v)] := rfl
theorem shift5 (a : Int) (a0 : 0 ≤ a) (a1 : a < 5) : (a * 1000000 + 1000000).fmod 5000000 ≠ a * 1000000 := by rw [Int.fmod_eq_emod_of_nonneg _ (by decide)]; omega
noncomputable def rPath : {d : DefRec // fnRec (Str.ofString "_law_path") = some d} := ⟨_, rfl⟩
/-- what holds between the turns of the outer loop -/
noncomputable def InvO (k : Nat) (st : IS) : Prop := ∃ ss d sv, ∃ j : J8, ss.length = k ∧ okDk d ∧ (∀ s ∈ ss, LatS s) ∧ st = repP (allRows ss) (linesS ss) d (some (.d sv)) j ∧ (ss = [] → sv = .none) ∧ (ss ≠ [] → ∃ p, Lat p ∧ sv = encP p)
theorem lat_bd {p : Pt} (h : Lat p) : Bd p := by
  obtain ⟨h1, h2, h3, h4⟩ := h
  exact ⟨by omega, by omega⟩
theorem latS_good {s : Sub} (h : LatS s) : GoodS s := ⟨by have := h.2.1; omega, lat_bd h.2.2.1, fun p hp => lat_bd (h.2.2.2.1 p hp)⟩
theorem rows_last : ∀ (ss : List Sub), ss ≠ [] → (∀ s ∈ ss, LatS s) → ∃ init x, allRows ss = init ++ [x] ∧ (x = zrow ∨ ∃ q, x = row2 sL q)
  | [s], _, h => by
    have h1 := h s (List.mem_cons_self ..)
    obtain ⟨i, e⟩ : ∃ i q, s.pts = i ++ [q] := by
      have : s.pts ≠ [] := by intro e; have := h1.1; rw [e] at this; simp at this
      exact ⟨_, _, (List.dropLast_concat_getLast this).symm⟩
    obtain ⟨q, e⟩ := e
    have e0 : allRows [s] = subRows s := by simp [allRows]
    rw [e0, subRows]
    cases hc : s.closed
    · refine ⟨encR (sM, s.start) :: i.map (fun p => encR (sL, p)), row2 sL q, ?_, .inr ⟨q, rfl⟩⟩
      rw [e]; simp [encR]
    · refine ⟨encR (sM, s.start) :: s.pts.map (fun p => encR (sL, p)), zrow, ?_, .inl rfl⟩
      simp
  | s :: t :: ss, _, h => by
    obtain ⟨i, x, e, hx⟩ := rows_last (t :: ss) (by simp) (fun u hu => h u (List.mem_cons_of_mem _ hu))
    refine ⟨subRows s ++ i, x, ?_, hx⟩
    rw [show allRows (s :: t :: ss) = subRows s ++ allRows (t :: ss) from rfl, e, List.append_assoc]
theorem ne_zz : cmpV .NotEq (.d zrow) (.d (.tuple [.str (Str.ofString "z")])) = some false := by
  show (eqD zrow zrow).map (!·) = _
  have s : SeqAt.shaped zrow = true := by decide +kernel
  rw [show eqD zrow zrow = some (PyData.eqv zrow zrow) from if_pos (Bool.and_eq_true_iff.mpr ⟨s, s⟩)]
  rfl
theorem ne_lz (q : Pt) : cmpV .NotEq (.d (row2 sL q)) (.d (.tuple [.str (Str.ofString "z")])) = some true := by
  show (eqD (row2 sL q) zrow).map (!·) = _
  have s : SeqAt.shaped zrow = true := by decide +kernel
  have s' : SeqAt.shaped (row2 sL q) = true := by
    have := layStr_l
    delta SeqAt.shaped
    simp [row2, sL, PyData.canLay0, PyData.canLayAll0, PyData.depth, PyData.depthAll] at this ⊢
    exact this
  rw [show eqD (row2 sL q) zrow = some (PyData.eqv (row2 sL q) zrow) from if_pos (Bool.and_eq_true_iff.mpr ⟨s', s⟩)]
  simp [row2, zrow, PyData.eqv, PyData.eqvAll]
theorem freeze_pair (R L : List PyData) : freezeL 9 [R.map V.d, L.map V.d] [.own 0, .own 1] = some [.list R, .list L] := by
  have e0 : freeze 8 [R.map V.d, L.map V.d] (.own 0) = some (.list R) := by
    rw [freeze]
    show (some (R.map V.d)).bind _ = _
    rw [Option.bind_some, freezeL_d]; rfl
  have e1 : freeze 8 [R.map V.d, L.map V.d] (.own 1) = some (.list L) := by
    rw [freeze]
    show (some (L.map V.d)).bind _ = _
    rw [Option.bind_some, freezeL_d]; rfl
  rw [freezeL, List.mapM_cons, e0, List.mapM_cons, e1]
  rfl
theorem lines_len (ss : List Sub) (hs : ∀ s ∈ ss, LatS s) : (linesS ss).length ≤ 5 * ss.length := by
  induction ss with
  | nil => simp [linesS]
  | cons s ss ih =>
    have h0 := ih (fun t ht => hs t (List.mem_cons_of_mem _ ht))
    have h1 := (hs s (List.mem_cons_self ..)).2.1
    rw [show linesS (s :: ss) = lineS s ++ linesS ss from rfl, lineS, List.length_append, List.length_append, pairs_len]
    simp only [List.length_cons, List.length_nil]
    omega
noncomputable def InvI (R : List PyData) (L : List (Pt × Pt)) (s0 : Pt) (ja : Option V) (k : Nat) (st : IS) : Prop := ∃ pts d, ∃ j : J8, pts.length = k ∧ okDk d ∧ (∀ p ∈ pts, Lat p) ∧ (∀ e ∈ pairs s0 pts, e.1 ≠ e.2) ∧
  st = repP (R ++ pts.map (row2 sL)) (L ++ pairs s0 pts) d (some (.d (encP s0))) ⟨ja, some (.d (encP (lastP s0 pts))), j.c, j.d, none, none, none, none⟩
theorem path_f (n : Nat) (d : Dkt) (hd : okDk d) : ∃ ss d', okDk d' ∧ 1 ≤ ss.length ∧ ss.length ≤ 2 ∧ (∀ s ∈ ss, LatS s) ∧
    (ev (n+30)).f (Str.ofString "_law_path") [.deck] (some d) = some (.d (.tuple [.list (allRows ss), .list ((linesS ss).map encL)]), some d') := by
  rw [ev_f, callF_eq _ _ _ rPath.2 (by decide +kernel) rfl rfl, show initV rPath.1 [.deck] = [(Str.ofString "deck", some (.deck)), (Str.ofString "rows", none), (Str.ofString "lines", none), (Str.ofString "start", none), (Str.ofString "go", none), (Str.ofString "here", none), (Str.ofString "step", none), (Str.ofString "there", none)] from rfl, show initC rPath.1 [.deck] = [] from rfl]
  obtain ⟨v, d1, h0, h1, hd1, e1⟩ := draw_ex d hd 2 (by decide)
  have hs1 : small (1 + v) = true := small_1 h0 h1 (by decide)
  have hr1 := range_one (1 + v) hs1
  have hrl : (rangeL 0 1 (1 + v).toNat).length ≤ 1000000 := by rw [rangeL_len]; omega
  simp (decide := true) only [rPath, e1, hr1, hrl, ev_e, ev_t, ev_a, ev_b, evL_nil, evL_cons, evLK1_eq, evLK2_eq, retE_eq, retO_eq, evE_int, evE_str, evE_bool, evE_none, evE_name, nameV_loc, nameV_cell, nameV_free, nameV_unit, nameV_eo, evE_bin, binK1_eq, binK2_eq, binV_add, binV_sub, binV_mul, binV_div, binV_mod, binV_list, binV_tup, evE_neg, negK_eq, evE_if, ifEK_eq, evE_tuple, tupK_eq, evE_list0, evE_list1, list1K_eq, evE_list2, evE_listS, listK_eq, listK1_eq, evE_rev, revK1_eq, revK_eq, evE_slo, sloK1_eq, sloK_eq, evE_sup, supK1_eq, supK_eq, evE_subC, evE_subN, evE_subU, evE_subB, subK1_eq, subK_eq, itemV_list, itemV_tuple, itemV_own, itemOK_eq, itemV_tup, itemV_left, itemV_mixed, retB_eq, cmpVK_eq, evE_cmp, cmpE_ne, neK_eq, cmpE_eq1, cmpE_lt, cmpE_le, cmpE_gt, cmpE_ge, cmpE_is, cmpE_isnot, cmpE_neC, cmpE_neN, cmpE_neT, cmpE_neB, cmpK1_eq, cmpK_eq, cmpE_2, cmp2K1_eq, cmp2K2_eq, cmp2K2b_eq, cmpV_lt, cmpV_le, cmpV_gt, cmpV_ge, cmpV_eqI, cmpV_neI, cmpV_eqS, cmpV_isN, cmpV_isT, cmpV_isnotB, neNil_list, neNil_left, evE_and, andEK_eq, evE_call, callK_eq, retF_eq, callV_own, callV_min, callV_max, callV_lenL, callV_lenT, sumK_eq, callV_sum, callV_tupL, tupOK1_eq, tupOK_eq, callV_tupO, evE_pop, popK1_eq, popK2_eq, compStep_eq, compK1_eq, compK2_eq, compK3_eq, testsE_0, testsE_1, retL_eq, compScope_eq, compK_eq, compV_eq, compVK_eq, evE_comp, rangeK_eq, rangeK1_eq, iterV_range, enumK_eq, iterV_enum, seqIK_list, seqIK_tuple, iterV_name, iterV_subS, iterV_call, boolK_eq, evT_bool, evT_cmp, evT_name, evT_call, allT_and0, allT_or0, allT_and, allT_or, andTK_eq, orTK_eq, storeN_eq, asg_name, asgL_nil, asgL_cons, asgLK_eq, asg_tup_d, asg_tup_v, asg_sub, asgSK1_eq, setOK_eq, asgSK2_own, asgSK2_deck, nextK_eq, stoK_eq, exS_name, stoCK_eq, exS_nameC, tasK_eq, exS_tup, exS_swp2, exS_swp3, swpK2_d, swpK2_v, swpK3_v, storeL_nil, storeL_cons, storeLK_eq, sasK_eq, exS_sub, exS_aug, augK1_eq, augK2_eq, exS_if, ifSK_eq, forStep_eq, forK_eq, exS_for, loopF_nil, loopF_cons, loopK_next, loopK_ret, rtnK_eq, exS_ret, exS_meth, methK1_eq, appK_eq, methK2_app, extK_eq, methK2_ext, exB_nil, exB_cons, seqK_next, seqK_ret, fzK_eq, retFK_eq, layStr_left, layStr_mixed, layStr_m, layStr_l, layStr_z, layStr_w, layStr_e, Option.bind_some, Option.map_some, List.length_cons, List.length_nil, if_true, if_false, Bool.false_eq_true, decide_eq_true_eq, Bool.not_true, Bool.not_false, Bool.not_eq_true, List.map_cons, List.map_nil, List.reverse_cons, List.reverse_nil, List.nil_append, List.cons_append, gt_iff_lt, ge_iff_le, beq_iff_eq, Nat.reduceAdd, ite_self, mkTup, allD, Option.some.injEq, List.all_cons, List.all_nil, Bool.and_true, Bool.true_and, argOk, freeze, Option.isSome_some, decide_true, decide_false, Option.bind_none, Option.map_none, List.getElem?_cons_zero, List.getElem?_cons_succ, blank, encP, encL, getC, Bool.not_eq_true', compL, Option.toList_some, Option.toList_none, List.append_nil, itemL_0, itemL_1, itemL_2, itemL_m1, Int.cast_ofNat_Int, intsOf, List.set_cons_zero, List.set_cons_succ, Int.reduceAdd, Int.reduceSub, Int.reduceNeg, Int.reduceMul, gv_Path_0, sv_Path_0, gv_Path_1, sv_Path_1, gv_Path_2, sv_Path_2, gv_Path_3, sv_Path_3, gv_Path_4, sv_Path_4, gv_Path_5, sv_Path_5, gv_Path_6, sv_Path_6, gv_Path_7, sv_Path_7]
  generalize hL : loopF _ _ _ = o
  have key : ∃ st', o = some (.next, st') ∧ InvO (0 + (rangeL 0 1 (1 + v).toNat).length) st' := by
    rw [← hL]
    refine loop_inv InvO 2 _ 0 _ ?_ (by rw [rangeL_len]; omega) ⟨[], d1, .none, j0, rfl, hd1, by simp, by simp [repP, allRows, linesS], fun _ => rfl, fun h => absurd rfl h⟩
    intro k x st hx hk hi
    obtain ⟨i, rfl⟩ := rangeL_int _ _ _ x hx
    obtain ⟨ss, d, sv, j, hlen, hd, hl, rfl, hz1, hz2⟩ := hi
    have hRl := allRows_len ss (by omega) (fun s hs => latS_good (hl s hs))
    have hLl := lines_len ss hl
    have hR1 : (List.map V.d (allRows ss)).length ≤ 1000000 := by rw [List.length_map]; omega
    unfold repP
    simp (decide := true) only [forStep_eq, ev_a, asg_name, storeN_eq, setV, Option.bind_some, ev_b, exB_cons, if_true, if_false]
    generalize hI : exS _ _ _ _ = oI
    have keyI : ∃ p d2, oI = some (.next, repP (allRows ss) (linesS ss) d2 (some (.d (encP p))) { j with a := some (.d (.int i)) }) ∧ Lat p ∧ okDk d2 := by
      rw [← hI]
      have two : ∀ d, okDk d → ∃ a b d3 d4, 0 ≤ a ∧ a < 5 ∧ 0 ≤ b ∧ b < 5 ∧ okDk d4 ∧ (∀ n, (ev (n+12)).f (Str.ofString "_law_draw") [.deck, .d (.int 5)] (some d) = some (.d (.int a), some d3)) ∧ ∀ n, (ev (n+12)).f (Str.ofString "_law_draw") [.deck, .d (.int 5)] (some d3) = some (.d (.int b), some d4) := by
        intro d hd
        obtain ⟨a, d3, a0, a1, h3, e3⟩ := draw_ex d hd 5 (by decide)
        obtain ⟨b, d4, b0, b1, h4, e4⟩ := draw_ex d3 h3 5 (by decide)
        exact ⟨a, b, d3, d4, a0, a1, b0, b1, h4, e3, e4⟩
      by_cases hss : ss = []
      · have := hz1 hss
        subst this
        obtain ⟨a, b, d3, d4, a0, a1, b0, b1, h4, e3, e4⟩ := two d hd
        have sa : small a = true := small_5 a0 a1
        have sb : small b = true := small_5 b0 b1
        refine ⟨(a * 1000000, b * 1000000), d4, ?_, (lat5 a0 a1 b0 b1), h4⟩
        simp (decide := true) only [e3, e4, sa, sb, ev_e, ev_t, ev_a, ev_b, evL_nil, evL_cons, evLK1_eq, evLK2_eq, retE_eq, retO_eq, evE_int, evE_str, evE_bool, evE_none, evE_name, nameV_loc, nameV_cell, nameV_free, nameV_unit, nameV_eo, evE_bin, binK1_eq, binK2_eq, binV_add, binV_sub, binV_mul, binV_div, binV_mod, binV_list, binV_tup, evE_neg, negK_eq, evE_if, ifEK_eq, evE_tuple, tupK_eq, evE_list0, evE_list1, list1K_eq, evE_list2, evE_listS, listK_eq, listK1_eq, evE_rev, revK1_eq, revK_eq, evE_slo, sloK1_eq, sloK_eq, evE_sup, supK1_eq, supK_eq, evE_subC, evE_subN, evE_subU, evE_subB, subK1_eq, subK_eq, itemV_list, itemV_tuple, itemV_own, itemOK_eq, itemV_tup, itemV_left, itemV_mixed, retB_eq, cmpVK_eq, evE_cmp, cmpE_ne, neK_eq, cmpE_eq1, cmpE_lt, cmpE_le, cmpE_gt, cmpE_ge, cmpE_is, cmpE_isnot, cmpE_neC, cmpE_neN, cmpE_neT, cmpE_neB, cmpK1_eq, cmpK_eq, cmpE_2, cmp2K1_eq, cmp2K2_eq, cmp2K2b_eq, cmpV_lt, cmpV_le, cmpV_gt, cmpV_ge, cmpV_eqI, cmpV_neI, cmpV_eqS, cmpV_isN, cmpV_isT, cmpV_isnotB, neNil_list, neNil_left, evE_and, andEK_eq, evE_call, callK_eq, retF_eq, callV_own, callV_min, callV_max, callV_lenL, callV_lenT, sumK_eq, callV_sum, callV_tupL, tupOK1_eq, tupOK_eq, callV_tupO, evE_pop, popK1_eq, popK2_eq, compStep_eq, compK1_eq, compK2_eq, compK3_eq, testsE_0, testsE_1, retL_eq, compScope_eq, compK_eq, compV_eq, compVK_eq, evE_comp, rangeK_eq, rangeK1_eq, iterV_range, enumK_eq, iterV_enum, seqIK_list, seqIK_tuple, iterV_name, iterV_subS, iterV_call, boolK_eq, evT_bool, evT_cmp, evT_name, evT_call, allT_and0, allT_or0, allT_and, allT_or, andTK_eq, orTK_eq, storeN_eq, asg_name, asgL_nil, asgL_cons, asgLK_eq, asg_tup_d, asg_tup_v, asg_sub, asgSK1_eq, setOK_eq, asgSK2_own, asgSK2_deck, nextK_eq, stoK_eq, exS_name, stoCK_eq, exS_nameC, tasK_eq, exS_tup, exS_swp2, exS_swp3, swpK2_d, swpK2_v, swpK3_v, storeL_nil, storeL_cons, storeLK_eq, sasK_eq, exS_sub, exS_aug, augK1_eq, augK2_eq, exS_if, ifSK_eq, forStep_eq, forK_eq, exS_for, loopF_nil, loopF_cons, loopK_next, loopK_ret, rtnK_eq, exS_ret, exS_meth, methK1_eq, appK_eq, methK2_app, extK_eq, methK2_ext, exB_nil, exB_cons, seqK_next, seqK_ret, fzK_eq, retFK_eq, layStr_left, layStr_mixed, layStr_m, layStr_l, layStr_z, layStr_w, layStr_e, Option.bind_some, Option.map_some, List.length_cons, List.length_nil, if_true, if_false, Bool.false_eq_true, decide_eq_true_eq, Bool.not_true, Bool.not_false, Bool.not_eq_true, List.map_cons, List.map_nil, List.reverse_cons, List.reverse_nil, List.nil_append, List.cons_append, gt_iff_lt, ge_iff_le, beq_iff_eq, Nat.reduceAdd, ite_self, mkTup, allD, Option.some.injEq, List.all_cons, List.all_nil, Bool.and_true, Bool.true_and, argOk, freeze, Option.isSome_some, decide_true, decide_false, Option.bind_none, Option.map_none, List.getElem?_cons_zero, List.getElem?_cons_succ, blank, encP, encL, getC, Bool.not_eq_true', compL, Option.toList_some, Option.toList_none, List.append_nil, itemL_0, itemL_1, itemL_2, itemL_m1, Int.cast_ofNat_Int, intsOf, List.set_cons_zero, List.set_cons_succ, Int.reduceAdd, Int.reduceSub, Int.reduceNeg, Int.reduceMul, gv_Path_0, sv_Path_0, gv_Path_1, sv_Path_1, gv_Path_2, sv_Path_2, gv_Path_3, sv_Path_3, gv_Path_4, sv_Path_4, gv_Path_5, sv_Path_5, gv_Path_6, sv_Path_6, gv_Path_7, sv_Path_7]
      · obtain ⟨p, hp, rfl⟩ := hz2 hss
        obtain ⟨init, x, ex, hx⟩ := rows_last ss hss hl
        have hR : itemL (List.map V.d (allRows ss)) (-1) = some (.d x) := by
          rw [ex, List.map_append, List.map_cons, List.map_nil]
          exact itemL_m1 _ _
        rcases hx with rfl | ⟨q, rfl⟩
        · obtain ⟨w, d3, w0, w1, h3, e3⟩ := draw_ex d hd 4 (by decide)
          by_cases hw : 0 < w
          · obtain ⟨a, b, d4, d5, a0, a1, b0, b1, h5, e4, e5⟩ := two d3 h3
            have sa : small a = true := small_5 a0 a1
            have sb : small b = true := small_5 b0 b1
            refine ⟨(a * 1000000, b * 1000000), d5, ?_, (lat5 a0 a1 b0 b1), h5⟩
            simp (decide := true) only [e3, e4, e5, sa, sb, hR, hR1, layStr_z, ne_zz, hw, ev_e, ev_t, ev_a, ev_b, evL_nil, evL_cons, evLK1_eq, evLK2_eq, retE_eq, retO_eq, evE_int, evE_str, evE_bool, evE_none, evE_name, nameV_loc, nameV_cell, nameV_free, nameV_unit, nameV_eo, evE_bin, binK1_eq, binK2_eq, binV_add, binV_sub, binV_mul, binV_div, binV_mod, binV_list, binV_tup, evE_neg, negK_eq, evE_if, ifEK_eq, evE_tuple, tupK_eq, evE_list0, evE_list1, list1K_eq, evE_list2, evE_listS, listK_eq, listK1_eq, evE_rev, revK1_eq, revK_eq, evE_slo, sloK1_eq, sloK_eq, evE_sup, supK1_eq, supK_eq, evE_subC, evE_subN, evE_subU, evE_subB, subK1_eq, subK_eq, itemV_list, itemV_tuple, itemV_own, itemOK_eq, itemV_tup, itemV_left, itemV_mixed, retB_eq, cmpVK_eq, evE_cmp, cmpE_ne, neK_eq, cmpE_eq1, cmpE_lt, cmpE_le, cmpE_gt, cmpE_ge, cmpE_is, cmpE_isnot, cmpE_neC, cmpE_neN, cmpE_neT, cmpE_neB, cmpK1_eq, cmpK_eq, cmpE_2, cmp2K1_eq, cmp2K2_eq, cmp2K2b_eq, cmpV_lt, cmpV_le, cmpV_gt, cmpV_ge, cmpV_eqI, cmpV_neI, cmpV_eqS, cmpV_isN, cmpV_isT, cmpV_isnotB, neNil_list, neNil_left, evE_and, andEK_eq, evE_call, callK_eq, retF_eq, callV_own, callV_min, callV_max, callV_lenL, callV_lenT, sumK_eq, callV_sum, callV_tupL, tupOK1_eq, tupOK_eq, callV_tupO, evE_pop, popK1_eq, popK2_eq, compStep_eq, compK1_eq, compK2_eq, compK3_eq, testsE_0, testsE_1, retL_eq, compScope_eq, compK_eq, compV_eq, compVK_eq, evE_comp, rangeK_eq, rangeK1_eq, iterV_range, enumK_eq, iterV_enum, seqIK_list, seqIK_tuple, iterV_name, iterV_subS, iterV_call, boolK_eq, evT_bool, evT_cmp, evT_name, evT_call, allT_and0, allT_or0, allT_and, allT_or, andTK_eq, orTK_eq, storeN_eq, asg_name, asgL_nil, asgL_cons, asgLK_eq, asg_tup_d, asg_tup_v, asg_sub, asgSK1_eq, setOK_eq, asgSK2_own, asgSK2_deck, nextK_eq, stoK_eq, exS_name, stoCK_eq, exS_nameC, tasK_eq, exS_tup, exS_swp2, exS_swp3, swpK2_d, swpK2_v, swpK3_v, storeL_nil, storeL_cons, storeLK_eq, sasK_eq, exS_sub, exS_aug, augK1_eq, augK2_eq, exS_if, ifSK_eq, forStep_eq, forK_eq, exS_for, loopF_nil, loopF_cons, loopK_next, loopK_ret, rtnK_eq, exS_ret, exS_meth, methK1_eq, appK_eq, methK2_app, extK_eq, methK2_ext, exB_nil, exB_cons, seqK_next, seqK_ret, fzK_eq, retFK_eq, layStr_left, layStr_mixed, layStr_m, layStr_l, layStr_z, layStr_w, layStr_e, Option.bind_some, Option.map_some, List.length_cons, List.length_nil, if_true, if_false, Bool.false_eq_true, decide_eq_true_eq, Bool.not_true, Bool.not_false, Bool.not_eq_true, List.map_cons, List.map_nil, List.reverse_cons, List.reverse_nil, List.nil_append, List.cons_append, gt_iff_lt, ge_iff_le, beq_iff_eq, Nat.reduceAdd, ite_self, mkTup, allD, Option.some.injEq, List.all_cons, List.all_nil, Bool.and_true, Bool.true_and, argOk, freeze, Option.isSome_some, decide_true, decide_false, Option.bind_none, Option.map_none, List.getElem?_cons_zero, List.getElem?_cons_succ, blank, encP, encL, getC, Bool.not_eq_true', compL, Option.toList_some, Option.toList_none, List.append_nil, itemL_0, itemL_1, itemL_2, itemL_m1, Int.cast_ofNat_Int, intsOf, List.set_cons_zero, List.set_cons_succ, Int.reduceAdd, Int.reduceSub, Int.reduceNeg, Int.reduceMul, gv_Path_0, sv_Path_0, gv_Path_1, sv_Path_1, gv_Path_2, sv_Path_2, gv_Path_3, sv_Path_3, gv_Path_4, sv_Path_4, gv_Path_5, sv_Path_5, gv_Path_6, sv_Path_6, gv_Path_7, sv_Path_7]
          · refine ⟨p, d3, ?_, hp, h3⟩
            simp (decide := true) only [e3, hR, hR1, layStr_z, ne_zz, hw, ev_e, ev_t, ev_a, ev_b, evL_nil, evL_cons, evLK1_eq, evLK2_eq, retE_eq, retO_eq, evE_int, evE_str, evE_bool, evE_none, evE_name, nameV_loc, nameV_cell, nameV_free, nameV_unit, nameV_eo, evE_bin, binK1_eq, binK2_eq, binV_add, binV_sub, binV_mul, binV_div, binV_mod, binV_list, binV_tup, evE_neg, negK_eq, evE_if, ifEK_eq, evE_tuple, tupK_eq, evE_list0, evE_list1, list1K_eq, evE_list2, evE_listS, listK_eq, listK1_eq, evE_rev, revK1_eq, revK_eq, evE_slo, sloK1_eq, sloK_eq, evE_sup, supK1_eq, supK_eq, evE_subC, evE_subN, evE_subU, evE_subB, subK1_eq, subK_eq, itemV_list, itemV_tuple, itemV_own, itemOK_eq, itemV_tup, itemV_left, itemV_mixed, retB_eq, cmpVK_eq, evE_cmp, cmpE_ne, neK_eq, cmpE_eq1, cmpE_lt, cmpE_le, cmpE_gt, cmpE_ge, cmpE_is, cmpE_isnot, cmpE_neC, cmpE_neN, cmpE_neT, cmpE_neB, cmpK1_eq, cmpK_eq, cmpE_2, cmp2K1_eq, cmp2K2_eq, cmp2K2b_eq, cmpV_lt, cmpV_le, cmpV_gt, cmpV_ge, cmpV_eqI, cmpV_neI, cmpV_eqS, cmpV_isN, cmpV_isT, cmpV_isnotB, neNil_list, neNil_left, evE_and, andEK_eq, evE_call, callK_eq, retF_eq, callV_own, callV_min, callV_max, callV_lenL, callV_lenT, sumK_eq, callV_sum, callV_tupL, tupOK1_eq, tupOK_eq, callV_tupO, evE_pop, popK1_eq, popK2_eq, compStep_eq, compK1_eq, compK2_eq, compK3_eq, testsE_0, testsE_1, retL_eq, compScope_eq, compK_eq, compV_eq, compVK_eq, evE_comp, rangeK_eq, rangeK1_eq, iterV_range, enumK_eq, iterV_enum, seqIK_list, seqIK_tuple, iterV_name, iterV_subS, iterV_call, boolK_eq, evT_bool, evT_cmp, evT_name, evT_call, allT_and0, allT_or0, allT_and, allT_or, andTK_eq, orTK_eq, storeN_eq, asg_name, asgL_nil, asgL_cons, asgLK_eq, asg_tup_d, asg_tup_v, asg_sub, asgSK1_eq, setOK_eq, asgSK2_own, asgSK2_deck, nextK_eq, stoK_eq, exS_name, stoCK_eq, exS_nameC, tasK_eq, exS_tup, exS_swp2, exS_swp3, swpK2_d, swpK2_v, swpK3_v, storeL_nil, storeL_cons, storeLK_eq, sasK_eq, exS_sub, exS_aug, augK1_eq, augK2_eq, exS_if, ifSK_eq, forStep_eq, forK_eq, exS_for, loopF_nil, loopF_cons, loopK_next, loopK_ret, rtnK_eq, exS_ret, exS_meth, methK1_eq, appK_eq, methK2_app, extK_eq, methK2_ext, exB_nil, exB_cons, seqK_next, seqK_ret, fzK_eq, retFK_eq, layStr_left, layStr_mixed, layStr_m, layStr_l, layStr_z, layStr_w, layStr_e, Option.bind_some, Option.map_some, List.length_cons, List.length_nil, if_true, if_false, Bool.false_eq_true, decide_eq_true_eq, Bool.not_true, Bool.not_false, Bool.not_eq_true, List.map_cons, List.map_nil, List.reverse_cons, List.reverse_nil, List.nil_append, List.cons_append, gt_iff_lt, ge_iff_le, beq_iff_eq, Nat.reduceAdd, ite_self, mkTup, allD, Option.some.injEq, List.all_cons, List.all_nil, Bool.and_true, Bool.true_and, argOk, freeze, Option.isSome_some, decide_true, decide_false, Option.bind_none, Option.map_none, List.getElem?_cons_zero, List.getElem?_cons_succ, blank, encP, encL, getC, Bool.not_eq_true', compL, Option.toList_some, Option.toList_none, List.append_nil, itemL_0, itemL_1, itemL_2, itemL_m1, Int.cast_ofNat_Int, intsOf, List.set_cons_zero, List.set_cons_succ, Int.reduceAdd, Int.reduceSub, Int.reduceNeg, Int.reduceMul, gv_Path_0, sv_Path_0, gv_Path_1, sv_Path_1, gv_Path_2, sv_Path_2, gv_Path_3, sv_Path_3, gv_Path_4, sv_Path_4, gv_Path_5, sv_Path_5, gv_Path_6, sv_Path_6, gv_Path_7, sv_Path_7]
        · obtain ⟨a, b, d4, d5, a0, a1, b0, b1, h5, e4, e5⟩ := two d hd
          have sa : small a = true := small_5 a0 a1
          have sb : small b = true := small_5 b0 b1
          refine ⟨(a * 1000000, b * 1000000), d5, ?_, (lat5 a0 a1 b0 b1), h5⟩
          simp (decide := true) only [e4, e5, sa, sb, hR, hR1, layStr_z, ne_lz, ev_e, ev_t, ev_a, ev_b, evL_nil, evL_cons, evLK1_eq, evLK2_eq, retE_eq, retO_eq, evE_int, evE_str, evE_bool, evE_none, evE_name, nameV_loc, nameV_cell, nameV_free, nameV_unit, nameV_eo, evE_bin, binK1_eq, binK2_eq, binV_add, binV_sub, binV_mul, binV_div, binV_mod, binV_list, binV_tup, evE_neg, negK_eq, evE_if, ifEK_eq, evE_tuple, tupK_eq, evE_list0, evE_list1, list1K_eq, evE_list2, evE_listS, listK_eq, listK1_eq, evE_rev, revK1_eq, revK_eq, evE_slo, sloK1_eq, sloK_eq, evE_sup, supK1_eq, supK_eq, evE_subC, evE_subN, evE_subU, evE_subB, subK1_eq, subK_eq, itemV_list, itemV_tuple, itemV_own, itemOK_eq, itemV_tup, itemV_left, itemV_mixed, retB_eq, cmpVK_eq, evE_cmp, cmpE_ne, neK_eq, cmpE_eq1, cmpE_lt, cmpE_le, cmpE_gt, cmpE_ge, cmpE_is, cmpE_isnot, cmpE_neC, cmpE_neN, cmpE_neT, cmpE_neB, cmpK1_eq, cmpK_eq, cmpE_2, cmp2K1_eq, cmp2K2_eq, cmp2K2b_eq, cmpV_lt, cmpV_le, cmpV_gt, cmpV_ge, cmpV_eqI, cmpV_neI, cmpV_eqS, cmpV_isN, cmpV_isT, cmpV_isnotB, neNil_list, neNil_left, evE_and, andEK_eq, evE_call, callK_eq, retF_eq, callV_own, callV_min, callV_max, callV_lenL, callV_lenT, sumK_eq, callV_sum, callV_tupL, tupOK1_eq, tupOK_eq, callV_tupO, evE_pop, popK1_eq, popK2_eq, compStep_eq, compK1_eq, compK2_eq, compK3_eq, testsE_0, testsE_1, retL_eq, compScope_eq, compK_eq, compV_eq, compVK_eq, evE_comp, rangeK_eq, rangeK1_eq, iterV_range, enumK_eq, iterV_enum, seqIK_list, seqIK_tuple, iterV_name, iterV_subS, iterV_call, boolK_eq, evT_bool, evT_cmp, evT_name, evT_call, allT_and0, allT_or0, allT_and, allT_or, andTK_eq, orTK_eq, storeN_eq, asg_name, asgL_nil, asgL_cons, asgLK_eq, asg_tup_d, asg_tup_v, asg_sub, asgSK1_eq, setOK_eq, asgSK2_own, asgSK2_deck, nextK_eq, stoK_eq, exS_name, stoCK_eq, exS_nameC, tasK_eq, exS_tup, exS_swp2, exS_swp3, swpK2_d, swpK2_v, swpK3_v, storeL_nil, storeL_cons, storeLK_eq, sasK_eq, exS_sub, exS_aug, augK1_eq, augK2_eq, exS_if, ifSK_eq, forStep_eq, forK_eq, exS_for, loopF_nil, loopF_cons, loopK_next, loopK_ret, rtnK_eq, exS_ret, exS_meth, methK1_eq, appK_eq, methK2_app, extK_eq, methK2_ext, exB_nil, exB_cons, seqK_next, seqK_ret, fzK_eq, retFK_eq, layStr_left, layStr_mixed, layStr_m, layStr_l, layStr_z, layStr_w, layStr_e, Option.bind_some, Option.map_some, List.length_cons, List.length_nil, if_true, if_false, Bool.false_eq_true, decide_eq_true_eq, Bool.not_true, Bool.not_false, Bool.not_eq_true, List.map_cons, List.map_nil, List.reverse_cons, List.reverse_nil, List.nil_append, List.cons_append, gt_iff_lt, ge_iff_le, beq_iff_eq, Nat.reduceAdd, ite_self, mkTup, allD, Option.some.injEq, List.all_cons, List.all_nil, Bool.and_true, Bool.true_and, argOk, freeze, Option.isSome_some, decide_true, decide_false, Option.bind_none, Option.map_none, List.getElem?_cons_zero, List.getElem?_cons_succ, blank, encP, encL, getC, Bool.not_eq_true', compL, Option.toList_some, Option.toList_none, List.append_nil, itemL_0, itemL_1, itemL_2, itemL_m1, Int.cast_ofNat_Int, intsOf, List.set_cons_zero, List.set_cons_succ, Int.reduceAdd, Int.reduceSub, Int.reduceNeg, Int.reduceMul, gv_Path_0, sv_Path_0, gv_Path_1, sv_Path_1, gv_Path_2, sv_Path_2, gv_Path_3, sv_Path_3, gv_Path_4, sv_Path_4, gv_Path_5, sv_Path_5, gv_Path_6, sv_Path_6, gv_Path_7, sv_Path_7]
    obtain ⟨p, d2, rfl, hp, hd2⟩ := keyI
    obtain ⟨v, d3, v0, v1, hd3, e3⟩ := draw_ex d2 hd2 4 (by decide)
    have hs1 : small (1 + v) = true := small_1 v0 v1 (by decide)
    have hr1 := range_one (1 + v) hs1
    have hrl : (rangeL 0 1 (1 + v).toNat).length ≤ 1000000 := by rw [rangeL_len]; omega
    simp (decide := true) only [repP, hR1, layStr_m, e3, hr1, hrl, ev_e, ev_t, ev_a, ev_b, evL_nil, evL_cons, evLK1_eq, evLK2_eq, retE_eq, retO_eq, evE_int, evE_str, evE_bool, evE_none, evE_name, nameV_loc, nameV_cell, nameV_free, nameV_unit, nameV_eo, evE_bin, binK1_eq, binK2_eq, binV_add, binV_sub, binV_mul, binV_div, binV_mod, binV_list, binV_tup, evE_neg, negK_eq, evE_if, ifEK_eq, evE_tuple, tupK_eq, evE_list0, evE_list1, list1K_eq, evE_list2, evE_listS, listK_eq, listK1_eq, evE_rev, revK1_eq, revK_eq, evE_slo, sloK1_eq, sloK_eq, evE_sup, supK1_eq, supK_eq, evE_subC, evE_subN, evE_subU, evE_subB, subK1_eq, subK_eq, itemV_list, itemV_tuple, itemV_own, itemOK_eq, itemV_tup, itemV_left, itemV_mixed, retB_eq, cmpVK_eq, evE_cmp, cmpE_ne, neK_eq, cmpE_eq1, cmpE_lt, cmpE_le, cmpE_gt, cmpE_ge, cmpE_is, cmpE_isnot, cmpE_neC, cmpE_neN, cmpE_neT, cmpE_neB, cmpK1_eq, cmpK_eq, cmpE_2, cmp2K1_eq, cmp2K2_eq, cmp2K2b_eq, cmpV_lt, cmpV_le, cmpV_gt, cmpV_ge, cmpV_eqI, cmpV_neI, cmpV_eqS, cmpV_isN, cmpV_isT, cmpV_isnotB, neNil_list, neNil_left, evE_and, andEK_eq, evE_call, callK_eq, retF_eq, callV_own, callV_min, callV_max, callV_lenL, callV_lenT, sumK_eq, callV_sum, callV_tupL, tupOK1_eq, tupOK_eq, callV_tupO, evE_pop, popK1_eq, popK2_eq, compStep_eq, compK1_eq, compK2_eq, compK3_eq, testsE_0, testsE_1, retL_eq, compScope_eq, compK_eq, compV_eq, compVK_eq, evE_comp, rangeK_eq, rangeK1_eq, iterV_range, enumK_eq, iterV_enum, seqIK_list, seqIK_tuple, iterV_name, iterV_subS, iterV_call, boolK_eq, evT_bool, evT_cmp, evT_name, evT_call, allT_and0, allT_or0, allT_and, allT_or, andTK_eq, orTK_eq, storeN_eq, asg_name, asgL_nil, asgL_cons, asgLK_eq, asg_tup_d, asg_tup_v, asg_sub, asgSK1_eq, setOK_eq, asgSK2_own, asgSK2_deck, nextK_eq, stoK_eq, exS_name, stoCK_eq, exS_nameC, tasK_eq, exS_tup, exS_swp2, exS_swp3, swpK2_d, swpK2_v, swpK3_v, storeL_nil, storeL_cons, storeLK_eq, sasK_eq, exS_sub, exS_aug, augK1_eq, augK2_eq, exS_if, ifSK_eq, forStep_eq, forK_eq, exS_for, loopF_nil, loopF_cons, loopK_next, loopK_ret, rtnK_eq, exS_ret, exS_meth, methK1_eq, appK_eq, methK2_app, extK_eq, methK2_ext, exB_nil, exB_cons, seqK_next, seqK_ret, fzK_eq, retFK_eq, layStr_left, layStr_mixed, layStr_m, layStr_l, layStr_z, layStr_w, layStr_e, Option.bind_some, Option.map_some, List.length_cons, List.length_nil, if_true, if_false, Bool.false_eq_true, decide_eq_true_eq, Bool.not_true, Bool.not_false, Bool.not_eq_true, List.map_cons, List.map_nil, List.reverse_cons, List.reverse_nil, List.nil_append, List.cons_append, gt_iff_lt, ge_iff_le, beq_iff_eq, Nat.reduceAdd, ite_self, mkTup, allD, Option.some.injEq, List.all_cons, List.all_nil, Bool.and_true, Bool.true_and, argOk, freeze, Option.isSome_some, decide_true, decide_false, Option.bind_none, Option.map_none, List.getElem?_cons_zero, List.getElem?_cons_succ, blank, encP, encL, getC, Bool.not_eq_true', compL, Option.toList_some, Option.toList_none, List.append_nil, itemL_0, itemL_1, itemL_2, itemL_m1, Int.cast_ofNat_Int, intsOf, List.set_cons_zero, List.set_cons_succ, Int.reduceAdd, Int.reduceSub, Int.reduceNeg, Int.reduceMul, gv_Path_0, sv_Path_0, gv_Path_1, sv_Path_1, gv_Path_2, sv_Path_2, gv_Path_3, sv_Path_3, gv_Path_4, sv_Path_4, gv_Path_5, sv_Path_5, gv_Path_6, sv_Path_6, gv_Path_7, sv_Path_7]
    generalize hL2 : loopF _ _ _ = o2
    have key2 : ∃ st', o2 = some (.next, st') ∧ InvI (allRows ss ++ [row2 sM p]) (linesS ss) p (some (.d (.int i))) (0 + (rangeL 0 1 (1 + v).toNat).length) st' := by
      rw [← hL2]
      refine loop_inv (InvI (allRows ss ++ [row2 sM p]) (linesS ss) p (some (.d (.int i)))) 4 _ 0 _ ?_ (by rw [rangeL_len]; omega) ⟨[], d3, ⟨none, none, j.c, j.d, none, none, none, none⟩, rfl, hd3, by simp, by simp [pairs], by simp [repP, pairs, row2, lastP, encP, sM]⟩
      intro k x st hx hk hi
      obtain ⟨i', rfl⟩ := rangeL_int _ _ _ x hx
      obtain ⟨pts, d, j, hlen, hd, hl, hne, rfl⟩ := hi
      have hA1 : (List.map V.d (allRows ss ++ [row2 sM p] ++ List.map (row2 sL) pts)).length ≤ 1000000 := by
        simp only [List.length_map, List.length_append, List.length_singleton]
        omega
      have hA2 : (List.map V.d (List.map encL (linesS ss ++ pairs p pts))).length ≤ 1000000 := by
        simp only [List.length_map, List.length_append, pairs_len]
        omega
      obtain ⟨a, d3, a0, a1, h3, e3⟩ := draw_ex d hd 5 (by decide)
      obtain ⟨b, d4, b0, b1, h4, e4⟩ := draw_ex d3 h3 5 (by decide)
      have sa : small a = true := small_5 a0 a1
      have sb : small b = true := small_5 b0 b1
      have fin : ∀ q : Pt, Lat q → lastP p pts ≠ q → InvI (allRows ss ++ [row2 sM p]) (linesS ss) p (some (.d (.int i))) (k + 1) (repP (allRows ss ++ [row2 sM p] ++ (pts ++ [q]).map (row2 sL)) (linesS ss ++ pairs p (pts ++ [q])) d4 (some (.d (encP p))) ⟨some (.d (.int i)), some (.d (encP q)), some (.d (.int i')), some (.d (encP q)), none, none, none, none⟩) := by
        intro q hq hne'
        refine ⟨pts ++ [q], d4, ⟨some (.d (.int i)), some (.d (encP q)), some (.d (.int i')), some (.d (encP q)), none, none, none, none⟩, by simp [hlen], h4, ?_, ?_, by rw [last_app]⟩
        · intro r hr
          rcases List.mem_append.mp hr with h | h
          · exact hl r h
          · rw [List.mem_singleton.mp h]; exact hq
        · intro e he
          rw [pairs_app] at he
          rcases List.mem_append.mp he with h | h
          · exact hne e h
          · rw [List.mem_singleton.mp h]; exact hne'
      by_cases hq : (a * 1000000, b * 1000000) = ((lastP p pts).1, (lastP p pts).2)
      · have hq1 : a * 1000000 = (lastP p pts).1 := congrArg Prod.fst hq
        have hm := shift5 a a0 a1
        have hm0 : 0 ≤ (a * 1000000 + 1000000).fmod 5000000 := Int.fmod_nonneg_of_pos _ (by decide)
        have hm1 : (a * 1000000 + 1000000).fmod 5000000 < 5000000 := Int.fmod_lt_of_pos _ (by decide)
        refine ⟨_, ?_, fin ((a * 1000000 + 1000000).fmod 5000000, b * 1000000) ⟨hm0, hm1, (lat5 a0 a1 b0 b1).2.2⟩ fun e => hm (by rw [e] at hq1; exact hq1.symm)⟩
        simp (decide := true) only [repP, hA1, hA2, sa, sb, e3, e4, layStr_l, hq, cmpV_eqT, ev_e, ev_t, ev_a, ev_b, evL_nil, evL_cons, evLK1_eq, evLK2_eq, retE_eq, retO_eq, evE_int, evE_str, evE_bool, evE_none, evE_name, nameV_loc, nameV_cell, nameV_free, nameV_unit, nameV_eo, evE_bin, binK1_eq, binK2_eq, binV_add, binV_sub, binV_mul, binV_div, binV_mod, binV_list, binV_tup, evE_neg, negK_eq, evE_if, ifEK_eq, evE_tuple, tupK_eq, evE_list0, evE_list1, list1K_eq, evE_list2, evE_listS, listK_eq, listK1_eq, evE_rev, revK1_eq, revK_eq, evE_slo, sloK1_eq, sloK_eq, evE_sup, supK1_eq, supK_eq, evE_subC, evE_subN, evE_subU, evE_subB, subK1_eq, subK_eq, itemV_list, itemV_tuple, itemV_own, itemOK_eq, itemV_tup, itemV_left, itemV_mixed, retB_eq, cmpVK_eq, evE_cmp, cmpE_ne, neK_eq, cmpE_eq1, cmpE_lt, cmpE_le, cmpE_gt, cmpE_ge, cmpE_is, cmpE_isnot, cmpE_neC, cmpE_neN, cmpE_neT, cmpE_neB, cmpK1_eq, cmpK_eq, cmpE_2, cmp2K1_eq, cmp2K2_eq, cmp2K2b_eq, cmpV_lt, cmpV_le, cmpV_gt, cmpV_ge, cmpV_eqI, cmpV_neI, cmpV_eqS, cmpV_isN, cmpV_isT, cmpV_isnotB, neNil_list, neNil_left, evE_and, andEK_eq, evE_call, callK_eq, retF_eq, callV_own, callV_min, callV_max, callV_lenL, callV_lenT, sumK_eq, callV_sum, callV_tupL, tupOK1_eq, tupOK_eq, callV_tupO, evE_pop, popK1_eq, popK2_eq, compStep_eq, compK1_eq, compK2_eq, compK3_eq, testsE_0, testsE_1, retL_eq, compScope_eq, compK_eq, compV_eq, compVK_eq, evE_comp, rangeK_eq, rangeK1_eq, iterV_range, enumK_eq, iterV_enum, seqIK_list, seqIK_tuple, iterV_name, iterV_subS, iterV_call, boolK_eq, evT_bool, evT_cmp, evT_name, evT_call, allT_and0, allT_or0, allT_and, allT_or, andTK_eq, orTK_eq, storeN_eq, asg_name, asgL_nil, asgL_cons, asgLK_eq, asg_tup_d, asg_tup_v, asg_sub, asgSK1_eq, setOK_eq, asgSK2_own, asgSK2_deck, nextK_eq, stoK_eq, exS_name, stoCK_eq, exS_nameC, tasK_eq, exS_tup, exS_swp2, exS_swp3, swpK2_d, swpK2_v, swpK3_v, storeL_nil, storeL_cons, storeLK_eq, sasK_eq, exS_sub, exS_aug, augK1_eq, augK2_eq, exS_if, ifSK_eq, forStep_eq, forK_eq, exS_for, loopF_nil, loopF_cons, loopK_next, loopK_ret, rtnK_eq, exS_ret, exS_meth, methK1_eq, appK_eq, methK2_app, extK_eq, methK2_ext, exB_nil, exB_cons, seqK_next, seqK_ret, fzK_eq, retFK_eq, layStr_left, layStr_mixed, layStr_m, layStr_l, layStr_z, layStr_w, layStr_e, Option.bind_some, Option.map_some, List.length_cons, List.length_nil, if_true, if_false, Bool.false_eq_true, decide_eq_true_eq, Bool.not_true, Bool.not_false, Bool.not_eq_true, List.map_cons, List.map_nil, List.reverse_cons, List.reverse_nil, List.nil_append, List.cons_append, gt_iff_lt, ge_iff_le, beq_iff_eq, Nat.reduceAdd, ite_self, mkTup, allD, Option.some.injEq, List.all_cons, List.all_nil, Bool.and_true, Bool.true_and, argOk, freeze, Option.isSome_some, decide_true, decide_false, Option.bind_none, Option.map_none, List.getElem?_cons_zero, List.getElem?_cons_succ, blank, encP, encL, getC, Bool.not_eq_true', compL, Option.toList_some, Option.toList_none, List.append_nil, itemL_0, itemL_1, itemL_2, itemL_m1, Int.cast_ofNat_Int, intsOf, List.set_cons_zero, List.set_cons_succ, Int.reduceAdd, Int.reduceSub, Int.reduceNeg, Int.reduceMul, gv_Path_0, sv_Path_0, gv_Path_1, sv_Path_1, gv_Path_2, sv_Path_2, gv_Path_3, sv_Path_3, gv_Path_4, sv_Path_4, gv_Path_5, sv_Path_5, gv_Path_6, sv_Path_6, gv_Path_7, sv_Path_7]
        simp [pairs_app, encL, encP, row2, sL]
      · refine ⟨_, ?_, fin (a * 1000000, b * 1000000) (lat5 a0 a1 b0 b1) fun e => hq e.symm⟩
        simp (decide := true) only [repP, hA1, hA2, sa, sb, e3, e4, layStr_l, hq, cmpV_eqT, ev_e, ev_t, ev_a, ev_b, evL_nil, evL_cons, evLK1_eq, evLK2_eq, retE_eq, retO_eq, evE_int, evE_str, evE_bool, evE_none, evE_name, nameV_loc, nameV_cell, nameV_free, nameV_unit, nameV_eo, evE_bin, binK1_eq, binK2_eq, binV_add, binV_sub, binV_mul, binV_div, binV_mod, binV_list, binV_tup, evE_neg, negK_eq, evE_if, ifEK_eq, evE_tuple, tupK_eq, evE_list0, evE_list1, list1K_eq, evE_list2, evE_listS, listK_eq, listK1_eq, evE_rev, revK1_eq, revK_eq, evE_slo, sloK1_eq, sloK_eq, evE_sup, supK1_eq, supK_eq, evE_subC, evE_subN, evE_subU, evE_subB, subK1_eq, subK_eq, itemV_list, itemV_tuple, itemV_own, itemOK_eq, itemV_tup, itemV_left, itemV_mixed, retB_eq, cmpVK_eq, evE_cmp, cmpE_ne, neK_eq, cmpE_eq1, cmpE_lt, cmpE_le, cmpE_gt, cmpE_ge, cmpE_is, cmpE_isnot, cmpE_neC, cmpE_neN, cmpE_neT, cmpE_neB, cmpK1_eq, cmpK_eq, cmpE_2, cmp2K1_eq, cmp2K2_eq, cmp2K2b_eq, cmpV_lt, cmpV_le, cmpV_gt, cmpV_ge, cmpV_eqI, cmpV_neI, cmpV_eqS, cmpV_isN, cmpV_isT, cmpV_isnotB, neNil_list, neNil_left, evE_and, andEK_eq, evE_call, callK_eq, retF_eq, callV_own, callV_min, callV_max, callV_lenL, callV_lenT, sumK_eq, callV_sum, callV_tupL, tupOK1_eq, tupOK_eq, callV_tupO, evE_pop, popK1_eq, popK2_eq, compStep_eq, compK1_eq, compK2_eq, compK3_eq, testsE_0, testsE_1, retL_eq, compScope_eq, compK_eq, compV_eq, compVK_eq, evE_comp, rangeK_eq, rangeK1_eq, iterV_range, enumK_eq, iterV_enum, seqIK_list, seqIK_tuple, iterV_name, iterV_subS, iterV_call, boolK_eq, evT_bool, evT_cmp, evT_name, evT_call, allT_and0, allT_or0, allT_and, allT_or, andTK_eq, orTK_eq, storeN_eq, asg_name, asgL_nil, asgL_cons, asgLK_eq, asg_tup_d, asg_tup_v, asg_sub, asgSK1_eq, setOK_eq, asgSK2_own, asgSK2_deck, nextK_eq, stoK_eq, exS_name, stoCK_eq, exS_nameC, tasK_eq, exS_tup, exS_swp2, exS_swp3, swpK2_d, swpK2_v, swpK3_v, storeL_nil, storeL_cons, storeLK_eq, sasK_eq, exS_sub, exS_aug, augK1_eq, augK2_eq, exS_if, ifSK_eq, forStep_eq, forK_eq, exS_for, loopF_nil, loopF_cons, loopK_next, loopK_ret, rtnK_eq, exS_ret, exS_meth, methK1_eq, appK_eq, methK2_app, extK_eq, methK2_ext, exB_nil, exB_cons, seqK_next, seqK_ret, fzK_eq, retFK_eq, layStr_left, layStr_mixed, layStr_m, layStr_l, layStr_z, layStr_w, layStr_e, Option.bind_some, Option.map_some, List.length_cons, List.length_nil, if_true, if_false, Bool.false_eq_true, decide_eq_true_eq, Bool.not_true, Bool.not_false, Bool.not_eq_true, List.map_cons, List.map_nil, List.reverse_cons, List.reverse_nil, List.nil_append, List.cons_append, gt_iff_lt, ge_iff_le, beq_iff_eq, Nat.reduceAdd, ite_self, mkTup, allD, Option.some.injEq, List.all_cons, List.all_nil, Bool.and_true, Bool.true_and, argOk, freeze, Option.isSome_some, decide_true, decide_false, Option.bind_none, Option.map_none, List.getElem?_cons_zero, List.getElem?_cons_succ, blank, encP, encL, getC, Bool.not_eq_true', compL, Option.toList_some, Option.toList_none, List.append_nil, itemL_0, itemL_1, itemL_2, itemL_m1, Int.cast_ofNat_Int, intsOf, List.set_cons_zero, List.set_cons_succ, Int.reduceAdd, Int.reduceSub, Int.reduceNeg, Int.reduceMul, gv_Path_0, sv_Path_0, gv_Path_1, sv_Path_1, gv_Path_2, sv_Path_2, gv_Path_3, sv_Path_3, gv_Path_4, sv_Path_4, gv_Path_5, sv_Path_5, gv_Path_6, sv_Path_6, gv_Path_7, sv_Path_7]
        simp [pairs_app, encL, encP, row2, sL]
    obtain ⟨st', rfl, pts, d4, j4, hlen4, hd4, hl4, hne4, rfl⟩ := key2
    obtain ⟨w, d5, w0, w1, hd5, e5⟩ := draw_ex d4 hd4 2 (by decide)
    rw [rangeL_len] at hlen4
    have hB1 : (List.map V.d (allRows ss ++ [row2 sM p] ++ List.map (row2 sL) pts)).length ≤ 1000000 := by
      simp only [List.length_map, List.length_append, List.length_singleton]
      omega
    have hB2 : (List.map V.d (List.map encL (linesS ss ++ pairs p pts))).length ≤ 1000000 := by
      simp only [List.length_map, List.length_append, pairs_len]
      omega
    have fin : ∀ c, InvO (k + 1) (repP (allRows (ss ++ [⟨p, pts, c⟩])) (linesS (ss ++ [⟨p, pts, c⟩])) d5 (some (.d (encP p))) ⟨some (.d (.int i)), some (.d (encP (lastP p pts))), j4.c, j4.d, none, none, none, none⟩) := by
      intro c
      refine ⟨ss ++ [⟨p, pts, c⟩], d5, encP p, _, by simp [hlen], hd5, ?_, rfl, by simp, fun _ => ⟨p, hp, rfl⟩⟩
      intro s hs
      rcases List.mem_append.mp hs with h | h
      · exact hl s h
      · rw [List.mem_singleton.mp h]
        exact ⟨by show 1 ≤ pts.length; omega, by show pts.length ≤ 4; omega, hp, hl4, hne4⟩
    by_cases hw : w = 1
    · refine ⟨_, ?_, fin true⟩
      simp (decide := true) only [repP, e5, hw, layStr_z, hB1, hB2, ev_e, ev_t, ev_a, ev_b, evL_nil, evL_cons, evLK1_eq, evLK2_eq, retE_eq, retO_eq, evE_int, evE_str, evE_bool, evE_none, evE_name, nameV_loc, nameV_cell, nameV_free, nameV_unit, nameV_eo, evE_bin, binK1_eq, binK2_eq, binV_add, binV_sub, binV_mul, binV_div, binV_mod, binV_list, binV_tup, evE_neg, negK_eq, evE_if, ifEK_eq, evE_tuple, tupK_eq, evE_list0, evE_list1, list1K_eq, evE_list2, evE_listS, listK_eq, listK1_eq, evE_rev, revK1_eq, revK_eq, evE_slo, sloK1_eq, sloK_eq, evE_sup, supK1_eq, supK_eq, evE_subC, evE_subN, evE_subU, evE_subB, subK1_eq, subK_eq, itemV_list, itemV_tuple, itemV_own, itemOK_eq, itemV_tup, itemV_left, itemV_mixed, retB_eq, cmpVK_eq, evE_cmp, cmpE_ne, neK_eq, cmpE_eq1, cmpE_lt, cmpE_le, cmpE_gt, cmpE_ge, cmpE_is, cmpE_isnot, cmpE_neC, cmpE_neN, cmpE_neT, cmpE_neB, cmpK1_eq, cmpK_eq, cmpE_2, cmp2K1_eq, cmp2K2_eq, cmp2K2b_eq, cmpV_lt, cmpV_le, cmpV_gt, cmpV_ge, cmpV_eqI, cmpV_neI, cmpV_eqS, cmpV_isN, cmpV_isT, cmpV_isnotB, neNil_list, neNil_left, evE_and, andEK_eq, evE_call, callK_eq, retF_eq, callV_own, callV_min, callV_max, callV_lenL, callV_lenT, sumK_eq, callV_sum, callV_tupL, tupOK1_eq, tupOK_eq, callV_tupO, evE_pop, popK1_eq, popK2_eq, compStep_eq, compK1_eq, compK2_eq, compK3_eq, testsE_0, testsE_1, retL_eq, compScope_eq, compK_eq, compV_eq, compVK_eq, evE_comp, rangeK_eq, rangeK1_eq, iterV_range, enumK_eq, iterV_enum, seqIK_list, seqIK_tuple, iterV_name, iterV_subS, iterV_call, boolK_eq, evT_bool, evT_cmp, evT_name, evT_call, allT_and0, allT_or0, allT_and, allT_or, andTK_eq, orTK_eq, storeN_eq, asg_name, asgL_nil, asgL_cons, asgLK_eq, asg_tup_d, asg_tup_v, asg_sub, asgSK1_eq, setOK_eq, asgSK2_own, asgSK2_deck, nextK_eq, stoK_eq, exS_name, stoCK_eq, exS_nameC, tasK_eq, exS_tup, exS_swp2, exS_swp3, swpK2_d, swpK2_v, swpK3_v, storeL_nil, storeL_cons, storeLK_eq, sasK_eq, exS_sub, exS_aug, augK1_eq, augK2_eq, exS_if, ifSK_eq, forStep_eq, forK_eq, exS_for, loopF_nil, loopF_cons, loopK_next, loopK_ret, rtnK_eq, exS_ret, exS_meth, methK1_eq, appK_eq, methK2_app, extK_eq, methK2_ext, exB_nil, exB_cons, seqK_next, seqK_ret, fzK_eq, retFK_eq, layStr_left, layStr_mixed, layStr_m, layStr_l, layStr_z, layStr_w, layStr_e, Option.bind_some, Option.map_some, List.length_cons, List.length_nil, if_true, if_false, Bool.false_eq_true, decide_eq_true_eq, Bool.not_true, Bool.not_false, Bool.not_eq_true, List.map_cons, List.map_nil, List.reverse_cons, List.reverse_nil, List.nil_append, List.cons_append, gt_iff_lt, ge_iff_le, beq_iff_eq, Nat.reduceAdd, ite_self, mkTup, allD, Option.some.injEq, List.all_cons, List.all_nil, Bool.and_true, Bool.true_and, argOk, freeze, Option.isSome_some, decide_true, decide_false, Option.bind_none, Option.map_none, List.getElem?_cons_zero, List.getElem?_cons_succ, blank, encP, encL, getC, Bool.not_eq_true', compL, Option.toList_some, Option.toList_none, List.append_nil, itemL_0, itemL_1, itemL_2, itemL_m1, Int.cast_ofNat_Int, intsOf, List.set_cons_zero, List.set_cons_succ, Int.reduceAdd, Int.reduceSub, Int.reduceNeg, Int.reduceMul, gv_Path_0, sv_Path_0, gv_Path_1, sv_Path_1, gv_Path_2, sv_Path_2, gv_Path_3, sv_Path_3, gv_Path_4, sv_Path_4, gv_Path_5, sv_Path_5, gv_Path_6, sv_Path_6, gv_Path_7, sv_Path_7]
      simp [allRows, linesS, subRows, lineS, encL, encP, encR, zrow, sZ]
    · have hw' : (w == 1) = false := beq_false_of_ne hw
      refine ⟨_, ?_, fin false⟩
      simp (decide := true) only [repP, e5, hw, hw', layStr_z, hB1, hB2, ev_e, ev_t, ev_a, ev_b, evL_nil, evL_cons, evLK1_eq, evLK2_eq, retE_eq, retO_eq, evE_int, evE_str, evE_bool, evE_none, evE_name, nameV_loc, nameV_cell, nameV_free, nameV_unit, nameV_eo, evE_bin, binK1_eq, binK2_eq, binV_add, binV_sub, binV_mul, binV_div, binV_mod, binV_list, binV_tup, evE_neg, negK_eq, evE_if, ifEK_eq, evE_tuple, tupK_eq, evE_list0, evE_list1, list1K_eq, evE_list2, evE_listS, listK_eq, listK1_eq, evE_rev, revK1_eq, revK_eq, evE_slo, sloK1_eq, sloK_eq, evE_sup, supK1_eq, supK_eq, evE_subC, evE_subN, evE_subU, evE_subB, subK1_eq, subK_eq, itemV_list, itemV_tuple, itemV_own, itemOK_eq, itemV_tup, itemV_left, itemV_mixed, retB_eq, cmpVK_eq, evE_cmp, cmpE_ne, neK_eq, cmpE_eq1, cmpE_lt, cmpE_le, cmpE_gt, cmpE_ge, cmpE_is, cmpE_isnot, cmpE_neC, cmpE_neN, cmpE_neT, cmpE_neB, cmpK1_eq, cmpK_eq, cmpE_2, cmp2K1_eq, cmp2K2_eq, cmp2K2b_eq, cmpV_lt, cmpV_le, cmpV_gt, cmpV_ge, cmpV_eqI, cmpV_neI, cmpV_eqS, cmpV_isN, cmpV_isT, cmpV_isnotB, neNil_list, neNil_left, evE_and, andEK_eq, evE_call, callK_eq, retF_eq, callV_own, callV_min, callV_max, callV_lenL, callV_lenT, sumK_eq, callV_sum, callV_tupL, tupOK1_eq, tupOK_eq, callV_tupO, evE_pop, popK1_eq, popK2_eq, compStep_eq, compK1_eq, compK2_eq, compK3_eq, testsE_0, testsE_1, retL_eq, compScope_eq, compK_eq, compV_eq, compVK_eq, evE_comp, rangeK_eq, rangeK1_eq, iterV_range, enumK_eq, iterV_enum, seqIK_list, seqIK_tuple, iterV_name, iterV_subS, iterV_call, boolK_eq, evT_bool, evT_cmp, evT_name, evT_call, allT_and0, allT_or0, allT_and, allT_or, andTK_eq, orTK_eq, storeN_eq, asg_name, asgL_nil, asgL_cons, asgLK_eq, asg_tup_d, asg_tup_v, asg_sub, asgSK1_eq, setOK_eq, asgSK2_own, asgSK2_deck, nextK_eq, stoK_eq, exS_name, stoCK_eq, exS_nameC, tasK_eq, exS_tup, exS_swp2, exS_swp3, swpK2_d, swpK2_v, swpK3_v, storeL_nil, storeL_cons, storeLK_eq, sasK_eq, exS_sub, exS_aug, augK1_eq, augK2_eq, exS_if, ifSK_eq, forStep_eq, forK_eq, exS_for, loopF_nil, loopF_cons, loopK_next, loopK_ret, rtnK_eq, exS_ret, exS_meth, methK1_eq, appK_eq, methK2_app, extK_eq, methK2_ext, exB_nil, exB_cons, seqK_next, seqK_ret, fzK_eq, retFK_eq, layStr_left, layStr_mixed, layStr_m, layStr_l, layStr_z, layStr_w, layStr_e, Option.bind_some, Option.map_some, List.length_cons, List.length_nil, if_true, if_false, Bool.false_eq_true, decide_eq_true_eq, Bool.not_true, Bool.not_false, Bool.not_eq_true, List.map_cons, List.map_nil, List.reverse_cons, List.reverse_nil, List.nil_append, List.cons_append, gt_iff_lt, ge_iff_le, beq_iff_eq, Nat.reduceAdd, ite_self, mkTup, allD, Option.some.injEq, List.all_cons, List.all_nil, Bool.and_true, Bool.true_and, argOk, freeze, Option.isSome_some, decide_true, decide_false, Option.bind_none, Option.map_none, List.getElem?_cons_zero, List.getElem?_cons_succ, blank, encP, encL, getC, Bool.not_eq_true', compL, Option.toList_some, Option.toList_none, List.append_nil, itemL_0, itemL_1, itemL_2, itemL_m1, Int.cast_ofNat_Int, intsOf, List.set_cons_zero, List.set_cons_succ, Int.reduceAdd, Int.reduceSub, Int.reduceNeg, Int.reduceMul, gv_Path_0, sv_Path_0, gv_Path_1, sv_Path_1, gv_Path_2, sv_Path_2, gv_Path_3, sv_Path_3, gv_Path_4, sv_Path_4, gv_Path_5, sv_Path_5, gv_Path_6, sv_Path_6, gv_Path_7, sv_Path_7]
      simp [allRows, linesS, subRows, lineS, encL, encP, encR, zrow, sZ]
  obtain ⟨st', rfl, ss, d', sv, j, hlen, hd', hl, rfl, _, _⟩ := key
  rw [rangeL_len] at hlen
  refine ⟨ss, d', hd', by omega, by omega, hl, ?_⟩
  simp (decide := true) only [repP, freeze_pair, ev_e, ev_t, ev_a, ev_b, evL_nil, evL_cons, evLK1_eq, evLK2_eq, retE_eq, retO_eq, evE_int, evE_str, evE_bool, evE_none, evE_name, nameV_loc, nameV_cell, nameV_free, nameV_unit, nameV_eo, evE_bin, binK1_eq, binK2_eq, binV_add, binV_sub, binV_mul, binV_div, binV_mod, binV_list, binV_tup, evE_neg, negK_eq, evE_if, ifEK_eq, evE_tuple, tupK_eq, evE_list0, evE_list1, list1K_eq, evE_list2, evE_listS, listK_eq, listK1_eq, evE_rev, revK1_eq, revK_eq, evE_slo, sloK1_eq, sloK_eq, evE_sup, supK1_eq, supK_eq, evE_subC, evE_subN, evE_subU, evE_subB, subK1_eq, subK_eq, itemV_list, itemV_tuple, itemV_own, itemOK_eq, itemV_tup, itemV_left, itemV_mixed, retB_eq, cmpVK_eq, evE_cmp, cmpE_ne, neK_eq, cmpE_eq1, cmpE_lt, cmpE_le, cmpE_gt, cmpE_ge, cmpE_is, cmpE_isnot, cmpE_neC, cmpE_neN, cmpE_neT, cmpE_neB, cmpK1_eq, cmpK_eq, cmpE_2, cmp2K1_eq, cmp2K2_eq, cmp2K2b_eq, cmpV_lt, cmpV_le, cmpV_gt, cmpV_ge, cmpV_eqI, cmpV_neI, cmpV_eqS, cmpV_isN, cmpV_isT, cmpV_isnotB, neNil_list, neNil_left, evE_and, andEK_eq, evE_call, callK_eq, retF_eq, callV_own, callV_min, callV_max, callV_lenL, callV_lenT, sumK_eq, callV_sum, callV_tupL, tupOK1_eq, tupOK_eq, callV_tupO, evE_pop, popK1_eq, popK2_eq, compStep_eq, compK1_eq, compK2_eq, compK3_eq, testsE_0, testsE_1, retL_eq, compScope_eq, compK_eq, compV_eq, compVK_eq, evE_comp, rangeK_eq, rangeK1_eq, iterV_range, enumK_eq, iterV_enum, seqIK_list, seqIK_tuple, iterV_name, iterV_subS, iterV_call, boolK_eq, evT_bool, evT_cmp, evT_name, evT_call, allT_and0, allT_or0, allT_and, allT_or, andTK_eq, orTK_eq, storeN_eq, asg_name, asgL_nil, asgL_cons, asgLK_eq, asg_tup_d, asg_tup_v, asg_sub, asgSK1_eq, setOK_eq, asgSK2_own, asgSK2_deck, nextK_eq, stoK_eq, exS_name, stoCK_eq, exS_nameC, tasK_eq, exS_tup, exS_swp2, exS_swp3, swpK2_d, swpK2_v, swpK3_v, storeL_nil, storeL_cons, storeLK_eq, sasK_eq, exS_sub, exS_aug, augK1_eq, augK2_eq, exS_if, ifSK_eq, forStep_eq, forK_eq, exS_for, loopF_nil, loopF_cons, loopK_next, loopK_ret, rtnK_eq, exS_ret, exS_meth, methK1_eq, appK_eq, methK2_app, extK_eq, methK2_ext, exB_nil, exB_cons, seqK_next, seqK_ret, fzK_eq, retFK_eq, layStr_left, layStr_mixed, layStr_m, layStr_l, layStr_z, layStr_w, layStr_e, Option.bind_some, Option.map_some, List.length_cons, List.length_nil, if_true, if_false, Bool.false_eq_true, decide_eq_true_eq, Bool.not_true, Bool.not_false, Bool.not_eq_true, List.map_cons, List.map_nil, List.reverse_cons, List.reverse_nil, List.nil_append, List.cons_append, gt_iff_lt, ge_iff_le, beq_iff_eq, Nat.reduceAdd, ite_self, mkTup, allD, Option.some.injEq, List.all_cons, List.all_nil, Bool.and_true, Bool.true_and, argOk, freeze, Option.isSome_some, decide_true, decide_false, Option.bind_none, Option.map_none, List.getElem?_cons_zero, List.getElem?_cons_succ, blank, encP, encL, getC, Bool.not_eq_true', compL, Option.toList_some, Option.toList_none, List.append_nil, itemL_0, itemL_1, itemL_2, itemL_m1, Int.cast_ofNat_Int, intsOf, List.set_cons_zero, List.set_cons_succ, Int.reduceAdd, Int.reduceSub, Int.reduceNeg, Int.reduceMul, gv_Path_0, sv_Path_0, gv_Path_1, sv_Path_1, gv_Path_2, sv_Path_2, gv_Path_3, sv_Path_3, gv_Path_4, sv_Path_4, gv_Path_5, sv_Path_5, gv_Path_6, sv_Path_6, gv_Path_7, sv_Path_7]
end Mine
namespace Mine
open PySem PySem.W PyProof.Rows PySem.Calls
set_option maxRecDepth 100000

noncomputable def phi (u v : Int) : Int := if 0 < u ∧ v = 0 then 4 else quarter u v
theorem q0 {u v : Int} (h : 0 < u) (k : 0 ≤ v) : quarter u v = 0 := if_pos ⟨h, k⟩
theorem q1 {u v : Int} (h : u ≤ 0) (k : 0 < v) : quarter u v = 1 := (if_neg fun e => absurd e.1 (Int.not_lt.mpr h)).trans (if_pos ⟨h, k⟩)
theorem q2 {u v : Int} (h : u < 0) (k : v ≤ 0) : quarter u v = 2 := (if_neg fun e => absurd e.1 (Int.not_lt.mpr (Int.le_of_lt h))).trans ((if_neg fun e => absurd e.2 (Int.not_lt.mpr k)).trans (if_pos h))
theorem q3 {u v : Int} (h : 0 ≤ u) (k : v < 0) : quarter u v = 3 := (if_neg fun e => absurd e.2 (Int.not_le.mpr k)).trans ((if_neg fun e => absurd e.2 (Int.not_lt.mpr (Int.le_of_lt k))).trans (if_neg (Int.not_lt.mpr h)))
theorem ph {u v : Int} (h : v ≠ 0 ∨ u ≤ 0) : phi u v = quarter u v := if_neg fun e => h.elim (fun k => k e.2) fun k => absurd e.1 (Int.not_lt.mpr k)

/-- the kinds of places about the middle -/
inductive Kd : Int → Int → Int → Int → Prop
  | p4 {u : Int} : 0 < u → Kd u 0 0 4
  | p0 {u v : Int} : 0 < u → 0 < v → Kd u v 0 0
  | p1 {u v : Int} : u ≤ 0 → 0 < v → Kd u v 1 1
  | p2 {u v : Int} : u < 0 → v ≤ 0 → Kd u v 2 2
  | p3 {u v : Int} : 0 ≤ u → v < 0 → Kd u v 3 3
theorem kind (u v : Int) (h : ¬ (u = 0 ∧ v = 0)) : Kd u v (quarter u v) (phi u v) := by
  rcases Int.lt_trichotomy v 0 with k | k | k
  · rcases Int.lt_or_le u 0 with j | j
    · rw [ph (.inl (Int.ne_of_lt k)), q2 j (Int.le_of_lt k)]; exact .p2 j (Int.le_of_lt k)
    · rw [ph (.inl (Int.ne_of_lt k)), q3 j k]; exact .p3 j k
  · subst k
    rcases Int.lt_trichotomy u 0 with j | j | j
    · rw [ph (.inr (Int.le_of_lt j)), q2 j (Int.le_refl _)]; exact .p2 j (Int.le_refl _)
    · exact absurd ⟨j, rfl⟩ h
    · rw [q0 j (Int.le_refl _), show phi u 0 = 4 from if_pos ⟨j, rfl⟩]; exact .p4 j
  · rcases Int.lt_or_le 0 u with j | j
    · rw [ph (.inl (Int.ne_of_gt k)), q0 j (Int.le_of_lt k)]; exact .p0 j k
    · rw [ph (.inl (Int.ne_of_gt k)), q1 j k]; exact .p1 j k

/-- the step of quarters, from signs alone -/
noncomputable def stepQ (qa qb C : Int) : Int := if (qb - qa).fmod 4 = 2 then (if 0 < C then 2 else -2) else if (qb - qa).fmod 4 = 3 then -1 else (qb - qa).fmod 4
/-- the crossing -/
noncomputable def crossW (v v' C : Int) : Int := if v ≤ 0 ∧ 0 < v' ∧ 0 < C then 1 else if v' ≤ 0 ∧ 0 < v ∧ C < 0 then -1 else 0
theorem w_uu {v v' C : Int} (h : 0 < v) (k : 0 < v') : crossW v v' C = 0 := (if_neg fun e => absurd e.1 (Int.not_le.mpr h)).trans (if_neg fun e => absurd e.1 (Int.not_le.mpr k))
theorem w_ll {v v' C : Int} (h : v ≤ 0) (k : v' ≤ 0) : crossW v v' C = 0 := (if_neg fun e => absurd e.2.1 (Int.not_lt.mpr k)).trans (if_neg fun e => absurd e.2.1 (Int.not_lt.mpr h))
theorem w_up {v v' C : Int} (h : v ≤ 0) (k : 0 < v') (c : 0 < C) : crossW v v' C = 1 := if_pos ⟨h, k, c⟩
theorem w_no {v v' C : Int} (k : 0 < v') (c : ¬ 0 < C) : crossW v v' C = 0 := (if_neg fun e => c e.2.2).trans (if_neg fun e => absurd e.1 (Int.not_le.mpr k))
theorem w_dn {v v' C : Int} (h : 0 < v) (k : v' ≤ 0) (c : C < 0) : crossW v v' C = -1 := (if_neg fun e => absurd e.1 (Int.not_le.mpr h)).trans (if_pos ⟨k, h, c⟩)
theorem w_nd {v v' C : Int} (h : 0 < v) (c : ¬ C < 0) : crossW v v' C = 0 := (if_neg fun e => absurd e.1 (Int.not_le.mpr h)).trans (if_neg fun e => c e.2.2)
theorem s_p {qa qb C : Int} (h : (qb - qa).fmod 4 = 2) (c : 0 < C) : stepQ qa qb C = 2 := (if_pos h).trans (if_pos c)
theorem s_n {qa qb C : Int} (h : (qb - qa).fmod 4 = 2) (c : ¬ 0 < C) : stepQ qa qb C = -2 := (if_pos h).trans (if_neg c)
theorem sub_n {P R : Int} (h : P < R) : P - R < 0 := Int.sub_neg_of_lt h
theorem sub_p {P R : Int} (h : R < P) : 0 < P - R := Int.sub_pos_of_lt h
theorem np {C : Int} (h : C < 0) : ¬ 0 < C := Int.not_lt.mpr (Int.le_of_lt h)
theorem step_core (u v u' v' : Int) (hn : (u ≤ 0 ∧ 0 ≤ u') ∨ (u' ≤ 0 ∧ 0 ≤ u) → (v ≤ 0 ∧ 0 ≤ v') ∨ (v' ≤ 0 ∧ 0 ≤ v) → u * v' - u' * v ≠ 0) :
    stepQ (quarter u v) (quarter u' v') (u * v' - u' * v) = 4 * crossW v v' (u * v' - u' * v) + phi u' v' - phi u v := by
  have ha : ¬ (u = 0 ∧ v = 0) := fun e => by
    obtain ⟨rfl, rfl⟩ := e
    refine hn ?_ ?_ (by simp)
    · rcases Int.le_total 0 u' with h | h
      · exact .inl ⟨Int.le_refl _, h⟩
      · exact .inr ⟨h, Int.le_refl _⟩
    · rcases Int.le_total 0 v' with h | h
      · exact .inl ⟨Int.le_refl _, h⟩
      · exact .inr ⟨h, Int.le_refl _⟩
  have hb : ¬ (u' = 0 ∧ v' = 0) := fun e => by
    obtain ⟨rfl, rfl⟩ := e
    refine hn ?_ ?_ (by simp)
    · rcases Int.le_total u 0 with h | h
      · exact .inl ⟨h, Int.le_refl _⟩
      · exact .inr ⟨Int.le_refl _, h⟩
    · rcases Int.le_total v 0 with h | h
      · exact .inl ⟨h, Int.le_refl _⟩
      · exact .inr ⟨Int.le_refl _, h⟩
  have ka := kind u v ha
  have kb := kind u' v' hb
  generalize quarter u v = qa at ka ⊢
  generalize phi u v = fa at ka ⊢
  generalize quarter u' v' = qb at kb ⊢
  generalize phi u' v' = fb at kb ⊢
  have side : ∀ {C : Int}, C ≠ 0 → ¬ 0 < C → C < 0 := fun h k => (Int.lt_or_lt_of_ne h).elim id fun q => absurd q k
  have ll := @Int.le_of_lt
  cases ka with
  | p4 h => cases kb with
    | p4 h' => rw [w_ll (Int.le_refl _) (Int.le_refl _)]; rfl
    | p0 h' k' => rw [w_up (Int.le_refl _) k' (sub_p (by rw [Int.mul_zero]; exact Int.mul_pos h k'))]; rfl
    | p1 h' k' => rw [w_up (Int.le_refl _) k' (sub_p (by rw [Int.mul_zero]; exact Int.mul_pos h k'))]; rfl
    | p2 h' k' => rw [w_ll (Int.le_refl _) k', s_n rfl (by rw [Int.mul_zero, Int.sub_zero]; exact Int.not_lt.mpr (Int.mul_nonpos_of_nonneg_of_nonpos (ll h) k'))]; rfl
    | p3 h' k' => rw [w_ll (Int.le_refl _) (ll k')]; rfl
  | p0 h k => cases kb with
    | p4 h' => rw [w_dn k (Int.le_refl _) (sub_n (by rw [Int.mul_zero]; exact Int.mul_pos h' k))]; rfl
    | p0 h' k' => rw [w_uu k k']; rfl
    | p1 h' k' => rw [w_uu k k']; rfl
    | p2 h' k' =>
      have hc := hn (.inr ⟨ll h', ll h⟩) (.inr ⟨k', ll k⟩)
      by_cases c : 0 < u * v' - u' * v
      · rw [w_nd k (Int.not_lt.mpr (ll c)), s_p rfl c]; rfl
      · rw [w_dn k k' (side hc c), s_n rfl c]; rfl
    | p3 h' k' => rw [w_dn k (ll k') (sub_n (Int.lt_of_lt_of_le (Int.mul_neg_of_pos_of_neg h k') (Int.mul_nonneg h' (ll k))))]; rfl
  | p1 h k => cases kb with
    | p4 h' => rw [w_dn k (Int.le_refl _) (sub_n (by rw [Int.mul_zero]; exact Int.mul_pos h' k))]; rfl
    | p0 h' k' => rw [w_uu k k']; rfl
    | p1 h' k' => rw [w_uu k k']; rfl
    | p2 h' k' => rw [w_nd k (Int.not_lt.mpr (ll (sub_p (Int.lt_of_lt_of_le (Int.mul_neg_of_neg_of_pos h' k) (Int.mul_nonneg_of_nonpos_of_nonpos h k')))))]; rfl
    | p3 h' k' =>
      have hc := hn (.inl ⟨h, h'⟩) (.inr ⟨ll k', ll k⟩)
      by_cases c : 0 < u * v' - u' * v
      · rw [w_nd k (Int.not_lt.mpr (ll c)), s_p rfl c]; rfl
      · rw [w_dn k (ll k') (side hc c), s_n rfl c]; rfl
  | p2 h k => cases kb with
    | p4 h' =>
      have hc := hn (.inl ⟨ll h, ll h'⟩) (.inl ⟨k, Int.le_refl _⟩)
      rw [w_ll k (Int.le_refl _), s_p rfl ((Int.lt_or_lt_of_ne hc).elim (fun q => absurd (Int.mul_nonpos_of_nonneg_of_nonpos (ll h') k) (Int.not_le.mpr (by rw [Int.mul_zero] at q; omega))) id)]; rfl
    | p0 h' k' =>
      by_cases c : 0 < u * v' - u' * v
      · rw [w_up k k' c, s_p rfl c]; rfl
      · rw [w_no k' c, s_n rfl c]; rfl
    | p1 h' k' => rw [w_no k' (np (sub_n (Int.lt_of_lt_of_le (Int.mul_neg_of_neg_of_pos h k') (Int.mul_nonneg_of_nonpos_of_nonpos h' k))))]; rfl
    | p2 h' k' => rw [w_ll k k']; rfl
    | p3 h' k' => rw [w_ll k (ll k')]; rfl
  | p3 h k => cases kb with
    | p4 h' => rw [w_ll (ll k) (Int.le_refl _)]; rfl
    | p0 h' k' => rw [w_up (ll k) k' (sub_p (Int.lt_of_lt_of_le (Int.mul_neg_of_pos_of_neg h' k) (Int.mul_nonneg h (ll k'))))]; rfl
    | p1 h' k' =>
      by_cases c : 0 < u * v' - u' * v
      · rw [w_up (ll k) k' c, s_p rfl c]; rfl
      · rw [w_no k' c, s_n rfl c]; rfl
    | p2 h' k' => rw [w_ll (ll k) k']; rfl
    | p3 h' k' => rw [w_ll (ll k) (ll k')]; rfl

/-- from the place, as the middle -/
theorem le_mid (a x : Int) : a ≤ x ↔ a - x ≤ 0 := ⟨fun h => Int.sub_nonpos_of_le h, fun h => Int.le_of_sub_nonpos h⟩
theorem ge_mid (a x : Int) : x ≤ a ↔ 0 ≤ a - x := ⟨fun h => Int.sub_nonneg_of_le h, fun h => Int.le_of_sub_nonneg h⟩
theorem gt_mid (a x : Int) : x < a ↔ 0 < a - x := ⟨fun h => Int.sub_pos_of_lt h, fun h => Int.lt_of_sub_pos h⟩
theorem wc_mid (l : Pt × Pt) (x y : Int) : wcL l x y = crossW (l.1.2 - y) (l.2.2 - y) (crossL l x y) := by
  unfold wcL crossW
  rw [side_cross]
  simp only [propext (le_mid l.1.2 y), propext (le_mid l.2.2 y), propext (gt_mid l.1.2 y), propext (gt_mid l.2.2 y)]
theorem btw {a b x : Int} : (min a b ≤ x ∧ x ≤ max a b) ↔ ((a - x ≤ 0 ∧ 0 ≤ b - x) ∨ (b - x ≤ 0 ∧ 0 ≤ a - x)) := by omega
theorem line_core (l : Pt × Pt) (x y : Int) (h : isOnL l x y = false) : qsL l x y = 4 * wcL l x y + phi (l.2.1 - x) (l.2.2 - y) - phi (l.1.1 - x) (l.1.2 - y) := by
  rw [wc_mid]
  exact step_core (l.1.1 - x) (l.1.2 - y) (l.2.1 - x) (l.2.2 - y) fun h1 h2 h3 => of_decide_eq_false h ⟨(btw.mpr h1).1, (btw.mpr h1).2, (btw.mpr h2).1, (btw.mpr h2).2, h3⟩

/-! sums -/
theorem sum_append (a b : List Int) : (a ++ b).sum = a.sum + b.sum := by
  induction a with
  | nil => simp
  | cons x a ih => rw [List.cons_append, List.sum_cons, List.sum_cons, ih]; omega
theorem perm_sum {a b : List Int} (h : a.Perm b) : a.sum = b.sum := by
  induction h with
  | nil => rfl
  | cons x _ ih => rw [List.sum_cons, List.sum_cons, ih]
  | swap x y l => simp only [List.sum_cons]; omega
  | trans _ _ h1 h2 => rw [h1, h2]
theorem perm_any {α : Type} {a b : List α} (f : α → Bool) (h : a.Perm b) : a.any f = b.any f := by
  induction h with
  | nil => rfl
  | cons x _ ih => rw [List.any_cons, List.any_cons, ih]
  | swap x y l => simp only [List.any_cons]; cases f x <;> cases f y <;> rfl
  | trans _ _ h1 h2 => rw [h1, h2]
theorem sum_filter (f : Pt × Pt → Int) (hf : ∀ e, nz e = false → f e = 0) (l : List (Pt × Pt)) : ((l.filter nz).map f).sum = (l.map f).sum := by
  induction l with
  | nil => rfl
  | cons a l ih =>
    rw [List.filter_cons, List.map_cons, List.sum_cons, ← ih]
    cases h : nz a
    · rw [hf a h]; simp
    · simp
theorem cyc_line (s : Sub) : (cycS s).Perm (lineS s) := by
  show ((lastP s.start s.pts, s.start) :: pairs s.start s.pts).Perm _
  exact (List.perm_append_comm (l₁ := [(lastP s.start s.pts, s.start)]))
theorem sum_edges (f : Pt × Pt → Int) (hf : ∀ e, nz e = false → f e = 0) (ss : List Sub) : ((edgesS ss).map f).sum = ((linesS ss).map f).sum := by
  induction ss with
  | nil => rfl
  | cons s ss ih =>
    rw [show edgesS (s :: ss) = (cycS s).filter nz ++ edgesS ss from rfl, show linesS (s :: ss) = lineS s ++ linesS ss from rfl, List.map_append, List.map_append, sum_append, sum_append, ih, sum_filter f hf, perm_sum ((cyc_line s).map f)]
theorem nz_false {e : Pt × Pt} (h : nz e = false) : e.1 = e.2 := by
  unfold nz at h
  exact Classical.not_not.mp (of_decide_eq_false h)
theorem wc_nz (x y : Int) (e : Pt × Pt) (h : nz e = false) : wcL e x y = 0 := by
  have := nz_false h
  unfold wcL
  rw [this, if_neg (by omega), if_neg (by omega)]
theorem kc_nz (x y : Int) (e : Pt × Pt) (h : nz e = false) : kcL e x y = 0 := by
  have := nz_false h
  unfold kcL
  rw [this, if_neg (by omega), if_neg (by omega)]
theorem ar_nz (e : Pt × Pt) (h : nz e = false) : arL e = 0 := by
  have := nz_false h
  unfold arL
  rw [this]; omega

/-! a place on a line -/
theorem on_start (e : Pt × Pt) : isOnL e e.1.1 e.1.2 = true := by
  unfold isOnL crossL
  refine decide_eq_true ⟨by omega, by omega, by omega, by omega, ?_⟩
  rw [Int.sub_self, Int.sub_self]; simp
theorem on_nz (x y : Int) (p : Pt) (h : isOnL (p, p) x y = true) : p = (x, y) := by
  unfold isOnL at h
  have := of_decide_eq_true h
  dsimp only at this
  exact Prod.ext (by dsimp only; omega) (by dsimp only; omega)
theorem on_edges (ss : List Sub) (hs : ∀ s ∈ ss, LatS s) (x y : Int) : edOn ss x y = (linesS ss).any (isOnL · x y) := by
  unfold edOn
  induction ss with
  | nil => rfl
  | cons s ss ih =>
    rw [show edgesS (s :: ss) = (cycS s).filter nz ++ edgesS ss from rfl, show linesS (s :: ss) = lineS s ++ linesS ss from rfl, List.any_append, List.any_append, ih (fun t ht => hs t (List.mem_cons_of_mem _ ht)), ← perm_any _ (cyc_line s)]
    congr 1
    have h := hs s (List.mem_cons_self ..)
    apply Bool.eq_iff_iff.mpr
    rw [List.any_eq_true, List.any_eq_true]
    constructor
    · rintro ⟨e, he, h1⟩
      exact ⟨e, (List.mem_filter.mp he).1, h1⟩
    · rintro ⟨e, he, h1⟩
      cases hz : nz e
      · have he' := nz_false hz
        obtain ⟨p, q⟩ := e
        dsimp only at he'
        subst he'
        have hp := on_nz x y p h1
        have hps : p = s.start := by
          rcases List.mem_cons.mp (show (p, p) ∈ (lastP s.start s.pts, s.start) :: pairs s.start s.pts from he) with h2 | h2
          · exact congrArg Prod.snd h2
          · exact absurd rfl (h.2.2.2.2 _ h2)
        cases hpts : s.pts with
        | nil => have := h.1; rw [hpts] at this; simp at this
        | cons a r =>
          have hm : (s.start, a) ∈ pairs s.start s.pts := by rw [hpts]; exact List.mem_cons_self ..
          refine ⟨(s.start, a), List.mem_filter.mpr ⟨List.mem_cons_of_mem _ hm, decide_eq_true (h.2.2.2.2 _ hm)⟩, ?_⟩
          have := on_start (s.start, a)
          rw [← hps, hp] at this
          rw [← hps, hp]; exact this
      · exact ⟨e, List.mem_filter.mpr ⟨he, hz⟩, h1⟩

/-! the turning -/
theorem pairs_phi (f : Pt → Int) (p : Pt) (r : List Pt) : ((pairs p r).map fun e => f e.2 - f e.1).sum = f (lastP p r) - f p := by
  induction r generalizing p with
  | nil => simp [pairs, lastP]
  | cons a r ih =>
    rw [pairs, List.map_cons, List.sum_cons, ih]
    simp only [lastP]; omega
theorem line_phi (f : Pt → Int) (s : Sub) : ((lineS s).map fun e => f e.2 - f e.1).sum = 0 := by
  rw [lineS, List.map_append, sum_append, pairs_phi]
  simp; omega
theorem turn_lines (x y : Int) (L : List (Pt × Pt)) (h : ∀ e ∈ L, isOnL e x y = false) : (L.map (qsL · x y)).sum = 4 * (L.map (wcL · x y)).sum + (L.map fun e => phi (e.2.1 - x) (e.2.2 - y) - phi (e.1.1 - x) (e.1.2 - y)).sum := by
  induction L with
  | nil => rfl
  | cons a L ih =>
    have h1 := line_core a x y (h a (List.mem_cons_self ..))
    have h2 := ih (fun e he => h e (List.mem_cons_of_mem _ he))
    simp only [List.map_cons, List.sum_cons]
    rw [h1, h2]; omega
theorem lines_phi (f : Pt → Int) (ss : List Sub) : ((linesS ss).map fun e => f e.2 - f e.1).sum = 0 := by
  induction ss with
  | nil => rfl
  | cons s ss ih => rw [show linesS (s :: ss) = lineS s ++ linesS ss from rfl, List.map_append, sum_append, line_phi, ih]; rfl
theorem parity (x y : Int) (L : List (Pt × Pt)) : ∃ m : Int, (L.map (kcL · x y)).sum = (L.map (wcL · x y)).sum + 2 * m := by
  induction L with
  | nil => exact ⟨0, rfl⟩
  | cons a L ih =>
    obtain ⟨m, e⟩ := ih
    have : kcL a x y = wcL a x y ∨ kcL a x y = wcL a x y + 2 := by
      unfold kcL wcL
      repeat' split
      all_goals omega
    simp only [List.map_cons, List.sum_cons]
    rcases this with h | h
    · exact ⟨m, by rw [e, h]; omega⟩
    · exact ⟨m + 1, by rw [e, h]; omega⟩
theorem ins_law (ss : List Sub) (hs : ∀ s ∈ ss, LatS s) (x y : Int) : insL (linesS ss) x y = (insW ss x y, insE ss x y) := by
  unfold insL insW insE
  rw [on_edges ss hs]
  cases h : (linesS ss).any (isOnL · x y)
  · have hon : ∀ e ∈ linesS ss, isOnL e x y = false := by
      intro e he
      rw [List.any_eq_false] at h
      simpa using h e he
    have hq := turn_lines x y (linesS ss) hon
    have hphi : ((linesS ss).map fun e => phi (e.2.1 - x) (e.2.2 - y) - phi (e.1.1 - x) (e.1.2 - y)).sum = 0 := lines_phi (fun p => phi (p.1 - x) (p.2 - y)) ss
    rw [hphi] at hq
    rw [sum_edges _ (wc_nz x y), sum_edges _ (kc_nz x y), hq]
    obtain ⟨m, hm⟩ := parity x y (linesS ss)
    rw [hm]
    generalize ((linesS ss).map (wcL · x y)).sum = W
    have e1 : (4 * W + 0).fdiv 4 = W := by rw [Int.fdiv_eq_ediv_of_nonneg _ (by omega)]; omega
    have e2 : (W + 2 * m).fmod 2 = W.fmod 2 := by rw [Int.fmod_eq_emod_of_nonneg _ (by omega), Int.fmod_eq_emod_of_nonneg _ (by omega)]; omega
    rw [e1, e2]
    simp
  · simp
theorem area_law (ss : List Sub) : ((edgesS ss).map arL).sum = ((linesS ss).map arL).sum := sum_edges _ ar_nz ss
end Mine
namespace Mine
open PySem PySem.W PyProof.Rows PySem.Calls
set_option maxRecDepth 100000

/-! lines in another order -/
theorem ins_perm (ss tt : List Sub) (h : (edgesS ss).Perm (edgesS tt)) (x y : Int) : insW ss x y = insW tt x y ∧ insE ss x y = insE tt x y := by
  unfold insW insE edOn
  rw [perm_any _ h, perm_sum (h.map (wcL · x y)), perm_sum (h.map (kcL · x y))]
  exact ⟨rfl, rfl⟩

/-! lines gone along the other way -/
noncomputable def swp (e : Pt × Pt) : Pt × Pt := (e.2, e.1)
theorem cross_swp (e : Pt × Pt) (x y : Int) : crossL (swp e) x y = - crossL e x y := by
  unfold crossL swp; dsimp only; omega
theorem on_mid (l : Pt × Pt) (x y : Int) : isOnL l x y = decide (((l.1.1 - x ≤ 0 ∧ 0 ≤ l.2.1 - x) ∨ (l.2.1 - x ≤ 0 ∧ 0 ≤ l.1.1 - x)) ∧ ((l.1.2 - y ≤ 0 ∧ 0 ≤ l.2.2 - y) ∨ (l.2.2 - y ≤ 0 ∧ 0 ≤ l.1.2 - y)) ∧ crossL l x y = 0) := by
  unfold isOnL
  congr 1
  rw [← btw, ← btw]
  exact propext ⟨fun ⟨a, b, c, d, e⟩ => ⟨⟨a, b⟩, ⟨c, d⟩, e⟩, fun ⟨⟨a, b⟩, ⟨c, d⟩, e⟩ => ⟨a, b, c, d, e⟩⟩
theorem on_swp (e : Pt × Pt) (x y : Int) : isOnL (swp e) x y = isOnL e x y := by
  rw [on_mid, on_mid, cross_swp]
  congr 1
  exact propext ⟨fun ⟨a, b, c⟩ => ⟨a.symm, b.symm, Int.neg_eq_zero.mp c⟩, fun ⟨a, b, c⟩ => ⟨a.symm, b.symm, Int.neg_eq_zero.mpr c⟩⟩
theorem w_neg (v v' C : Int) : crossW v' v (-C) = - crossW v v' C := by
  rcases Int.lt_or_le 0 v with h | h <;> rcases Int.lt_or_le 0 v' with k | k
  · rw [w_uu h k, w_uu k h]; rfl
  · by_cases c : C < 0
    · rw [w_dn h k c, w_up k h (Int.neg_pos_of_neg c)]; rfl
    · rw [w_nd h c, w_no h fun q => c (Int.neg_of_neg_pos q)]; rfl
  · by_cases c : 0 < C
    · rw [w_up h k c, w_dn k h (Int.neg_neg_of_pos c)]
    · rw [w_no k c, w_nd k fun q => c (Int.pos_of_neg_neg q)]; rfl
  · rw [w_ll h k, w_ll k h]; rfl
theorem wc_swp (e : Pt × Pt) (x y : Int) : wcL (swp e) x y = - wcL e x y := by
  rw [wc_mid, wc_mid, cross_swp]
  exact w_neg _ _ _
theorem kc_abs (e : Pt × Pt) (x y : Int) : kcL e x y = (wcL e x y).natAbs := by
  unfold kcL wcL
  split
  · rfl
  · split <;> rfl
theorem kc_swp (e : Pt × Pt) (x y : Int) : kcL (swp e) x y = kcL e x y := by
  rw [kc_abs, kc_abs, wc_swp, Int.natAbs_neg]
theorem pairs_last (q : Pt) (l : List Pt) (z : Pt) : pairs q (l ++ [z]) = pairs q l ++ [(lastP q l, z)] := pairs_app q l z
/-- lines between neighbours -/
noncomputable def adj : List Pt → List (Pt × Pt)
  | [] => []
  | p :: l => pairs p l
theorem adj_cons (p q : Pt) (l : List Pt) : adj (p :: q :: l) = (p, q) :: adj (q :: l) := rfl
theorem adj_snoc (l : List Pt) (p q : Pt) : adj (l ++ [p, q]) = adj (l ++ [p]) ++ [(p, q)] := by
  cases l with
  | nil => rfl
  | cons a l =>
    show pairs a (l ++ [p, q]) = pairs a (l ++ [p]) ++ [(p, q)]
    rw [show l ++ [p, q] = (l ++ [p]) ++ [q] by simp, pairs_app, last_app]
theorem adj_rev (l : List Pt) : (adj l.reverse).Perm ((adj l).map swp) := by
  match l with
  | [] => exact .nil
  | [p] => exact .nil
  | p :: q :: l =>
    have ih := adj_rev (q :: l)
    rw [List.reverse_cons, List.reverse_cons, List.append_assoc]
    rw [show [q] ++ [p] = [q, p] from rfl, adj_snoc, adj_cons, List.map_cons]
    rw [List.reverse_cons] at ih
    exact (List.perm_append_comm (l₁ := adj (l.reverse ++ [q])) (l₂ := [(q, p)])).trans (.cons _ ih)
theorem rev_ends (s : Sub) : ends (revS s) = (ends s).reverse := by
  obtain ⟨i, e⟩ := lastP_app s.start s.pts
  show lastP s.start s.pts :: (ends s).dropLast.reverse = _
  have e' : ends s = i ++ [lastP s.start s.pts] := e
  rw [e', List.dropLast_concat, List.reverse_append]
  rfl
theorem rev_last (s : Sub) : lastP (revS s).start (revS s).pts = s.start := by
  obtain ⟨i, e⟩ := lastP_app (revS s).start (revS s).pts
  have e' : ends (revS s) = i ++ [lastP (revS s).start (revS s).pts] := e
  rw [rev_ends] at e'
  have e2 : ends s = (lastP (revS s).start (revS s).pts) :: i.reverse := by
    have := congrArg List.reverse e'
    rw [List.reverse_reverse, List.reverse_append] at this
    exact this
  have : s.start :: s.pts = (lastP (revS s).start (revS s).pts) :: i.reverse := e2
  exact (List.cons.inj this).1.symm
theorem cyc_rev (s : Sub) : (cycS (revS s)).Perm ((cycS s).map swp) := by
  have h1 : cycS (revS s) = (s.start, lastP s.start s.pts) :: adj (ends s).reverse := by
    rw [← rev_ends]
    show (lastP (revS s).start (revS s).pts, (revS s).start) :: pairs (revS s).start (revS s).pts = _
    rw [rev_last]
    rfl
  have h2 : cycS s = (lastP s.start s.pts, s.start) :: adj (ends s) := rfl
  rw [h1, h2, List.map_cons]
  exact .cons _ (adj_rev _)
theorem nz_swp (e : Pt × Pt) : nz (swp e) = nz e := by
  unfold nz swp
  dsimp only
  congr 1
  exact propext ⟨fun h k => h k.symm, fun h k => h k.symm⟩
theorem filter_swp (l : List (Pt × Pt)) : (l.map swp).filter nz = (l.filter nz).map swp := by
  rw [List.filter_map]
  congr 1
  apply List.filter_congr
  intro e _
  exact nz_swp e
theorem edges_rev (ss : List Sub) : (edgesS (ss.map revS)).Perm ((edgesS ss).map swp) := by
  induction ss with
  | nil => exact .nil
  | cons s ss ih =>
    rw [List.map_cons, show edgesS (revS s :: ss.map revS) = (cycS (revS s)).filter nz ++ edgesS (ss.map revS) from rfl, show edgesS (s :: ss) = (cycS s).filter nz ++ edgesS ss from rfl, List.map_append, ← filter_swp]
    exact ((cyc_rev s).filter nz).append ih
theorem sum_neg (f : Pt × Pt → Int) (l : List (Pt × Pt)) : (l.map fun e => - f e).sum = - (l.map f).sum := by
  induction l with
  | nil => rfl
  | cons a l ih => simp only [List.map_cons, List.sum_cons]; rw [ih]; omega
theorem ins_rev (ss : List Sub) (x y : Int) : insW (ss.map revS) x y = insW ss x y ∧ insE (ss.map revS) x y = insE ss x y := by
  unfold insW insE edOn
  have h := edges_rev ss
  rw [perm_any _ h, perm_sum (h.map (wcL · x y)), perm_sum (h.map (kcL · x y)), List.map_map, List.map_map, List.any_map]
  have e1 : (isOnL · x y) ∘ swp = (isOnL · x y) := funext fun e => on_swp e x y
  have e2 : (wcL · x y) ∘ swp = fun e => - wcL e x y := funext fun e => wc_swp e x y
  have e3 : (kcL · x y) ∘ swp = (kcL · x y) := funext fun e => kc_swp e x y
  rw [e1, e2, e3, sum_neg (wcL · x y)]
  refine ⟨?_, rfl⟩
  congr 2
  apply Bool.eq_iff_iff.mpr
  rw [beq_iff_eq, beq_iff_eq]
  omega

/-! lines moved -/
noncomputable def movP (f : Int) (p : Pt) : Pt := (p.1 + f, p.2 + f)
noncomputable def movE (f : Int) (e : Pt × Pt) : Pt × Pt := (movP f e.1, movP f e.2)
noncomputable def movS (f : Int) (s : Sub) : Sub := ⟨movP f s.start, s.pts.map (movP f), s.closed⟩
theorem movP_inj {f : Int} {p q : Pt} (h : movP f p = movP f q) : p = q := by
  have h1 : p.1 + f = q.1 + f := congrArg Prod.fst h
  have h2 : p.2 + f = q.2 + f := congrArg Prod.snd h
  exact Prod.ext (by omega) (by omega)
theorem pairs_mov (f : Int) (p : Pt) (l : List Pt) : pairs (movP f p) (l.map (movP f)) = (pairs p l).map (movE f) := by
  induction l generalizing p with
  | nil => rfl
  | cons a l ih => rw [List.map_cons, pairs, ih, pairs, List.map_cons]; rfl
theorem last_mov (f : Int) (p : Pt) (l : List Pt) : lastP (movP f p) (l.map (movP f)) = movP f (lastP p l) := by
  induction l generalizing p with
  | nil => rfl
  | cons a l ih => exact ih a
theorem nz_mov (f : Int) (e : Pt × Pt) : nz (movE f e) = nz e := by
  unfold nz movE
  dsimp only
  congr 1
  exact propext ⟨fun h k => h (by rw [k]), fun h k => h (movP_inj k)⟩
theorem cyc_mov (f : Int) (s : Sub) : cycS (movS f s) = (cycS s).map (movE f) := by
  show pairs (lastP (movP f s.start) (s.pts.map (movP f))) (movP f s.start :: s.pts.map (movP f)) = _
  rw [last_mov, ← List.map_cons, pairs_mov]
  rfl
theorem edges_mov (f : Int) (ss : List Sub) : edgesS (ss.map (movS f)) = (edgesS ss).map (movE f) := by
  induction ss with
  | nil => rfl
  | cons s ss ih =>
    rw [List.map_cons, show edgesS (movS f s :: ss.map (movS f)) = (cycS (movS f s)).filter nz ++ edgesS (ss.map (movS f)) from rfl, show edgesS (s :: ss) = (cycS s).filter nz ++ edgesS ss from rfl, List.map_append, ih, cyc_mov, List.filter_map]
    congr 2
    apply List.filter_congr
    intro e _
    exact nz_mov f e
theorem cross_mov (f : Int) (e : Pt × Pt) (x y : Int) : crossL (movE f e) (x + f) (y + f) = crossL e x y := by
  unfold crossL movE movP
  dsimp only
  have h : ∀ a b : Int, a + f - (b + f) = a - b := fun a b => by omega
  rw [h, h, h, h]
theorem mid_mov (a f x : Int) : a + f - (x + f) = a - x := by omega
theorem on_mov (f : Int) (e : Pt × Pt) (x y : Int) : isOnL (movE f e) (x + f) (y + f) = isOnL e x y := by
  rw [on_mid, on_mid, cross_mov]
  simp only [movE, movP, mid_mov]
theorem wc_mov (f : Int) (e : Pt × Pt) (x y : Int) : wcL (movE f e) (x + f) (y + f) = wcL e x y := by
  rw [wc_mid, wc_mid, cross_mov]
  simp only [movE, movP, mid_mov]
theorem ins_mov (f : Int) (ss : List Sub) (x y : Int) : insW (ss.map (movS f)) (x + f) (y + f) = insW ss x y := by
  unfold insW edOn
  rw [edges_mov, List.map_map, List.any_map]
  have e1 : (isOnL · (x + f) (y + f)) ∘ movE f = (isOnL · x y) := funext fun e => on_mov f e x y
  have e2 : (wcL · (x + f) (y + f)) ∘ movE f = (wcL · x y) := funext fun e => wc_mov f e x y
  rw [e1, e2]

/-! subpaths exchanged -/
theorem edges_two (s t : Sub) : (edgesS [t, s]).Perm (edgesS [s, t]) := by
  simp only [edgesS, List.flatMap_cons, List.flatMap_nil, List.append_nil]
  exact List.perm_append_comm
end Mine
namespace Mine
open PySem PySem.W PyProof.Rows PySem.Calls
set_option maxRecDepth 100000

/-! rows, kind by kind -/
inductive RK where
  | m (p : Pt)
  | l (p : Pt)
  | z
noncomputable def encK : RK → PyData
  | .m p => row2 sM p
  | .l p => row2 sL p
  | .z => zrow
noncomputable def subRK (s : Sub) : List RK := .m s.start :: (s.pts.map .l ++ (if s.closed = true then [.z] else []))
noncomputable def allK (ss : List Sub) : List RK := ss.flatMap subRK
theorem subRows_K (s : Sub) : subRows s = (subRK s).map encK := by
  unfold subRows subRK
  rw [List.map_cons, List.map_append, List.map_map]
  congr 2
  split <;> rfl
theorem allRows_K (ss : List Sub) : allRows ss = (allK ss).map encK := by
  induction ss with
  | nil => rfl
  | cons s ss ih => rw [show allRows (s :: ss) = subRows s ++ allRows ss from rfl, ih, subRows_K, show allK (s :: ss) = subRK s ++ allK ss from rfl, List.map_append]
noncomputable def movK : RK → RK
  | .m p => .m (movP 3000000 p)
  | .l p => .l (movP 3000000 p)
  | .z => .z
theorem allK_mov (ss : List Sub) : (allK ss).map movK = allK (ss.map (movS 3000000)) := by
  induction ss with
  | nil => rfl
  | cons s ss ih =>
    rw [show allK (s :: ss) = subRK s ++ allK ss from rfl, List.map_append, ih, List.map_cons, show allK (movS 3000000 s :: ss.map (movS 3000000)) = subRK (movS 3000000 s) ++ allK (ss.map (movS 3000000)) from rfl]
    congr 1
    unfold subRK movS
    dsimp only
    cases s.closed <;> simp [movK]
theorem slice_tup_to (a : PyData) (xs : List PyData) (h : xs.length + 1 ≤ 1000000) : sliceV none (some 1) (.d (.tuple (a :: xs))) = some (.d (.tuple [a])) := by
  unfold sliceV
  dsimp only
  rw [if_pos (by rw [List.length_cons, sizeOk_of h]; rfl), if_neg (by simp), if_pos ⟨rfl, rfl⟩]
  rfl
theorem slice_tup_from (a : PyData) (xs : List PyData) (h : xs.length + 1 ≤ 1000000) : sliceV (some 1) none (.d (.tuple (a :: xs))) = some (.d (.tuple xs)) := by
  unfold sliceV
  dsimp only
  rw [if_pos (by rw [List.length_cons, sizeOk_of h]; rfl), if_pos ⟨rfl, rfl⟩]
  rfl

/-! where a subpath begins -/
noncomputable def idx : Nat → List RK → List (Nat × RK)
  | _, [] => []
  | n, x :: l => (n, x) :: idx (n + 1) l
noncomputable def encI (q : Nat × RK) : PyData := .tuple [.int q.1, encK q.2]
theorem enum_idx (n : Nat) (l : List RK) : enumL n (l.map encK) = (idx n l).map encI := by
  induction l generalizing n with
  | nil => rfl
  | cons a l ih => rw [List.map_cons, enumL, ih]; rfl
theorem idx_app (n : Nat) (a b : List RK) : idx n (a ++ b) = idx n a ++ idx (n + a.length) b := by
  induction a generalizing n with
  | nil => rfl
  | cons x a ih => rw [List.cons_append, idx, ih, idx, List.cons_append, List.length_cons, show n + 1 + a.length = n + (a.length + 1) by omega]
noncomputable def gM (q : Nat × RK) : Option PyData := match q.2 with
  | .m _ => some (.int q.1)
  | _ => none
theorem idx_none (l : List RK) (h : ∀ k ∈ l, ∀ p, k ≠ .m p) (n : Nat) : (idx n l).filterMap gM = [] := by
  induction l generalizing n with
  | nil => rfl
  | cons a l ih =>
    rw [idx, List.filterMap_cons, ih (fun k hk => h k (List.mem_cons_of_mem _ hk))]
    have := h a (List.mem_cons_self ..)
    cases a with
    | m p => exact absurd rfl (this p)
    | l p => rfl
    | z => rfl
theorem begins_last (pre : List Sub) (s : Sub) : ∃ i, (idx 0 (allK (pre ++ [s]))).filterMap gM = i ++ [.int (allK pre).length] := by
  have e : allK (pre ++ [s]) = allK pre ++ subRK s := by simp [allK]
  rw [e, idx_app, List.filterMap_append]
  refine ⟨(idx 0 (allK pre)).filterMap gM, ?_⟩
  congr 1
  unfold subRK
  rw [idx, List.filterMap_cons, idx_none]
  · show [PyData.int ((0 + (allK pre).length : Nat) : Int)] = _
    rw [Nat.zero_add]
  · intro k hk p
    rcases List.mem_append.mp hk with h | h
    · obtain ⟨q, _, rfl⟩ := List.mem_map.mp h
      intro h; cases h
    · split at h
      · rw [List.mem_singleton.mp h]; intro h; cases h
      · cases h
theorem idx_len (n : Nat) (l : List RK) : (idx n l).length = l.length := by
  induction l generalizing n with
  | nil => rfl
  | cons a l ih => rw [idx, List.length_cons, ih, List.length_cons]

/-! helpers -/
theorem insd_w (n : Nat) (ss : List Sub) (x y : Int) (dk : Dk) (hn : ss.length ≤ 8) (hs : ∀ s ∈ ss, GoodS s) (hp : Bd (x, y)) :
    (ev (n+40)).f (Str.ofString "insideness") [.d (.list (allRows ss)), .d (.int x), .d (.int y), .d (.str (Str.ofString "winding"))] dk = some (.d (.bool (insW ss x y)), dk) := by
  rw [insd_f n ss x y _ dk hn hs hp, if_neg (by decide +kernel)]
theorem insd_e (n : Nat) (ss : List Sub) (x y : Int) (dk : Dk) (hn : ss.length ≤ 8) (hs : ∀ s ∈ ss, GoodS s) (hp : Bd (x, y)) :
    (ev (n+40)).f (Str.ofString "insideness") [.d (.list (allRows ss)), .d (.int x), .d (.int y), .d (.str (Str.ofString "evenodd"))] dk = some (.d (.bool (insE ss x y)), dk) := by
  rw [insd_f n ss x y _ dk hn hs hp, if_pos (show Str.ofString "evenodd" = eoS from rfl)]
theorem cmpV_neB (a b c d : Bool) : cmpV .NotEq (.d (.list [.bool a, .bool b])) (.d (.list [.bool c, .bool d])) = some (!(a == c && b == d)) := by
  show (eqD (.list [.bool a, .bool b]) (.list [.bool c, .bool d])).map (!·) = _
  rw [eqD_B]; rfl
theorem range_four : rangeV [.d (.int 4)] = some (rangeL 0 1 4) := rfl
theorem ints_map (f : Pt × Pt → Int) (l : List (Pt × Pt)) : intsOf (l.map fun e => .int (f e)) = some (l.map f) := by
  induction l with
  | nil => rfl
  | cons a l ih => rw [List.map_cons, intsOf, ih]; rfl
theorem lines_bd {ss : List Sub} (hs : ∀ s ∈ ss, LatS s) : ∀ e ∈ linesS ss, BdL e := by
  intro e he
  obtain ⟨s, h1, h2⟩ := List.mem_flatMap.mp he
  exact cyc_bd (latS_good (hs s h1)) e ((cyc_line s).mem_iff.mpr h2)
theorem mov_good {s : Sub} (h : LatS s) : GoodS (movS 3000000 s) := by
  have hb : ∀ p, Lat p → Bd (movP 3000000 p) := by
    intro p hp
    obtain ⟨h1, h2, h3, h4⟩ := hp
    exact ⟨by show (p.1 + 3000000).natAbs ≤ _; omega, by show (p.2 + 3000000).natAbs ≤ _; omega⟩
  refine ⟨?_, hb _ h.2.2.1, ?_⟩
  · show (s.pts.map _).length ≤ 8
    rw [List.length_map]; have := h.2.1; omega
  · intro p hp
    obtain ⟨q, hq, rfl⟩ := List.mem_map.mp (show p ∈ s.pts.map (movP 3000000) from hp)
    exact hb _ (h.2.2.2.1 q hq)

theorem gv_law_0 (a0 a1 a2 a3 a4 a5 a6 a7 a8 a9 a10 a11 a12 : Option V) : getV [(Str.ofString "script", a0), (Str.ofString "deck", a1), (Str.ofString "rows", a2), (Str.ofString "lines", a3), (Str.ofString "moved", a4), (Str.ofString "go", a5), (Str.ofString "x", a6), (Str.ofString "y", a7), (Str.ofString "due", a8), (Str.ofString "back", a9), (Str.ofString "far", a10), (Str.ofString "begins", a11), (Str.ofString "others", a12)] (Str.ofString "script") = a0 := rfl
theorem sv_law_0 (a0 a1 a2 a3 a4 a5 a6 a7 a8 a9 a10 a11 a12 : Option V) (v : V) : setV [(Str.ofString "script", a0), (Str.ofString "deck", a1), (Str.ofString "rows", a2), (Str.ofString "lines", a3), (Str.ofString "moved", a4), (Str.ofString "go", a5), (Str.ofString "x", a6), (Str.ofString "y", a7), (Str.ofString "due", a8), (Str.ofString "back", a9), (Str.ofString "far", a10), (Str.ofString "begins", a11), (Str.ofString "others", a12)] (Str.ofString "script") v = [(Str.ofString "script", some v), (Str.ofString "deck", a1), (Str.ofString "rows", a2), (Str.ofString "lines", a3), (Str.ofString "moved", a4), (Str.ofString "go", a5), (Str.ofString "x", a6), (Str.ofString "y", a7), (Str.ofString "due", a8), (Str.ofString "back", a9), (Str.ofString "far", a10), (Str.ofString "begins", a11), (Str.ofString "others", a12)] := rfl
theorem gv_law_1 (a0 a1 a2 a3 a4 a5 a6 a7 a8 a9 a10 a11 a12 : Option V) : getV [(Str.ofString "script", a0), (Str.ofString "deck", a1), (Str.ofString "rows", a2), (Str.ofString "lines", a3), (Str.ofString "moved", a4), (Str.ofString "go", a5), (Str.ofString "x", a6), (Str.ofString "y", a7), (Str.ofString "due", a8), (Str.ofString "back", a9), (Str.ofString "far", a10), (Str.ofString "begins", a11), (Str.ofString "others", a12)] (Str.ofString "deck") = a1 := rfl
theorem sv_law_1 (a0 a1 a2 a3 a4 a5 a6 a7 a8 a9 a10 a11 a12 : Option V) (v : V) : setV [(Str.ofString "script", a0), (Str.ofString "deck", a1), (Str.ofString "rows", a2), (Str.ofString "lines", a3), (Str.ofString "moved", a4), (Str.ofString "go", a5), (Str.ofString "x", a6), (Str.ofString "y", a7), (Str.ofString "due", a8), (Str.ofString "back", a9), (Str.ofString "far", a10), (Str.ofString "begins", a11), (Str.ofString "others", a12)] (Str.ofString "deck") v = [(Str.ofString "script", a0), (Str.ofString "deck", some v), (Str.ofString "rows", a2), (Str.ofString "lines", a3), (Str.ofString "moved", a4), (Str.ofString "go", a5), (Str.ofString "x", a6), (Str.ofString "y", a7), (Str.ofString "due", a8), (Str.ofString "back", a9), (Str.ofString "far", a10), (Str.ofString "begins", a11), (Str.ofString "others", a12)] := rfl
theorem gv_law_2 (a0 a1 a2 a3 a4 a5 a6 a7 a8 a9 a10 a11 a12 : Option V) : getV [(Str.ofString "script", a0), (Str.ofString "deck", a1), (Str.ofString "rows", a2), (Str.ofString "lines", a3), (Str.ofString "moved", a4), (Str.ofString "go", a5), (Str.ofString "x", a6), (Str.ofString "y", a7), (Str.ofString "due", a8), (Str.ofString "back", a9), (Str.ofString "far", a10), (Str.ofString "begins", a11), (Str.ofString "others", a12)] (Str.ofString "rows") = a2 := rfl
theorem sv_law_2 (a0 a1 a2 a3 a4 a5 a6 a7 a8 a9 a10 a11 a12 : Option V) (v : V) : setV [(Str.ofString "script", a0), (Str.ofString "deck", a1), (Str.ofString "rows", a2), (Str.ofString "lines", a3), (Str.ofString "moved", a4), (Str.ofString "go", a5), (Str.ofString "x", a6), (Str.ofString "y", a7), (Str.ofString "due", a8), (Str.ofString "back", a9), (Str.ofString "far", a10), (Str.ofString "begins", a11), (Str.ofString "others", a12)] (Str.ofString "rows") v = [(Str.ofString "script", a0), (Str.ofString "deck", a1), (Str.ofString "rows", some v), (Str.ofString "lines", a3), (Str.ofString "moved", a4), (Str.ofString "go", a5), (Str.ofString "x", a6), (Str.ofString "y", a7), (Str.ofString "due", a8), (Str.ofString "back", a9), (Str.ofString "far", a10), (Str.ofString "begins", a11), (Str.ofString "others", a12)] := rfl
theorem gv_law_3 (a0 a1 a2 a3 a4 a5 a6 a7 a8 a9 a10 a11 a12 : Option V) : getV [(Str.ofString "script", a0), (Str.ofString "deck", a1), (Str.ofString "rows", a2), (Str.ofString "lines", a3), (Str.ofString "moved", a4), (Str.ofString "go", a5), (Str.ofString "x", a6), (Str.ofString "y", a7), (Str.ofString "due", a8), (Str.ofString "back", a9), (Str.ofString "far", a10), (Str.ofString "begins", a11), (Str.ofString "others", a12)] (Str.ofString "lines") = a3 := rfl
theorem sv_law_3 (a0 a1 a2 a3 a4 a5 a6 a7 a8 a9 a10 a11 a12 : Option V) (v : V) : setV [(Str.ofString "script", a0), (Str.ofString "deck", a1), (Str.ofString "rows", a2), (Str.ofString "lines", a3), (Str.ofString "moved", a4), (Str.ofString "go", a5), (Str.ofString "x", a6), (Str.ofString "y", a7), (Str.ofString "due", a8), (Str.ofString "back", a9), (Str.ofString "far", a10), (Str.ofString "begins", a11), (Str.ofString "others", a12)] (Str.ofString "lines") v = [(Str.ofString "script", a0), (Str.ofString "deck", a1), (Str.ofString "rows", a2), (Str.ofString "lines", some v), (Str.ofString "moved", a4), (Str.ofString "go", a5), (Str.ofString "x", a6), (Str.ofString "y", a7), (Str.ofString "due", a8), (Str.ofString "back", a9), (Str.ofString "far", a10), (Str.ofString "begins", a11), (Str.ofString "others", a12)] := rfl
theorem gv_law_4 (a0 a1 a2 a3 a4 a5 a6 a7 a8 a9 a10 a11 a12 : Option V) : getV [(Str.ofString "script", a0), (Str.ofString "deck", a1), (Str.ofString "rows", a2), (Str.ofString "lines", a3), (Str.ofString "moved", a4), (Str.ofString "go", a5), (Str.ofString "x", a6), (Str.ofString "y", a7), (Str.ofString "due", a8), (Str.ofString "back", a9), (Str.ofString "far", a10), (Str.ofString "begins", a11), (Str.ofString "others", a12)] (Str.ofString "moved") = a4 := rfl
theorem sv_law_4 (a0 a1 a2 a3 a4 a5 a6 a7 a8 a9 a10 a11 a12 : Option V) (v : V) : setV [(Str.ofString "script", a0), (Str.ofString "deck", a1), (Str.ofString "rows", a2), (Str.ofString "lines", a3), (Str.ofString "moved", a4), (Str.ofString "go", a5), (Str.ofString "x", a6), (Str.ofString "y", a7), (Str.ofString "due", a8), (Str.ofString "back", a9), (Str.ofString "far", a10), (Str.ofString "begins", a11), (Str.ofString "others", a12)] (Str.ofString "moved") v = [(Str.ofString "script", a0), (Str.ofString "deck", a1), (Str.ofString "rows", a2), (Str.ofString "lines", a3), (Str.ofString "moved", some v), (Str.ofString "go", a5), (Str.ofString "x", a6), (Str.ofString "y", a7), (Str.ofString "due", a8), (Str.ofString "back", a9), (Str.ofString "far", a10), (Str.ofString "begins", a11), (Str.ofString "others", a12)] := rfl
theorem gv_law_5 (a0 a1 a2 a3 a4 a5 a6 a7 a8 a9 a10 a11 a12 : Option V) : getV [(Str.ofString "script", a0), (Str.ofString "deck", a1), (Str.ofString "rows", a2), (Str.ofString "lines", a3), (Str.ofString "moved", a4), (Str.ofString "go", a5), (Str.ofString "x", a6), (Str.ofString "y", a7), (Str.ofString "due", a8), (Str.ofString "back", a9), (Str.ofString "far", a10), (Str.ofString "begins", a11), (Str.ofString "others", a12)] (Str.ofString "go") = a5 := rfl
theorem sv_law_5 (a0 a1 a2 a3 a4 a5 a6 a7 a8 a9 a10 a11 a12 : Option V) (v : V) : setV [(Str.ofString "script", a0), (Str.ofString "deck", a1), (Str.ofString "rows", a2), (Str.ofString "lines", a3), (Str.ofString "moved", a4), (Str.ofString "go", a5), (Str.ofString "x", a6), (Str.ofString "y", a7), (Str.ofString "due", a8), (Str.ofString "back", a9), (Str.ofString "far", a10), (Str.ofString "begins", a11), (Str.ofString "others", a12)] (Str.ofString "go") v = [(Str.ofString "script", a0), (Str.ofString "deck", a1), (Str.ofString "rows", a2), (Str.ofString "lines", a3), (Str.ofString "moved", a4), (Str.ofString "go", some v), (Str.ofString "x", a6), (Str.ofString "y", a7), (Str.ofString "due", a8), (Str.ofString "back", a9), (Str.ofString "far", a10), (Str.ofString "begins", a11), (Str.ofString "others", a12)] := rfl
theorem gv_law_6 (a0 a1 a2 a3 a4 a5 a6 a7 a8 a9 a10 a11 a12 : Option V) : getV [(Str.ofString "script", a0), (Str.ofString "deck", a1), (Str.ofString "rows", a2), (Str.ofString "lines", a3), (Str.ofString "moved", a4), (Str.ofString "go", a5), (Str.ofString "x", a6), (Str.ofString "y", a7), (Str.ofString "due", a8), (Str.ofString "back", a9), (Str.ofString "far", a10), (Str.ofString "begins", a11), (Str.ofString "others", a12)] (Str.ofString "x") = a6 := rfl
theorem sv_law_6 (a0 a1 a2 a3 a4 a5 a6 a7 a8 a9 a10 a11 a12 : Option V) (v : V) : setV [(Str.ofString "script", a0), (Str.ofString "deck", a1), (Str.ofString "rows", a2), (Str.ofString "lines", a3), (Str.ofString "moved", a4), (Str.ofString "go", a5), (Str.ofString "x", a6), (Str.ofString "y", a7), (Str.ofString "due", a8), (Str.ofString "back", a9), (Str.ofString "far", a10), (Str.ofString "begins", a11), (Str.ofString "others", a12)] (Str.ofString "x") v = [(Str.ofString "script", a0), (Str.ofString "deck", a1), (Str.ofString "rows", a2), (Str.ofString "lines", a3), (Str.ofString "moved", a4), (Str.ofString "go", a5), (Str.ofString "x", some v), (Str.ofString "y", a7), (Str.ofString "due", a8), (Str.ofString "back", a9), (Str.ofString "far", a10), (Str.ofString "begins", a11), (Str.ofString "others", a12)] := rfl
theorem gv_law_7 (a0 a1 a2 a3 a4 a5 a6 a7 a8 a9 a10 a11 a12 : Option V) : getV [(Str.ofString "script", a0), (Str.ofString "deck", a1), (Str.ofString "rows", a2), (Str.ofString "lines", a3), (Str.ofString "moved", a4), (Str.ofString "go", a5), (Str.ofString "x", a6), (Str.ofString "y", a7), (Str.ofString "due", a8), (Str.ofString "back", a9), (Str.ofString "far", a10), (Str.ofString "begins", a11), (Str.ofString "others", a12)] (Str.ofString "y") = a7 := rfl
theorem sv_law_7 (a0 a1 a2 a3 a4 a5 a6 a7 a8 a9 a10 a11 a12 : Option V) (v : V) : setV [(Str.ofString "script", a0), (Str.ofString "deck", a1), (Str.ofString "rows", a2), (Str.ofString "lines", a3), (Str.ofString "moved", a4), (Str.ofString "go", a5), (Str.ofString "x", a6), (Str.ofString "y", a7), (Str.ofString "due", a8), (Str.ofString "back", a9), (Str.ofString "far", a10), (Str.ofString "begins", a11), (Str.ofString "others", a12)] (Str.ofString "y") v = [(Str.ofString "script", a0), (Str.ofString "deck", a1), (Str.ofString "rows", a2), (Str.ofString "lines", a3), (Str.ofString "moved", a4), (Str.ofString "go", a5), (Str.ofString "x", a6), (Str.ofString "y", some v), (Str.ofString "due", a8), (Str.ofString "back", a9), (Str.ofString "far", a10), (Str.ofString "begins", a11), (Str.ofString "others", a12)] := rfl
theorem gv_law_8 (a0 a1 a2 a3 a4 a5 a6 a7 a8 a9 a10 a11 a12 : Option V) : getV [(Str.ofString "script", a0), (Str.ofString "deck", a1), (Str.ofString "rows", a2), (Str.ofString "lines", a3), (Str.ofString "moved", a4), (Str.ofString "go", a5), (Str.ofString "x", a6), (Str.ofString "y", a7), (Str.ofString "due", a8), (Str.ofString "back", a9), (Str.ofString "far", a10), (Str.ofString "begins", a11), (Str.ofString "others", a12)] (Str.ofString "due") = a8 := rfl
theorem sv_law_8 (a0 a1 a2 a3 a4 a5 a6 a7 a8 a9 a10 a11 a12 : Option V) (v : V) : setV [(Str.ofString "script", a0), (Str.ofString "deck", a1), (Str.ofString "rows", a2), (Str.ofString "lines", a3), (Str.ofString "moved", a4), (Str.ofString "go", a5), (Str.ofString "x", a6), (Str.ofString "y", a7), (Str.ofString "due", a8), (Str.ofString "back", a9), (Str.ofString "far", a10), (Str.ofString "begins", a11), (Str.ofString "others", a12)] (Str.ofString "due") v = [(Str.ofString "script", a0), (Str.ofString "deck", a1), (Str.ofString "rows", a2), (Str.ofString "lines", a3), (Str.ofString "moved", a4), (Str.ofString "go", a5), (Str.ofString "x", a6), (Str.ofString "y", a7), (Str.ofString "due", some v), (Str.ofString "back", a9), (Str.ofString "far", a10), (Str.ofString "begins", a11), (Str.ofString "others", a12)] := rfl
theorem gv_law_9 (a0 a1 a2 a3 a4 a5 a6 a7 a8 a9 a10 a11 a12 : Option V) : getV [(Str.ofString "script", a0), (Str.ofString "deck", a1), (Str.ofString "rows", a2), (Str.ofString "lines", a3), (Str.ofString "moved", a4), (Str.ofString "go", a5), (Str.ofString "x", a6), (Str.ofString "y", a7), (Str.ofString "due", a8), (Str.ofString "back", a9), (Str.ofString "far", a10), (Str.ofString "begins", a11), (Str.ofString "others", a12)] (Str.ofString "back") = a9 := rfl
theorem sv_law_9 (a0 a1 a2 a3 a4 a5 a6 a7 a8 a9 a10 a11 a12 : Option V) (v : V) : setV [(Str.ofString "script", a0), (Str.ofString "deck", a1), (Str.ofString "rows", a2), (Str.ofString "lines", a3), (Str.ofString "moved", a4), (Str.ofString "go", a5), (Str.ofString "x", a6), (Str.ofString "y", a7), (Str.ofString "due", a8), (Str.ofString "back", a9), (Str.ofString "far", a10), (Str.ofString "begins", a11), (Str.ofString "others", a12)] (Str.ofString "back") v = [(Str.ofString "script", a0), (Str.ofString "deck", a1), (Str.ofString "rows", a2), (Str.ofString "lines", a3), (Str.ofString "moved", a4), (Str.ofString "go", a5), (Str.ofString "x", a6), (Str.ofString "y", a7), (Str.ofString "due", a8), (Str.ofString "back", some v), (Str.ofString "far", a10), (Str.ofString "begins", a11), (Str.ofString "others", a12)] := rfl
theorem gv_law_10 (a0 a1 a2 a3 a4 a5 a6 a7 a8 a9 a10 a11 a12 : Option V) : getV [(Str.ofString "script", a0), (Str.ofString "deck", a1), (Str.ofString "rows", a2), (Str.ofString "lines", a3), (Str.ofString "moved", a4), (Str.ofString "go", a5), (Str.ofString "x", a6), (Str.ofString "y", a7), (Str.ofString "due", a8), (Str.ofString "back", a9), (Str.ofString "far", a10), (Str.ofString "begins", a11), (Str.ofString "others", a12)] (Str.ofString "far") = a10 := rfl
theorem sv_law_10 (a0 a1 a2 a3 a4 a5 a6 a7 a8 a9 a10 a11 a12 : Option V) (v : V) : setV [(Str.ofString "script", a0), (Str.ofString "deck", a1), (Str.ofString "rows", a2), (Str.ofString "lines", a3), (Str.ofString "moved", a4), (Str.ofString "go", a5), (Str.ofString "x", a6), (Str.ofString "y", a7), (Str.ofString "due", a8), (Str.ofString "back", a9), (Str.ofString "far", a10), (Str.ofString "begins", a11), (Str.ofString "others", a12)] (Str.ofString "far") v = [(Str.ofString "script", a0), (Str.ofString "deck", a1), (Str.ofString "rows", a2), (Str.ofString "lines", a3), (Str.ofString "moved", a4), (Str.ofString "go", a5), (Str.ofString "x", a6), (Str.ofString "y", a7), (Str.ofString "due", a8), (Str.ofString "back", a9), (Str.ofString "far", some v), (Str.ofString "begins", a11), (Str.ofString "others", a12)] := rfl
theorem gv_law_11 (a0 a1 a2 a3 a4 a5 a6 a7 a8 a9 a10 a11 a12 : Option V) : getV [(Str.ofString "script", a0), (Str.ofString "deck", a1), (Str.ofString "rows", a2), (Str.ofString "lines", a3), (Str.ofString "moved", a4), (Str.ofString "go", a5), (Str.ofString "x", a6), (Str.ofString "y", a7), (Str.ofString "due", a8), (Str.ofString "back", a9), (Str.ofString "far", a10), (Str.ofString "begins", a11), (Str.ofString "others", a12)] (Str.ofString "begins") = a11 := rfl
theorem sv_law_11 (a0 a1 a2 a3 a4 a5 a6 a7 a8 a9 a10 a11 a12 : Option V) (v : V) : setV [(Str.ofString "script", a0), (Str.ofString "deck", a1), (Str.ofString "rows", a2), (Str.ofString "lines", a3), (Str.ofString "moved", a4), (Str.ofString "go", a5), (Str.ofString "x", a6), (Str.ofString "y", a7), (Str.ofString "due", a8), (Str.ofString "back", a9), (Str.ofString "far", a10), (Str.ofString "begins", a11), (Str.ofString "others", a12)] (Str.ofString "begins") v = [(Str.ofString "script", a0), (Str.ofString "deck", a1), (Str.ofString "rows", a2), (Str.ofString "lines", a3), (Str.ofString "moved", a4), (Str.ofString "go", a5), (Str.ofString "x", a6), (Str.ofString "y", a7), (Str.ofString "due", a8), (Str.ofString "back", a9), (Str.ofString "far", a10), (Str.ofString "begins", some v), (Str.ofString "others", a12)] := rfl
theorem gv_law_12 (a0 a1 a2 a3 a4 a5 a6 a7 a8 a9 a10 a11 a12 : Option V) : getV [(Str.ofString "script", a0), (Str.ofString "deck", a1), (Str.ofString "rows", a2), (Str.ofString "lines", a3), (Str.ofString "moved", a4), (Str.ofString "go", a5), (Str.ofString "x", a6), (Str.ofString "y", a7), (Str.ofString "due", a8), (Str.ofString "back", a9), (Str.ofString "far", a10), (Str.ofString "begins", a11), (Str.ofString "others", a12)] (Str.ofString "others") = a12 := rfl
theorem sv_law_12 (a0 a1 a2 a3 a4 a5 a6 a7 a8 a9 a10 a11 a12 : Option V) (v : V) : setV [(Str.ofString "script", a0), (Str.ofString "deck", a1), (Str.ofString "rows", a2), (Str.ofString "lines", a3), (Str.ofString "moved", a4), (Str.ofString "go", a5), (Str.ofString "x", a6), (Str.ofString "y", a7), (Str.ofString "due", a8), (Str.ofString "back", a9), (Str.ofString "far", a10), (Str.ofString "begins", a11), (Str.ofString "others", a12)] (Str.ofString "others") v = [(Str.ofString "script", a0), (Str.ofString "deck", a1), (Str.ofString "rows", a2), (Str.ofString "lines", a3), (Str.ofString "moved", a4), (Str.ofString "go", a5), (Str.ofString "x", a6), (Str.ofString "y", a7), (Str.ofString "due", a8), (Str.ofString "back", a9), (Str.ofString "far", a10), (Str.ofString "begins", a11), (Str.ofString "others", some v)] := rfl
noncomputable abbrev repL (ss : List Sub) (d : Dkt) (j : J8) : IS := ⟨[(Str.ofString "script", none), (Str.ofString "deck", some (.deck)), (Str.ofString "rows", some (.d (.list (allRows ss)))), (Str.ofString "lines", some (.d (.list ((linesS ss).map encL)))), (Str.ofString "moved", some (.d (.list (allRows (ss.map (movS 3000000)))))), (Str.ofString "go", j.a), (Str.ofString "x", j.b), (Str.ofString "y", j.c), (Str.ofString "due", j.d), (Str.ofString "back", j.e), (Str.ofString "far", j.f), (Str.ofString "begins", j.g), (Str.ofString "others", j.h)], [], some d⟩
theorem half9 (a : Int) (a0 : 0 ≤ a) (a1 : a < 9) : ((a * 1000000).fdiv 2).natAbs ≤ 5000000 := by rw [Int.fdiv_eq_ediv_of_nonneg _ (by decide)]; omega
theorem bd9 {X Y : Int} (h : X.natAbs ≤ 5000000) (k : Y.natAbs ≤ 5000000) : Bd (X, Y) := ⟨Nat.le_trans h (by decide), Nat.le_trans k (by decide)⟩
theorem add3 {X : Int} (h : X.natAbs ≤ 5000000) : (X + 3000000).natAbs ≤ 100000000 := by omega
theorem bd9' {X Y : Int} (h : X.natAbs ≤ 5000000) (k : Y.natAbs ≤ 5000000) : Bd (X + 3000000, Y + 3000000) := ⟨add3 h, add3 k⟩
noncomputable def rLaw : {d : DefRec // fnRec (Str.ofString "law") = some d} := ⟨_, rfl⟩
theorem law_f (n : Nat) (d : Dkt) (hd : okDk d) : ∃ st', (ev (n+60)).b ⟨rLaw.1.scope, []⟩ rLaw.1.body.tail ⟨[(Str.ofString "script", none), (Str.ofString "deck", some (.deck)), (Str.ofString "rows", none), (Str.ofString "lines", none), (Str.ofString "moved", none), (Str.ofString "go", none), (Str.ofString "x", none), (Str.ofString "y", none), (Str.ofString "due", none), (Str.ofString "back", none), (Str.ofString "far", none), (Str.ofString "begins", none), (Str.ofString "others", none)], [], some d⟩ = some (.ret (.d (.bool true)), st') := by
  obtain ⟨ss, d1, hd1, hl1, hl2, hs, e1⟩ := path_f (n + 28) d hd
  have e1 : (ev (n+58)).f (Str.ofString "_law_path") [.deck] (some d) = some (.d (.tuple [.list (allRows ss), .list ((linesS ss).map encL)]), some d1) := e1
  have hl8 : ss.length ≤ 8 := Nat.le_trans hl2 (by decide)
  have hg : ∀ s ∈ ss, GoodS s := fun s h => latS_good (hs s h)
  have hrl := allRows_len ss hl8 hg
  have hr1 : (allRows ss).length ≤ 1000000 := by omega
  simp (decide := true) only [rLaw, List.tail_cons, e1, hr1, ev_e, ev_t, ev_a, ev_b, evL_nil, evL_cons, evLK1_eq, evLK2_eq, retE_eq, retO_eq, evE_int, evE_str, evE_bool, evE_none, evE_name, nameV_loc, nameV_cell, nameV_free, nameV_unit, nameV_eo, evE_bin, binK1_eq, binK2_eq, binV_add, binV_sub, binV_mul, binV_div, binV_mod, binV_list, binV_tup, evE_neg, negK_eq, evE_if, ifEK_eq, evE_tuple, tupK_eq, evE_list0, evE_list1, list1K_eq, evE_list2, evE_listS, listK_eq, listK1_eq, evE_rev, revK1_eq, revK_eq, evE_slo, sloK1_eq, sloK_eq, evE_sup, supK1_eq, supK_eq, evE_subC, evE_subN, evE_subU, evE_subB, subK1_eq, subK_eq, itemV_list, itemV_tuple, itemV_own, itemOK_eq, itemV_tup, itemV_left, itemV_mixed, retB_eq, cmpVK_eq, evE_cmp, cmpE_ne, neK_eq, cmpE_eq1, cmpE_lt, cmpE_le, cmpE_gt, cmpE_ge, cmpE_is, cmpE_isnot, cmpE_neC, cmpE_neN, cmpE_neT, cmpE_neB, cmpK1_eq, cmpK_eq, cmpE_2, cmp2K1_eq, cmp2K2_eq, cmp2K2b_eq, cmpV_lt, cmpV_le, cmpV_gt, cmpV_ge, cmpV_eqI, cmpV_neI, cmpV_eqS, cmpV_isN, cmpV_isT, cmpV_isnotB, neNil_list, neNil_left, evE_and, andEK_eq, evE_call, callK_eq, retF_eq, callV_own, callV_min, callV_max, callV_lenL, callV_lenT, sumK_eq, callV_sum, callV_tupL, tupOK1_eq, tupOK_eq, callV_tupO, evE_pop, popK1_eq, popK2_eq, compStep_eq, compK1_eq, compK2_eq, compK3_eq, testsE_0, testsE_1, retL_eq, compScope_eq, compK_eq, compV_eq, compVK_eq, evE_comp, rangeK_eq, rangeK1_eq, iterV_range, enumK_eq, iterV_enum, seqIK_list, seqIK_tuple, iterV_name, iterV_subS, iterV_call, boolK_eq, evT_bool, evT_cmp, evT_name, evT_call, allT_and0, allT_or0, allT_and, allT_or, andTK_eq, orTK_eq, storeN_eq, asg_name, asgL_nil, asgL_cons, asgLK_eq, asg_tup_d, asg_tup_v, asg_sub, asgSK1_eq, setOK_eq, asgSK2_own, asgSK2_deck, nextK_eq, stoK_eq, exS_name, stoCK_eq, exS_nameC, tasK_eq, exS_tup, exS_swp2, exS_swp3, swpK2_d, swpK2_v, swpK3_v, storeL_nil, storeL_cons, storeLK_eq, sasK_eq, exS_sub, exS_aug, augK1_eq, augK2_eq, exS_if, ifSK_eq, forStep_eq, forK_eq, exS_for, loopF_nil, loopF_cons, loopK_next, loopK_ret, rtnK_eq, exS_ret, exS_meth, methK1_eq, appK_eq, methK2_app, extK_eq, methK2_ext, exB_nil, exB_cons, seqK_next, seqK_ret, fzK_eq, retFK_eq, layStr_left, layStr_mixed, layStr_m, layStr_l, layStr_z, layStr_w, layStr_e, Option.bind_some, Option.map_some, List.length_cons, List.length_nil, if_true, if_false, Bool.false_eq_true, decide_eq_true_eq, Bool.not_true, Bool.not_false, Bool.not_eq_true, List.map_cons, List.map_nil, List.reverse_cons, List.reverse_nil, List.nil_append, List.cons_append, gt_iff_lt, ge_iff_le, beq_iff_eq, Nat.reduceAdd, ite_self, mkTup, allD, Option.some.injEq, List.all_cons, List.all_nil, Bool.and_true, Bool.true_and, argOk, freeze, Option.isSome_some, decide_true, decide_false, Option.bind_none, Option.map_none, List.getElem?_cons_zero, List.getElem?_cons_succ, blank, encP, encL, getC, Bool.not_eq_true', compL, Option.toList_some, Option.toList_none, List.append_nil, itemL_0, itemL_1, itemL_2, itemL_m1, Int.cast_ofNat_Int, intsOf, List.set_cons_zero, List.set_cons_succ, Int.reduceAdd, Int.reduceSub, Int.reduceNeg, Int.reduceMul, gv_law_0, sv_law_0, gv_law_1, sv_law_1, gv_law_2, sv_law_2, gv_law_3, sv_law_3, gv_law_4, sv_law_4, gv_law_5, sv_law_5, gv_law_6, sv_law_6, gv_law_7, sv_law_7, gv_law_8, sv_law_8, gv_law_9, sv_law_9, gv_law_10, sv_law_10, gv_law_11, sv_law_11, gv_law_12, sv_law_12]
  rw [allRows_K ss, compL_rw encK (fun k => some (encK (movK k))) (fun _ => True) (allK ss) (fun _ _ => trivial)]
  rotate_left
  · intro a _
    cases a with
    | m p => simp (decide := true) only [encK, movK, row2, movP, slice_tup_to, slice_tup_from, ev_e, ev_t, ev_a, ev_b, evL_nil, evL_cons, evLK1_eq, evLK2_eq, retE_eq, retO_eq, evE_int, evE_str, evE_bool, evE_none, evE_name, nameV_loc, nameV_cell, nameV_free, nameV_unit, nameV_eo, evE_bin, binK1_eq, binK2_eq, binV_add, binV_sub, binV_mul, binV_div, binV_mod, binV_list, binV_tup, evE_neg, negK_eq, evE_if, ifEK_eq, evE_tuple, tupK_eq, evE_list0, evE_list1, list1K_eq, evE_list2, evE_listS, listK_eq, listK1_eq, evE_rev, revK1_eq, revK_eq, evE_slo, sloK1_eq, sloK_eq, evE_sup, supK1_eq, supK_eq, evE_subC, evE_subN, evE_subU, evE_subB, subK1_eq, subK_eq, itemV_list, itemV_tuple, itemV_own, itemOK_eq, itemV_tup, itemV_left, itemV_mixed, retB_eq, cmpVK_eq, evE_cmp, cmpE_ne, neK_eq, cmpE_eq1, cmpE_lt, cmpE_le, cmpE_gt, cmpE_ge, cmpE_is, cmpE_isnot, cmpE_neC, cmpE_neN, cmpE_neT, cmpE_neB, cmpK1_eq, cmpK_eq, cmpE_2, cmp2K1_eq, cmp2K2_eq, cmp2K2b_eq, cmpV_lt, cmpV_le, cmpV_gt, cmpV_ge, cmpV_eqI, cmpV_neI, cmpV_eqS, cmpV_isN, cmpV_isT, cmpV_isnotB, neNil_list, neNil_left, evE_and, andEK_eq, evE_call, callK_eq, retF_eq, callV_own, callV_min, callV_max, callV_lenL, callV_lenT, sumK_eq, callV_sum, callV_tupL, tupOK1_eq, tupOK_eq, callV_tupO, evE_pop, popK1_eq, popK2_eq, compStep_eq, compK1_eq, compK2_eq, compK3_eq, testsE_0, testsE_1, retL_eq, compScope_eq, compK_eq, compV_eq, compVK_eq, evE_comp, rangeK_eq, rangeK1_eq, iterV_range, enumK_eq, iterV_enum, seqIK_list, seqIK_tuple, iterV_name, iterV_subS, iterV_call, boolK_eq, evT_bool, evT_cmp, evT_name, evT_call, allT_and0, allT_or0, allT_and, allT_or, andTK_eq, orTK_eq, storeN_eq, asg_name, asgL_nil, asgL_cons, asgLK_eq, asg_tup_d, asg_tup_v, asg_sub, asgSK1_eq, setOK_eq, asgSK2_own, asgSK2_deck, nextK_eq, stoK_eq, exS_name, stoCK_eq, exS_nameC, tasK_eq, exS_tup, exS_swp2, exS_swp3, swpK2_d, swpK2_v, swpK3_v, storeL_nil, storeL_cons, storeLK_eq, sasK_eq, exS_sub, exS_aug, augK1_eq, augK2_eq, exS_if, ifSK_eq, forStep_eq, forK_eq, exS_for, loopF_nil, loopF_cons, loopK_next, loopK_ret, rtnK_eq, exS_ret, exS_meth, methK1_eq, appK_eq, methK2_app, extK_eq, methK2_ext, exB_nil, exB_cons, seqK_next, seqK_ret, fzK_eq, retFK_eq, layStr_left, layStr_mixed, layStr_m, layStr_l, layStr_z, layStr_w, layStr_e, getV, setV, Option.bind_some, Option.map_some, List.length_cons, List.length_nil, if_true, if_false, Bool.false_eq_true, decide_eq_true_eq, Bool.not_true, Bool.not_false, Bool.not_eq_true, List.map_cons, List.map_nil, List.reverse_cons, List.reverse_nil, List.nil_append, List.cons_append, gt_iff_lt, ge_iff_le, beq_iff_eq, Nat.reduceAdd, ite_self, mkTup, allD, Option.some.injEq, List.all_cons, List.all_nil, Bool.and_true, Bool.true_and, argOk, freeze, Option.isSome_some, decide_true, decide_false, Option.bind_none, Option.map_none, List.getElem?_cons_zero, List.getElem?_cons_succ, blank, encP, encL, getC, Bool.not_eq_true', compL, Option.toList_some, Option.toList_none, List.append_nil, itemL_0, itemL_1, itemL_2, itemL_m1, Int.cast_ofNat_Int, intsOf, List.set_cons_zero, List.set_cons_succ, Int.reduceAdd, Int.reduceSub, Int.reduceNeg, Int.reduceMul]
    | l p => simp (decide := true) only [encK, movK, row2, movP, slice_tup_to, slice_tup_from, ev_e, ev_t, ev_a, ev_b, evL_nil, evL_cons, evLK1_eq, evLK2_eq, retE_eq, retO_eq, evE_int, evE_str, evE_bool, evE_none, evE_name, nameV_loc, nameV_cell, nameV_free, nameV_unit, nameV_eo, evE_bin, binK1_eq, binK2_eq, binV_add, binV_sub, binV_mul, binV_div, binV_mod, binV_list, binV_tup, evE_neg, negK_eq, evE_if, ifEK_eq, evE_tuple, tupK_eq, evE_list0, evE_list1, list1K_eq, evE_list2, evE_listS, listK_eq, listK1_eq, evE_rev, revK1_eq, revK_eq, evE_slo, sloK1_eq, sloK_eq, evE_sup, supK1_eq, supK_eq, evE_subC, evE_subN, evE_subU, evE_subB, subK1_eq, subK_eq, itemV_list, itemV_tuple, itemV_own, itemOK_eq, itemV_tup, itemV_left, itemV_mixed, retB_eq, cmpVK_eq, evE_cmp, cmpE_ne, neK_eq, cmpE_eq1, cmpE_lt, cmpE_le, cmpE_gt, cmpE_ge, cmpE_is, cmpE_isnot, cmpE_neC, cmpE_neN, cmpE_neT, cmpE_neB, cmpK1_eq, cmpK_eq, cmpE_2, cmp2K1_eq, cmp2K2_eq, cmp2K2b_eq, cmpV_lt, cmpV_le, cmpV_gt, cmpV_ge, cmpV_eqI, cmpV_neI, cmpV_eqS, cmpV_isN, cmpV_isT, cmpV_isnotB, neNil_list, neNil_left, evE_and, andEK_eq, evE_call, callK_eq, retF_eq, callV_own, callV_min, callV_max, callV_lenL, callV_lenT, sumK_eq, callV_sum, callV_tupL, tupOK1_eq, tupOK_eq, callV_tupO, evE_pop, popK1_eq, popK2_eq, compStep_eq, compK1_eq, compK2_eq, compK3_eq, testsE_0, testsE_1, retL_eq, compScope_eq, compK_eq, compV_eq, compVK_eq, evE_comp, rangeK_eq, rangeK1_eq, iterV_range, enumK_eq, iterV_enum, seqIK_list, seqIK_tuple, iterV_name, iterV_subS, iterV_call, boolK_eq, evT_bool, evT_cmp, evT_name, evT_call, allT_and0, allT_or0, allT_and, allT_or, andTK_eq, orTK_eq, storeN_eq, asg_name, asgL_nil, asgL_cons, asgLK_eq, asg_tup_d, asg_tup_v, asg_sub, asgSK1_eq, setOK_eq, asgSK2_own, asgSK2_deck, nextK_eq, stoK_eq, exS_name, stoCK_eq, exS_nameC, tasK_eq, exS_tup, exS_swp2, exS_swp3, swpK2_d, swpK2_v, swpK3_v, storeL_nil, storeL_cons, storeLK_eq, sasK_eq, exS_sub, exS_aug, augK1_eq, augK2_eq, exS_if, ifSK_eq, forStep_eq, forK_eq, exS_for, loopF_nil, loopF_cons, loopK_next, loopK_ret, rtnK_eq, exS_ret, exS_meth, methK1_eq, appK_eq, methK2_app, extK_eq, methK2_ext, exB_nil, exB_cons, seqK_next, seqK_ret, fzK_eq, retFK_eq, layStr_left, layStr_mixed, layStr_m, layStr_l, layStr_z, layStr_w, layStr_e, getV, setV, Option.bind_some, Option.map_some, List.length_cons, List.length_nil, if_true, if_false, Bool.false_eq_true, decide_eq_true_eq, Bool.not_true, Bool.not_false, Bool.not_eq_true, List.map_cons, List.map_nil, List.reverse_cons, List.reverse_nil, List.nil_append, List.cons_append, gt_iff_lt, ge_iff_le, beq_iff_eq, Nat.reduceAdd, ite_self, mkTup, allD, Option.some.injEq, List.all_cons, List.all_nil, Bool.and_true, Bool.true_and, argOk, freeze, Option.isSome_some, decide_true, decide_false, Option.bind_none, Option.map_none, List.getElem?_cons_zero, List.getElem?_cons_succ, blank, encP, encL, getC, Bool.not_eq_true', compL, Option.toList_some, Option.toList_none, List.append_nil, itemL_0, itemL_1, itemL_2, itemL_m1, Int.cast_ofNat_Int, intsOf, List.set_cons_zero, List.set_cons_succ, Int.reduceAdd, Int.reduceSub, Int.reduceNeg, Int.reduceMul]
    | z => simp (decide := true) only [encK, movK, zrow, slice_tup_to, slice_tup_from, ev_e, ev_t, ev_a, ev_b, evL_nil, evL_cons, evLK1_eq, evLK2_eq, retE_eq, retO_eq, evE_int, evE_str, evE_bool, evE_none, evE_name, nameV_loc, nameV_cell, nameV_free, nameV_unit, nameV_eo, evE_bin, binK1_eq, binK2_eq, binV_add, binV_sub, binV_mul, binV_div, binV_mod, binV_list, binV_tup, evE_neg, negK_eq, evE_if, ifEK_eq, evE_tuple, tupK_eq, evE_list0, evE_list1, list1K_eq, evE_list2, evE_listS, listK_eq, listK1_eq, evE_rev, revK1_eq, revK_eq, evE_slo, sloK1_eq, sloK_eq, evE_sup, supK1_eq, supK_eq, evE_subC, evE_subN, evE_subU, evE_subB, subK1_eq, subK_eq, itemV_list, itemV_tuple, itemV_own, itemOK_eq, itemV_tup, itemV_left, itemV_mixed, retB_eq, cmpVK_eq, evE_cmp, cmpE_ne, neK_eq, cmpE_eq1, cmpE_lt, cmpE_le, cmpE_gt, cmpE_ge, cmpE_is, cmpE_isnot, cmpE_neC, cmpE_neN, cmpE_neT, cmpE_neB, cmpK1_eq, cmpK_eq, cmpE_2, cmp2K1_eq, cmp2K2_eq, cmp2K2b_eq, cmpV_lt, cmpV_le, cmpV_gt, cmpV_ge, cmpV_eqI, cmpV_neI, cmpV_eqS, cmpV_isN, cmpV_isT, cmpV_isnotB, neNil_list, neNil_left, evE_and, andEK_eq, evE_call, callK_eq, retF_eq, callV_own, callV_min, callV_max, callV_lenL, callV_lenT, sumK_eq, callV_sum, callV_tupL, tupOK1_eq, tupOK_eq, callV_tupO, evE_pop, popK1_eq, popK2_eq, compStep_eq, compK1_eq, compK2_eq, compK3_eq, testsE_0, testsE_1, retL_eq, compScope_eq, compK_eq, compV_eq, compVK_eq, evE_comp, rangeK_eq, rangeK1_eq, iterV_range, enumK_eq, iterV_enum, seqIK_list, seqIK_tuple, iterV_name, iterV_subS, iterV_call, boolK_eq, evT_bool, evT_cmp, evT_name, evT_call, allT_and0, allT_or0, allT_and, allT_or, andTK_eq, orTK_eq, storeN_eq, asg_name, asgL_nil, asgL_cons, asgLK_eq, asg_tup_d, asg_tup_v, asg_sub, asgSK1_eq, setOK_eq, asgSK2_own, asgSK2_deck, nextK_eq, stoK_eq, exS_name, stoCK_eq, exS_nameC, tasK_eq, exS_tup, exS_swp2, exS_swp3, swpK2_d, swpK2_v, swpK3_v, storeL_nil, storeL_cons, storeLK_eq, sasK_eq, exS_sub, exS_aug, augK1_eq, augK2_eq, exS_if, ifSK_eq, forStep_eq, forK_eq, exS_for, loopF_nil, loopF_cons, loopK_next, loopK_ret, rtnK_eq, exS_ret, exS_meth, methK1_eq, appK_eq, methK2_app, extK_eq, methK2_ext, exB_nil, exB_cons, seqK_next, seqK_ret, fzK_eq, retFK_eq, layStr_left, layStr_mixed, layStr_m, layStr_l, layStr_z, layStr_w, layStr_e, getV, setV, Option.bind_some, Option.map_some, List.length_cons, List.length_nil, if_true, if_false, Bool.false_eq_true, decide_eq_true_eq, Bool.not_true, Bool.not_false, Bool.not_eq_true, List.map_cons, List.map_nil, List.reverse_cons, List.reverse_nil, List.nil_append, List.cons_append, gt_iff_lt, ge_iff_le, beq_iff_eq, Nat.reduceAdd, ite_self, mkTup, allD, Option.some.injEq, List.all_cons, List.all_nil, Bool.and_true, Bool.true_and, argOk, freeze, Option.isSome_some, decide_true, decide_false, Option.bind_none, Option.map_none, List.getElem?_cons_zero, List.getElem?_cons_succ, blank, encP, encL, getC, Bool.not_eq_true', compL, Option.toList_some, Option.toList_none, List.append_nil, itemL_0, itemL_1, itemL_2, itemL_m1, Int.cast_ofNat_Int, intsOf, List.set_cons_zero, List.set_cons_succ, Int.reduceAdd, Int.reduceSub, Int.reduceNeg, Int.reduceMul]
  rw [← allRows_K, show (allK ss).filterMap (fun k => some (encK (movK k))) = allRows (ss.map (movS 3000000)) by rw [allRows_K, ← allK_mov]; simp]
  simp (decide := true) only [range_four, ev_e, ev_t, ev_a, ev_b, evL_nil, evL_cons, evLK1_eq, evLK2_eq, retE_eq, retO_eq, evE_int, evE_str, evE_bool, evE_none, evE_name, nameV_loc, nameV_cell, nameV_free, nameV_unit, nameV_eo, evE_bin, binK1_eq, binK2_eq, binV_add, binV_sub, binV_mul, binV_div, binV_mod, binV_list, binV_tup, evE_neg, negK_eq, evE_if, ifEK_eq, evE_tuple, tupK_eq, evE_list0, evE_list1, list1K_eq, evE_list2, evE_listS, listK_eq, listK1_eq, evE_rev, revK1_eq, revK_eq, evE_slo, sloK1_eq, sloK_eq, evE_sup, supK1_eq, supK_eq, evE_subC, evE_subN, evE_subU, evE_subB, subK1_eq, subK_eq, itemV_list, itemV_tuple, itemV_own, itemOK_eq, itemV_tup, itemV_left, itemV_mixed, retB_eq, cmpVK_eq, evE_cmp, cmpE_ne, neK_eq, cmpE_eq1, cmpE_lt, cmpE_le, cmpE_gt, cmpE_ge, cmpE_is, cmpE_isnot, cmpE_neC, cmpE_neN, cmpE_neT, cmpE_neB, cmpK1_eq, cmpK_eq, cmpE_2, cmp2K1_eq, cmp2K2_eq, cmp2K2b_eq, cmpV_lt, cmpV_le, cmpV_gt, cmpV_ge, cmpV_eqI, cmpV_neI, cmpV_eqS, cmpV_isN, cmpV_isT, cmpV_isnotB, neNil_list, neNil_left, evE_and, andEK_eq, evE_call, callK_eq, retF_eq, callV_own, callV_min, callV_max, callV_lenL, callV_lenT, sumK_eq, callV_sum, callV_tupL, tupOK1_eq, tupOK_eq, callV_tupO, evE_pop, popK1_eq, popK2_eq, compStep_eq, compK1_eq, compK2_eq, compK3_eq, testsE_0, testsE_1, retL_eq, compScope_eq, compK_eq, compV_eq, compVK_eq, evE_comp, rangeK_eq, rangeK1_eq, iterV_range, enumK_eq, iterV_enum, seqIK_list, seqIK_tuple, iterV_name, iterV_subS, iterV_call, boolK_eq, evT_bool, evT_cmp, evT_name, evT_call, allT_and0, allT_or0, allT_and, allT_or, andTK_eq, orTK_eq, storeN_eq, asg_name, asgL_nil, asgL_cons, asgLK_eq, asg_tup_d, asg_tup_v, asg_sub, asgSK1_eq, setOK_eq, asgSK2_own, asgSK2_deck, nextK_eq, stoK_eq, exS_name, stoCK_eq, exS_nameC, tasK_eq, exS_tup, exS_swp2, exS_swp3, swpK2_d, swpK2_v, swpK3_v, storeL_nil, storeL_cons, storeLK_eq, sasK_eq, exS_sub, exS_aug, augK1_eq, augK2_eq, exS_if, ifSK_eq, forStep_eq, forK_eq, exS_for, loopF_nil, loopF_cons, loopK_next, loopK_ret, rtnK_eq, exS_ret, exS_meth, methK1_eq, appK_eq, methK2_app, extK_eq, methK2_ext, exB_nil, exB_cons, seqK_next, seqK_ret, fzK_eq, retFK_eq, layStr_left, layStr_mixed, layStr_m, layStr_l, layStr_z, layStr_w, layStr_e, Option.bind_some, Option.map_some, List.length_cons, List.length_nil, if_true, if_false, Bool.false_eq_true, decide_eq_true_eq, Bool.not_true, Bool.not_false, Bool.not_eq_true, List.map_cons, List.map_nil, List.reverse_cons, List.reverse_nil, List.nil_append, List.cons_append, gt_iff_lt, ge_iff_le, beq_iff_eq, Nat.reduceAdd, ite_self, mkTup, allD, Option.some.injEq, List.all_cons, List.all_nil, Bool.and_true, Bool.true_and, argOk, freeze, Option.isSome_some, decide_true, decide_false, Option.bind_none, Option.map_none, List.getElem?_cons_zero, List.getElem?_cons_succ, blank, encP, encL, getC, Bool.not_eq_true', compL, Option.toList_some, Option.toList_none, List.append_nil, itemL_0, itemL_1, itemL_2, itemL_m1, Int.cast_ofNat_Int, intsOf, List.set_cons_zero, List.set_cons_succ, Int.reduceAdd, Int.reduceSub, Int.reduceNeg, Int.reduceMul, gv_law_0, sv_law_0, gv_law_1, sv_law_1, gv_law_2, sv_law_2, gv_law_3, sv_law_3, gv_law_4, sv_law_4, gv_law_5, sv_law_5, gv_law_6, sv_law_6, gv_law_7, sv_law_7, gv_law_8, sv_law_8, gv_law_9, sv_law_9, gv_law_10, sv_law_10, gv_law_11, sv_law_11, gv_law_12, sv_law_12]
  have hlb := lines_bd hs
  have hll := lines_len ss hs
  have hrg : ∀ s ∈ ss.map revS, GoodS s := by
    intro s h
    obtain ⟨t, ht, rfl⟩ := List.mem_map.mp h
    exact rev_good (hg t ht)
  have hmg : ∀ s ∈ ss.map (movS 3000000), GoodS s := by
    intro s h
    obtain ⟨t, ht, rfl⟩ := List.mem_map.mp h
    exact mov_good (hs t ht)
  obtain ⟨pre, s, hps⟩ : ∃ pre s, ss = pre ++ [s] := ⟨_, _, (List.dropLast_concat_getLast (by intro e; rw [e] at hl1; simp at hl1 : ss ≠ [])).symm⟩
  obtain ⟨bi, hbi⟩ := begins_last pre s
  rw [← hps] at hbi
  have hrows : allRows ss = allRows pre ++ subRows s := by rw [hps]; simp [allRows]
  have hplen : (allRows pre).length = (allK pre).length := by rw [allRows_K, List.length_map]
  have hoth : (allRows ss).drop (allK pre).length ++ (allRows ss).take (allK pre).length = allRows (s :: pre) := by
    rw [hrows, ← hplen, List.drop_left, List.take_left]
    rfl
  have hog : ∀ t ∈ s :: pre, GoodS t := by
    intro t ht
    refine hg t ?_
    rw [hps]
    rcases List.mem_cons.mp ht with h | h
    · subst h; simp
    · simp [h]
  have hol : (s :: pre).length ≤ 8 := by
    have := congrArg List.length hps
    rw [List.length_append, List.length_singleton] at this
    rw [List.length_cons]
    omega
  have hoe : (edgesS (s :: pre)).Perm (edgesS ss) := by
    rw [hps]
    simp only [edgesS, List.flatMap_append, List.flatMap_cons, List.flatMap_nil, List.append_nil]
    exact List.perm_append_comm
  generalize hL : loopF _ _ _ = o
  have key : ∃ st', o = some (.next, st') ∧ ∃ d2 j, st' = repL ss d2 j := by
    rw [← hL]
    refine loop_inv (fun _ st => ∃ d j, okDk d ∧ st = repL ss d j) 4 _ 0 _ ?_ (by rw [rangeL_len]; omega) ⟨d1, j0, hd1, rfl⟩ |>.imp fun st' h => ⟨h.1, h.2.imp fun d h => h.imp fun j h => h.2⟩
    intro k x st hx hk hi
    obtain ⟨i, rfl⟩ := rangeL_int _ _ _ x hx
    obtain ⟨d, j, hd, rfl⟩ := hi
    obtain ⟨a, d3, a0, a1, h3, e3⟩ := draw_ex d hd 9 (by decide)
    obtain ⟨b, d4, b0, b1, h4, e4⟩ := draw_ex d3 h3 9 (by decide)
    have sa : small a = true := small_9 a0 a1
    have sb : small b = true := small_9 b0 b1
    have hX := half9 a a0 a1
    have hY := half9 b b0 b1
    generalize hXe : (a * 1000000).fdiv 2 = X at hX
    generalize hYe : (b * 1000000).fdiv 2 = Y at hY
    have hp := bd9 hX hY
    have hp' := bd9' hX hY
    have hdue : ∀ n dk, (ev (n+36)).f (Str.ofString "_law_inside") [.d (.list ((linesS ss).map encL)), .d (.int X), .d (.int Y)] dk = some (.d (.list [.bool (insW ss X Y), .bool (insE ss X Y)]), dk) := by
      intro n dk
      rw [ins_f n _ X Y dk hlb hp (by omega), ins_law ss hs]
      rfl
    have hw := fun n dk => insd_w n ss X Y dk hl8 hg hp
    have he := fun n dk => insd_e n ss X Y dk hl8 hg hp
    by_cases hi : i = 0
    · subst hi
      have hrev := fun n dk => rev_f n ss dk hl8 hg
      have hrl' : (ss.map revS).length ≤ 8 := by rw [List.length_map]; exact hl8
      have hml' : (ss.map (movS 3000000)).length ≤ 8 := by rw [List.length_map]; exact hl8
      have hbw := fun n dk => insd_w n (ss.map revS) X Y dk hrl' hrg hp
      have hbe := fun n dk => insd_e n (ss.map revS) X Y dk hrl' hrg hp
      rw [(ins_rev ss X Y).1] at hbw
      rw [(ins_rev ss X Y).2] at hbe
      have hmw := fun n dk => insd_w n (ss.map (movS 3000000)) (X + 3000000) (Y + 3000000) dk hml' hmg hp'
      rw [ins_mov] at hmw
      have how := fun n dk => insd_w n (s :: pre) X Y dk hol hog hp
      have hoee := fun n dk => insd_e n (s :: pre) X Y dk hol hog hp
      rw [(ins_perm _ _ hoe X Y).1] at how
      rw [(ins_perm _ _ hoe X Y).2] at hoee
      have hbl : (bi ++ [PyData.int (allK pre).length]).length ≤ 1000000 := by
        rw [← hbi]
        refine Nat.le_trans (List.length_filterMap_le _ _) ?_
        rw [idx_len, ← List.length_map (f := encK), ← allRows_K]
        exact hr1
      have hdt : ((allRows ss).drop (allK pre).length).length + ((allRows ss).take (allK pre).length).length ≤ 1000000 := by
        rw [List.length_drop, List.length_take]
        omega
      have hkn : ((allK pre).length : Int).natAbs < 4611686018427387904 := by
        have := congrArg List.length hrows
        rw [List.length_append, hplen] at this
        omega
      simp (decide := true) only [repL, e3, e4, sa, sb, hXe, hYe, hdue, hw, he, layStr_w, layStr_e, cmpV_neB, beq_self_eq_true, ne_eq, not_false_eq_true, Bool.and_self, hrev, hbw, hbe, hmw, hr1, bne_self_eq_false, ev_e, ev_t, ev_a, ev_b, evL_nil, evL_cons, evLK1_eq, evLK2_eq, retE_eq, retO_eq, evE_int, evE_str, evE_bool, evE_none, evE_name, nameV_loc, nameV_cell, nameV_free, nameV_unit, nameV_eo, evE_bin, binK1_eq, binK2_eq, binV_add, binV_sub, binV_mul, binV_div, binV_mod, binV_list, binV_tup, evE_neg, negK_eq, evE_if, ifEK_eq, evE_tuple, tupK_eq, evE_list0, evE_list1, list1K_eq, evE_list2, evE_listS, listK_eq, listK1_eq, evE_rev, revK1_eq, revK_eq, evE_slo, sloK1_eq, sloK_eq, evE_sup, supK1_eq, supK_eq, evE_subC, evE_subN, evE_subU, evE_subB, subK1_eq, subK_eq, itemV_list, itemV_tuple, itemV_own, itemOK_eq, itemV_tup, itemV_left, itemV_mixed, retB_eq, cmpVK_eq, evE_cmp, cmpE_ne, neK_eq, cmpE_eq1, cmpE_lt, cmpE_le, cmpE_gt, cmpE_ge, cmpE_is, cmpE_isnot, cmpE_neC, cmpE_neN, cmpE_neT, cmpE_neB, cmpK1_eq, cmpK_eq, cmpE_2, cmp2K1_eq, cmp2K2_eq, cmp2K2b_eq, cmpV_lt, cmpV_le, cmpV_gt, cmpV_ge, cmpV_eqI, cmpV_neI, cmpV_eqS, cmpV_isN, cmpV_isT, cmpV_isnotB, neNil_list, neNil_left, evE_and, andEK_eq, evE_call, callK_eq, retF_eq, callV_own, callV_min, callV_max, callV_lenL, callV_lenT, sumK_eq, callV_sum, callV_tupL, tupOK1_eq, tupOK_eq, callV_tupO, evE_pop, popK1_eq, popK2_eq, compStep_eq, compK1_eq, compK2_eq, compK3_eq, testsE_0, testsE_1, retL_eq, compScope_eq, compK_eq, compV_eq, compVK_eq, evE_comp, rangeK_eq, rangeK1_eq, iterV_range, enumK_eq, iterV_enum, seqIK_list, seqIK_tuple, iterV_name, iterV_subS, iterV_call, boolK_eq, evT_bool, evT_cmp, evT_name, evT_call, allT_and0, allT_or0, allT_and, allT_or, andTK_eq, orTK_eq, storeN_eq, asg_name, asgL_nil, asgL_cons, asgLK_eq, asg_tup_d, asg_tup_v, asg_sub, asgSK1_eq, setOK_eq, asgSK2_own, asgSK2_deck, nextK_eq, stoK_eq, exS_name, stoCK_eq, exS_nameC, tasK_eq, exS_tup, exS_swp2, exS_swp3, swpK2_d, swpK2_v, swpK3_v, storeL_nil, storeL_cons, storeLK_eq, sasK_eq, exS_sub, exS_aug, augK1_eq, augK2_eq, exS_if, ifSK_eq, forStep_eq, forK_eq, exS_for, loopF_nil, loopF_cons, loopK_next, loopK_ret, rtnK_eq, exS_ret, exS_meth, methK1_eq, appK_eq, methK2_app, extK_eq, methK2_ext, exB_nil, exB_cons, seqK_next, seqK_ret, fzK_eq, retFK_eq, layStr_left, layStr_mixed, layStr_m, layStr_l, layStr_z, layStr_w, layStr_e, Option.bind_some, Option.map_some, List.length_cons, List.length_nil, if_true, if_false, Bool.false_eq_true, decide_eq_true_eq, Bool.not_true, Bool.not_false, Bool.not_eq_true, List.map_cons, List.map_nil, List.reverse_cons, List.reverse_nil, List.nil_append, List.cons_append, gt_iff_lt, ge_iff_le, beq_iff_eq, Nat.reduceAdd, ite_self, mkTup, allD, Option.some.injEq, List.all_cons, List.all_nil, Bool.and_true, Bool.true_and, argOk, freeze, Option.isSome_some, decide_true, decide_false, Option.bind_none, Option.map_none, List.getElem?_cons_zero, List.getElem?_cons_succ, blank, encP, encL, getC, Bool.not_eq_true', compL, Option.toList_some, Option.toList_none, List.append_nil, itemL_0, itemL_1, itemL_2, itemL_m1, Int.cast_ofNat_Int, intsOf, List.set_cons_zero, List.set_cons_succ, Int.reduceAdd, Int.reduceSub, Int.reduceNeg, Int.reduceMul, gv_law_0, sv_law_0, gv_law_1, sv_law_1, gv_law_2, sv_law_2, gv_law_3, sv_law_3, gv_law_4, sv_law_4, gv_law_5, sv_law_5, gv_law_6, sv_law_6, gv_law_7, sv_law_7, gv_law_8, sv_law_8, gv_law_9, sv_law_9, gv_law_10, sv_law_10, gv_law_11, sv_law_11, gv_law_12, sv_law_12]
      rw [show enumL 0 (allRows ss) = (idx 0 (allK ss)).map encI by rw [allRows_K, enum_idx], compL_rw encI gM (fun _ => True) (idx 0 (allK ss)) (fun _ _ => trivial), hbi]
      rotate_left
      · intro q _
        obtain ⟨k, r⟩ := q
        cases r with
        | m p => simp (decide := true) only [encI, encK, row2, gM, sM, layStr_m, beq_self_eq_true, ev_e, ev_t, ev_a, ev_b, evL_nil, evL_cons, evLK1_eq, evLK2_eq, retE_eq, retO_eq, evE_int, evE_str, evE_bool, evE_none, evE_name, nameV_loc, nameV_cell, nameV_free, nameV_unit, nameV_eo, evE_bin, binK1_eq, binK2_eq, binV_add, binV_sub, binV_mul, binV_div, binV_mod, binV_list, binV_tup, evE_neg, negK_eq, evE_if, ifEK_eq, evE_tuple, tupK_eq, evE_list0, evE_list1, list1K_eq, evE_list2, evE_listS, listK_eq, listK1_eq, evE_rev, revK1_eq, revK_eq, evE_slo, sloK1_eq, sloK_eq, evE_sup, supK1_eq, supK_eq, evE_subC, evE_subN, evE_subU, evE_subB, subK1_eq, subK_eq, itemV_list, itemV_tuple, itemV_own, itemOK_eq, itemV_tup, itemV_left, itemV_mixed, retB_eq, cmpVK_eq, evE_cmp, cmpE_ne, neK_eq, cmpE_eq1, cmpE_lt, cmpE_le, cmpE_gt, cmpE_ge, cmpE_is, cmpE_isnot, cmpE_neC, cmpE_neN, cmpE_neT, cmpE_neB, cmpK1_eq, cmpK_eq, cmpE_2, cmp2K1_eq, cmp2K2_eq, cmp2K2b_eq, cmpV_lt, cmpV_le, cmpV_gt, cmpV_ge, cmpV_eqI, cmpV_neI, cmpV_eqS, cmpV_isN, cmpV_isT, cmpV_isnotB, neNil_list, neNil_left, evE_and, andEK_eq, evE_call, callK_eq, retF_eq, callV_own, callV_min, callV_max, callV_lenL, callV_lenT, sumK_eq, callV_sum, callV_tupL, tupOK1_eq, tupOK_eq, callV_tupO, evE_pop, popK1_eq, popK2_eq, compStep_eq, compK1_eq, compK2_eq, compK3_eq, testsE_0, testsE_1, retL_eq, compScope_eq, compK_eq, compV_eq, compVK_eq, evE_comp, rangeK_eq, rangeK1_eq, iterV_range, enumK_eq, iterV_enum, seqIK_list, seqIK_tuple, iterV_name, iterV_subS, iterV_call, boolK_eq, evT_bool, evT_cmp, evT_name, evT_call, allT_and0, allT_or0, allT_and, allT_or, andTK_eq, orTK_eq, storeN_eq, asg_name, asgL_nil, asgL_cons, asgLK_eq, asg_tup_d, asg_tup_v, asg_sub, asgSK1_eq, setOK_eq, asgSK2_own, asgSK2_deck, nextK_eq, stoK_eq, exS_name, stoCK_eq, exS_nameC, tasK_eq, exS_tup, exS_swp2, exS_swp3, swpK2_d, swpK2_v, swpK3_v, storeL_nil, storeL_cons, storeLK_eq, sasK_eq, exS_sub, exS_aug, augK1_eq, augK2_eq, exS_if, ifSK_eq, forStep_eq, forK_eq, exS_for, loopF_nil, loopF_cons, loopK_next, loopK_ret, rtnK_eq, exS_ret, exS_meth, methK1_eq, appK_eq, methK2_app, extK_eq, methK2_ext, exB_nil, exB_cons, seqK_next, seqK_ret, fzK_eq, retFK_eq, layStr_left, layStr_mixed, layStr_m, layStr_l, layStr_z, layStr_w, layStr_e, getV, setV, Option.bind_some, Option.map_some, List.length_cons, List.length_nil, if_true, if_false, Bool.false_eq_true, decide_eq_true_eq, Bool.not_true, Bool.not_false, Bool.not_eq_true, List.map_cons, List.map_nil, List.reverse_cons, List.reverse_nil, List.nil_append, List.cons_append, gt_iff_lt, ge_iff_le, beq_iff_eq, Nat.reduceAdd, ite_self, mkTup, allD, Option.some.injEq, List.all_cons, List.all_nil, Bool.and_true, Bool.true_and, argOk, freeze, Option.isSome_some, decide_true, decide_false, Option.bind_none, Option.map_none, List.getElem?_cons_zero, List.getElem?_cons_succ, blank, encP, encL, getC, Bool.not_eq_true', compL, Option.toList_some, Option.toList_none, List.append_nil, itemL_0, itemL_1, itemL_2, itemL_m1, Int.cast_ofNat_Int, intsOf, List.set_cons_zero, List.set_cons_succ, Int.reduceAdd, Int.reduceSub, Int.reduceNeg, Int.reduceMul]
        | l p =>
          have hne : (sL == Str.ofString "m") = false := by decide +kernel
          simp (decide := true) only [encI, encK, row2, gM, layStr_m, hne, ev_e, ev_t, ev_a, ev_b, evL_nil, evL_cons, evLK1_eq, evLK2_eq, retE_eq, retO_eq, evE_int, evE_str, evE_bool, evE_none, evE_name, nameV_loc, nameV_cell, nameV_free, nameV_unit, nameV_eo, evE_bin, binK1_eq, binK2_eq, binV_add, binV_sub, binV_mul, binV_div, binV_mod, binV_list, binV_tup, evE_neg, negK_eq, evE_if, ifEK_eq, evE_tuple, tupK_eq, evE_list0, evE_list1, list1K_eq, evE_list2, evE_listS, listK_eq, listK1_eq, evE_rev, revK1_eq, revK_eq, evE_slo, sloK1_eq, sloK_eq, evE_sup, supK1_eq, supK_eq, evE_subC, evE_subN, evE_subU, evE_subB, subK1_eq, subK_eq, itemV_list, itemV_tuple, itemV_own, itemOK_eq, itemV_tup, itemV_left, itemV_mixed, retB_eq, cmpVK_eq, evE_cmp, cmpE_ne, neK_eq, cmpE_eq1, cmpE_lt, cmpE_le, cmpE_gt, cmpE_ge, cmpE_is, cmpE_isnot, cmpE_neC, cmpE_neN, cmpE_neT, cmpE_neB, cmpK1_eq, cmpK_eq, cmpE_2, cmp2K1_eq, cmp2K2_eq, cmp2K2b_eq, cmpV_lt, cmpV_le, cmpV_gt, cmpV_ge, cmpV_eqI, cmpV_neI, cmpV_eqS, cmpV_isN, cmpV_isT, cmpV_isnotB, neNil_list, neNil_left, evE_and, andEK_eq, evE_call, callK_eq, retF_eq, callV_own, callV_min, callV_max, callV_lenL, callV_lenT, sumK_eq, callV_sum, callV_tupL, tupOK1_eq, tupOK_eq, callV_tupO, evE_pop, popK1_eq, popK2_eq, compStep_eq, compK1_eq, compK2_eq, compK3_eq, testsE_0, testsE_1, retL_eq, compScope_eq, compK_eq, compV_eq, compVK_eq, evE_comp, rangeK_eq, rangeK1_eq, iterV_range, enumK_eq, iterV_enum, seqIK_list, seqIK_tuple, iterV_name, iterV_subS, iterV_call, boolK_eq, evT_bool, evT_cmp, evT_name, evT_call, allT_and0, allT_or0, allT_and, allT_or, andTK_eq, orTK_eq, storeN_eq, asg_name, asgL_nil, asgL_cons, asgLK_eq, asg_tup_d, asg_tup_v, asg_sub, asgSK1_eq, setOK_eq, asgSK2_own, asgSK2_deck, nextK_eq, stoK_eq, exS_name, stoCK_eq, exS_nameC, tasK_eq, exS_tup, exS_swp2, exS_swp3, swpK2_d, swpK2_v, swpK3_v, storeL_nil, storeL_cons, storeLK_eq, sasK_eq, exS_sub, exS_aug, augK1_eq, augK2_eq, exS_if, ifSK_eq, forStep_eq, forK_eq, exS_for, loopF_nil, loopF_cons, loopK_next, loopK_ret, rtnK_eq, exS_ret, exS_meth, methK1_eq, appK_eq, methK2_app, extK_eq, methK2_ext, exB_nil, exB_cons, seqK_next, seqK_ret, fzK_eq, retFK_eq, layStr_left, layStr_mixed, layStr_m, layStr_l, layStr_z, layStr_w, layStr_e, getV, setV, Option.bind_some, Option.map_some, List.length_cons, List.length_nil, if_true, if_false, Bool.false_eq_true, decide_eq_true_eq, Bool.not_true, Bool.not_false, Bool.not_eq_true, List.map_cons, List.map_nil, List.reverse_cons, List.reverse_nil, List.nil_append, List.cons_append, gt_iff_lt, ge_iff_le, beq_iff_eq, Nat.reduceAdd, ite_self, mkTup, allD, Option.some.injEq, List.all_cons, List.all_nil, Bool.and_true, Bool.true_and, argOk, freeze, Option.isSome_some, decide_true, decide_false, Option.bind_none, Option.map_none, List.getElem?_cons_zero, List.getElem?_cons_succ, blank, encP, encL, getC, Bool.not_eq_true', compL, Option.toList_some, Option.toList_none, List.append_nil, itemL_0, itemL_1, itemL_2, itemL_m1, Int.cast_ofNat_Int, intsOf, List.set_cons_zero, List.set_cons_succ, Int.reduceAdd, Int.reduceSub, Int.reduceNeg, Int.reduceMul]
        | z =>
          have hne : (sZ == Str.ofString "m") = false := by decide +kernel
          simp (decide := true) only [encI, encK, zrow, gM, layStr_m, hne, ev_e, ev_t, ev_a, ev_b, evL_nil, evL_cons, evLK1_eq, evLK2_eq, retE_eq, retO_eq, evE_int, evE_str, evE_bool, evE_none, evE_name, nameV_loc, nameV_cell, nameV_free, nameV_unit, nameV_eo, evE_bin, binK1_eq, binK2_eq, binV_add, binV_sub, binV_mul, binV_div, binV_mod, binV_list, binV_tup, evE_neg, negK_eq, evE_if, ifEK_eq, evE_tuple, tupK_eq, evE_list0, evE_list1, list1K_eq, evE_list2, evE_listS, listK_eq, listK1_eq, evE_rev, revK1_eq, revK_eq, evE_slo, sloK1_eq, sloK_eq, evE_sup, supK1_eq, supK_eq, evE_subC, evE_subN, evE_subU, evE_subB, subK1_eq, subK_eq, itemV_list, itemV_tuple, itemV_own, itemOK_eq, itemV_tup, itemV_left, itemV_mixed, retB_eq, cmpVK_eq, evE_cmp, cmpE_ne, neK_eq, cmpE_eq1, cmpE_lt, cmpE_le, cmpE_gt, cmpE_ge, cmpE_is, cmpE_isnot, cmpE_neC, cmpE_neN, cmpE_neT, cmpE_neB, cmpK1_eq, cmpK_eq, cmpE_2, cmp2K1_eq, cmp2K2_eq, cmp2K2b_eq, cmpV_lt, cmpV_le, cmpV_gt, cmpV_ge, cmpV_eqI, cmpV_neI, cmpV_eqS, cmpV_isN, cmpV_isT, cmpV_isnotB, neNil_list, neNil_left, evE_and, andEK_eq, evE_call, callK_eq, retF_eq, callV_own, callV_min, callV_max, callV_lenL, callV_lenT, sumK_eq, callV_sum, callV_tupL, tupOK1_eq, tupOK_eq, callV_tupO, evE_pop, popK1_eq, popK2_eq, compStep_eq, compK1_eq, compK2_eq, compK3_eq, testsE_0, testsE_1, retL_eq, compScope_eq, compK_eq, compV_eq, compVK_eq, evE_comp, rangeK_eq, rangeK1_eq, iterV_range, enumK_eq, iterV_enum, seqIK_list, seqIK_tuple, iterV_name, iterV_subS, iterV_call, boolK_eq, evT_bool, evT_cmp, evT_name, evT_call, allT_and0, allT_or0, allT_and, allT_or, andTK_eq, orTK_eq, storeN_eq, asg_name, asgL_nil, asgL_cons, asgLK_eq, asg_tup_d, asg_tup_v, asg_sub, asgSK1_eq, setOK_eq, asgSK2_own, asgSK2_deck, nextK_eq, stoK_eq, exS_name, stoCK_eq, exS_nameC, tasK_eq, exS_tup, exS_swp2, exS_swp3, swpK2_d, swpK2_v, swpK3_v, storeL_nil, storeL_cons, storeLK_eq, sasK_eq, exS_sub, exS_aug, augK1_eq, augK2_eq, exS_if, ifSK_eq, forStep_eq, forK_eq, exS_for, loopF_nil, loopF_cons, loopK_next, loopK_ret, rtnK_eq, exS_ret, exS_meth, methK1_eq, appK_eq, methK2_app, extK_eq, methK2_ext, exB_nil, exB_cons, seqK_next, seqK_ret, fzK_eq, retFK_eq, layStr_left, layStr_mixed, layStr_m, layStr_l, layStr_z, layStr_w, layStr_e, getV, setV, Option.bind_some, Option.map_some, List.length_cons, List.length_nil, if_true, if_false, Bool.false_eq_true, decide_eq_true_eq, Bool.not_true, Bool.not_false, Bool.not_eq_true, List.map_cons, List.map_nil, List.reverse_cons, List.reverse_nil, List.nil_append, List.cons_append, gt_iff_lt, ge_iff_le, beq_iff_eq, Nat.reduceAdd, ite_self, mkTup, allD, Option.some.injEq, List.all_cons, List.all_nil, Bool.and_true, Bool.true_and, argOk, freeze, Option.isSome_some, decide_true, decide_false, Option.bind_none, Option.map_none, List.getElem?_cons_zero, List.getElem?_cons_succ, blank, encP, encL, getC, Bool.not_eq_true', compL, Option.toList_some, Option.toList_none, List.append_nil, itemL_0, itemL_1, itemL_2, itemL_m1, Int.cast_ofNat_Int, intsOf, List.set_cons_zero, List.set_cons_succ, Int.reduceAdd, Int.reduceSub, Int.reduceNeg, Int.reduceMul]
      refine ⟨repL ss d4 ⟨some (.d (.int 0)), some (.d (.int X)), some (.d (.int Y)), some (.d (.list [.bool (insW ss X Y), .bool (insE ss X Y)])), some (.d (.list (allRows (ss.map revS)))), some (.d (.int 3000000)), some (.d (.list (bi ++ [.int (allK pre).length]))), some (.d (.list (allRows (s :: pre))))⟩, ?_, d4, _, h4, rfl⟩
      simp (decide := true) only [repL, hbl, hr1, slice_from, slice_to, hdt, hoth, how, hoee, layStr_w, layStr_e, cmpV_neB, beq_self_eq_true, Bool.and_self, ev_e, ev_t, ev_a, ev_b, evL_nil, evL_cons, evLK1_eq, evLK2_eq, retE_eq, retO_eq, evE_int, evE_str, evE_bool, evE_none, evE_name, nameV_loc, nameV_cell, nameV_free, nameV_unit, nameV_eo, evE_bin, binK1_eq, binK2_eq, binV_add, binV_sub, binV_mul, binV_div, binV_mod, binV_list, binV_tup, evE_neg, negK_eq, evE_if, ifEK_eq, evE_tuple, tupK_eq, evE_list0, evE_list1, list1K_eq, evE_list2, evE_listS, listK_eq, listK1_eq, evE_rev, revK1_eq, revK_eq, evE_slo, sloK1_eq, sloK_eq, evE_sup, supK1_eq, supK_eq, evE_subC, evE_subN, evE_subU, evE_subB, subK1_eq, subK_eq, itemV_list, itemV_tuple, itemV_own, itemOK_eq, itemV_tup, itemV_left, itemV_mixed, retB_eq, cmpVK_eq, evE_cmp, cmpE_ne, neK_eq, cmpE_eq1, cmpE_lt, cmpE_le, cmpE_gt, cmpE_ge, cmpE_is, cmpE_isnot, cmpE_neC, cmpE_neN, cmpE_neT, cmpE_neB, cmpK1_eq, cmpK_eq, cmpE_2, cmp2K1_eq, cmp2K2_eq, cmp2K2b_eq, cmpV_lt, cmpV_le, cmpV_gt, cmpV_ge, cmpV_eqI, cmpV_neI, cmpV_eqS, cmpV_isN, cmpV_isT, cmpV_isnotB, neNil_list, neNil_left, evE_and, andEK_eq, evE_call, callK_eq, retF_eq, callV_own, callV_min, callV_max, callV_lenL, callV_lenT, sumK_eq, callV_sum, callV_tupL, tupOK1_eq, tupOK_eq, callV_tupO, evE_pop, popK1_eq, popK2_eq, compStep_eq, compK1_eq, compK2_eq, compK3_eq, testsE_0, testsE_1, retL_eq, compScope_eq, compK_eq, compV_eq, compVK_eq, evE_comp, rangeK_eq, rangeK1_eq, iterV_range, enumK_eq, iterV_enum, seqIK_list, seqIK_tuple, iterV_name, iterV_subS, iterV_call, boolK_eq, evT_bool, evT_cmp, evT_name, evT_call, allT_and0, allT_or0, allT_and, allT_or, andTK_eq, orTK_eq, storeN_eq, asg_name, asgL_nil, asgL_cons, asgLK_eq, asg_tup_d, asg_tup_v, asg_sub, asgSK1_eq, setOK_eq, asgSK2_own, asgSK2_deck, nextK_eq, stoK_eq, exS_name, stoCK_eq, exS_nameC, tasK_eq, exS_tup, exS_swp2, exS_swp3, swpK2_d, swpK2_v, swpK3_v, storeL_nil, storeL_cons, storeLK_eq, sasK_eq, exS_sub, exS_aug, augK1_eq, augK2_eq, exS_if, ifSK_eq, forStep_eq, forK_eq, exS_for, loopF_nil, loopF_cons, loopK_next, loopK_ret, rtnK_eq, exS_ret, exS_meth, methK1_eq, appK_eq, methK2_app, extK_eq, methK2_ext, exB_nil, exB_cons, seqK_next, seqK_ret, fzK_eq, retFK_eq, layStr_left, layStr_mixed, layStr_m, layStr_l, layStr_z, layStr_w, layStr_e, Option.bind_some, Option.map_some, List.length_cons, List.length_nil, if_true, if_false, Bool.false_eq_true, decide_eq_true_eq, Bool.not_true, Bool.not_false, Bool.not_eq_true, List.map_cons, List.map_nil, List.reverse_cons, List.reverse_nil, List.nil_append, List.cons_append, gt_iff_lt, ge_iff_le, beq_iff_eq, Nat.reduceAdd, ite_self, mkTup, allD, Option.some.injEq, List.all_cons, List.all_nil, Bool.and_true, Bool.true_and, argOk, freeze, Option.isSome_some, decide_true, decide_false, Option.bind_none, Option.map_none, List.getElem?_cons_zero, List.getElem?_cons_succ, blank, encP, encL, getC, Bool.not_eq_true', compL, Option.toList_some, Option.toList_none, List.append_nil, itemL_0, itemL_1, itemL_2, itemL_m1, Int.cast_ofNat_Int, intsOf, List.set_cons_zero, List.set_cons_succ, Int.reduceAdd, Int.reduceSub, Int.reduceNeg, Int.reduceMul, gv_law_0, sv_law_0, gv_law_1, sv_law_1, gv_law_2, sv_law_2, gv_law_3, sv_law_3, gv_law_4, sv_law_4, gv_law_5, sv_law_5, gv_law_6, sv_law_6, gv_law_7, sv_law_7, gv_law_8, sv_law_8, gv_law_9, sv_law_9, gv_law_10, sv_law_10, gv_law_11, sv_law_11, gv_law_12, sv_law_12]
    · have hi' : (i == 0) = false := beq_false_of_ne hi
      refine ⟨repL ss d4 { j with a := some (.d (.int i)), b := some (.d (.int X)), c := some (.d (.int Y)), d := some (.d (.list [.bool (insW ss X Y), .bool (insE ss X Y)])) }, ?_, d4, _, h4, rfl⟩
      simp (decide := true) only [repL, e3, e4, sa, sb, hXe, hYe, hdue, hw, he, layStr_w, layStr_e, cmpV_neB, beq_self_eq_true, hi', ne_eq, not_false_eq_true, Bool.and_self, ev_e, ev_t, ev_a, ev_b, evL_nil, evL_cons, evLK1_eq, evLK2_eq, retE_eq, retO_eq, evE_int, evE_str, evE_bool, evE_none, evE_name, nameV_loc, nameV_cell, nameV_free, nameV_unit, nameV_eo, evE_bin, binK1_eq, binK2_eq, binV_add, binV_sub, binV_mul, binV_div, binV_mod, binV_list, binV_tup, evE_neg, negK_eq, evE_if, ifEK_eq, evE_tuple, tupK_eq, evE_list0, evE_list1, list1K_eq, evE_list2, evE_listS, listK_eq, listK1_eq, evE_rev, revK1_eq, revK_eq, evE_slo, sloK1_eq, sloK_eq, evE_sup, supK1_eq, supK_eq, evE_subC, evE_subN, evE_subU, evE_subB, subK1_eq, subK_eq, itemV_list, itemV_tuple, itemV_own, itemOK_eq, itemV_tup, itemV_left, itemV_mixed, retB_eq, cmpVK_eq, evE_cmp, cmpE_ne, neK_eq, cmpE_eq1, cmpE_lt, cmpE_le, cmpE_gt, cmpE_ge, cmpE_is, cmpE_isnot, cmpE_neC, cmpE_neN, cmpE_neT, cmpE_neB, cmpK1_eq, cmpK_eq, cmpE_2, cmp2K1_eq, cmp2K2_eq, cmp2K2b_eq, cmpV_lt, cmpV_le, cmpV_gt, cmpV_ge, cmpV_eqI, cmpV_neI, cmpV_eqS, cmpV_isN, cmpV_isT, cmpV_isnotB, neNil_list, neNil_left, evE_and, andEK_eq, evE_call, callK_eq, retF_eq, callV_own, callV_min, callV_max, callV_lenL, callV_lenT, sumK_eq, callV_sum, callV_tupL, tupOK1_eq, tupOK_eq, callV_tupO, evE_pop, popK1_eq, popK2_eq, compStep_eq, compK1_eq, compK2_eq, compK3_eq, testsE_0, testsE_1, retL_eq, compScope_eq, compK_eq, compV_eq, compVK_eq, evE_comp, rangeK_eq, rangeK1_eq, iterV_range, enumK_eq, iterV_enum, seqIK_list, seqIK_tuple, iterV_name, iterV_subS, iterV_call, boolK_eq, evT_bool, evT_cmp, evT_name, evT_call, allT_and0, allT_or0, allT_and, allT_or, andTK_eq, orTK_eq, storeN_eq, asg_name, asgL_nil, asgL_cons, asgLK_eq, asg_tup_d, asg_tup_v, asg_sub, asgSK1_eq, setOK_eq, asgSK2_own, asgSK2_deck, nextK_eq, stoK_eq, exS_name, stoCK_eq, exS_nameC, tasK_eq, exS_tup, exS_swp2, exS_swp3, swpK2_d, swpK2_v, swpK3_v, storeL_nil, storeL_cons, storeLK_eq, sasK_eq, exS_sub, exS_aug, augK1_eq, augK2_eq, exS_if, ifSK_eq, forStep_eq, forK_eq, exS_for, loopF_nil, loopF_cons, loopK_next, loopK_ret, rtnK_eq, exS_ret, exS_meth, methK1_eq, appK_eq, methK2_app, extK_eq, methK2_ext, exB_nil, exB_cons, seqK_next, seqK_ret, fzK_eq, retFK_eq, layStr_left, layStr_mixed, layStr_m, layStr_l, layStr_z, layStr_w, layStr_e, Option.bind_some, Option.map_some, List.length_cons, List.length_nil, if_true, if_false, Bool.false_eq_true, decide_eq_true_eq, Bool.not_true, Bool.not_false, Bool.not_eq_true, List.map_cons, List.map_nil, List.reverse_cons, List.reverse_nil, List.nil_append, List.cons_append, gt_iff_lt, ge_iff_le, beq_iff_eq, Nat.reduceAdd, ite_self, mkTup, allD, Option.some.injEq, List.all_cons, List.all_nil, Bool.and_true, Bool.true_and, argOk, freeze, Option.isSome_some, decide_true, decide_false, Option.bind_none, Option.map_none, List.getElem?_cons_zero, List.getElem?_cons_succ, blank, encP, encL, getC, Bool.not_eq_true', compL, Option.toList_some, Option.toList_none, List.append_nil, itemL_0, itemL_1, itemL_2, itemL_m1, Int.cast_ofNat_Int, intsOf, List.set_cons_zero, List.set_cons_succ, Int.reduceAdd, Int.reduceSub, Int.reduceNeg, Int.reduceMul, gv_law_0, sv_law_0, gv_law_1, sv_law_1, gv_law_2, sv_law_2, gv_law_3, sv_law_3, gv_law_4, sv_law_4, gv_law_5, sv_law_5, gv_law_6, sv_law_6, gv_law_7, sv_law_7, gv_law_8, sv_law_8, gv_law_9, sv_law_9, gv_law_10, sv_law_10, gv_law_11, sv_law_11, gv_law_12, sv_law_12]
  obtain ⟨st', rfl, d2, j2, rfl⟩ := key
  have harea := fun n dk => area_f n ss dk hl8 hg
  rw [area_law] at harea
  have hlen : ((linesS ss).map encL).length ≤ 1000000 := by rw [List.length_map]; omega
  have hilen : ((linesS ss).map fun e => PyData.int (arL e)).length ≤ 1000000 := by rw [List.length_map]; omega
  simp (decide := true) only [repL, harea, hlen, ev_e, ev_t, ev_a, ev_b, evL_nil, evL_cons, evLK1_eq, evLK2_eq, retE_eq, retO_eq, evE_int, evE_str, evE_bool, evE_none, evE_name, nameV_loc, nameV_cell, nameV_free, nameV_unit, nameV_eo, evE_bin, binK1_eq, binK2_eq, binV_add, binV_sub, binV_mul, binV_div, binV_mod, binV_list, binV_tup, evE_neg, negK_eq, evE_if, ifEK_eq, evE_tuple, tupK_eq, evE_list0, evE_list1, list1K_eq, evE_list2, evE_listS, listK_eq, listK1_eq, evE_rev, revK1_eq, revK_eq, evE_slo, sloK1_eq, sloK_eq, evE_sup, supK1_eq, supK_eq, evE_subC, evE_subN, evE_subU, evE_subB, subK1_eq, subK_eq, itemV_list, itemV_tuple, itemV_own, itemOK_eq, itemV_tup, itemV_left, itemV_mixed, retB_eq, cmpVK_eq, evE_cmp, cmpE_ne, neK_eq, cmpE_eq1, cmpE_lt, cmpE_le, cmpE_gt, cmpE_ge, cmpE_is, cmpE_isnot, cmpE_neC, cmpE_neN, cmpE_neT, cmpE_neB, cmpK1_eq, cmpK_eq, cmpE_2, cmp2K1_eq, cmp2K2_eq, cmp2K2b_eq, cmpV_lt, cmpV_le, cmpV_gt, cmpV_ge, cmpV_eqI, cmpV_neI, cmpV_eqS, cmpV_isN, cmpV_isT, cmpV_isnotB, neNil_list, neNil_left, evE_and, andEK_eq, evE_call, callK_eq, retF_eq, callV_own, callV_min, callV_max, callV_lenL, callV_lenT, sumK_eq, callV_sum, callV_tupL, tupOK1_eq, tupOK_eq, callV_tupO, evE_pop, popK1_eq, popK2_eq, compStep_eq, compK1_eq, compK2_eq, compK3_eq, testsE_0, testsE_1, retL_eq, compScope_eq, compK_eq, compV_eq, compVK_eq, evE_comp, rangeK_eq, rangeK1_eq, iterV_range, enumK_eq, iterV_enum, seqIK_list, seqIK_tuple, iterV_name, iterV_subS, iterV_call, boolK_eq, evT_bool, evT_cmp, evT_name, evT_call, allT_and0, allT_or0, allT_and, allT_or, andTK_eq, orTK_eq, storeN_eq, asg_name, asgL_nil, asgL_cons, asgLK_eq, asg_tup_d, asg_tup_v, asg_sub, asgSK1_eq, setOK_eq, asgSK2_own, asgSK2_deck, nextK_eq, stoK_eq, exS_name, stoCK_eq, exS_nameC, tasK_eq, exS_tup, exS_swp2, exS_swp3, swpK2_d, swpK2_v, swpK3_v, storeL_nil, storeL_cons, storeLK_eq, sasK_eq, exS_sub, exS_aug, augK1_eq, augK2_eq, exS_if, ifSK_eq, forStep_eq, forK_eq, exS_for, loopF_nil, loopF_cons, loopK_next, loopK_ret, rtnK_eq, exS_ret, exS_meth, methK1_eq, appK_eq, methK2_app, extK_eq, methK2_ext, exB_nil, exB_cons, seqK_next, seqK_ret, fzK_eq, retFK_eq, layStr_left, layStr_mixed, layStr_m, layStr_l, layStr_z, layStr_w, layStr_e, Option.bind_some, Option.map_some, List.length_cons, List.length_nil, if_true, if_false, Bool.false_eq_true, decide_eq_true_eq, Bool.not_true, Bool.not_false, Bool.not_eq_true, List.map_cons, List.map_nil, List.reverse_cons, List.reverse_nil, List.nil_append, List.cons_append, gt_iff_lt, ge_iff_le, beq_iff_eq, Nat.reduceAdd, ite_self, mkTup, allD, Option.some.injEq, List.all_cons, List.all_nil, Bool.and_true, Bool.true_and, argOk, freeze, Option.isSome_some, decide_true, decide_false, Option.bind_none, Option.map_none, List.getElem?_cons_zero, List.getElem?_cons_succ, blank, encP, encL, getC, Bool.not_eq_true', compL, Option.toList_some, Option.toList_none, List.append_nil, itemL_0, itemL_1, itemL_2, itemL_m1, Int.cast_ofNat_Int, intsOf, List.set_cons_zero, List.set_cons_succ, Int.reduceAdd, Int.reduceSub, Int.reduceNeg, Int.reduceMul, gv_law_0, sv_law_0, gv_law_1, sv_law_1, gv_law_2, sv_law_2, gv_law_3, sv_law_3, gv_law_4, sv_law_4, gv_law_5, sv_law_5, gv_law_6, sv_law_6, gv_law_7, sv_law_7, gv_law_8, sv_law_8, gv_law_9, sv_law_9, gv_law_10, sv_law_10, gv_law_11, sv_law_11, gv_law_12, sv_law_12]
  rw [compL_rw encL (fun e => some (.int (arL e))) BdL (linesS ss) hlb, show (linesS ss).filterMap (fun e => some (PyData.int (arL e))) = (linesS ss).map fun e => .int (arL e) by simp]
  rotate_left
  · intro l hg
    obtain ⟨⟨ax, ay⟩, ⟨bx, b⟩⟩ := l
    obtain ⟨⟨h1, h2⟩, ⟨h3, h4⟩⟩ := hg
    dsimp only at h1 h2 h3 h4
    have s1 : small ax = true := small_of (by omega)
    have s2 : small bx = true := small_of (by omega)
    simp (decide := true) only [s1, s2, arL, ev_e, ev_t, ev_a, ev_b, evL_nil, evL_cons, evLK1_eq, evLK2_eq, retE_eq, retO_eq, evE_int, evE_str, evE_bool, evE_none, evE_name, nameV_loc, nameV_cell, nameV_free, nameV_unit, nameV_eo, evE_bin, binK1_eq, binK2_eq, binV_add, binV_sub, binV_mul, binV_div, binV_mod, binV_list, binV_tup, evE_neg, negK_eq, evE_if, ifEK_eq, evE_tuple, tupK_eq, evE_list0, evE_list1, list1K_eq, evE_list2, evE_listS, listK_eq, listK1_eq, evE_rev, revK1_eq, revK_eq, evE_slo, sloK1_eq, sloK_eq, evE_sup, supK1_eq, supK_eq, evE_subC, evE_subN, evE_subU, evE_subB, subK1_eq, subK_eq, itemV_list, itemV_tuple, itemV_own, itemOK_eq, itemV_tup, itemV_left, itemV_mixed, retB_eq, cmpVK_eq, evE_cmp, cmpE_ne, neK_eq, cmpE_eq1, cmpE_lt, cmpE_le, cmpE_gt, cmpE_ge, cmpE_is, cmpE_isnot, cmpE_neC, cmpE_neN, cmpE_neT, cmpE_neB, cmpK1_eq, cmpK_eq, cmpE_2, cmp2K1_eq, cmp2K2_eq, cmp2K2b_eq, cmpV_lt, cmpV_le, cmpV_gt, cmpV_ge, cmpV_eqI, cmpV_neI, cmpV_eqS, cmpV_isN, cmpV_isT, cmpV_isnotB, neNil_list, neNil_left, evE_and, andEK_eq, evE_call, callK_eq, retF_eq, callV_own, callV_min, callV_max, callV_lenL, callV_lenT, sumK_eq, callV_sum, callV_tupL, tupOK1_eq, tupOK_eq, callV_tupO, evE_pop, popK1_eq, popK2_eq, compStep_eq, compK1_eq, compK2_eq, compK3_eq, testsE_0, testsE_1, retL_eq, compScope_eq, compK_eq, compV_eq, compVK_eq, evE_comp, rangeK_eq, rangeK1_eq, iterV_range, enumK_eq, iterV_enum, seqIK_list, seqIK_tuple, iterV_name, iterV_subS, iterV_call, boolK_eq, evT_bool, evT_cmp, evT_name, evT_call, allT_and0, allT_or0, allT_and, allT_or, andTK_eq, orTK_eq, storeN_eq, asg_name, asgL_nil, asgL_cons, asgLK_eq, asg_tup_d, asg_tup_v, asg_sub, asgSK1_eq, setOK_eq, asgSK2_own, asgSK2_deck, nextK_eq, stoK_eq, exS_name, stoCK_eq, exS_nameC, tasK_eq, exS_tup, exS_swp2, exS_swp3, swpK2_d, swpK2_v, swpK3_v, storeL_nil, storeL_cons, storeLK_eq, sasK_eq, exS_sub, exS_aug, augK1_eq, augK2_eq, exS_if, ifSK_eq, forStep_eq, forK_eq, exS_for, loopF_nil, loopF_cons, loopK_next, loopK_ret, rtnK_eq, exS_ret, exS_meth, methK1_eq, appK_eq, methK2_app, extK_eq, methK2_ext, exB_nil, exB_cons, seqK_next, seqK_ret, fzK_eq, retFK_eq, layStr_left, layStr_mixed, layStr_m, layStr_l, layStr_z, layStr_w, layStr_e, getV, setV, Option.bind_some, Option.map_some, List.length_cons, List.length_nil, if_true, if_false, Bool.false_eq_true, decide_eq_true_eq, Bool.not_true, Bool.not_false, Bool.not_eq_true, List.map_cons, List.map_nil, List.reverse_cons, List.reverse_nil, List.nil_append, List.cons_append, gt_iff_lt, ge_iff_le, beq_iff_eq, Nat.reduceAdd, ite_self, mkTup, allD, Option.some.injEq, List.all_cons, List.all_nil, Bool.and_true, Bool.true_and, argOk, freeze, Option.isSome_some, decide_true, decide_false, Option.bind_none, Option.map_none, List.getElem?_cons_zero, List.getElem?_cons_succ, blank, encP, encL, getC, Bool.not_eq_true', compL, Option.toList_some, Option.toList_none, List.append_nil, itemL_0, itemL_1, itemL_2, itemL_m1, Int.cast_ofNat_Int, intsOf, List.set_cons_zero, List.set_cons_succ, Int.reduceAdd, Int.reduceSub, Int.reduceNeg, Int.reduceMul]
  simp (decide := true) only [hilen, ints_map, beq_self_eq_true, ev_e, ev_t, ev_a, ev_b, evL_nil, evL_cons, evLK1_eq, evLK2_eq, retE_eq, retO_eq, evE_int, evE_str, evE_bool, evE_none, evE_name, nameV_loc, nameV_cell, nameV_free, nameV_unit, nameV_eo, evE_bin, binK1_eq, binK2_eq, binV_add, binV_sub, binV_mul, binV_div, binV_mod, binV_list, binV_tup, evE_neg, negK_eq, evE_if, ifEK_eq, evE_tuple, tupK_eq, evE_list0, evE_list1, list1K_eq, evE_list2, evE_listS, listK_eq, listK1_eq, evE_rev, revK1_eq, revK_eq, evE_slo, sloK1_eq, sloK_eq, evE_sup, supK1_eq, supK_eq, evE_subC, evE_subN, evE_subU, evE_subB, subK1_eq, subK_eq, itemV_list, itemV_tuple, itemV_own, itemOK_eq, itemV_tup, itemV_left, itemV_mixed, retB_eq, cmpVK_eq, evE_cmp, cmpE_ne, neK_eq, cmpE_eq1, cmpE_lt, cmpE_le, cmpE_gt, cmpE_ge, cmpE_is, cmpE_isnot, cmpE_neC, cmpE_neN, cmpE_neT, cmpE_neB, cmpK1_eq, cmpK_eq, cmpE_2, cmp2K1_eq, cmp2K2_eq, cmp2K2b_eq, cmpV_lt, cmpV_le, cmpV_gt, cmpV_ge, cmpV_eqI, cmpV_neI, cmpV_eqS, cmpV_isN, cmpV_isT, cmpV_isnotB, neNil_list, neNil_left, evE_and, andEK_eq, evE_call, callK_eq, retF_eq, callV_own, callV_min, callV_max, callV_lenL, callV_lenT, sumK_eq, callV_sum, callV_tupL, tupOK1_eq, tupOK_eq, callV_tupO, evE_pop, popK1_eq, popK2_eq, compStep_eq, compK1_eq, compK2_eq, compK3_eq, testsE_0, testsE_1, retL_eq, compScope_eq, compK_eq, compV_eq, compVK_eq, evE_comp, rangeK_eq, rangeK1_eq, iterV_range, enumK_eq, iterV_enum, seqIK_list, seqIK_tuple, iterV_name, iterV_subS, iterV_call, boolK_eq, evT_bool, evT_cmp, evT_name, evT_call, allT_and0, allT_or0, allT_and, allT_or, andTK_eq, orTK_eq, storeN_eq, asg_name, asgL_nil, asgL_cons, asgLK_eq, asg_tup_d, asg_tup_v, asg_sub, asgSK1_eq, setOK_eq, asgSK2_own, asgSK2_deck, nextK_eq, stoK_eq, exS_name, stoCK_eq, exS_nameC, tasK_eq, exS_tup, exS_swp2, exS_swp3, swpK2_d, swpK2_v, swpK3_v, storeL_nil, storeL_cons, storeLK_eq, sasK_eq, exS_sub, exS_aug, augK1_eq, augK2_eq, exS_if, ifSK_eq, forStep_eq, forK_eq, exS_for, loopF_nil, loopF_cons, loopK_next, loopK_ret, rtnK_eq, exS_ret, exS_meth, methK1_eq, appK_eq, methK2_app, extK_eq, methK2_ext, exB_nil, exB_cons, seqK_next, seqK_ret, fzK_eq, retFK_eq, layStr_left, layStr_mixed, layStr_m, layStr_l, layStr_z, layStr_w, layStr_e, Option.bind_some, Option.map_some, List.length_cons, List.length_nil, if_true, if_false, Bool.false_eq_true, decide_eq_true_eq, Bool.not_true, Bool.not_false, Bool.not_eq_true, List.map_cons, List.map_nil, List.reverse_cons, List.reverse_nil, List.nil_append, List.cons_append, gt_iff_lt, ge_iff_le, beq_iff_eq, Nat.reduceAdd, ite_self, mkTup, allD, Option.some.injEq, List.all_cons, List.all_nil, Bool.and_true, Bool.true_and, argOk, freeze, Option.isSome_some, decide_true, decide_false, Option.bind_none, Option.map_none, List.getElem?_cons_zero, List.getElem?_cons_succ, blank, encP, encL, getC, Bool.not_eq_true', compL, Option.toList_some, Option.toList_none, List.append_nil, itemL_0, itemL_1, itemL_2, itemL_m1, Int.cast_ofNat_Int, intsOf, List.set_cons_zero, List.set_cons_succ, Int.reduceAdd, Int.reduceSub, Int.reduceNeg, Int.reduceMul, gv_law_0, sv_law_0, gv_law_1, sv_law_1, gv_law_2, sv_law_2, gv_law_3, sv_law_3, gv_law_4, sv_law_4, gv_law_5, sv_law_5, gv_law_6, sv_law_6, gv_law_7, sv_law_7, gv_law_8, sv_law_8, gv_law_9, sv_law_9, gv_law_10, sv_law_10, gv_law_11, sv_law_11, gv_law_12, sv_law_12]
  exact ⟨_, rfl⟩
end Mine
namespace Mine
open PySem PySem.W PyProof.Rows PySem.Calls
set_option maxRecDepth 100000
section
variable {mg mb : Str → Option Value} {r : Ev} {n : Nat} {P : Pm} {A : Around} {env : Env} {E : Value → Shared → Prop} {s : Shared} {fz : Fz} {oa : List Addr} {c : FC} {st st' : IS} {h h' : Heap} {cl : List (Str × Addr)}

/-- a block's list is new -/
theorem comp_okF (hs : Snd mg mb r n) {elt target iter : Expr} {ifs : List Expr} {scope : Scope} {pos : Pos} {ys : List PyData} {Q : Value → Shared → Prop} (h : compV r c elt target iter ifs scope st = some (ys, st')) (R : Room n A) (I : EnvIs P c env) (B : Base P.hb mg mb)
    (S : St P env.cells c fz oa s.heap st) (hQ : ∀ D fz' oa' h' tk' items nn, P.n0 ≤ D → St P env.cells c fz' oa' h' st' → FLe fz fz' → OLe oa oa' → fz' D = some (lstObj items nn) → RDs fz' items.toList ys → Q (.ref D) { s with heap := h', toks := tk' }) :
    wpAny (model P.prog P.w) A (eval (.ListComp elt [⟨target, iter, ifs, 0⟩] scope pos) env) Q E s := by
  unfold compV at h
  split at h
  case isFalse => cases h
  rename_i hok
  obtain ⟨hok, htgt⟩ := Bool.and_eq_true_iff.mp hok
  have hk := CompOk.of hok
  obtain ⟨⟨xs, st1⟩, h1, h⟩ := Option.bind_eq_some_iff.mp h
  obtain ⟨ys', h2, h⟩ := Option.bind_eq_some_iff.mp h
  cases h
  rw [eval_ListComp]
  have key := iterV_ok (E := E) (K := fun it s₂ => wpAny (model P.prog P.w) A (newList []) (fun acc s₃ => wpAny (model P.prog P.w) A (newFunctionEnv scope env.globals (closL env scope.names []) [] env.qual none .none (some env)) (fun cenv s₄ =>
      codeAny (model P.prog P.w) A (.compStart (.ListComp elt [⟨target, iter, ifs, 0⟩] scope pos) 0 it acc { cenv with scope := relabel scope env }) (compPost (model P.prog P.w) A E none Q acc cenv.locals) s₄) E s₃) E s₂) hs h1 htgt R I B S ?_
  · exact wpAny_comprehension_free (use := none) rfl key.2 (closureFor_is (hk.isSome S)) hk.kind hk.loc key.1
  · intro It wr J fz1 oa1 h1' tk1 S1 k1 q1 it j0 ap
    refine comp_core (s := { s with heap := h1', toks := tk1 }) (RR := fun acc C => compPost (model P.prog P.w) A E none Q acc C) hs hk h2 (iterV_size h1) R I B S1 it j0 ap fun D C h3 tk3 m g items nn hC hD rd S3 k3 aD aC hCD => ?_
    refine ⟨m, hC, fun h4 hs4 => ?_⟩
    obtain ⟨S4, le, _⟩ := S3.freezeD hD rd aD aC hCD hs4
    exact hQ D _ _ _ _ items nn aD.n0 S4 (k1.trans (k3.trans le)) q1 (updF_self _ _ _) (rd.mono le)

/-- where the deck will lie is free, as long as there is none -/
theorem St.setDeck (S : St P cl c fz oa h st) (da la : Addr) (hdk : st.dk = none) (hown : st.own = []) (hv : ∀ x v, getV st.vars x = some v → ∃ y, v = .d y) : St { P with da := da, la := la } cl c fz oa h st := by
  have hoa : oa = [] := by
    have := S.len
    rw [hown] at this
    exact List.length_eq_zero_iff.mp this
  exact {
    top := S.top
    fzh := S.fzh
    keep := S.keep
    grow := S.grow
    new := S.new
    base := S.base
    fresh := S.fresh
    fresh2 := S.fresh2
    fzL := S.fzL
    vars := by
      obtain ⟨m, hn, h2⟩ := S.vars
      refine ⟨m, hn, fun x v e => ?_⟩
      obtain ⟨u, e1, e2⟩ := h2 x v e
      obtain ⟨y, rfl⟩ := hv x v e
      cases e2 with
      | d r => exact ⟨u, e1, .d r⟩
    cells := S.cells
    len := S.len
    own := fun i a e => by rw [hoa] at e; simp at e
    nodup := S.nodup
    deck := fun l m e => by rw [hdk] at e; cases e }

theorem deck_s1 (hs : Snd mg mb r n) {elt target iter : Expr} {ifs : List Expr} {scope : Scope} {cp vp tp pos p1 p2 ip : Pos} {k1 k2 k3 : Nat} {a b : Str} {iv : Int} {ys : List PyData} {Q : Flow → Shared → Prop}
    (h : compV r c elt target iter ifs scope st = some (ys, st)) (R : Room n A) (I : EnvIs P c env) (B : Base P.hb mg mb)
    (S : St P env.cells c fz oa s.heap st) (hdk : st.dk = none) (hown : st.own = []) (hv : ∀ x v, getV st.vars x = some v → ∃ y, v = .d y)
    (hsw : swpC c [.Name a p1, .Name b p2] (.Tuple [.ListComp elt [⟨target, iter, ifs, 0⟩] scope cp, .Constant (.int iv) k1 ip] k2 vp) = some (some [a, b]))
    (hst : storeL c [b, a] [.d (.int iv), .left] st = some st')
    (hQ : ∀ D fz' oa' h' tk' items nn, P.n0 ≤ D → St { P with la := D } env.cells c fz' oa' h' st' → FLe fz fz' → OLe oa oa' → fz' D = some (lstObj items nn) → RDs fz' items.toList ys → Q .next { s with heap := h', toks := tk' }) :
    wpAny (model P.prog P.w) A (exec (.Assign [.Tuple [.Name a p1, .Name b p2] k3 tp] (.Tuple [.ListComp elt [⟨target, iter, ifs, 0⟩] scope cp, .Constant (.int iv) k1 ip] k2 vp) pos) env) Q E s := by
  refine Assign_Tuple_swapped (names := [a, b]) (Tuple_ ?_) noSwap_Tuple (swpC_ok I hsw)
  show wpAny _ _ (spliced ((false, eval _ env) :: backTo vp (starEach [.Constant (.int iv) k1 ip] env))) _ _ _
  refine spliced_cons (comp_okF hs h R I B S fun D fz1 oa1 h1 tk1 items nn hD S1 k1 q1 hf rd => ?_)
  show wpAny _ _ (spliced ((false, eval _ env) :: backTo vp [])) _ _ _
  refine spliced_cons (wpAny_Constant_int (spliced_nil (wpAny_newObj_type ?_ (by show (2 : Nat) ≤ sizeLine; decide))))
  have S2 := S1.pushF (tupObj [Value.ref D, .int iv tk1].toArray 0) rfl
  have le2 := updF_le (o := tupObj [Value.ref D, .int iv tk1].toArray 0) (S1.fz_new (Nat.le_refl _))
  refine wpAny_unpackItems_tuple (s := { s with heap := h1.push (tupObj [Value.ref D, .int iv tk1].toArray 0), toks := tk1 + 1 }) (items := [Value.ref D, .int iv tk1].toArray) R.1 ⟨_, Heap.get?_push_size _ rfl, rfl, 0, rfl⟩ fun h2' he => ?_
  have S3 : St P env.cells c _ oa1 h2' st := S2.ext fun b o e => he b o (Nat.ne_of_lt (Heap.lt_size e)) e
  have S4 := S3.setDeck P.da D hdk hown hv
  have I4 : EnvIs { P with la := D } c env := ⟨I.scope, I.kind, I.locals, I.globals, I.builtins⟩
  refine storeL_ok (P := { P with la := D }) (s := { s with heap := h2', toks := tk1 + 1 }) hst I4 S4 (.cons (.d (.int iv _)) (.cons .left .nil)) fun fz3 oa3 h3' tk3 S5 k3 q3 => ?_
  exact hQ D fz3 oa3 h3' tk3 items nn hD S5 (k1.trans (le2.trans k3)) (q1.trans q3) (k3 _ _ (le2 _ _ hf)) (rd.mono (le2.trans k3))

theorem deck_s2 (hs : Snd mg mb r n) {t : Expr} {x : Str} {xp pos : Pos} {body : List Stmt} {ys : List PyData} {items : Array Value} {nn : Nat} {fl : Fl} {Q : Flow → Shared → Prop} (ht : isNameT t = true)
    (hx : nameV c st x = some .left) (hf : fz P.la = some (lstObj items nn)) (rd : RDs fz items.toList ys)
    (hl : loopF (fun x st' => (r.a c t (.d x) st').bind fun st'' => r.b c body st'') ys st = some (fl, st')) (R : Room n A) (I : EnvIs P c env) (B : Base P.hb mg mb)
    (S : St P env.cells c fz oa s.heap st) (hQ : PostB P env.cells c fz oa s st' fl Q) : wpAny (model P.prog P.w) A (exec (.For t (.Name x xp) body [] pos) env) Q E s := by
  refine wpAny_For (name_ok I B S hx fun u fz1 oa1 h1 tk1 S1 k1 q1 r1 => ?_) (fun _ => rfl)
  cases r1
  refine iter_list (s := { s with heap := h1, toks := tk1 }) R (by rw [ht]; simp) S1 (.d (.list (k1 _ _ hf) (rd.mono k1))) fun It wr J fz2 oa2 h2 tk2 S2 k2 q2 it j0 ap => ?_
  exact loop_ok (s := { s with heap := h2, toks := tk2 }) hs hl R I B S2 it j0 ap fun f fz3 oa3 h3 tk3 S3 k3 q3 rf => hQ f fz3 oa3 h3 tk3 S3 (k1.trans (k2.trans k3)) (q1.trans (q2.trans q3)) rf

theorem deck_s3 {x y : Str} {ka kb xp yp kp pos : Pos} {k1 k2 : Nat} {m : Int} {items : Array Value} {nn : Nat} {ys : List PyData} {Q : Flow → Shared → Prop} (R : Room n A) (I : EnvIs P c env)
    (S : St P env.cells c fz oa s.heap st) (hxk : c.sc.names.lookup x = some .local) (hyk : c.sc.names.lookup y = some .local) (hx : getV st.vars x = some .left) (hy : getV st.vars y = some (.d (.int m)))
    (hxd : (x == ("__debug__" : Str)) = false) (hyd : (y == ("__debug__" : Str)) = false)
    (hQ : ∀ da h' tk' t, s.heap.objs.size = da → h'.DictOf (strKind P.prog P.w) da [(kLeft, .ref P.la), (kMixed, .int m t)] → (∀ b o, s.heap.get? b = some o → h'.get? b = some o) → Q (.ret (.ref da)) { s with heap := h', toks := tk' }) :
    wpAny (model P.prog P.w) A (exec (.Return (some (.Dict [some (.Constant (.str kLeft) k1 ka), some (.Constant (.str kMixed) k2 kb)] [.Name x xp, .Name y yp] kp)) pos) env) Q E s := by
  refine wpAny_Return_some (wpAny_Dict_walk (knd := strKind P.prog P.w) rfl rfl (by simp) (show (2 : Nat) ≤ 15 by decide) ?_)
  obtain ⟨mm, hn, hv⟩ := S.vars
  obtain ⟨u1, e1, r1⟩ := hv x _ hx
  obtain ⟨u2, e2, r2⟩ := hv y _ hy
  cases r1
  obtain ⟨t, rfl⟩ := RVint r2
  have hn' := hn.push { cls := .type "dict", data := .dict #[] }
  refine pairTrees_cons_walk (Constant_str (wpAny_Name (wpAny_loadName_local I.kind (by show env.scope.names.lookup x = _; rw [I.scope]; exact hxk) (by rw [I.locals]; exact hn') e1 ?_) hxd))
  refine pairTrees_cons_walk (Constant_str (wpAny_Name (wpAny_loadName_local I.kind (by show env.scope.names.lookup y = _; rw [I.scope]; exact hyk) (by rw [I.locals]; exact hn') e2 ?_) hyd))
  refine pairTrees_nil_walk ?_
  refine display_done_str rfl ?_ ?_ fun h' hd hs => ?_
  · show ([kLeft, kMixed] : List Str).Nodup
    decide +kernel
  · exact Heap.DictOf.new s.heap
  · refine hQ _ h' _ _ rfl hd fun b o e => ?_
    exact hs.extBut b o (Nat.ne_of_lt (Heap.lt_size e)) (Heap.get?_push_of_some _ e)

theorem ints_are : ∀ {vs : List Value} {l : List Int}, RDs fz vs (l.map PyData.int) → IntsAre vs l
  | [], [], _ => .nil
  | [], _ :: _, r => by cases r
  | _ :: _, [], r => by cases r
  | _ :: _, _ :: _, r => by
    cases r with
    | cons h r =>
      cases h
      exact .cons _ _ (ints_are r)

theorem St.giveDeck {l : List Int} {m : Int} (S : St P cl c fz oa h st) (D : DeckAt P h l m) (h1 : fz P.da = none) (h2 : fz P.la = none) (h3 : P.kp P.da = none) (h4 : P.kp P.la = none) (h5 : P.da ≠ P.L) (h6 : P.la ≠ P.L) (h7 : P.da ∉ oa) (h8 : P.la ∉ oa) (h9 : P.da ≠ P.la) :
    St P cl c fz oa h { st with dk := some (l, m) } where
  top := S.top
  fzh := S.fzh
  keep := S.keep
  grow := S.grow
  new := S.new
  base := S.base
  fresh := S.fresh
  fresh2 := S.fresh2
  fzL := S.fzL
  vars := S.vars
  cells := S.cells
  len := S.len
  own := S.own
  nodup := S.nodup
  deck := fun l' m' e => by
    simp only [Option.some.injEq, Prod.mk.injEq] at e
    obtain ⟨rfl, rfl⟩ := e
    exact ⟨D, h1, h2, h3, h4, h5, h6, h7, h8, h9⟩
end

/-! what the deck holds -/
noncomputable def rDeck : {d : DefRec // fnRec (Str.ofString "_law_deck") = some d} := ⟨_, rfl⟩
noncomputable def deckL (ns : List Int) : List Int := (ns.take 40).map fun i => i.fmod 1000003
theorem slice40 (xs : List PyData) (h : xs.length ≤ 1000000) : sliceV none (some 40) (.d (.list xs)) = some (.d (.list (xs.take 40))) := slice_to xs 40 h
noncomputable abbrev repD (sv : Option V) (cv : Option V) (m : Int) : IS := ⟨[(Str.ofString "script", sv), (Str.ofString "cell", cv), (Str.ofString "left", some (.left)), (Str.ofString "mixed", some (.d (.int m)))], [], none⟩

theorem callV_int (r : Ev) (c : FC) (st : IS) (a : Int) (hg : isGlob ⟨c.sc, []⟩ (Str.ofString "int") = true) : callV r c (Str.ofString "int") [.d (.int a)] st = some (.d (.int a), st) := by
  unfold callV
  rw [bltAux c hg, if_neg (by decide +kernel), if_neg (by decide +kernel), if_neg (by decide +kernel), if_neg (by decide +kernel), if_neg (by decide +kernel), if_pos rfl]
theorem deck_loop {step : PyData → IS → Option (Fl × IS)} (sv : Option V) (h : ∀ (x : Int) cv m, 0 ≤ m → m < 1000003 → 0 ≤ x → x < 1000003 → step (.int x) (repD sv cv m) = some (.next, repD sv (some (.d (.int x))) ((m * 31 + x + 53).fmod 1000003))) :
    ∀ (l : List Int) cv m, (∀ x ∈ l, 0 ≤ x ∧ x < 1000003) → 0 ≤ m → m < 1000003 → ∃ cv' m', 0 ≤ m' ∧ m' < 1000003 ∧ loopF step (l.map PyData.int) (repD sv cv m) = some (.next, repD sv cv' m')
  | [], cv, m, _, h0, h1 => ⟨cv, m, h0, h1, rfl⟩
  | x :: l, cv, m, hl, h0, h1 => by
    have hx := hl x (List.mem_cons_self ..)
    obtain ⟨cv', m', q0, q1, e⟩ := deck_loop sv h l (some (.d (.int x))) ((m * 31 + x + 53).fmod 1000003) (fun y hy => hl y (List.mem_cons_of_mem _ hy)) (Int.fmod_nonneg_of_pos _ (by omega)) (Int.fmod_lt_of_pos _ (by omega))
    refine ⟨cv', m', q0, q1, ?_⟩
    rw [List.map_cons, loopF_cons, h x cv m h0 h1 hx.1 hx.2, Option.bind_some, loopK_next, e]

noncomputable def deckFor : Expr × List Stmt := match rDeck.1.body with
  | [_, .For t _ b _ _, _] => (t, b)
  | _ => (.Constant .none 0 default, [])
theorem deck_fold (N : Nat) (sv : Option V) (l : List Int) (hl : ∀ x ∈ l, 0 ≤ x ∧ x < 1000003) : ∃ cv' m', 0 ≤ m' ∧ m' < 1000003 ∧ loopF (forStep (ev (N + 20)) ⟨rDeck.1.scope, []⟩ deckFor.1 deckFor.2) (l.map PyData.int) (repD sv none 3535) = some (.next, repD sv cv' m') := by
  refine deck_loop sv ?_ l none 3535 hl (by omega) (by omega)
  intro x cv m h0 h1 h2 h3
  have s1 : small m = true := small_of (by omega)
  simp (decide := true) only [deckFor, rDeck, repD, s1, ev_e, ev_t, ev_a, ev_b, evL_nil, evL_cons, evLK1_eq, evLK2_eq, retE_eq, retO_eq, evE_int, evE_str, evE_bool, evE_none, evE_name, nameV_loc, nameV_cell, nameV_free, nameV_unit, nameV_eo, evE_bin, binK1_eq, binK2_eq, binV_add, binV_sub, binV_mul, binV_div, binV_mod, binV_list, binV_tup, evE_neg, negK_eq, evE_if, ifEK_eq, evE_tuple, tupK_eq, evE_list0, evE_list1, list1K_eq, evE_list2, evE_listS, listK_eq, listK1_eq, evE_rev, revK1_eq, revK_eq, evE_slo, sloK1_eq, sloK_eq, evE_sup, supK1_eq, supK_eq, evE_subC, evE_subN, evE_subU, evE_subB, subK1_eq, subK_eq, itemV_list, itemV_tuple, itemV_own, itemOK_eq, itemV_tup, itemV_left, itemV_mixed, retB_eq, cmpVK_eq, evE_cmp, cmpE_ne, neK_eq, cmpE_eq1, cmpE_lt, cmpE_le, cmpE_gt, cmpE_ge, cmpE_is, cmpE_isnot, cmpE_neC, cmpE_neN, cmpE_neT, cmpE_neB, cmpK1_eq, cmpK_eq, cmpE_2, cmp2K1_eq, cmp2K2_eq, cmp2K2b_eq, cmpV_lt, cmpV_le, cmpV_gt, cmpV_ge, cmpV_eqI, cmpV_neI, cmpV_eqS, cmpV_isN, cmpV_isT, cmpV_isnotB, neNil_list, neNil_left, evE_and, andEK_eq, evE_call, callK_eq, retF_eq, callV_own, callV_min, callV_max, callV_lenL, callV_lenT, sumK_eq, callV_sum, callV_tupL, tupOK1_eq, tupOK_eq, callV_tupO, evE_pop, popK1_eq, popK2_eq, compStep_eq, compK1_eq, compK2_eq, compK3_eq, testsE_0, testsE_1, retL_eq, compScope_eq, compK_eq, compV_eq, compVK_eq, evE_comp, rangeK_eq, rangeK1_eq, iterV_range, enumK_eq, iterV_enum, seqIK_list, seqIK_tuple, iterV_name, iterV_subS, iterV_call, boolK_eq, evT_bool, evT_cmp, evT_name, evT_call, allT_and0, allT_or0, allT_and, allT_or, andTK_eq, orTK_eq, storeN_eq, asg_name, asgL_nil, asgL_cons, asgLK_eq, asg_tup_d, asg_tup_v, asg_sub, asgSK1_eq, setOK_eq, asgSK2_own, asgSK2_deck, nextK_eq, stoK_eq, exS_name, stoCK_eq, exS_nameC, tasK_eq, exS_tup, exS_swp2, exS_swp3, swpK2_d, swpK2_v, swpK3_v, storeL_nil, storeL_cons, storeLK_eq, sasK_eq, exS_sub, exS_aug, augK1_eq, augK2_eq, exS_if, ifSK_eq, forStep_eq, forK_eq, exS_for, loopF_nil, loopF_cons, loopK_next, loopK_ret, rtnK_eq, exS_ret, exS_meth, methK1_eq, appK_eq, methK2_app, extK_eq, methK2_ext, exB_nil, exB_cons, seqK_next, seqK_ret, fzK_eq, retFK_eq, layStr_left, layStr_mixed, layStr_m, layStr_l, layStr_z, layStr_w, layStr_e, getV, setV, Option.bind_some, Option.map_some, List.length_cons, List.length_nil, if_true, if_false, Bool.false_eq_true, decide_eq_true_eq, Bool.not_true, Bool.not_false, Bool.not_eq_true, List.map_cons, List.map_nil, List.reverse_cons, List.reverse_nil, List.nil_append, List.cons_append, gt_iff_lt, ge_iff_le, beq_iff_eq, Nat.reduceAdd, ite_self, mkTup, allD, Option.some.injEq, List.all_cons, List.all_nil, Bool.and_true, Bool.true_and, argOk, freeze, Option.isSome_some, decide_true, decide_false, Option.bind_none, Option.map_none, List.getElem?_cons_zero, List.getElem?_cons_succ, blank, encP, encL, getC, Bool.not_eq_true', compL, Option.toList_some, Option.toList_none, List.append_nil, itemL_0, itemL_1, itemL_2, itemL_m1, Int.cast_ofNat_Int, intsOf, List.set_cons_zero, List.set_cons_succ, Int.reduceAdd, Int.reduceSub, Int.reduceNeg, Int.reduceMul]
section
variable {mg mb : Str → Option Value} {P : Pm} {A : Around} {E : Value → Shared → Prop} {s : Shared} {fz : Fz} {oa : List Addr} {c : FC} {st : IS} {cl : List (Str × Addr)}

theorem deck_call (N : Nat) {u : Value} {a : Addr} {ns : List Int} {Q : Value → Shared → Prop} (hns : ns.length ≤ 1000) (R : Room (N + 21) A) (B : Base P.hb mg mb) (S : St P cl c fz oa s.heap st) (hdk : st.dk = none) (hown : st.own = []) (hv : ∀ x v, getV st.vars x = some v → ∃ y, v = .d y)
    (ru : RD fz u (.list (ns.map PyData.int))) (ha : mg (Str.ofString "_law_deck") = some (.ref a))
    (hQ : ∀ da la h' tk' m, 0 ≤ m → m < 1000003 → St { P with da := da, la := la } cl c fz oa h' { st with dk := some (deckL ns, m) } → Q (.ref da) { s with heap := h', toks := tk' }) :
    wpAny (model P.prog P.w) A (call (.ref a) [u]) Q E s := by
  have hs := snd (mg := mg) (mb := mb) (N + 20)
  obtain ⟨d, hd⟩ : ∃ d, d = rDeck := ⟨_, rfl⟩
  have ok : OkRec rDeck.1 := OkRec.of (by decide +kernel)
  obtain ⟨a', o, pm, code, doc, e1, e2, e3, e4⟩ := B.fn _ _ rDeck.2
  rw [ha] at e1
  cases e1
  have up : ∀ b o, P.hb.get? b = some o → s.heap.get? b = some o := fun b o e => S.fzh _ _ (S.top _ _ e)
  have hul : [u].length = (rDeck.1.params.args.map (·.arg)).length := rfl
  have hargs : ([V.d (.list (ns.map PyData.int))] : List V).all argOk = true := rfl
  have ruv : RVs fz oa P.da P.la [u] [V.d (.list (ns.map PyData.int))] := .cons (.d ru) .nil
  refine wpAny_call (call_cells_ret (name := rDeck.1.name) (params := rDeck.1.params) (body := rDeck.1.body) (scope := rDeck.1.scope) (by have := R.2.1; omega) (up _ _ e2) e3 (B.nolimit.keeps up) (e4.keeps up) (bind_plain ok.p1 ok.p2 ok.p3 ok.p4 rfl ok.nodup hul) ?_ (fun h₁ tk F X => ?_) ok.co ok.gen ok.kind)
  · intro x hx
    have hm : x.1 ∈ rDeck.1.params.args.map (·.arg) := (List.of_mem_zip (a := x.1) (b := x.2) hx).1
    rcases ok.names x.1 hm with q | q
    · exact .inl q
    · exact .inr ⟨q, cells_some _ _ _ q⟩
  · let cs := cellsFrom (s.heap.objs.size + 1) rDeck.1.scope.names []
    have hcs : cs = [] := rfl
    have nsz : s.heap.get? s.heap.objs.size = none := by
      cases q : s.heap.get? s.heap.objs.size with
      | none => rfl
      | some o => exact absurd (Heap.lt_size q) (Nat.lt_irrefl _)
    have kpe : ∀ b, (callee P fz s.heap none).kp b = s.heap.get? b := fun b => by
      show (if (none : Dk).isSome = true ∧ (b = P.da ∨ b = P.la) then none else s.heap.get? b) = _
      rw [if_neg (by simp)]
    have S' : St (callee P fz s.heap none) cs ⟨rDeck.1.scope, []⟩ fz [] h₁ ⟨[(Str.ofString "script", some (.d (.list (ns.map PyData.int)))), (Str.ofString "cell", none), (Str.ofString "left", none), (Str.ofString "mixed", none)], [], none⟩ := {
      top := S.top
      fzh := fun b o e => F.keep b o (S.fzh b o e)
      keep := fun b o e => F.keep b o (by rw [kpe] at e; exact e)
      grow := FLe.refl _
      new := fun b o e => .inl e
      base := by rw [kpe]; exact nsz
      fresh := .inl (Nat.le_succ _)
      fresh2 := Nat.le_refl _
      fzL := S.fz_new (Nat.le_refl _)
      vars := ⟨_, F.ns, fun x v e => by
        refine initV_ok (fz := fz) (oa := []) (da := P.da) (la := P.la) (sc := rDeck.1.scope) (rest := [(Str.ofString "cell", none), (Str.ofString "left", none), (Str.ofString "mixed", none)]) ?_ (fun _ => rfl) ok.nodup ok.names (ruv.all hargs (FLe.refl _)) e
        intro y hy
        simp only [List.mem_cons, List.not_mem_nil, or_false] at hy
        rcases hy with rfl | rfl | rfl <;> rfl⟩
      cells := fun x v hx e => by simp at e
      len := rfl
      own := fun i a e => by simp at e
      nodup := List.nodup_nil
      deck := fun l m e => by cases e }
    have R' : Room (N + 20) (A.deeper (envOfC rDeck.1.name rDeck.1.scope s.heap.objs.size a code)) := ⟨R.1, by have := R.2.1; show A.depth + 1 + (N + 20) < _; omega, by have := R.2.2; show A.units + 3 + 8 * (N + 20) + 100 < _; omega⟩
    have I' : EnvIs (callee P fz s.heap none) ⟨rDeck.1.scope, []⟩ (envOfC rDeck.1.name rDeck.1.scope s.heap.objs.size a code) := ⟨rfl, ok.kind, rfl, rfl, rfl⟩
    have hvar : ∀ x v, getV [(Str.ofString "script", some (.d (.list (ns.map PyData.int)))), (Str.ofString "cell", none), (Str.ofString "left", none), (Str.ofString "mixed", none)] x = some v → ∃ y, v = .d y := by
      intro x v e
      simp only [getV] at e
      repeat' split at e
      all_goals first | cases e | skip
      exact ⟨_, rfl⟩
    refine wpAny_execs_cons (deck_s1 (P := callee P fz s.heap none) (s := { s with heap := h₁, toks := tk }) (ys := (deckL ns).map PyData.int) (st' := repD (some (.d (.list (ns.map PyData.int)))) none 3535) hs ?hcomp R' I' B S' rfl rfl hvar (by decide +kernel) ?hst fun D fz1 oa1 h1 tk1 items nn hD S1 k1 q1 hf rd => ?_)
    case hst => simp (decide := true) only [rDeck, repD, ev_e, ev_t, ev_a, ev_b, evL_nil, evL_cons, evLK1_eq, evLK2_eq, retE_eq, retO_eq, evE_int, evE_str, evE_bool, evE_none, evE_name, nameV_loc, nameV_cell, nameV_free, nameV_unit, nameV_eo, evE_bin, binK1_eq, binK2_eq, binV_add, binV_sub, binV_mul, binV_div, binV_mod, binV_list, binV_tup, evE_neg, negK_eq, evE_if, ifEK_eq, evE_tuple, tupK_eq, evE_list0, evE_list1, list1K_eq, evE_list2, evE_listS, listK_eq, listK1_eq, evE_rev, revK1_eq, revK_eq, evE_slo, sloK1_eq, sloK_eq, evE_sup, supK1_eq, supK_eq, evE_subC, evE_subN, evE_subU, evE_subB, subK1_eq, subK_eq, itemV_list, itemV_tuple, itemV_own, itemOK_eq, itemV_tup, itemV_left, itemV_mixed, retB_eq, cmpVK_eq, evE_cmp, cmpE_ne, neK_eq, cmpE_eq1, cmpE_lt, cmpE_le, cmpE_gt, cmpE_ge, cmpE_is, cmpE_isnot, cmpE_neC, cmpE_neN, cmpE_neT, cmpE_neB, cmpK1_eq, cmpK_eq, cmpE_2, cmp2K1_eq, cmp2K2_eq, cmp2K2b_eq, cmpV_lt, cmpV_le, cmpV_gt, cmpV_ge, cmpV_eqI, cmpV_neI, cmpV_eqS, cmpV_isN, cmpV_isT, cmpV_isnotB, neNil_list, neNil_left, evE_and, andEK_eq, evE_call, callK_eq, retF_eq, callV_own, callV_min, callV_max, callV_lenL, callV_lenT, sumK_eq, callV_sum, callV_tupL, tupOK1_eq, tupOK_eq, callV_tupO, evE_pop, popK1_eq, popK2_eq, compStep_eq, compK1_eq, compK2_eq, compK3_eq, testsE_0, testsE_1, retL_eq, compScope_eq, compK_eq, compV_eq, compVK_eq, evE_comp, rangeK_eq, rangeK1_eq, iterV_range, enumK_eq, iterV_enum, seqIK_list, seqIK_tuple, iterV_name, iterV_subS, iterV_call, boolK_eq, evT_bool, evT_cmp, evT_name, evT_call, allT_and0, allT_or0, allT_and, allT_or, andTK_eq, orTK_eq, storeN_eq, asg_name, asgL_nil, asgL_cons, asgLK_eq, asg_tup_d, asg_tup_v, asg_sub, asgSK1_eq, setOK_eq, asgSK2_own, asgSK2_deck, nextK_eq, stoK_eq, exS_name, stoCK_eq, exS_nameC, tasK_eq, exS_tup, exS_swp2, exS_swp3, swpK2_d, swpK2_v, swpK3_v, storeL_nil, storeL_cons, storeLK_eq, sasK_eq, exS_sub, exS_aug, augK1_eq, augK2_eq, exS_if, ifSK_eq, forStep_eq, forK_eq, exS_for, loopF_nil, loopF_cons, loopK_next, loopK_ret, rtnK_eq, exS_ret, exS_meth, methK1_eq, appK_eq, methK2_app, extK_eq, methK2_ext, exB_nil, exB_cons, seqK_next, seqK_ret, fzK_eq, retFK_eq, layStr_left, layStr_mixed, layStr_m, layStr_l, layStr_z, layStr_w, layStr_e, getV, setV, Option.bind_some, Option.map_some, List.length_cons, List.length_nil, if_true, if_false, Bool.false_eq_true, decide_eq_true_eq, Bool.not_true, Bool.not_false, Bool.not_eq_true, List.map_cons, List.map_nil, List.reverse_cons, List.reverse_nil, List.nil_append, List.cons_append, gt_iff_lt, ge_iff_le, beq_iff_eq, Nat.reduceAdd, ite_self, mkTup, allD, Option.some.injEq, List.all_cons, List.all_nil, Bool.and_true, Bool.true_and, argOk, freeze, Option.isSome_some, decide_true, decide_false, Option.bind_none, Option.map_none, List.getElem?_cons_zero, List.getElem?_cons_succ, blank, encP, encL, getC, Bool.not_eq_true', compL, Option.toList_some, Option.toList_none, List.append_nil, itemL_0, itemL_1, itemL_2, itemL_m1, Int.cast_ofNat_Int, intsOf, List.set_cons_zero, List.set_cons_succ, Int.reduceAdd, Int.reduceSub, Int.reduceNeg, Int.reduceMul]
    case hcomp =>
      have hl : (List.map PyData.int ns).length ≤ 1000000 := by rw [List.length_map]; omega
      have hl2 : (List.take 40 (List.map PyData.int ns)).length ≤ 1000000 := by rw [List.length_take]; omega
      simp (decide := true) only [rDeck, slice40, hl, hl2, ev_e, ev_t, ev_a, ev_b, evL_nil, evL_cons, evLK1_eq, evLK2_eq, retE_eq, retO_eq, evE_int, evE_str, evE_bool, evE_none, evE_name, nameV_loc, nameV_cell, nameV_free, nameV_unit, nameV_eo, evE_bin, binK1_eq, binK2_eq, binV_add, binV_sub, binV_mul, binV_div, binV_mod, binV_list, binV_tup, evE_neg, negK_eq, evE_if, ifEK_eq, evE_tuple, tupK_eq, evE_list0, evE_list1, list1K_eq, evE_list2, evE_listS, listK_eq, listK1_eq, evE_rev, revK1_eq, revK_eq, evE_slo, sloK1_eq, sloK_eq, evE_sup, supK1_eq, supK_eq, evE_subC, evE_subN, evE_subU, evE_subB, subK1_eq, subK_eq, itemV_list, itemV_tuple, itemV_own, itemOK_eq, itemV_tup, itemV_left, itemV_mixed, retB_eq, cmpVK_eq, evE_cmp, cmpE_ne, neK_eq, cmpE_eq1, cmpE_lt, cmpE_le, cmpE_gt, cmpE_ge, cmpE_is, cmpE_isnot, cmpE_neC, cmpE_neN, cmpE_neT, cmpE_neB, cmpK1_eq, cmpK_eq, cmpE_2, cmp2K1_eq, cmp2K2_eq, cmp2K2b_eq, cmpV_lt, cmpV_le, cmpV_gt, cmpV_ge, cmpV_eqI, cmpV_neI, cmpV_eqS, cmpV_isN, cmpV_isT, cmpV_isnotB, neNil_list, neNil_left, evE_and, andEK_eq, evE_call, callK_eq, retF_eq, callV_own, callV_min, callV_max, callV_lenL, callV_lenT, sumK_eq, callV_sum, callV_tupL, tupOK1_eq, tupOK_eq, callV_tupO, evE_pop, popK1_eq, popK2_eq, compStep_eq, compK1_eq, compK2_eq, compK3_eq, testsE_0, testsE_1, retL_eq, compScope_eq, compK_eq, compV_eq, compVK_eq, evE_comp, rangeK_eq, rangeK1_eq, iterV_range, enumK_eq, iterV_enum, seqIK_list, seqIK_tuple, iterV_name, iterV_subS, iterV_call, boolK_eq, evT_bool, evT_cmp, evT_name, evT_call, allT_and0, allT_or0, allT_and, allT_or, andTK_eq, orTK_eq, storeN_eq, asg_name, asgL_nil, asgL_cons, asgLK_eq, asg_tup_d, asg_tup_v, asg_sub, asgSK1_eq, setOK_eq, asgSK2_own, asgSK2_deck, nextK_eq, stoK_eq, exS_name, stoCK_eq, exS_nameC, tasK_eq, exS_tup, exS_swp2, exS_swp3, swpK2_d, swpK2_v, swpK3_v, storeL_nil, storeL_cons, storeLK_eq, sasK_eq, exS_sub, exS_aug, augK1_eq, augK2_eq, exS_if, ifSK_eq, forStep_eq, forK_eq, exS_for, loopF_nil, loopF_cons, loopK_next, loopK_ret, rtnK_eq, exS_ret, exS_meth, methK1_eq, appK_eq, methK2_app, extK_eq, methK2_ext, exB_nil, exB_cons, seqK_next, seqK_ret, fzK_eq, retFK_eq, layStr_left, layStr_mixed, layStr_m, layStr_l, layStr_z, layStr_w, layStr_e, getV, setV, Option.bind_some, Option.map_some, List.length_cons, List.length_nil, if_true, if_false, Bool.false_eq_true, decide_eq_true_eq, Bool.not_true, Bool.not_false, Bool.not_eq_true, List.map_cons, List.map_nil, List.reverse_cons, List.reverse_nil, List.nil_append, List.cons_append, gt_iff_lt, ge_iff_le, beq_iff_eq, Nat.reduceAdd, ite_self, mkTup, allD, Option.some.injEq, List.all_cons, List.all_nil, Bool.and_true, Bool.true_and, argOk, freeze, Option.isSome_some, decide_true, decide_false, Option.bind_none, Option.map_none, List.getElem?_cons_zero, List.getElem?_cons_succ, blank, encP, encL, getC, Bool.not_eq_true', compL, Option.toList_some, Option.toList_none, List.append_nil, itemL_0, itemL_1, itemL_2, itemL_m1, Int.cast_ofNat_Int, intsOf, List.set_cons_zero, List.set_cons_succ, Int.reduceAdd, Int.reduceSub, Int.reduceNeg, Int.reduceMul]
      rw [← List.map_take, compL_rw PyData.int (fun i => some (.int (i.fmod 1000003))) (fun _ => True) (ns.take 40) (fun _ _ => trivial)]
      rotate_left
      · intro i _
        simp (decide := true) only [callV_int, ev_e, ev_t, ev_a, ev_b, evL_nil, evL_cons, evLK1_eq, evLK2_eq, retE_eq, retO_eq, evE_int, evE_str, evE_bool, evE_none, evE_name, nameV_loc, nameV_cell, nameV_free, nameV_unit, nameV_eo, evE_bin, binK1_eq, binK2_eq, binV_add, binV_sub, binV_mul, binV_div, binV_mod, binV_list, binV_tup, evE_neg, negK_eq, evE_if, ifEK_eq, evE_tuple, tupK_eq, evE_list0, evE_list1, list1K_eq, evE_list2, evE_listS, listK_eq, listK1_eq, evE_rev, revK1_eq, revK_eq, evE_slo, sloK1_eq, sloK_eq, evE_sup, supK1_eq, supK_eq, evE_subC, evE_subN, evE_subU, evE_subB, subK1_eq, subK_eq, itemV_list, itemV_tuple, itemV_own, itemOK_eq, itemV_tup, itemV_left, itemV_mixed, retB_eq, cmpVK_eq, evE_cmp, cmpE_ne, neK_eq, cmpE_eq1, cmpE_lt, cmpE_le, cmpE_gt, cmpE_ge, cmpE_is, cmpE_isnot, cmpE_neC, cmpE_neN, cmpE_neT, cmpE_neB, cmpK1_eq, cmpK_eq, cmpE_2, cmp2K1_eq, cmp2K2_eq, cmp2K2b_eq, cmpV_lt, cmpV_le, cmpV_gt, cmpV_ge, cmpV_eqI, cmpV_neI, cmpV_eqS, cmpV_isN, cmpV_isT, cmpV_isnotB, neNil_list, neNil_left, evE_and, andEK_eq, evE_call, callK_eq, retF_eq, callV_own, callV_min, callV_max, callV_lenL, callV_lenT, sumK_eq, callV_sum, callV_tupL, tupOK1_eq, tupOK_eq, callV_tupO, evE_pop, popK1_eq, popK2_eq, compStep_eq, compK1_eq, compK2_eq, compK3_eq, testsE_0, testsE_1, retL_eq, compScope_eq, compK_eq, compV_eq, compVK_eq, evE_comp, rangeK_eq, rangeK1_eq, iterV_range, enumK_eq, iterV_enum, seqIK_list, seqIK_tuple, iterV_name, iterV_subS, iterV_call, boolK_eq, evT_bool, evT_cmp, evT_name, evT_call, allT_and0, allT_or0, allT_and, allT_or, andTK_eq, orTK_eq, storeN_eq, asg_name, asgL_nil, asgL_cons, asgLK_eq, asg_tup_d, asg_tup_v, asg_sub, asgSK1_eq, setOK_eq, asgSK2_own, asgSK2_deck, nextK_eq, stoK_eq, exS_name, stoCK_eq, exS_nameC, tasK_eq, exS_tup, exS_swp2, exS_swp3, swpK2_d, swpK2_v, swpK3_v, storeL_nil, storeL_cons, storeLK_eq, sasK_eq, exS_sub, exS_aug, augK1_eq, augK2_eq, exS_if, ifSK_eq, forStep_eq, forK_eq, exS_for, loopF_nil, loopF_cons, loopK_next, loopK_ret, rtnK_eq, exS_ret, exS_meth, methK1_eq, appK_eq, methK2_app, extK_eq, methK2_ext, exB_nil, exB_cons, seqK_next, seqK_ret, fzK_eq, retFK_eq, layStr_left, layStr_mixed, layStr_m, layStr_l, layStr_z, layStr_w, layStr_e, getV, setV, Option.bind_some, Option.map_some, List.length_cons, List.length_nil, if_true, if_false, Bool.false_eq_true, decide_eq_true_eq, Bool.not_true, Bool.not_false, Bool.not_eq_true, List.map_cons, List.map_nil, List.reverse_cons, List.reverse_nil, List.nil_append, List.cons_append, gt_iff_lt, ge_iff_le, beq_iff_eq, Nat.reduceAdd, ite_self, mkTup, allD, Option.some.injEq, List.all_cons, List.all_nil, Bool.and_true, Bool.true_and, argOk, freeze, Option.isSome_some, decide_true, decide_false, Option.bind_none, Option.map_none, List.getElem?_cons_zero, List.getElem?_cons_succ, blank, encP, encL, getC, Bool.not_eq_true', compL, Option.toList_some, Option.toList_none, List.append_nil, itemL_0, itemL_1, itemL_2, itemL_m1, Int.cast_ofNat_Int, intsOf, List.set_cons_zero, List.set_cons_succ, Int.reduceAdd, Int.reduceSub, Int.reduceNeg, Int.reduceMul]
      rw [show (ns.take 40).filterMap (fun i => some (PyData.int (i.fmod 1000003))) = (deckL ns).map PyData.int by rw [deckL, List.map_map, List.filterMap_eq_map']; rfl]
      simp (decide := true) only [ev_e, ev_t, ev_a, ev_b, evL_nil, evL_cons, evLK1_eq, evLK2_eq, retE_eq, retO_eq, evE_int, evE_str, evE_bool, evE_none, evE_name, nameV_loc, nameV_cell, nameV_free, nameV_unit, nameV_eo, evE_bin, binK1_eq, binK2_eq, binV_add, binV_sub, binV_mul, binV_div, binV_mod, binV_list, binV_tup, evE_neg, negK_eq, evE_if, ifEK_eq, evE_tuple, tupK_eq, evE_list0, evE_list1, list1K_eq, evE_list2, evE_listS, listK_eq, listK1_eq, evE_rev, revK1_eq, revK_eq, evE_slo, sloK1_eq, sloK_eq, evE_sup, supK1_eq, supK_eq, evE_subC, evE_subN, evE_subU, evE_subB, subK1_eq, subK_eq, itemV_list, itemV_tuple, itemV_own, itemOK_eq, itemV_tup, itemV_left, itemV_mixed, retB_eq, cmpVK_eq, evE_cmp, cmpE_ne, neK_eq, cmpE_eq1, cmpE_lt, cmpE_le, cmpE_gt, cmpE_ge, cmpE_is, cmpE_isnot, cmpE_neC, cmpE_neN, cmpE_neT, cmpE_neB, cmpK1_eq, cmpK_eq, cmpE_2, cmp2K1_eq, cmp2K2_eq, cmp2K2b_eq, cmpV_lt, cmpV_le, cmpV_gt, cmpV_ge, cmpV_eqI, cmpV_neI, cmpV_eqS, cmpV_isN, cmpV_isT, cmpV_isnotB, neNil_list, neNil_left, evE_and, andEK_eq, evE_call, callK_eq, retF_eq, callV_own, callV_min, callV_max, callV_lenL, callV_lenT, sumK_eq, callV_sum, callV_tupL, tupOK1_eq, tupOK_eq, callV_tupO, evE_pop, popK1_eq, popK2_eq, compStep_eq, compK1_eq, compK2_eq, compK3_eq, testsE_0, testsE_1, retL_eq, compScope_eq, compK_eq, compV_eq, compVK_eq, evE_comp, rangeK_eq, rangeK1_eq, iterV_range, enumK_eq, iterV_enum, seqIK_list, seqIK_tuple, iterV_name, iterV_subS, iterV_call, boolK_eq, evT_bool, evT_cmp, evT_name, evT_call, allT_and0, allT_or0, allT_and, allT_or, andTK_eq, orTK_eq, storeN_eq, asg_name, asgL_nil, asgL_cons, asgLK_eq, asg_tup_d, asg_tup_v, asg_sub, asgSK1_eq, setOK_eq, asgSK2_own, asgSK2_deck, nextK_eq, stoK_eq, exS_name, stoCK_eq, exS_nameC, tasK_eq, exS_tup, exS_swp2, exS_swp3, swpK2_d, swpK2_v, swpK3_v, storeL_nil, storeL_cons, storeLK_eq, sasK_eq, exS_sub, exS_aug, augK1_eq, augK2_eq, exS_if, ifSK_eq, forStep_eq, forK_eq, exS_for, loopF_nil, loopF_cons, loopK_next, loopK_ret, rtnK_eq, exS_ret, exS_meth, methK1_eq, appK_eq, methK2_app, extK_eq, methK2_ext, exB_nil, exB_cons, seqK_next, seqK_ret, fzK_eq, retFK_eq, layStr_left, layStr_mixed, layStr_m, layStr_l, layStr_z, layStr_w, layStr_e, getV, setV, Option.bind_some, Option.map_some, List.length_cons, List.length_nil, if_true, if_false, Bool.false_eq_true, decide_eq_true_eq, Bool.not_true, Bool.not_false, Bool.not_eq_true, List.map_cons, List.map_nil, List.reverse_cons, List.reverse_nil, List.nil_append, List.cons_append, gt_iff_lt, ge_iff_le, beq_iff_eq, Nat.reduceAdd, ite_self, mkTup, allD, Option.some.injEq, List.all_cons, List.all_nil, Bool.and_true, Bool.true_and, argOk, freeze, Option.isSome_some, decide_true, decide_false, Option.bind_none, Option.map_none, List.getElem?_cons_zero, List.getElem?_cons_succ, blank, encP, encL, getC, Bool.not_eq_true', compL, Option.toList_some, Option.toList_none, List.append_nil, itemL_0, itemL_1, itemL_2, itemL_m1, Int.cast_ofNat_Int, intsOf, List.set_cons_zero, List.set_cons_succ, Int.reduceAdd, Int.reduceSub, Int.reduceNeg, Int.reduceMul]
    have R2 : EnvIs { callee P fz s.heap none with la := D } ⟨rDeck.1.scope, []⟩ (envOfC rDeck.1.name rDeck.1.scope s.heap.objs.size a code) := ⟨I'.scope, I'.kind, I'.locals, I'.globals, I'.builtins⟩
    have hdl : ∀ x ∈ deckL ns, 0 ≤ x ∧ x < 1000003 := by
      intro x hx
      obtain ⟨y, _, rfl⟩ := List.mem_map.mp hx
      exact ⟨Int.fmod_nonneg_of_pos _ (by omega), Int.fmod_lt_of_pos _ (by omega)⟩
    obtain ⟨cv', m', m0, m1, hfold⟩ := deck_fold N (some (.d (.list (ns.map PyData.int)))) (deckL ns) hdl
    refine wpAny_execs_cons (deck_s2 (P := { callee P fz s.heap none with la := D }) (s := { s with heap := h1, toks := tk1 }) (nn := nn) hs rfl ((nameV_loc _ _ _ (by decide +kernel) (by decide +kernel)).trans rfl) hf rd hfold R' R2 B S1 fun f fz2 oa2 h2 tk2 S2 k2 q2 rf => ?_)
    cases rf
    refine wpAny_execs_cons (deck_s3 (P := { callee P fz s.heap none with la := D }) (s := { s with heap := h2, toks := tk2 }) (items := items) (nn := nn) (ys := []) R' R2 S2 (by decide +kernel) (by decide +kernel) rfl rfl (by decide +kernel) (by decide +kernel) fun da h3 tk3 t hda hD3 keep3 => ?_)
    show Q (.ref da) { s with heap := h3, toks := tk3 }
    have keepA : ∀ b o, s.heap.get? b = some o → h3.get? b = some o := fun b o e => keep3 b o (S2.keep b o ((kpe b).trans e))
    have hDh : h2.get? D = some (lstObj items nn) := S2.fzh _ _ (k2 _ _ hf)
    have hn0 : s.heap.objs.size ≤ D := hD
    have hDlt : D < da := by rw [← hda]; exact Heap.lt_size hDh
    have hda' : s.heap.objs.size ≤ da := Nat.le_trans hn0 (Nat.le_of_lt hDlt)
    have hoa : oa = [] := by
      have := S.len
      rw [hown] at this
      exact List.length_eq_zero_iff.mp this
    have S4 : St { P with da := da, la := D } cl c fz oa h3 st := (S.setDeck da D hdk hown hv).ext keepA
    refine hQ da D h3 tk3 m' m0 m1 (S4.giveDeck ⟨⟨t, hD3⟩, items, nn, keep3 _ _ hDh, ints_are rd⟩ (S.fz_new hda') (S.fz_new hn0) (S.kp_new hda') (S.kp_new hn0) (fun q => absurd S.ltL (Nat.not_lt.mpr (q ▸ hda'))) (fun q => absurd S.ltL (Nat.not_lt.mpr (q ▸ hn0))) (by rw [hoa]; simp) (by rw [hoa]; simp) (Ne.symm (Nat.ne_of_lt hDlt)))
end
end Mine
namespace Mine
open PySem PySem.W PyProof.Rows PySem.Calls
set_option maxRecDepth 100000
section
variable {mg mb : Str → Option Value} {P : Pm} {A : Around} {env : Env} {E : Value → Shared → Prop} {s : Shared} {fz : Fz} {oa : List Addr} {c : FC} {st : IS} {h : Heap} {cl : List (Str × Addr)}

theorem St.forget (S : St P cl c fz oa h st) (vs : Vars) (hv : ∀ x v, getV vs x = some v → getV st.vars x = some v) : St P cl c fz oa h { st with vars := vs } where
  top := S.top
  fzh := S.fzh
  keep := S.keep
  grow := S.grow
  new := S.new
  base := S.base
  fresh := S.fresh
  fresh2 := S.fresh2
  fzL := S.fzL
  vars := let ⟨m, hn, h2⟩ := S.vars; ⟨m, hn, fun x v e => h2 x v (hv x v e)⟩
  cells := S.cells
  len := S.len
  own := S.own
  nodup := S.nodup
  deck := S.deck

theorem getV_one (a : Str) (w : PyData) (tl : Vars) (h : ∀ p ∈ tl, p.2 = none) : ∀ x v, getV ((a, some (.d w)) :: tl) x = some v → ∃ y, v = .d y := by
  intro x v e
  unfold getV at e
  split at e
  · cases e; exact ⟨_, rfl⟩
  · rw [getV_none h] at e; cases e
theorem evL_one (n : Nat) (c : FC) (st : IS) (x : Str) (p : Pos) (v : V) (h : nameV c st x = some v) : evL (ev (n+1)) c [.Name x p] st = some ([v], st) := by
  rw [evL_cons, ev_e, evE_name, h]; rfl
theorem law_run {ns : List Int} {Q : Flow → Shared → Prop} (hns : ns.length ≤ 1000) (R : Room 100 A) (I : EnvIs P ⟨rLaw.1.scope, []⟩ env) (B : Base P.hb mg mb)
    (S : St P env.cells ⟨rLaw.1.scope, []⟩ fz [] s.heap ⟨[(Str.ofString "script", some (.d (.list (ns.map PyData.int)))), (Str.ofString "deck", none), (Str.ofString "rows", none), (Str.ofString "lines", none), (Str.ofString "moved", none), (Str.ofString "go", none), (Str.ofString "x", none), (Str.ofString "y", none), (Str.ofString "due", none), (Str.ofString "back", none), (Str.ofString "far", none), (Str.ofString "begins", none), (Str.ofString "others", none)], [], none⟩)
    (hQ : ∀ h' tk', (∀ b o, P.kp b = some o → h'.get? b = some o) → Q (.ret (.bool true)) { s with heap := h', toks := tk' }) :
    wpAny (model P.prog P.w) A (execs rLaw.1.body env) Q E s := by
  have hs := snd (mg := mg) (mb := mb) 60
  obtain ⟨a, o, pm, code, doc, e1, e2, e3, e4⟩ := B.fn _ _ rDeck.2
  have hvar : ∀ x v, getV [(Str.ofString "script", some (.d (.list (ns.map PyData.int)))), (Str.ofString "deck", none), (Str.ofString "rows", none), (Str.ofString "lines", none), (Str.ofString "moved", none), (Str.ofString "go", none), (Str.ofString "x", none), (Str.ofString "y", none), (Str.ofString "due", none), (Str.ofString "back", none), (Str.ofString "far", none), (Str.ofString "begins", none), (Str.ofString "others", none)] x = some v → ∃ y, v = .d y :=
    getV_one _ _ _ (by simp)
  refine wpAny_execs_cons (wpAny_Assign_Name (wpAny_Call_NameR (glob_ok I B S (by decide +kernel) e1 (by decide +kernel) (callWith_function (evalArgs_ok hs (vs := [.d (.list (ns.map PyData.int))]) (st' := ⟨[(Str.ofString "script", some (.d (.list (ns.map PyData.int)))), (Str.ofString "deck", none), (Str.ofString "rows", none), (Str.ofString "lines", none), (Str.ofString "moved", none), (Str.ofString "go", none), (Str.ofString "x", none), (Str.ofString "y", none), (Str.ofString "due", none), (Str.ofString "back", none), (Str.ofString "far", none), (Str.ofString "begins", none), (Str.ofString "others", none)], [], none⟩) ?hev (by simp) (R.le (by omega)) I B S fun us fz1 oa1 h1 tk1 S1 k1 q1 r1 => ⟨⟨S1.fzh _ _ (S1.top _ _ e2), e3⟩, ?_⟩)))) (noSwap_Name (by decide)))
  case hev => exact evL_one 59 _ _ _ _ _ ((nameV_loc _ _ _ (by decide +kernel) (by decide +kernel)).trans rfl)
  have e1' : mg (Str.ofString "_law_deck") = some (.ref a) := e1
  have hoa1 : oa1 = [] := List.length_eq_zero_iff.mp S1.len
  cases r1 with
  | cons rd rn =>
    cases rn
    cases rd with
    | d rd =>
      refine deck_call 40 (s := { s with heap := h1, toks := tk1 }) hns (R.le (by omega)) B S1 rfl rfl hvar rd e1' fun da la h2 tk2 m m0 m1 S2 => ?_
      have I2 : EnvIs { P with da := da, la := la } ⟨rLaw.1.scope, []⟩ env := ⟨I.scope, I.kind, I.locals, I.globals, I.builtins⟩
      refine storeN_ok (P := { P with da := da, la := la }) (c := ⟨rLaw.1.scope, []⟩) (x := Str.ofString "deck") (v := .deck) (s := { s with heap := h2, toks := tk2 }) (storeN_eq _ _ _ _ (by decide +kernel)) I2 S2 .deck fun h3 tk3 S3 _ => ?_
      have S4 := S3.forget [(Str.ofString "script", none), (Str.ofString "deck", some (.deck)), (Str.ofString "rows", none), (Str.ofString "lines", none), (Str.ofString "moved", none), (Str.ofString "go", none), (Str.ofString "x", none), (Str.ofString "y", none), (Str.ofString "due", none), (Str.ofString "back", none), (Str.ofString "far", none), (Str.ofString "begins", none), (Str.ofString "others", none)] (by
        intro x v e
        unfold getV at e
        split at e
        · cases e
        · unfold getV at e
          split at e
          · rename_i hx
            cases e
            subst hx
            rfl
          · rw [getV_none (by simp)] at e; cases e)
      obtain ⟨st', hlaw⟩ := law_f 0 (deckL ns, m) ⟨by show (deckL ns).length ≤ 1000; rw [deckL, List.length_map, List.length_take]; omega, m0, m1⟩
      show wpAny (model P.prog P.w) A (execs rLaw.1.body.tail env) Q E { s with heap := h3, toks := tk3 }
      refine hs.b (P := { P with da := da, la := la }) (s := { s with heap := h3, toks := tk3 }) hlaw (R.le (by omega)) I2 B S4 fun f fz4 oa4 h4 tk4 S5 k5 q5 rf => ?_
      cases rf with
      | ret rv =>
        have := RVbool rv
        subst this
        exact hQ h4 tk4 S5.keep
end
end Mine
namespace Mine
open PySem PySem.W PyProof.Rows PySem.Calls
set_option maxRecDepth 100000

theorem well_all {P : Params} {h : Heap} {fz : Fz} : ∀ {vs : List Value} {ns : List Int}, WellAll P h vs (ofPys (ns.map PyData.int)) → RDs fz vs (ns.map PyData.int)
  | [], [], _ => .nil
  | [], _ :: _, r => by cases r
  | _ :: _, [], r => by cases r
  | _ :: _, _ :: _, r => by
    cases r with
    | cons h r =>
      cases h
      exact .cons (.int _ _) (well_all r)

section
variable {p : Program} {loose : List Str} {mean : ExcName → Option Value} {mg mb : Str → Option Value} {h : Heap}
theorem base_top (T : Top p loose mean mg mb h) (hp : recsOf p = recs) (hu : valOf p (Str.ofString "_law_unit") = some (.int 1000000)) (he : valOf p (Str.ofString "EVEN_ODD") = some (.str (Str.ofString "evenodd")))
    (hf : (bltList.all fun q => !startupNames.contains q.1 && !loose.contains q.1 && !((recsOf p).map (·.name)).contains q.1 && !((litsOf p).map (·.1)).contains q.1 && !((clssOf p loose).map (·.name)).contains q.1) = true) : Base h mg mb where
  g := T.g
  b := T.b
  nolimit := T.nolimit
  fn := fun f d e => by
    have hm : d ∈ recsOf p := by rw [hp]; exact List.mem_of_find?_eq_some e
    have hn : d.name = f := beq_iff_eq.mp (List.find?_some (p := fun d : DefRec => d.name == f) e)
    obtain ⟨a, o, pm, code, doc, h1, h2, h3, h4⟩ := T.fn d hm
    exact ⟨a, o, pm, code, doc, hn ▸ h1, h2, h3, h4⟩
  unit := by
    obtain ⟨v, h1, h2⟩ := T.const _ _ hu
    obtain ⟨t, rfl⟩ := IsDatum.int h2
    exact ⟨t, h1⟩
  eo := by
    obtain ⟨v, h1, h2⟩ := T.const _ _ he
    obtain ⟨t, rfl⟩ := IsDatum.str h2
    exact ⟨t, h1⟩
  blt := fun x v hx => by
    have q := List.all_eq_true.mp hf _ hx
    simp only [Bool.and_eq_true, Bool.not_eq_true', List.contains_eq_mem, decide_eq_false_iff_not] at q
    obtain ⟨⟨⟨⟨q1, q2⟩, q3⟩, q4⟩, q5⟩ := q
    refine ⟨T.free x q1 q2 q3 q4 q5, ?_⟩
    have hb : ∀ y w, (y, w) ∈ bltList → y ≠ Str.ofString "__name__" ∧ bootBuiltins y = some w := by
      intro y w hy
      simp only [bltList, List.mem_cons, Prod.mk.injEq, List.not_mem_nil, or_false] at hy
      rcases hy with ⟨rfl, rfl⟩ | ⟨rfl, rfl⟩ | ⟨rfl, rfl⟩ | ⟨rfl, rfl⟩ | ⟨rfl, rfl⟩ | ⟨rfl, rfl⟩ | ⟨rfl, rfl⟩ | ⟨rfl, rfl⟩ <;> exact ⟨by decide +kernel, by rfl⟩
    rw [T.builtins x (hb x v hx).1]
    exact (hb x v hx).2
end

theorem law_top {prog : Program} {w : World} {A : Around} {E : Value → Shared → Prop} {s : Shared} {mg mb m : Str → Option Value} {h : Heap} {ns : List Int} {a : Addr} {env : Env} {Q : Flow → Shared → Prop} (B : Base h mg mb) (W : Well w.params h (.ref a) (ofPy (.list (ns.map PyData.int))))
    (hlen : ¬ (63 : Int) < ns.length) (F : Fr h h.objs.size s.heap m) (hm : m (Str.ofString "script") = some (.ref a)) (R : Room 100 A) (i1 : env.scope = rLaw.1.scope) (i2 : env.locals = h.objs.size) (i3 : env.globals = mainGlobals) (i4 : env.builtins = builtinsNs)
    (hQ : ∀ h' tk', (∀ b o, h.get? b = some o → h'.get? b = some o) → Q (.ret (.bool true)) { s with heap := h', toks := tk' }) : wpAny (model prog w) A (execs rLaw.1.body env) Q E s := by
  have nsz : h.get? h.objs.size = none := by
    cases q : h.get? h.objs.size with
    | none => rfl
    | some o => exact absurd (Heap.lt_size q) (Nat.lt_irrefl _)
  let P : Pm := { prog := prog, w := w, hb := h, kp := fun b => h.get? b, L := h.objs.size, da := 0, la := 0, f0 := fun b => h.get? b, n0 := h.objs.size, m0 := h.objs.size }
  have S : St P env.cells ⟨rLaw.1.scope, []⟩ (fun b => h.get? b) [] s.heap ⟨[(Str.ofString "script", some (.d (.list (ns.map PyData.int)))), (Str.ofString "deck", none), (Str.ofString "rows", none), (Str.ofString "lines", none), (Str.ofString "moved", none), (Str.ofString "go", none), (Str.ofString "x", none), (Str.ofString "y", none), (Str.ofString "due", none), (Str.ofString "back", none), (Str.ofString "far", none), (Str.ofString "begins", none), (Str.ofString "others", none)], [], none⟩ := {
    top := fun b o e => e
    fzh := F.keep
    keep := F.keep
    grow := FLe.refl _
    new := fun b o e => .inl e
    base := nsz
    fresh := .inl (Nat.le_succ _)
    fresh2 := Nat.le_refl _
    fzL := nsz
    vars := ⟨m, F.ns, fun x v e => by
      unfold getV at e
      split at e
      · rename_i hx
        cases e
        subst hx
        refine ⟨_, hm, .d ?_⟩
        rw [ofPy] at W
        cases W with
        | list e r => exact .list e (by simpa using well_all r)
      · rw [getV_none (by simp)] at e; cases e⟩
    cells := fun x v hx e => by simp at e
    len := rfl
    own := fun i a e => by simp at e
    nodup := List.nodup_nil
    deck := fun l m e => by cases e }
  exact law_run (P := P) (by omega) R ⟨i1, by rw [i1]; decide +kernel, i2, i3, i4⟩ B S hQ
end Mine
open PySem PySem.W PyProof.Rows
set_option maxRecDepth 100000 in
set_option maxHeartbeats 8000000 in
theorem PySem.Challenge.cw_nt0481_01_holds : PySem.Challenge.rw_nt0481_01.Holds := by
  w_on; o_law; o_head (Hook.none); (case hw => w_witness2)
  intro w s₀ s₁ mg mb G Y fa o pm cd doc dV kV ho hd hcd hD hmg hg args vals as hpre hlay hrd hwl hlo
  refine Ground.open G ?_
  intro T B D TE TW
  try (refine guard_noD D (by decide +kernel) ?_; clear D)
  wrow_args hpre hlay hrd hwl hlo
  refine enter_call ?_
  w_top on
  refine codeAny_mono ?_ (fun _ _ g => GoodW.toG g)
  have K0 := below_caller (Top.heap T)
  w_call any ho hd hcd hD T F
  refine Mine.law_top (Mine.base_top (by assumption) ?hp ?hu ?he ?hf) (by assumption) (by assumption) (by assumption) ?hm ?hR ?i1 ?i2 ?i3 ?i4 fun h' tk' hk => ?_
  case hp => rfl
  case hu => first | rfl | kernel_rfl
  case he => first | rfl | kernel_rfl
  case hf => decide +kernel
  case hm => rfl
  case hR => exact ⟨rfl, (show callerA.depth + 1 + 100 < recursionLimit by decide), (show callerA.units + 3 + 8 * 100 + 100 < cLine by decide)⟩
  case i1 => rfl
  case i2 => rfl
  case i3 => rfl
  case i4 => rfl
  refine ⟨.inl ⟨.bool true, .bool true, [], rfl, ?_, .bool true, ?_, fun _ => ⟨List.nodup_nil, fun a ha => by cases ha⟩⟩, hk, rfl, by assumption⟩
  · intro cls
    rfl
  · wrow_post
