import PyProof.Rows.All
import Wide.All
import OpenK.AllK
import Wide.FinOn
import PyProof.FitsBits
import Lean
import PySem.Challenge.RW_uf050022_05
set_option Elab.async false
set_option linter.all false
section
namespace Mine
open PySem
set_option genSizeOf false


inductive V where
  | none | bool (b : Bool) | int (i : Int) | str (s : Str)
  | tup (vs : List V) | ref (i : Nat) | inst (i : Nat) | scr | exc (C : Nat)

inductive O where
  | list (vs : List V)
  | dict (es : List (Str × V))

noncomputable abbrev Hp := List O
noncomputable abbrev Loc := List (Option V)

noncomputable def lget : Loc → Nat → Option V
  | [], _ => none
  | x :: _, 0 => x
  | _ :: r, n + 1 => lget r n
noncomputable def lset : Loc → Nat → Option V → Loc
  | [], _, _ => []
  | _ :: r, 0, v => v :: r
  | x :: r, n + 1, v => x :: lset r n v

inductive BinK where | add | sub | mul | fdiv | mod | pow
inductive CmpK where | eq | ne | lt | le | gt | ge
inductive Cls where | int | bool | list | tuple | str | valueError | own (C : Nat)
  deriving DecidableEq
inductive Bi where | len | sum | min2 | max2 | all | any | list | int

mutual
inductive CE where
  | lit (v : V)
  | var (i : Nat)
  | bin (k : BinK) (a b : CE)
  | not (a : CE)
  | and (a b : CE)
  | or (a b : CE)
  | cmp (k : CmpK) (a b : CE)
  | call (f : Nat) (as : List CE)
  | meth (o : CE) (name : Str) (as : List CE)
  | bi (b : Bi) (as : List CE)
  | isi (a : CE) (c : Cls)
  | sub (o i : CE)
  | slice (o : CE) (lo hi : Option CE)
  | list (es : List CE)
  | tup (es : List CE)
  | comp (elt : CE) (n : Nat) (it : It) (cond : Option CE)
inductive It where
  | val (e : CE)
  | range (e : CE)
end

inductive CH where
  | set (D i : Nat) (b : Bool)
  | isi (D i : Nat) (cl : Cls)

inductive Tgt where
  | name (i : Nat)
  | tup (is : List Nat)

mutual
inductive CS where
  | expr (e : CE)
  | assign (i : Nat) (e : CE)
  | ite (c : CE) (t f : List CS)
  | loop (t : Tgt) (it : It) (body : List CS)
  | ret (e : CE)
  | raise (C : Nat)
  | tryC (t : Option Nat) (f : Nat) (as : List CE) (hs : List CH)
end

structure Gm where
  scr : List Int
  meth : Str → Option Nat
  isSub : Nat → Cls → Option Bool
  init : Option Nat
  book : Nat

noncomputable abbrev Calls := Nat → List V → Hp → (V → Hp → Prop) → (Nat → Hp → Prop) → Prop

structure Src where
  items : List V
  alive : Hp → Prop

noncomputable def clampI (n : Nat) (i : Int) : Nat := (max 0 (min (if i < 0 then i + n else i) n)).toNat
noncomputable def cut {α : Type} (l : List α) (lo hi : Option Int) : List α :=
  let a := match lo with | some i => clampI l.length i | none => 0
  let b := match hi with | some i => clampI l.length i | none => l.length
  (l.take b).drop a
noncomputable def veqs (f : V → V → Option Bool) : List V → List V → Option Bool
  | [], [] => some true
  | [], _ :: _ => some false
  | _ :: _, [] => some false
  | x :: a, y :: b => match f x y, veqs f a b with
    | some p, some q => some (p && q)
    | _, _ => none
noncomputable def veq : Nat → Hp → V → V → Option Bool
  | 0, _, _, _ => none
  | n + 1, h, a, b => match a, b with
    | .int i, .int j => some (i == j)
    | .tup x, .tup y => veqs (veq n h) x y
    | .ref i, .ref j => match h[i]?, h[j]? with
      | some (.list x), some (.list y) => if x.length = y.length then veqs (veq n h) x y else some false
      | _, _ => none
    | _, _ => none

noncomputable def kI (k : BinK) (x y : Int) (h : Hp) (Q : V → Hp → Prop) : Prop :=
  match k with
  | .add => Q (.int (x + y)) h
  | .sub => Q (.int (x - y)) h
  | .mul => IntMulOk x y ∧ Q (.int (x * y)) h
  | .fdiv => y ≠ 0 ∧ Q (.int (x.fdiv y)) h
  | .mod => y ≠ 0 ∧ Q (.int (x.fmod y)) h
  | .pow => 0 ≤ y ∧ y ≤ 1000000 ∧ x.natAbs < 2 ^ 64 ∧ Q (.int (x ^ y.toNat)) h
noncomputable def kInts (a b : V) (f : Int → Int → Prop) : Prop := match a with
  | .int x => (match b with | .int y => f x y | _ => False)
  | _ => False
noncomputable def kBin (k : BinK) (a b : V) (h : Hp) (Q : V → Hp → Prop) : Prop := kInts a b (fun x y => kI k x y h Q)

noncomputable def kCmp (k : CmpK) (a b : V) (h : Hp) (Q : V → Hp → Prop) : Prop :=
  match k with
  | .eq => ∃ r, veq 10 h a b = some r ∧ Q (.bool r) h
  | .ne => ∃ r, veq 10 h a b = some r ∧ Q (.bool (!r)) h
  | .lt => kInts a b (fun x y => Q (.bool (decide (x < y))) h)
  | .le => kInts a b (fun x y => Q (.bool (decide (x ≤ y))) h)
  | .gt => kInts a b (fun x y => Q (.bool (decide (x > y))) h)
  | .ge => kInts a b (fun x y => Q (.bool (decide (x ≥ y))) h)

noncomputable def kSub (G : Gm) (o i : V) (h : Hp) (Q : V → Hp → Prop) : Prop :=
  match o, i with
  | .tup vs, .int k => 0 ≤ k ∧ ∃ v, vs[k.toNat]? = some v ∧ Q v h
  | .scr, .int k => 0 ≤ k ∧ ∃ n, G.scr[k.toNat]? = some n ∧ Q (.int n) h
  | .ref r, .int k => match h[r]? with
    | some (.list vs) => 0 ≤ k ∧ ∃ v, vs[k.toNat]? = some v ∧ Q v h
    | _ => False
  | _, _ => False

noncomputable def kSlice (G : Gm) (o : V) (lo hi : Option Int) (h : Hp) (Q : V → Hp → Prop) : Prop :=
  match o with
  | .ref r => match h[r]? with
    | some (.list vs) => Q (.ref h.length) (h ++ [.list (cut vs lo hi)])
    | _ => False
  | _ => False

noncomputable def kIsi (G : Gm) (a : V) (c : Cls) (h : Hp) (Q : V → Hp → Prop) : Prop :=
  match a, c with
  | .int _, .int => Q (.bool true) h
  | .tup _, .tuple => Q (.bool true) h
  | .ref i, .list => match h[i]? with
    | some (.list _) => Q (.bool true) h
    | _ => False
  | .int _, .bool => Q (.bool false) h
  | _, _ => False

noncomputable def k1 (as : List V) (f : V → Prop) : Prop := match as with
  | [a] => f a
  | _ => False
noncomputable def k2 (as : List V) (f : V → V → Prop) : Prop := match as with
  | [a, b] => f a b
  | _ => False
noncomputable def kRefL (a : V) (h : Hp) (f : List V → Prop) : Prop := match a with
  | .ref i => (match h[i]? with | some (.list vs) => f vs | _ => False)
  | _ => False
noncomputable def kBl (a : V) (f : Bool → Prop) : Prop := match a with
  | .bool b => f b
  | _ => False
noncomputable def kLen (G : Gm) (h : Hp) (Q : V → Hp → Prop) (a : V) : Prop := match a with
  | .scr => Q (.int G.scr.length) h
  | .tup vs => Q (.int vs.length) h
  | a => kRefL a h (fun vs => Q (.int vs.length) h)
noncomputable def kBi (G : Gm) (b : Bi) (as : List V) (h : Hp) (Q : V → Hp → Prop) : Prop :=
  match b with
  | .len => k1 as (kLen G h Q)
  | .sum => k1 as (fun a => kRefL a h (fun vs => ∃ ns : List Int, vs = ns.map V.int ∧ Q (.int ns.sum) h))
  | .min2 => k2 as (fun a b => kInts a b (fun x y => Q (.int (min x y)) h))
  | .max2 => k2 as (fun a b => kInts a b (fun x y => Q (.int (max x y)) h))
  | .all => k1 as (fun a => kRefL a h (fun vs => ∃ bs : List Bool, vs = bs.map V.bool ∧ Q (.bool (bs.all id)) h))
  | .any => k1 as (fun a => kRefL a h (fun vs => ∃ bs : List Bool, vs = bs.map V.bool ∧ Q (.bool (bs.any id)) h))
  | .list => k1 as (fun a => kRefL a h (fun vs => Q (.ref h.length) (h ++ [.list vs])))
  | .int => k1 as (fun a => kBl a (fun b => Q (.int (if b then 1 else 0)) h))

inductive MK where | append
noncomputable def methKind (name : Str) (o : V) (h : Hp) : Option MK :=
  match o with
  | .ref i => match h[i]? with
    | some (.list _) => if name = "append" then some .append else none
    | _ => none
  | _ => none
noncomputable def kAppend (i : Nat) (as : List V) (h : Hp) (Q : V → Hp → Prop) : Prop :=
  match h[i]?, as with
  | some (.list vs), [x] => vs.length < sizeLine ∧ Q .none (h.set i (.list (vs ++ [x])))
  | _, _ => False
noncomputable def kMeth (m : MK) (o : V) (as : List V) (h : Hp) (Q : V → Hp → Prop) : Prop :=
  match m, o with
  | .append, .ref i => kAppend i as h Q
  | _, _ => False

noncomputable def srcOf (G : Gm) (v : V) (h : Hp) : Option Src :=
  match v with
  | .ref i => match h[i]? with
    | some (.list vs) => some ⟨vs, fun h' => h'[i]? = some (.list vs)⟩
    | _ => none
  | .tup vs => some ⟨vs, fun _ => True⟩
  | _ => none

noncomputable def unpackN (n : Nat) (v : V) : Option (List V) :=
  if n = 1 then some [v] else match v with
    | .tup vs => if vs.length = n then some vs else none
    | _ => none

noncomputable def bindAll : List Nat → List V → Loc → Option Loc
  | [], [], l => some l
  | i :: is, v :: vs, l => bindAll is vs (lset l i (some v))
  | _, _, _ => none
noncomputable def bindT (t : Tgt) (v : V) (l : Loc) : Option Loc :=
  match t with
  | .name i => some (lset l i (some v))
  | .tup is => match v with
    | .tup vs => bindAll is vs l
    | _ => none

noncomputable def tset (t : Option Nat) (l : Loc) (v : V) : Loc := match t with
  | some i => lset l i (some v)
  | none => l
noncomputable def wpH (G : Gm) : List CH → Nat → Loc → Hp → (Loc → Hp → Prop) → (V → Hp → Prop) → Prop
  | [], _, _, _, _, _ => False
  | .set D i b :: hs, x, l, h, N, R => match G.isSub x (.own D) with
    | some true => N (lset l i (some (.bool b))) h
    | some false => wpH G hs x l h N R
    | none => False
  | .isi D _ cl :: hs, x, l, h, N, R => match G.isSub x (.own D) with
    | some true => G.isSub x cl = some true ∧ R (.bool true) h
    | some false => wpH G hs x l h N R
    | none => False
section
variable (G : Gm) (C : Calls)
mutual
noncomputable def wpE : CE → Loc → Hp → (V → Hp → Prop) → (Nat → Hp → Prop) → Prop
  | .lit v, _, h, Q, _ => Q v h
  | .var i, l, h, Q, _ => match lget l i with | some v => Q v h | none => False
  | .bin k a b, l, h, Q, E => wpE a l h (fun va h1 => wpE b l h1 (fun vb h2 => kBin k va vb h2 Q) E) E
  | .not a, l, h, Q, E => wpE a l h (fun va h1 => match va with | .bool b => Q (.bool (!b)) h1 | _ => False) E
  | .and a b, l, h, Q, E => wpE a l h (fun va h1 => match va with | .bool true => wpE b l h1 Q E | .bool false => Q (.bool false) h1 | _ => False) E
  | .or a b, l, h, Q, E => wpE a l h (fun va h1 => match va with | .bool false => wpE b l h1 Q E | .bool true => Q (.bool true) h1 | _ => False) E
  | .cmp k a b, l, h, Q, E => wpE a l h (fun va h1 => wpE b l h1 (fun vb h2 => kCmp k va vb h2 Q) E) E
  | .call f as, l, h, Q, E => wpEs as l h (fun vs h1 => C f vs h1 Q (fun _ _ => False)) E
  | .meth o name as, l, h, Q, E => wpE o l h (fun vo h1 => match methKind name vo h1 with
        | some m => wpEs as l h1 (fun vs h2 => kMeth m vo vs h2 Q) E
        | none => False) E
  | .bi b as, l, h, Q, E => wpEs as l h (fun vs h1 => kBi G b vs h1 Q) E
  | .isi a c, l, h, Q, E => wpE a l h (fun va h1 => kIsi G va c h1 Q) E
  | .sub o i, l, h, Q, E => wpE o l h (fun vo h1 => wpE i l h1 (fun vi h2 => kSub G vo vi h2 Q) E) E
  | .slice o lo hi, l, h, Q, E => wpE o l h (fun vo h1 => wpO lo l h1 (fun a h2 => wpO hi l h2 (fun b h3 => kSlice G vo a b h3 Q) E) E) E
  | .list es, l, h, Q, E => wpEs es l h (fun vs h1 => vs.length ≤ sizeLine ∧ Q (.ref h1.length) (h1 ++ [.list vs])) E
  | .tup es, l, h, Q, E => wpEs es l h (fun vs h1 => vs.length ≤ sizeLine ∧ Q (.tup vs) h1) E
  | .comp elt n it cond, l, h, Q, E => wpIt it l h (fun src h1 =>
      ∃ I : Nat → List V → Hp → Prop, I 0 [] h1 ∧
        (∀ k acc h2 v, I k acc h2 → src.items[k]? = some v → src.alive h2 ∧ ∃ vals, unpackN n v = some vals ∧
          wpT cond (l ++ vals.map some) h2 (fun b h3 => if b then wpE elt (l ++ vals.map some) h3 (fun x h4 => I (k + 1) (acc ++ [x]) h4) E else I (k + 1) acc h3) E) ∧
        (∀ acc h2, I src.items.length acc h2 → src.alive h2 ∧ Q (.ref h2.length) (h2 ++ [.list acc]))) E
noncomputable def wpEs : List CE → Loc → Hp → (List V → Hp → Prop) → (Nat → Hp → Prop) → Prop
  | [], _, h, Q, _ => Q [] h
  | e :: es, l, h, Q, E => wpE e l h (fun v h1 => wpEs es l h1 (fun vs h2 => Q (v :: vs) h2) E) E
noncomputable def wpO : Option CE → Loc → Hp → (Option Int → Hp → Prop) → (Nat → Hp → Prop) → Prop
  | none, _, h, Q, _ => Q none h
  | some e, l, h, Q, E => wpE e l h (fun v h1 => match v with | .int i => Q (some i) h1 | _ => False) E
noncomputable def wpT : Option CE → Loc → Hp → (Bool → Hp → Prop) → (Nat → Hp → Prop) → Prop
  | none, _, h, Q, _ => Q true h
  | some e, l, h, Q, E => wpE e l h (fun v h1 => match v with | .bool b => Q b h1 | _ => False) E
noncomputable def wpIt : It → Loc → Hp → (Src → Hp → Prop) → (Nat → Hp → Prop) → Prop
  | .val e, l, h, Q, E => wpE e l h (fun v h1 => ∃ s, srcOf G v h1 = some s ∧ Q s h1) E
  | .range e, l, h, Q, E => wpE e l h (fun v h1 => match v with
      | .int n => -1000000 ≤ n ∧ n ≤ 1000000 ∧ Q ⟨(List.range n.toNat).map fun (k : Nat) => V.int (k : Int), fun _ => True⟩ h1
      | _ => False) E
end

mutual
noncomputable def wpS : CS → Loc → Hp → (Loc → Hp → Prop) → (V → Hp → Prop) → (Nat → Loc → Hp → Prop) → Prop
  | .expr e, l, h, N, _, E => wpE G C e l h (fun _ h1 => N l h1) (fun x h1 => E x l h1)
  | .assign i e, l, h, N, _, E => wpE G C e l h (fun v h1 => N (lset l i (some v)) h1) (fun x h1 => E x l h1)
  | .ite c t f, l, h, N, R, E => wpE G C c l h (fun v h1 => match v with
      | .bool true => wpSs t l h1 N R E
      | .bool false => wpSs f l h1 N R E
      | _ => False) (fun x h1 => E x l h1)
  | .loop t it body, l, h, N, R, E => wpIt G C it l h (fun src h1 =>
      ∃ I : Nat → Loc → Hp → Prop, I 0 l h1 ∧
        (∀ k l2 h2 v, I k l2 h2 → src.items[k]? = some v → src.alive h2 ∧ ∃ l3, bindT t v l2 = some l3 ∧
          wpSs body l3 h2 (fun l4 h4 => I (k + 1) l4 h4) R E) ∧
        (∀ l2 h2, I src.items.length l2 h2 → src.alive h2 ∧ N l2 h2)) (fun x h1 => E x l h1)
  | .ret e, l, h, _, R, E => wpE G C e l h R (fun x h1 => E x l h1)
  | .raise X, l, h, _, _, E => E X l h
  | .tryC t f as hs, l, h, N, R, _ => wpEs G C as l h (fun vs h1 => C f vs h1 (fun v h2 => N (tset t l v) h2) (fun x h2 => wpH G hs x l h2 N R)) (fun _ _ => False)
noncomputable def wpSs : List CS → Loc → Hp → (Loc → Hp → Prop) → (V → Hp → Prop) → (Nat → Loc → Hp → Prop) → Prop
  | [], l, h, N, _, _ => N l h
  | s :: ss, l, h, N, R, E => wpS s l h (fun l1 h1 => wpSs ss l1 h1 N R E) R E
end
end

structure CFn where
  params : Nat
  locals : Nat
  body : List CS

noncomputable def callF (fns : Nat → Option CFn) (G : Gm) : Nat → Calls
  | 0, _, _, _, _, _ => False
  | n + 1, f, vs, h, Q, E => match fns f with
    | none => False
    | some fn => vs.length = fn.params ∧ wpSs G (callF fns G n) fn.body (vs.map some ++ List.replicate (fn.locals - fn.params) none) h
        (fun _ h1 => Q .none h1) Q (fun x _ h1 => E x h1)
noncomputable def fnsOf (tab : List (Nat × CFn)) (f : Nat) : Option CFn := tab.lookup f
end Mine

end

section
namespace Mine
open PySem


inductive GV where
  | fn (a : Nat) | book (C : Nat) | exc (C : Nat) | bi (name : Str) | attr
  deriving DecidableEq

noncomputable abbrev Names := List (Str × Nat)

noncomputable def allM {α β : Type} (f : α → Option β) : List α → Option (List β)
  | [] => some []
  | a :: r => match f a, allM f r with
    | some b, some bs => some (b :: bs)
    | _, _ => none
noncomputable def optM {α β : Type} (f : α → Option β) : Option α → Option (Option β)
  | none => some none
  | some a => match f a with
    | some b => some (some b)
    | none => none

noncomputable def binK : Operator → Option BinK
  | .Add => some .add | .Sub => some .sub | .Mult => some .mul | .FloorDiv => some .fdiv | .Mod => some .mod | .Pow => some .pow
  | _ => none
noncomputable def cmpK : CmpOp → Option CmpK
  | .Eq => some .eq | .NotEq => some .ne | .Lt => some .lt | .LtE => some .le | .Gt => some .gt | .GtE => some .ge
  | _ => none
noncomputable def foldB (op : BoolOp) : CE → List CE → CE
  | x, [] => x
  | x, y :: r => match op with
    | .And => .and x (foldB op y r)
    | .Or => .or x (foldB op y r)
noncomputable def biOf (name : Str) : Option Bi :=
  if name = "len" then some .len else if name = "sum" then some .sum else if name = "min" then some .min2 else if name = "max" then some .max2
  else if name = "all" then some .all else if name = "any" then some .any else if name = "list" then some .list else if name = "int" then some .int else none
noncomputable def clsBi (n : Str) : Option Cls := if n = "int" then some .int else if n = "bool" then some .bool else if n = "list" then some .list else if n = "tuple" then some .tuple
      else if n = "str" then some .str else if n = "ValueError" then some .valueError else none
noncomputable def isGlob (sc : Scope) (x : Str) : Bool := sc.names.lookup x == some NameKind.globalImplicit && !(x == ("__debug__" : Str))
noncomputable def isVar (sc : Scope) (x : Str) : Bool :=
  (sc.names.lookup x == some NameKind.local || sc.names.lookup x == some NameKind.cell || sc.names.lookup x == some NameKind.free) && !(x == ("__debug__" : Str)) && !(x == ("__classdict__" : Str)) && !(x == (".0" : Str))

noncomputable def tgtNames : Expr → Option (List Str)
  | .Name x _ => some [x]
  | .Tuple es _ _ => if 2 ≤ es.length then allM (fun e => match e with | .Name x _ => some x | _ => none) es else none
  | _ => none

noncomputable def cConst : Const → Option CE
  | .none => some (.lit .none)
  | .bool b => some (.lit (.bool b))
  | .int i => some (.lit (.int i))
  | .str s => some (.lit (.str s))
  | _ => none
noncomputable def cBin : Option BinK → Option CE → Option CE → Option CE
  | some k, some a, some b => some (.bin k a b)
  | _, _, _ => none
noncomputable def cUn : UnaryOp → Option CE → Option CE
  | .Not, some a => some (.not a)
  | _, _ => none
noncomputable def cBool (op : BoolOp) : Option (List CE) → Option CE
  | some (x :: y :: r) => some (foldB op x (y :: r))
  | _ => none
noncomputable def cCmp (go : Expr → Option CE) (l : Expr) (ops : List CmpOp) (rs : List Expr) : Option CE :=
  match ops, rs with
  | [op], [r] => match cmpK op, go l, go r with
    | some k, some a, some b => if behindInMarks op r then none else some (.cmp k a b)
    | _, _, _ => none
  | _, _ => none
noncomputable def cSubs (go : Expr → Option CE) (o i : Expr) : Option CE :=
  match i with
  | .Slice lo hi st _ => match st, go o, optM go lo, optM go hi with
    | none, some a, some l, some h => some (.slice a l h)
    | _, _, _, _ => none
  | i => match go o, go i with
    | some a, some b => some (.sub a b)
    | _, _ => none

section
variable (glob : List (Str × GV)) (sc : Scope) (go : Expr → Option CE)
noncomputable def clsOf (x : Str) : Option Cls :=
  match glob.lookup x with
  | some (.book C) => some (.own C)
  | some (.exc C) => some (.own C)
  | some (.bi n) => clsBi n
  | _ => none
noncomputable def biName (f : Expr) : Option Str := match f with
  | .Name x _ => if isGlob sc x then (match glob.lookup x with | some (.bi b) => some b | _ => none) else none
  | _ => none
noncomputable def cBi (b : Str) (args : List Expr) : Option CE :=
  match biOf b, allM go args with
  | some k, some as => some (.bi k as)
  | _, _ => none
noncomputable def cIsi (args : List Expr) : Option CE := match args with
  | [x, .Name c _] => if isGlob sc c then (match go x, clsOf glob c with | some a, some cl => some (.isi a cl) | _, _ => none) else none
  | _ => none
noncomputable def oneOf (b : Str) (e : Expr) : Option Expr := match e with
  | .Call f [x] [] _ => if biName glob sc f = some b then some x else none
  | _ => none
noncomputable def cFn (x : Str) (args : List Expr) : Option CE :=
  match glob.lookup x with
  | some (.fn a) => match allM go args with | some as => some (.call a as) | none => none
  | some (.bi b) => if b = "isinstance" then cIsi glob sc go args
      else cBi go b args
  | _ => none
noncomputable def plainBase (o : Expr) : Bool := match o with
  | .Call (.Name ..) .. => false
  | _ => true
noncomputable def cMeth (o : Expr) (m : Str) (apos pos : Pos) (args : List Expr) : Option CE :=
  if False ∨ plainBase o = false ∨ (apos.endLine == pos.line) = false ∨ 30 ≤ args.length then none else match go o, allM go args with
    | some a, some as => some (.meth a m as)
    | _, _ => none
noncomputable def cCall (f : Expr) (args : List Expr) (kws : List Keyword) (pos : Pos) : Option CE :=
  match kws, f with
  | [], .Attribute o m apos => cMeth go o m apos pos args
  | [], .Name x _ => if isGlob sc x then cFn glob sc go x args else none
  | _, _ => none
noncomputable def cIt (e : Expr) : Option It :=
  match oneOf glob sc "range" e with
  | some a => match go a with | some a => some (.range a) | none => none
  | none => match go e with | some a => some (.val a) | none => none
end

noncomputable def nodupB : List Str → Bool
  | [] => true
  | x :: r => !(r.contains x) && nodupB r
noncomputable def tgtFits (t : Expr) (i : It) : Bool := true
noncomputable def compScopeOk (sc cs : Scope) (xs : List Str) : Bool :=
  cs.kind == .function && cs.names.all (fun p => p.2 == NameKind.local || p.2 == NameKind.free || p.2 == NameKind.globalImplicit) && xs.all (fun x => cs.names.lookup x == some NameKind.local)
    && cs.names.all (fun p => p.2 != NameKind.local || p.1 == (".0" : Str) || xs.contains p.1)
    && cs.names.all (fun p => p.2 != NameKind.free || (sc.names.lookup p.1 == some NameKind.cell && !(xs.contains p.1)))
    && nodupB (cs.names.map (·.1)) && nodupB xs

noncomputable def cComp (tgt : Expr) : List Str → Option It → Option CE → Option (Option CE) → Bool → Option CE
  | xs, some i, some el, some cond, true => if tgtFits tgt i then some (.comp el xs.length i cond) else none
  | _, _, _, _, _ => none

noncomputable def isAttr (glob : List (Str × GV)) (a : Str) : Bool := glob.lookup ("." ++ a) == some GV.attr
noncomputable def cE (glob : List (Str × GV)) : Nat → Scope → Option Nat → Names → Expr → Option CE
  | 0, _, _, _, _ => none
  | n + 1, sc, base, names, e => match e with
    | .Constant c _ _ => cConst c
    | .Name x _ => if isVar sc x then (match names.lookup x with | some i => some (.var i) | none => none) else none
    | .BinOp l op r _ => cBin (binK op) (cE glob n sc base names l) (cE glob n sc base names r)
    | .UnaryOp op x _ => cUn op (cE glob n sc base names x)
    | .BoolOp op vs _ => cBool op (allM (cE glob n sc base names) vs)
    | .Compare l ops rs _ => cCmp (cE glob n sc base names) l ops rs
    | .Call f args kws pos => cCall glob sc (cE glob n sc base names) f args kws pos
    | .Subscript o i _ => cSubs (cE glob n sc base names) o i
    | .List es _ => (match allM (cE glob n sc base names) es with | some as => some (.list as) | none => none)
    | .Tuple es _ _ => (match allM (cE glob n sc base names) es with | some as => some (.tup as) | none => none)
    | .ListComp elt gens cs _ => (match base, gens with
      | some b, [⟨tgt, it, ifs, 0⟩] => (match tgtNames tgt with
        | some xs => cComp tgt xs (cIt glob sc (cE glob n sc base names) it) (cE glob n cs none (xs.zipIdx b ++ names) elt)
            (match ifs with | [] => some none | [c] => optM (cE glob n cs none (xs.zipIdx b ++ names)) (some c) | _ => none) (compScopeOk sc cs xs)
        | none => none)
      | _, _ => none)
    | _ => none

section
variable (glob : List (Str × GV)) (sc : Scope) (names : Names) (n : Nat)
noncomputable abbrev cX (e : Expr) : Option CE := cE glob n sc (some names.length) names e
noncomputable def varsOf (xs : List Str) : Option (List Nat) := allM (fun x => if isVar sc x then names.lookup x else none) xs
noncomputable def cAssign (t : Expr) (v : Expr) : Option CS :=
  match t with
  | .Name x _ => match varsOf sc names [x], cX glob sc names n v with
    | some [i], some e => some (.assign i e)
    | _, _ => none
  | _ => none
noncomputable def cTgt (t : Expr) : Option Tgt :=
  match t with
  | .Name x _ => match varsOf sc names [x] with
    | some [i] => some (.name i)
    | _ => none
  | .Tuple es k p => match tgtNames (.Tuple es k p) with
    | some xs => (match varsOf sc names xs with
      | some is => some (.tup is)
      | none => none)
    | none => none
  | _ => none
noncomputable def strArg (as : List Expr) : Bool := match as with
  | [a] => (match a with | .Constant c _ _ => (match c with | .str _ => true | _ => false) | _ => false)
  | _ => false
noncomputable def cRaise2 (f : Expr) : Option CS := match f with
  | .Name x _ => if isGlob sc x then (match glob.lookup x with | some (.exc C) => some (.raise C) | _ => none) else none
  | _ => none
noncomputable def cRaise1 (e : Expr) : Option CS := match e with
  | .Call f as ks _ => if strArg as && ks.isEmpty then cRaise2 glob sc f else none
  | _ => none
noncomputable def cRaise (e : Option Expr) : Option CS := match e with
  | some e => cRaise1 glob sc e
  | none => none
noncomputable def cRet (e : Option Expr) : Option CS := match e with
  | some e => (match cX glob sc names n e with | some e => some (.ret e) | none => none)
  | none => none
noncomputable def cAssign1 (ts : List Expr) (v : Expr) : Option CS := match ts with
  | [t] => cAssign glob sc names n t v
  | _ => none
end

section
variable (glob : List (Str × GV)) (sc : Scope) (names : Names) (n : Nat)
noncomputable def cCallF (f : Expr) (as : List Expr) : Option (Nat × List CE) := match f with
  | .Name x _ => if isGlob sc x then (match glob.lookup x, allM (cX glob sc names n) as with | some (.fn a), some as => some (a, as) | _, _ => none) else none
  | _ => none
noncomputable def cCallE (e : Expr) : Option (Nat × List CE) := match e with
  | .Call f as ks _ => if ks.isEmpty then cCallF glob sc names n f as else none
  | _ => none
noncomputable def one1 (ts : List Expr) : Option Str := match ts with
  | [t] => (match t with | .Name x _ => some x | _ => none)
  | _ => none
noncomputable def cTry1 (st : Stmt) (hs : List CH) : Option CS := match st with
  | .Expr e _ => (match cCallE glob sc names n e with | some (a, as) => some (.tryC none a as hs) | none => none)
  | .Assign ts e _ => (match one1 ts with
    | some x => (match varsOf sc names [x], cCallE glob sc names n e with
      | some [i], some (a, as) => some (.tryC (some i) a as hs)
      | _, _ => none)
    | none => none)
  | _ => none
noncomputable def cBoolE (e : Expr) : Option Bool := match e with
  | .Constant c _ _ => (match c with | .bool b => some b | _ => none)
  | _ => none
noncomputable def cHset (D : Nat) (st : Stmt) : Option CH := match st with
  | .Assign ts v _ => (match one1 ts, cBoolE v with
    | some x, some b => (match varsOf sc names [x] with | some [i] => some (.set D i b) | _ => none)
    | _, _ => none)
  | _ => none
noncomputable def isiArgs (as : List Expr) : Option (Str × Str) := match as with
  | [a, b] => (match a, b with | .Name x _, .Name y _ => some (x, y) | _, _ => none)
  | _ => none
noncomputable def cIsiE (y : Str) (e : Expr) : Option Cls := match e with
  | .Call f as ks _ => (match f, isiArgs as with
    | .Name x _, some (a, b) => if ks.isEmpty && isGlob sc x && (glob.lookup x == some (.bi "isinstance")) && isGlob sc b && (a == y) then clsOf glob b else none
    | _, _ => none)
  | _ => none
noncomputable def cHisi (D : Nat) (y : Str) (st : Stmt) : Option CH := match st with
  | .Return e _ => (match e with
    | some e => if sc.names.lookup y == some NameKind.local then (match varsOf sc names [y], cIsiE glob sc y e with
      | some [i], some cl => some (.isi D i cl)
      | _, _ => none) else none
    | none => none)
  | _ => none
noncomputable def hCls (t : Option Expr) : Option Nat := match t with
  | some t => (match t with | .Name x _ => if isGlob sc x then (match clsOf glob x with | some (.own D) => some D | _ => none) else none | _ => none)
  | none => none
noncomputable def cH1 (h : ExceptHandler) : Option CH := match h with
  | .ExceptHandler t nm body _ => (match hCls glob sc t, body with
    | some D, [st] => (match nm with
      | none => cHset sc names D st
      | some y => cHisi glob sc names D y st)
    | _, _ => none)
noncomputable def cHs : List ExceptHandler → Option (List CH)
  | [] => some []
  | h :: r => (match cH1 glob sc names h, cHs r with
    | some a, some b => some (a :: b)
    | _, _ => none)
noncomputable def cTry (body : List Stmt) (hs : List ExceptHandler) (els fin : List Stmt) : Option CS := match body, els, fin with
  | [st], [], [] => (match cHs glob sc names hs with
    | some chs => if hs.isEmpty then none else cTry1 glob sc names n st chs
    | none => none)
  | _, _, _ => none
end
mutual
noncomputable def cS (glob : List (Str × GV)) (sc : Scope) (names : Names) : Nat → Stmt → Option CS
  | 0, _ => none
  | n + 1, s => match s with
    | .Expr e _ => (match e with
      | .ListComp .. => none
      | e => (match cX glob sc names n e with | some e => some (.expr e) | none => none))
    | .Return e _ => cRet glob sc names n e
    | .Assign ts v _ => cAssign1 glob sc names n ts v
    | .If c t f _ => (match cX glob sc names n c, cSs glob sc names n t, cSs glob sc names n f with
      | some c, some t, some f => some (.ite c t f)
      | _, _, _ => none)
    | .For t it body els _ => (match els, cTgt sc names t, cIt glob sc (cX glob sc names n) it, cSs glob sc names n body with
      | [], some t', some i, some b => if tgtFits t i then some (.loop t' i b) else none
      | _, _, _, _ => none)
    | .Try body hs els fin _ => cTry glob sc names n body hs els fin
    | .Raise e c _ => (match c with | none => cRaise glob sc e | some _ => none)
    | _ => none
noncomputable def cSs (glob : List (Str × GV)) (sc : Scope) (names : Names) : Nat → List Stmt → Option (List CS)
  | 0, _ => none
  | n + 1, ss => match ss with
    | [] => some []
    | s :: r => (match cS glob sc names n s, cSs glob sc names n r with
      | some a, some b => some (a :: b)
      | _, _ => none)
end

noncomputable def fnNames (params : List Str) (sc : Scope) : List Str :=
  params ++ (sc.names.filter fun p => (p.2 == NameKind.local || p.2 == NameKind.cell) && !(params.contains p.1)).map (·.1)
noncomputable def fnScopeOk (params : List Str) (sc : Scope) : Bool :=
  sc.kind == .function && !sc.isGenerator && !sc.isCoroutine && sc.names.all (fun p => p.2 == NameKind.local || p.2 == NameKind.cell || p.2 == NameKind.globalImplicit)
    && params.all (fun x => sc.names.lookup x == some NameKind.local || sc.names.lookup x == some NameKind.cell) && nodupB params && nodupB (sc.names.map (·.1))
end Mine

end

section
set_option maxRecDepth 10000
namespace Mine
open PySem PyProof.Rows

structure Wd where
  prog : Program
  w : World
  B : Heap
  sa : Addr
  bk : Addr
  G : Gm
  K : W.Frag
  glob : List (Str × GV)
  /-- tuples that no value may be -/
  hid : List Addr

inductive VR (W : Wd) (h : Heap) (σ : List Addr) : Value → V → Prop
  | none : VR W h σ .none .none
  | bool {b : Bool} : VR W h σ (.bool b) (.bool b)
  | int {i : Int} {t : Tok} : VR W h σ (.int i t) (.int i)
  | str {x : Str} {t : Tok} : VR W h σ (.str x t) (.str x)
  | tup {a : Addr} {n : Nat} {items : List Value} {vs : List V} : h.get? a = some { cls := .type "tuple", data := .seq items.toArray n } → items.length = vs.length → vs.length ≤ sizeLine →
      (∀ (i : Nat) (v : Value) (u : V), items[i]? = some v → vs[i]? = some u → VR W h σ v u) → a ∉ W.hid → VR W h σ (.ref a) (.tup vs)
  | ref {a : Addr} {i : Nat} : σ[i]? = some a → VR W h σ (.ref a) (.ref i)
  | inst {x d : Addr} {o : Obj} {i : Nat} : W.G.init.isSome = true → h.get? x = some o → o.cls = .ref W.bk → o.dict = some d → o.data = .plain → σ[i]? = some d → VR W h σ (.ref x) (.inst i)
  | scr : VR W h σ (.ref W.sa) .scr
  | exc {e : Addr} {o : Obj} {vs : Array Value} {C : Nat} : h.get? e = some o → o.cls = .ref C → o.data = .fields vs → VR W h σ (.ref e) (.exc C)

noncomputable def VRs (W : Wd) (h : Heap) (σ : List Addr) (items : List Value) (vs : List V) : Prop :=
  items.length = vs.length ∧ ∀ (i : Nat) (v : Value) (u : V), items[i]? = some v → vs[i]? = some u → VR W h σ v u

noncomputable def ORel (W : Wd) (h : Heap) (σ : List Addr) (a : Addr) : O → Prop
  | .list vs => (∃ items n, h.get? a = some { cls := .type "list", data := .seq items n } ∧ VRs W h σ items.toList vs) ∧ vs.length ≤ sizeLine
  | .dict es => (∃ kvs : List (Str × Value), h.DictAt (strKind W.prog W.w) a kvs kvs.length ∧ kvs.map (·.1) = es.map (·.1) ∧ VRs W h σ (kvs.map (·.2)) (es.map (·.2))) ∧ es.length ≤ sizeLine

structure Gd (W : Wd) (fr : List Addr) (h : Heap) (σ : List Addr) (hp : Hp) : Prop where
  base : ∀ b o, W.B.get? b = some o → h.get? b = some o
  len : σ.length = hp.length
  nd : σ.Nodup
  objs : ∀ (i : Nat) (a : Addr) (o : O), σ[i]? = some a → hp[i]? = some o → ORel W h σ a o
  bfree : ∀ a ∈ σ, W.B.get? a = none
  frs : ∀ b ∈ fr, b ∉ σ ∧ ∃ o es n, h.get? b = some o ∧ o.data = .dict es n
  hid : ∀ a ∈ W.hid, ∃ items n, h.get? a = some { cls := .type "tuple", data := .seq items n }

noncomputable def Kp (fr X : List Addr) (h h' : Heap) : Prop :=
  ∀ b o, h.get? b = some o → b ∉ X → h'.get? b = some o ∨ (b ∈ fr ∧ ∃ sl, h'.get? b = some { o with slots := sl })

structure Ev (fr σ σ' : List Addr) (s s' : Shared) : Prop where
  pre : ∃ t, σ' = σ ++ t ∧ ∀ a ∈ t, s.heap.get? a = none
  nd : σ'.Nodup
  kp : Kp fr σ s.heap s'.heap
  gens : s'.gens = s.gens
  os : s'.os = s.os

theorem kp_refl (fr X : List Addr) (h : Heap) : Kp fr X h h := fun _ _ e _ => .inl e
theorem Kp.at {fr X : List Addr} {h h' : Heap} (k : Kp fr X h h') {b : Addr} {o : Obj} (e : h.get? b = some o) (hb : b ∉ X) : ∃ sl, h'.get? b = some { o with slots := sl } := by
  rcases k b o e hb with q | ⟨_, q⟩
  · exact ⟨o.slots, q⟩
  · exact q
theorem Kp.exact {fr X : List Addr} {h h' : Heap} (k : Kp fr X h h') {b : Addr} {o : Obj} (e : h.get? b = some o) (hb : b ∉ X) (hf : b ∉ fr) : h'.get? b = some o := by
  rcases k b o e hb with q | ⟨q, _⟩
  · exact q
  · exact absurd q hf
theorem Kp.trans {fr X : List Addr} {h h₁ h₂ : Heap} {t : List Addr} (k : Kp fr X h h₁) (k' : Kp fr (X ++ t) h₁ h₂) (ht : ∀ a ∈ t, h.get? a = none) : Kp fr X h h₂ := by
  intro b o e hb
  have hb' : b ∉ X ++ t := fun q => (List.mem_append.mp q).elim hb fun z => by have := ht b z; rw [e] at this; cases this
  rcases k b o e hb with q | ⟨hf, sl, q⟩
  · exact k' b o q hb'
  · rcases k' b _ q hb' with q' | ⟨_, sl', q'⟩
    · exact .inr ⟨hf, sl, q'⟩
    · exact .inr ⟨hf, sl', q'⟩
theorem kp_of_keeps {fr X : List Addr} {h h' : Heap} (k : ∀ b o, h.get? b = some o → h'.get? b = some o) : Kp fr X h h' := fun b o e _ => .inl (k b o e)
theorem Kp.mono {fr X Y : List Addr} {h h' : Heap} (k : Kp fr X h h') (hs : ∀ b ∈ X, b ∈ Y) : Kp fr Y h h' := fun b o e hb => k b o e fun q => hb (hs b q)

theorem Ev.trans {fr σ σ₁ σ₂ : List Addr} {s s₁ s₂ : Shared} (x : Ev fr σ σ₁ s s₁) (y : Ev fr σ₁ σ₂ s₁ s₂) : Ev fr σ σ₂ s s₂ := by
  obtain ⟨⟨t, rfl, ht⟩, _, k, g, o⟩ := x
  obtain ⟨⟨t', rfl, ht'⟩, nd, k', g', o'⟩ := y
  refine ⟨⟨t ++ t', by simp, fun a ha => ?_⟩, nd, k.trans k' ht, g'.trans g, o'.trans o⟩
  rcases List.mem_append.mp ha with q | q
  · exact ht a q
  · cases e : s.heap.get? a with
    | none => rfl
    | some ob =>
      have hs : a ∉ σ := fun hs => (List.nodup_append.mp nd).2.2 a (List.mem_append_left _ hs) a q rfl
      obtain ⟨sl, q'⟩ := k.at e hs
      rw [ht' a q] at q'; cases q'

theorem mem_of_get? {σ : List Addr} {i : Nat} {a : Addr} (h : σ[i]? = some a) : a ∈ σ := List.mem_of_getElem? h
theorem get_of_mem {σ : List Addr} {a : Addr} (h : a ∈ σ) : ∃ i : Nat, σ[i]? = some a := by
  obtain ⟨i, hi, rfl⟩ := List.getElem_of_mem h
  exact ⟨i, by simp [hi]⟩

theorem Gd.there {W : Wd} {fr : List Addr} {h : Heap} {σ : List Addr} {hp : Hp} (g : Gd W fr h σ hp) {a : Addr} (ha : a ∈ σ) :
    ∃ o, h.get? a = some o ∧ (o.cls = .type "list" ∨ o.cls = .type "dict") ∧ ((∃ it n, o.data = .seq it n) ∨ ∃ es n, o.data = .dict es n) := by
  obtain ⟨i, hi⟩ := get_of_mem ha
  have hl : i < hp.length := by
    have := (List.getElem?_eq_some_iff.mp hi).1
    rw [g.len] at this; exact this
  have := g.objs i a hp[i] hi (by simp [hl])
  cases ho : hp[i] with
  | list vs =>
    rw [ho] at this
    obtain ⟨⟨items, n, e, _⟩, _⟩ := this
    exact ⟨_, e, .inl rfl, .inl ⟨_, _, rfl⟩⟩
  | dict es =>
    rw [ho] at this
    obtain ⟨⟨kvs, ⟨o, en, e, hx, hd, _⟩, _⟩, _⟩ := this
    exact ⟨o, e, .inr hx.1, .inr ⟨_, _, hd⟩⟩

theorem Gd.notTup {W : Wd} {fr : List Addr} {h : Heap} {σ : List Addr} {hp : Hp} (g : Gd W fr h σ hp) {a : Addr} {o : Obj} (e : h.get? a = some o)
    (hc : o.cls ≠ .type "list") (hd : o.cls ≠ .type "dict") : a ∉ σ := fun q => by
  obtain ⟨o', e', h1, _⟩ := g.there q
  rw [e] at e'; cases e'
  exact h1.elim hc hd

theorem pre_get {σ σ' : List Addr} {i : Nat} {a : Addr} (h : ∃ t, σ' = σ ++ t) (e : σ[i]? = some a) : σ'[i]? = some a := by
  obtain ⟨t, rfl⟩ := h
  rw [List.getElem?_append_left (List.getElem?_eq_some_iff.mp e).1]; exact e

theorem VR.mono' {W : Wd} {fr : List Addr} {h h' : Heap} {σ σ' : List Addr} {hp : Hp} (g : Gd W fr h σ hp) (hpre : ∃ t, σ' = σ ++ t) (k : Kp fr σ h h') {v : Value} {u : V} (r : VR W h σ v u) : VR W h' σ' v u := by
  induction r with
  | none => exact .none
  | bool => exact .bool
  | int => exact .int
  | str => exact .str
  | tup e hl hb _ hh ih =>
    refine .tup (k.exact e (g.notTup e (show Value.type "tuple" ≠ Value.type "list" by decide) (show Value.type "tuple" ≠ Value.type "dict" by decide)) fun q => ?_) hl hb ih hh
    obtain ⟨_, o, es, n, e', hd⟩ := g.frs _ q
    rw [e] at e'; cases e'; cases hd
  | ref e => exact .ref (pre_get hpre e)
  | inst e0 e hc hdi hd hi =>
    obtain ⟨sl, e'⟩ := k.at e (g.notTup e (by rw [hc]; intro z; cases z) (by rw [hc]; intro z; cases z))
    exact .inst e0 e' hc hdi hd (pre_get hpre hi)
  | scr => exact .scr
  | exc e hc hd =>
    obtain ⟨sl, e'⟩ := k.at e (g.notTup e (by rw [hc]; intro z; cases z) (by rw [hc]; intro z; cases z))
    exact .exc e' hc hd
theorem VR.mono {W : Wd} {fr : List Addr} {s s' : Shared} {σ σ' : List Addr} {hp : Hp} {v : Value} {u : V} (r : VR W s.heap σ v u) (g : Gd W fr s.heap σ hp) (x : Ev fr σ σ' s s') : VR W s'.heap σ' v u :=
  r.mono' g (let ⟨t, e, _⟩ := x.pre; ⟨t, e⟩) x.kp
theorem VRs.mono' {W : Wd} {fr : List Addr} {h h' : Heap} {σ σ' : List Addr} {hp : Hp} (g : Gd W fr h σ hp) (hpre : ∃ t, σ' = σ ++ t) (k : Kp fr σ h h') {v : List Value} {u : List V} (r : VRs W h σ v u) : VRs W h' σ' v u :=
  ⟨r.1, fun i a b e1 e2 => (r.2 i a b e1 e2).mono' g hpre k⟩
theorem VRs.mono {W : Wd} {fr : List Addr} {s s' : Shared} {σ σ' : List Addr} {hp : Hp} {v : List Value} {u : List V} (r : VRs W s.heap σ v u) (g : Gd W fr s.heap σ hp) (x : Ev fr σ σ' s s') : VRs W s'.heap σ' v u :=
  ⟨r.1, fun i a b e1 e2 => (r.2 i a b e1 e2).mono g x⟩
theorem ORel.keep {W : Wd} {h h' : Heap} {σ σ' : List Addr} {a : Addr} {o : O} (r : ORel W h σ a o) (e : ∀ ob, h.get? a = some ob → h'.get? a = some ob) (hv : ∀ v u, VR W h σ v u → VR W h' σ' v u) : ORel W h' σ' a o := by
  cases o with
  | list vs =>
    obtain ⟨⟨items, n, h1, h2⟩, hb⟩ := r
    exact ⟨⟨items, n, e _ h1, h2.1, fun i v u e1 e2 => hv _ _ (h2.2 i v u e1 e2)⟩, hb⟩
  | dict es =>
    obtain ⟨⟨kvs, ⟨ob, en, h1, r1⟩, h2, h3⟩, hb⟩ := r
    exact ⟨⟨kvs, ⟨ob, en, e _ h1, r1⟩, h2, h3.1, fun i v u e1 e2 => hv _ _ (h3.2 i v u e1 e2)⟩, hb⟩

section
variable {W : Wd} {fr : List Addr} {h h' : Heap} {σ : List Addr} {hp : Hp}
theorem Gd.keeps (g : Gd W fr h σ hp) (k : ∀ b o, h.get? b = some o → h'.get? b = some o) : Gd W fr h' σ hp :=
  ⟨fun b o e => k b o (g.base b o e), g.len, g.nd, fun i a o e1 e2 => (g.objs i a o e1 e2).keep (fun ob e => k _ _ e) (fun _ _ r => r.mono' g ⟨[], by simp⟩ (kp_of_keeps k)), g.bfree,
    fun b hb => ⟨(g.frs b hb).1, let ⟨o, es, n, e, hd⟩ := (g.frs b hb).2; ⟨o, es, n, k _ _ e, hd⟩⟩, fun a ha => let ⟨x, n, e⟩ := g.hid a ha; ⟨x, n, k _ _ e⟩⟩

theorem Gd.add (g : Gd W fr h σ hp) {a : Addr} {o : O} (k : ∀ b ob, h.get? b = some ob → h'.get? b = some ob) (hn : h.get? a = none) (r : ORel W h' (σ ++ [a]) a o) : Gd W fr h' (σ ++ [a]) (hp ++ [o]) := by
  have ha : a ∉ σ := fun q => by
    obtain ⟨o', e, _⟩ := g.there q
    rw [hn] at e; cases e
  have mono : ∀ v u, VR W h σ v u → VR W h' (σ ++ [a]) v u := fun v u r => r.mono' g ⟨[a], rfl⟩ (kp_of_keeps k)
  refine ⟨fun b ob e => k b ob (g.base b ob e), by simp [g.len], ?_, ?_, ?_, ?_, fun a ha => let ⟨x, n, e⟩ := g.hid a ha; ⟨x, n, k _ _ e⟩⟩
  · rw [List.nodup_append]
    exact ⟨g.nd, by simp, fun x hx y hy => by simp at hy; subst hy; exact fun z => ha (z ▸ hx)⟩
  · intro i b ob e1 e2
    by_cases hi : i < σ.length
    · rw [List.getElem?_append_left hi] at e1
      rw [List.getElem?_append_left (g.len ▸ hi)] at e2
      exact (g.objs i b ob e1 e2).keep (fun _ e => k _ _ e) mono
    · have hi' : i = σ.length := by
        have := (List.getElem?_eq_some_iff.mp e1).1
        simp at this; omega
      subst hi'
      simp at e1
      rw [g.len] at e2
      simp at e2
      subst e1 e2
      exact r
  · intro b hb
    rcases List.mem_append.mp hb with q | q
    · exact g.bfree b q
    · simp at q; subst q
      cases e : W.B.get? b with
      | none => rfl
      | some o' => have := g.base _ _ e; rw [hn] at this; cases this
  · intro b hb
    obtain ⟨h1, ob, es, n, e, hd⟩ := g.frs b hb
    refine ⟨fun q => ?_, ob, es, n, k _ _ e, hd⟩
    rcases List.mem_append.mp q with q | q
    · exact h1 q
    · simp at q; subst q; rw [hn] at e; cases e

theorem Gd.store (g : Gd W fr h σ hp) {i : Nat} {a : Addr} {o : O} (hi : σ[i]? = some a) (hs : ∀ b ob, b ≠ a → h.get? b = some ob → h'.get? b = some ob) (r : ORel W h' σ a o) : Gd W fr h' σ (hp.set i o) := by
  have ha : a ∈ σ := mem_of_get? hi
  have kp : Kp fr σ h h' := fun b ob e hb => .inl (hs b ob (fun q => hb (q ▸ ha)) e)
  have mono : ∀ v u, VR W h σ v u → VR W h' σ v u := fun v u r => r.mono' g ⟨[], by simp⟩ kp
  refine ⟨fun b ob e => hs b ob (fun q => ?_) (g.base b ob e), by simp [g.len], g.nd, ?_, g.bfree, fun b hb => ⟨(g.frs b hb).1, ?_⟩, fun b hb => let ⟨x, n, e⟩ := g.hid b hb; ⟨x, n, hs _ _ (fun q => g.notTup e (show Value.type "tuple" ≠ Value.type "list" by decide) (show Value.type "tuple" ≠ Value.type "dict" by decide) (q ▸ ha)) e⟩⟩
  · have := g.bfree a ha; rw [q, this] at e; cases e
  · intro j b ob e1 e2
    by_cases hj : j = i
    · subst hj
      rw [hi] at e1; cases e1
      rw [List.getElem?_set_self (by rw [← g.len]; exact (List.getElem?_eq_some_iff.mp hi).1)] at e2
      cases e2; exact r
    · rw [List.getElem?_set_ne (Ne.symm hj)] at e2
      refine (g.objs j b ob e1 e2).keep (fun o' e => hs _ _ (fun q => hj ?_) e) mono
      subst q
      exact (List.getElem?_inj (List.getElem?_eq_some_iff.mp e1).1 g.nd).mp (e1.trans hi.symm)
  · obtain ⟨h1, ob, es, n, e, hd⟩ := g.frs b hb
    exact ⟨ob, es, n, hs _ _ (fun q => h1 (q ▸ ha)) e, hd⟩
end

theorem ev_keeps {W : Wd} {fr σ : List Addr} {hp : Hp} {s s' : Shared} (g : Gd W fr s.heap σ hp) (k : ∀ b o, s.heap.get? b = some o → s'.heap.get? b = some o) (h1 : s'.gens = s.gens := by rfl) (h2 : s'.os = s.os := by rfl) : Ev fr σ σ s s' :=
  ⟨⟨[], by simp, by simp⟩, g.nd, kp_of_keeps k, h1, h2⟩
theorem ev_add {W : Wd} {fr σ : List Addr} {hp : Hp} {s s' : Shared} {a : Addr} (g : Gd W fr s'.heap (σ ++ [a]) hp) (k : ∀ b o, s.heap.get? b = some o → s'.heap.get? b = some o) (hn : s.heap.get? a = none) (h1 : s'.gens = s.gens := by rfl) (h2 : s'.os = s.os := by rfl) : Ev fr σ (σ ++ [a]) s s' :=
  ⟨⟨[a], rfl, by intro b hb; simp at hb; subst hb; exact hn⟩, g.nd, kp_of_keeps k, h1, h2⟩
theorem ev_store {W : Wd} {fr σ : List Addr} {hp : Hp} {s s' : Shared} {a : Addr} (g : Gd W fr s.heap σ hp) (ha : a ∈ σ) (k : ∀ b o, b ≠ a → s.heap.get? b = some o → s'.heap.get? b = some o) (h1 : s'.gens = s.gens := by rfl) (h2 : s'.os = s.os := by rfl) : Ev fr σ σ s s' :=
  ⟨⟨[], by simp, by simp⟩, g.nd, fun b o e hb => .inl (k b o (fun q => hb (q ▸ ha)) e), h1, h2⟩
theorem fresh_size (h : Heap) : h.get? h.objs.size = none := by
  cases e : h.get? h.objs.size with
  | none => rfl
  | some o => exact absurd (Heap.lt_size e) (Nat.lt_irrefl _)
end Mine

end

section
set_option maxRecDepth 10000
namespace Mine
open PySem PyProof.Rows

structure Cx where
  A : Around
  fenv : Env
  env : Env
  L : Addr
  outer : List Env

noncomputable def Cx.fr (c : Cx) : List Addr := (c.fenv :: c.outer).filterMap (·.frame)

structure CxOk (W : Wd) (c : Cx) : Prop where
  stk : c.A.frames = some (c.fenv :: c.outer)
  hh : c.A.handled = none
  kind : c.env.scope.kind = .function
  glob : c.env.globals = mainGlobals
  blt : c.env.builtins = builtinsNs
  frame : c.fenv.frame = some c.L
  eframe : c.env.frame = some c.L
  fkind : c.fenv.scope.kind = .function
  fgen : c.fenv.scope.isGenerator = false
  fco : c.fenv.scope.isCoroutine = false
  fglob : c.fenv.globals = mainGlobals
  fblt : c.fenv.builtins = builtinsNs
  depth : c.A.depth + 250 < recursionLimit
  units : c.A.units + 100 < cLine

theorem CxOk.lfr {W : Wd} {c : Cx} (k : CxOk W c) : c.L ∈ c.fr := by
  unfold Cx.fr
  rw [List.filterMap_cons_some k.frame]
  exact List.mem_cons_self

noncomputable def Rd (env : Env) (h : Heap) (x : Str) (v : Value) : Prop :=
  (env.kindOf x = some .local ∧ ∃ m, h.Ns env.locals m ∧ m x = some v) ∨
  ((env.kindOf x = some .cell ∨ env.kindOf x = some .free) ∧ ∃ c, env.cells.lookup x = some c ∧ h.IsCell c (some v))

structure LR (W : Wd) (c : Cx) (sc : Scope) (names : Names) (l : Loc) (σ : List Addr) (h : Heap) : Prop where
  frm : ∃ m, Fr W.B c.L h m
  ff : h.FunFrames W.B c.outer
  nl : c.env.locals ∉ σ
  ns : ∃ m, h.Ns c.env.locals m
  rd : ∀ x i u, isVar sc x = true → names.lookup x = some i → lget l i = some u → ∃ v, VR W h σ v u ∧ Rd c.env h x v
  len : l.length = names.length
  lb : W.B.get? c.env.locals = none
  cel : ∀ p ∈ c.env.cells, W.B.get? p.2 = none ∧ ∃ v, h.IsCell p.2 v

theorem ns_slots {h h' : Heap} {a : Addr} {m : Str → Option Value} (n : h.Ns a m) (k : ∀ o, h.get? a = some o → ∃ sl, h'.get? a = some { o with slots := sl }) : h'.Ns a m := by
  obtain ⟨o, es, ep, e, r⟩ := n
  obtain ⟨sl, e'⟩ := k o e
  exact ⟨_, es, ep, e', r⟩
theorem funFrames_kp {fr X : List Addr} {base h h' : Heap} (k : Kp fr X h h') : ∀ {l : List Env}, (∀ b ∈ l.filterMap (·.frame), b ∉ X) → h.FunFrames base l → h'.FunFrames base l
  | [], _, _ => trivial
  | env :: l, hx, ⟨h1, ⟨L, o, hf, hn, ho, hd⟩, hr⟩ => by
    have hm : ∀ b ∈ l.filterMap (·.frame), b ∈ (env :: l).filterMap (·.frame) := fun b hb => by
      rw [List.filterMap_cons_some hf]; exact List.mem_cons_of_mem _ hb
    obtain ⟨sl, e⟩ := k.at ho (hx L (by rw [List.filterMap_cons_some hf]; exact List.mem_cons_self))
    exact ⟨h1, ⟨L, _, hf, hn, e, hd⟩, funFrames_kp k (fun b hb => hx b (hm b hb)) hr⟩

theorem cell_notin {W : Wd} {fr : List Addr} {h : Heap} {σ : List Addr} {hp : Hp} (g : Gd W fr h σ hp) {c : Addr} {v : Option Value} (x : h.IsCell c v) : c ∉ σ := fun q => by
  obtain ⟨o, e, hd⟩ := x
  obtain ⟨o', e', _, h2⟩ := g.there q
  rw [e] at e'; cases e'
  rcases h2 with ⟨_, _, z⟩ | ⟨_, _, z⟩ <;> rw [hd] at z <;> cases z
theorem cell_kp {fr X : List Addr} {h h' : Heap} (k : Kp fr X h h') {c : Addr} {v : Option Value} (x : h.IsCell c v) (hc : c ∉ X) : h'.IsCell c v := by
  obtain ⟨o, e, hd⟩ := x
  obtain ⟨sl, e'⟩ := k.at e hc
  exact ⟨_, e', hd⟩
theorem rd_kp {fr X : List Addr} {h h' : Heap} (k : Kp fr X h h') {env : Env} {x : Str} {v : Value} (r : Rd env h x v) (hl : env.locals ∉ X) (hc : ∀ c v, h.IsCell c v → c ∉ X) : Rd env h' x v := by
  rcases r with ⟨h1, m, hn, hv⟩ | ⟨h1, c, hl', hv⟩
  · exact .inl ⟨h1, m, ns_slots hn fun o e => k.at e hl, hv⟩
  · exact .inr ⟨h1, c, hl', cell_kp k hv (hc _ _ hv)⟩

theorem LR.ev {W : Wd} {c : Cx} {sc : Scope} {names : Names} {l : Loc} {σ σ' : List Addr} {hp hp' : Hp} {s s' : Shared} (k : CxOk W c) (r : LR W c sc names l σ s.heap) (g : Gd W c.fr s.heap σ hp) (g' : Gd W c.fr s'.heap σ' hp') (x : Ev c.fr σ σ' s s') : LR W c sc names l σ' s'.heap := by
  obtain ⟨⟨m, F⟩, ff, nl, ⟨m', hn⟩, rd, hlen, hlb, cel⟩ := r
  refine ⟨⟨m, ns_slots F.ns fun o e => x.kp.at e (g.frs _ k.lfr).1, g'.base, F.above⟩, funFrames_kp x.kp (fun b hb => (g.frs b (by unfold Cx.fr; rw [List.filterMap_cons_some k.frame]; exact List.mem_cons_of_mem _ hb)).1) ff, ?_, ⟨m', ns_slots hn fun o e => x.kp.at e nl⟩, ?_, hlen, hlb, fun p hp => let ⟨h1, v, h2⟩ := cel p hp; ⟨h1, v, cell_kp x.kp h2 (cell_notin g h2)⟩⟩
  · obtain ⟨t, rfl, ht⟩ := x.pre
    intro q
    rcases List.mem_append.mp q with q | q
    · exact nl q
    · obtain ⟨o, es, ep, e, _⟩ := hn
      rw [ht _ q] at e; cases e
  · intro y i u h1 h2 h3
    obtain ⟨v, hv, hr⟩ := rd y i u h1 h2 h3
    exact ⟨v, hv.mono g x, rd_kp x.kp hr nl fun c v q => cell_notin g q⟩

inductive PEr (W : Wd) (fr : List Addr) (σ : List Addr) (s : Shared) (Q : V → Hp → Prop) (v : Value) (s' : Shared) : Prop
  | mk (u : V) (hp' : Hp) (σ' : List Addr) : VR W s'.heap σ' v u → Gd W fr s'.heap σ' hp' → Ev fr σ σ' s s' → Q u hp' → PEr W fr σ s Q v s'
noncomputable abbrev PE (W : Wd) (c : Cx) (σ : List Addr) (s : Shared) (Q : V → Hp → Prop) (v : Value) (s' : Shared) : Prop := PEr W c.fr σ s Q v s'

inductive FlyC (W : Wd) (fs : List Env) (fr : List Addr) (X : Nat) (x : Value) (σ σ' : List Addr) (hp' : Hp) (s s' : Shared) : Prop
  | mk (e : Addr) (Bx : Heap) (a0 : Value) : x = .ref e → Gd W [] Bx σ' hp' → (∃ t, σ' = σ ++ t ∧ ∀ a ∈ t, s.heap.get? a = none) → s'.gens = s.gens → s'.os = s.os →
    (∀ b o, s.heap.get? b = some o → b ∉ σ → b ∉ fr → Bx.get? b = some o) →
    (∀ b o, s.heap.get? b = some o → b ∈ fr → ∃ sl, s'.heap.get? b = some { o with slots := sl }) →
    Heap.FlyingW Bx fs e (.ref X) a0 s'.heap → FlyC W fs fr X x σ σ' hp' s s'
inductive XC (W : Wd) (fs : List Env) (fr σ : List Addr) (s : Shared) (E : Nat → Hp → Prop) (x : Value) (s' : Shared) : Prop
  | mk (X : Nat) (hp' : Hp) (σ' : List Addr) : FlyC W fs fr X x σ σ' hp' s s' → E X hp' → XC W fs fr σ s E x s'

noncomputable def EE (W : Wd) (c : Cx) (σ : List Addr) (s : Shared) (E : Nat → Hp → Prop) (x : Value) (s' : Shared) : Prop :=
  False

theorem PE.from {W : Wd} {c : Cx} {σ σ₁ : List Addr} {s s₁ s' : Shared} {Q : V → Hp → Prop} {v : Value} (x : Ev c.fr σ σ₁ s s₁) (p : PE W c σ₁ s₁ Q v s') : PE W c σ s Q v s' := by
  obtain ⟨u, hp', σ', r, g, y, q⟩ := p
  exact ⟨u, hp', σ', r, g, x.trans y, q⟩

theorem XC.from {W : Wd} {fs : List Env} {fr : List Addr} {E : Nat → Hp → Prop} {x : Value} {σ σ₁ : List Addr} {hp : Hp} {s s₁ s' : Shared} (g : Gd W fr s.heap σ hp) (y : Ev fr σ σ₁ s s₁) (f : XC W fs fr σ₁ s₁ E x s') : XC W fs fr σ s E x s' := by
  obtain ⟨X, hp', σ', ⟨e, Bx, a0, rfl, gx, ⟨t', rfl, ht'⟩, q1, q2, k1, k2, st⟩, q⟩ := f
  obtain ⟨⟨t, rfl, ht⟩, nd, kp, e1, e2⟩ := y
  refine ⟨X, hp', _, ⟨e, Bx, a0, rfl, gx, ⟨t ++ t', by simp, fun a ha => ?_⟩, q1.trans e1, q2.trans e2, fun b o hb hn hf => ?_, fun b o hb hf => ?_, st⟩, q⟩
  · rcases List.mem_append.mp ha with q | q
    · exact ht a q
    · cases e : s.heap.get? a with
      | none => rfl
      | some ob =>
        have hs : a ∉ σ := fun hs => (List.nodup_append.mp gx.nd).2.2 a (List.mem_append_left _ hs) a q rfl
        obtain ⟨sl, q'⟩ := kp.at e hs
        rw [ht' a q] at q'; cases q'
  · refine k1 b o (kp.exact hb hn hf) (fun q => ?_) hf
    rcases List.mem_append.mp q with q | q
    · exact hn q
    · rw [ht b q] at hb; cases hb
  · obtain ⟨sl, e⟩ := kp.at hb (g.frs b hf).1
    obtain ⟨sl', e'⟩ := k2 b _ e hf
    exact ⟨sl', e'⟩
theorem EE.from {W : Wd} {c : Cx} {E : Nat → Hp → Prop} {x : Value} {σ σ₁ : List Addr} {hp hp₁ : Hp} {s s₁ s' : Shared} (g : Gd W c.fr s.heap σ hp) (g₁ : Gd W c.fr s₁.heap σ₁ hp₁) (y : Ev c.fr σ σ₁ s s₁) (f : EE W c σ₁ s₁ E x s') : EE W c σ s E x s' := by
  exact f.elim

noncomputable def OkE (W : Wd) (C : Calls) (c : Cx) (sc : Scope) (names : Names) (e : Expr) (ce : CE) : Prop :=
  ∀ l hp σ s Q E, Gd W c.fr s.heap σ hp → LR W c sc names l σ s.heap → wpE W.G C ce l hp Q E →
    wpAny (model W.prog W.w) c.A (eval e c.env) (PE W c σ s Q) (EE W c σ s E) s

end Mine

end

section
set_option maxRecDepth 10000
namespace Mine
open PySem PyProof.Rows

noncomputable def biName? (b : Str) : Option Value :=
  if b = "len" then some (.builtin "len") else if b = "sum" then some (.builtin "sum") else if b = "min" then some (.builtin "min") else if b = "max" then some (.builtin "max")
  else if b = "abs" then some (.builtin "abs") else if b = "all" then some (.builtin "all") else if b = "any" then some (.builtin "any") else if b = "isinstance" then some (.builtin "isinstance")
  else if b = "list" then some (.type "list") else if b = "int" then some (.type "int") else if b = "str" then some (.type "str") else if b = "bool" then some (.type "bool") else if b = "tuple" then some (.type "tuple")
  else if b = "range" then some (.type "range") else if b = "enumerate" then some (.type "enumerate") else if b = "zip" then some (.type "zip") else if b = "ValueError" then some (.type "ValueError") else none

noncomputable def clsVal : Cls → Value
  | .int => .type "int" | .bool => .type "bool" | .list => .type "list" | .tuple => .type "tuple" | .str => .type "str" | .valueError => .type "ValueError" | .own C => .ref C

noncomputable def GlobOk (W : Wd) (x : Str) : GV → Prop
  | .fn a => PySem.W.nsIn W.K mainGlobals x = some (some (.ref a)) ∧ PySem.W.keepIn W.K (.ref a) = true
  | .book C => PySem.W.nsIn W.K mainGlobals x = some (some (.ref C)) ∧ C = W.bk
  | .exc C => PySem.W.nsIn W.K mainGlobals x = some (some (.ref C))
  | .bi b => PySem.W.nsIn W.K mainGlobals x = some none ∧ bootBuiltins x = biName? b ∧ x ≠ "__name__"
  | .attr => True

structure WdOk (W : Wd) : Prop where
  nolim : W.B.NoLimit
  noseer : W.B.NoSeer
  tree : W.prog.given.tree = none
  script : ∃ vals : List Value, W.B.IsList W.sa vals.toArray ∧ IntsAre vals W.G.scr
  scrLen : W.G.scr.length ≤ 63
  sysmod : ∃ o, W.B.get? sysModules = some o
  kin : W.K.In W.B
  globs : ∃ mg mb, W.B.Ns mainGlobals mg ∧ W.B.Ns builtinsNs mb ∧ ∀ x : Str, x ≠ "__name__" → mb x = bootBuiltins x
  globOk : ∀ x gv, W.glob.lookup x = some gv → GlobOk W x gv
  excOk : ∀ x X, W.glob.lookup x = some (.exc X) → ∃ bmB newId initId Bn mg, OwnCls x X bmB newId mg W.B ∧ ExcBaseFacts Bn newId initId bmB
  subOk : ∀ X cl b, W.G.isSub X cl = some b → (∀ D, cl = .own D → PySem.W.instIn W.K (.ref D) (.type "tuple") = some false ∧ PySem.W.kitCls W.K (.ref D) (.ref D) = some true ∧ PySem.W.subIn W.K (.ref D) (.type "BaseException") = some true ∧
    PySem.W.subIn W.K (.ref X) (.ref D) = some b) ∧ PySem.W.kitOne W.K (.ref X) (clsVal cl) = some b
  attrs : ∀ a, isAttr W.glob a = true → PySem.W.findIn W.K (.ref W.bk) a = some none ∧ PySem.W.takerIn W.K W.bk a = some none
  book : W.G.book = W.bk
  meths : ∀ name f, W.G.meth name = some f → PySem.W.findIn W.K (.ref W.bk) name = some (some (.ref f)) ∧ PySem.W.isFn W.K (.ref f) = true ∧ PySem.W.keepIn W.K (.ref f) = true
  initOk : ∀ f, W.G.init = some f → PySem.W.findIn W.K (.ref W.bk) "__init__" = some (some (.ref f)) ∧ PySem.W.isFn W.K (.ref f) = true ∧ PySem.W.makesIn W.K W.bk = true ∧
    PySem.W.plainGet W.K W.bk "x" = true ∧ PySem.W.hasDictIn W.K W.bk = true ∧ PySem.W.findIn W.K (.ref W.bk) "__setattr__" = some (some (.builtin "object.__setattr__")) ∧ PySem.W.plainOver W.K W.bk = true ∧
    PySem.W.isIn W.K (.ref W.bk) W.bk = true ∧ PySem.W.keepIn W.K (.ref W.bk) = true

section
variable {W : Wd} {c : Cx} {σ : List Addr} {hp : Hp} {s : Shared} {Q : V → Hp → Prop} {E : Value → Shared → Prop} {A : Around}

theorem VR.at {h h' : Heap} {v : Value} {u : V} (r : VR W h σ v u) (g : Gd W c.fr h σ hp) (k : ∀ b o, h.get? b = some o → h'.get? b = some o) : VR W h' σ v u := r.mono' g ⟨[], by simp⟩ (kp_of_keeps k)

theorem pe_tok {t : Nat} {v : Value} {u : V} (g : Gd W c.fr s.heap σ hp) (r : VR W s.heap σ v u) (q : Q u hp) : PE W c σ s Q v { s with toks := t } :=
  ⟨u, hp, σ, r, g, ev_keeps g (fun _ _ e => e), q⟩
theorem pe_here {v : Value} {u : V} (g : Gd W c.fr s.heap σ hp) (r : VR W s.heap σ v u) (q : Q u hp) : PE W c σ s Q v s :=
  ⟨u, hp, σ, r, g, ev_keeps g (fun _ _ e => e), q⟩
theorem pe_keeps {v : Value} {u : V} {h' : Heap} {t : Nat} (g : Gd W c.fr s.heap σ hp) (k : ∀ b o, s.heap.get? b = some o → h'.get? b = some o) (r : VR W h' σ v u) (q : Q u hp) : PE W c σ s Q v { s with heap := h', toks := t } :=
  ⟨u, hp, σ, r, g.keeps k, ev_keeps g k, q⟩
theorem pe_list {items : Array Value} {vs : List V} {h' : Heap} {t : Nat} {a : Addr} {n : Nat} (g : Gd W c.fr s.heap σ hp) (k : ∀ b o, s.heap.get? b = some o → h'.get? b = some o) (hn : s.heap.get? a = none)
    (ha : h'.get? a = some { cls := .type "list", data := .seq items n }) (r : VRs W s.heap σ items.toList vs) (hb : vs.length ≤ sizeLine) (q : Q (.ref hp.length) (hp ++ [.list vs])) : PE W c σ s Q (.ref a) { s with heap := h', toks := t } := by
  have g' : Gd W c.fr h' (σ ++ [a]) (hp ++ [.list vs]) := g.add k hn ⟨⟨items, n, ha, r.mono' g ⟨[a], rfl⟩ (kp_of_keeps k)⟩, hb⟩
  exact ⟨_, _, _, .ref (by rw [← g.len]; simp), g', ev_add g' k hn, q⟩
theorem pe_push {items : Array Value} {vs : List V} {t : Nat} (g : Gd W c.fr s.heap σ hp) (r : VRs W s.heap σ items.toList vs) (hb : vs.length ≤ sizeLine) (q : Q (.ref hp.length) (hp ++ [.list vs])) :
    PE W c σ s Q (.ref s.heap.objs.size) { s with heap := s.heap.push { cls := .type "list", data := .seq items }, toks := t } :=
  pe_list g (fun _ _ e => Heap.get?_push_of_some _ e) (fresh_size _) (Heap.get?_push_size _ rfl) r hb q
theorem pe_tup {items : Array Value} {vs : List V} {t : Nat} (g : Gd W c.fr s.heap σ hp) (r : VRs W s.heap σ items.toList vs) (hb : vs.length ≤ sizeLine) (q : Q (.tup vs) hp) :
    PE W c σ s Q (.ref s.heap.objs.size) { s with heap := s.heap.push { cls := .type "tuple", data := .seq items }, toks := t } := by
  have k : ∀ b o, s.heap.get? b = some o → (s.heap.push { cls := .type "tuple", data := .seq items }).get? b = some o := fun _ _ e => Heap.get?_push_of_some _ e
  refine pe_keeps g k (.tup (items := items.toList) (n := 0) (by simpa using Heap.get?_push_size _ rfl) r.1 hb (fun i v u e1 e2 => (r.2 i v u e1 e2).at g k) fun hh => ?_) q
  obtain ⟨_, _, e⟩ := g.hid _ hh
  rw [fresh_size] at e; cases e

theorem Gd.list {i : Nat} {vs : List V} {a : Addr} {h : Heap} (g : Gd W c.fr h σ hp) (hi : σ[i]? = some a) (ho : hp[i]? = some (.list vs)) : ∃ items n, IsL h a items n ∧ VRs W h σ items.toList vs := (g.objs i a _ hi ho).1
theorem Gd.listLen {i : Nat} {vs : List V} {h : Heap} {fr : List Addr} (g : Gd W fr h σ hp) (ho : hp[i]? = some (.list vs)) : vs.length ≤ sizeLine := by
  have hi : i < σ.length := by rw [g.len]; exact (List.getElem?_eq_some_iff.mp ho).1
  exact (g.objs i σ[i] _ (by simp [hi]) ho).2
theorem VRs.append {h : Heap} {x y : List Value} {a b : List V} (r : VRs W h σ x a) (r' : VRs W h σ y b) : VRs W h σ (x ++ y) (a ++ b) := by
  refine ⟨by simp [r.1, r'.1], fun i v u e1 e2 => ?_⟩
  by_cases hi : i < x.length
  · rw [List.getElem?_append_left hi] at e1
    rw [List.getElem?_append_left (r.1 ▸ hi)] at e2
    exact r.2 i v u e1 e2
  · rw [List.getElem?_append_right (by omega)] at e1
    rw [List.getElem?_append_right (by have := r.1; omega), ← r.1] at e2
    exact r'.2 _ v u e1 e2
theorem VRs.nil {h : Heap} : VRs W h σ [] [] := ⟨rfl, fun i v u e => by simp at e⟩
theorem VRs.cons {h : Heap} {v : Value} {u : V} {x : List Value} {a : List V} (r : VR W h σ v u) (rs : VRs W h σ x a) : VRs W h σ (v :: x) (u :: a) := by
  refine ⟨by simp [rs.1], fun i v' u' e1 e2 => ?_⟩
  cases i with
  | zero => simp at e1 e2; subst e1 e2; exact r
  | succ i => simp at e1 e2; exact rs.2 i v' u' e1 e2
theorem VRs.get {h : Heap} {x : List Value} {a : List V} (r : VRs W h σ x a) {j : Nat} {u : V} (e : a[j]? = some u) : ∃ v, x[j]? = some v ∧ VR W h σ v u := by
  have hj : j < x.length := by rw [r.1]; exact (List.getElem?_eq_some_iff.mp e).1
  exact ⟨x[j], by simp [hj], r.2 j _ u (by simp [hj]) e⟩

noncomputable def unBin : BinK → Operator
  | .add => .Add | .sub => .Sub | .mul => .Mult | .fdiv => .FloorDiv | .mod => .Mod | .pow => .Pow
theorem binK_eq {op : Operator} {k : BinK} (h : binK op = some k) : op = unBin k := by
  cases op <;> simp only [binK, Option.some.injEq, reduceCtorEq] at h <;> subst h <;> rfl
theorem kInts_elim {a b : V} {f : Int → Int → Prop} (h : kInts a b f) : ∃ x y, a = .int x ∧ b = .int y ∧ f x y := by
  cases a <;> first | exact h.elim | skip
  cases b <;> first | exact h.elim | skip
  exact ⟨_, _, rfl, rfl, h⟩
theorem okBin {k : BinK} {op : Operator} {a b : V} {va vb : Value} (hk : binK op = some k) (g : Gd W c.fr s.heap σ hp) (ra : VR W s.heap σ va a) (rb : VR W s.heap σ vb b)
    (hpy : ∀ x y : Int, Builtin.divisionGoesByPylong x y = false ∨ PylongRoom (model W.prog W.w) A s) (hw : kBin k a b hp Q) : wpAny (model W.prog W.w) A (binaryOp op va vb) (PE W c σ s Q) E s := by
  (replace hw := kInts_elim hw); obtain ⟨x, y, rfl, rfl, hw⟩ := hw
  cases ra; cases rb
  have hk' := binK_eq hk; subst hk'
  cases k with
  | add => exact P.add_int (pe_tok g .int hw)
  | sub => exact P.sub_int (pe_tok g .int hw)
  | mul => exact P.mul_int (pe_tok g .int hw.2) hw.1
  | fdiv => exact floordiv_int hw.1 (pe_tok g .int hw.2) (hpy _ _)
  | mod => exact mod_int' hw.1 (pe_tok g .int hw.2)
  | pow => exact pow_int_small hw.1 hw.2.1 hw.2.2.1 (pe_tok g .int hw.2.2.2)
end
end Mine

end

section
set_option maxRecDepth 10000
namespace Mine
open PySem PyProof.Rows PySem.SeqAt

noncomputable def eAt (f : V → V → Option Bool) (x y : List V) (j : Nat) : Bool := match x[j]?, y[j]? with
  | some u, some u' => (f u u').getD false
  | _, _ => false
theorem veqs_spec (f : V → V → Option Bool) : ∀ (x y : List V) (r : Bool), veqs f x y = some r →
    (∀ (j : Nat) (u u' : V), x[j]? = some u → y[j]? = some u' → f u u' = some (eAt f x y j)) ∧ r = ((List.range (min x.length y.length)).all (eAt f x y) && x.length == y.length)
  | [], [], r, h => by
    simp only [veqs, Option.some.injEq] at h; subst h
    exact ⟨fun j u u' e => by simp at e, by simp⟩
  | [], _ :: _, r, h => by
    simp only [veqs, Option.some.injEq] at h; subst h
    exact ⟨fun j u u' e => by simp at e, by simp⟩
  | _ :: _, [], r, h => by
    simp only [veqs, Option.some.injEq] at h; subst h
    exact ⟨fun j u u' _ e => by simp at e, by simp⟩
  | a :: x, b :: y, r, h => by
    simp only [veqs] at h
    split at h
    · rename_i p q h1 h2
      cases h
      obtain ⟨k1, k2⟩ := veqs_spec f x y q h2
      refine ⟨fun j u u' e e' => ?_, ?_⟩
      · cases j with
        | zero =>
          simp only [List.getElem?_cons_zero, Option.some.injEq] at e e'
          subst e e'
          simp [eAt, h1]
        | succ j =>
          simp only [List.getElem?_cons_succ] at e e'
          rw [k1 j u u' e e']
          simp [eAt, e, e']
      · subst k2
        have e1 : min (a :: x).length (b :: y).length = min x.length y.length + 1 := by simp
        rw [e1, List.range_succ_eq_map, List.all_cons, List.all_map]
        have e2 : eAt f (a :: x) (b :: y) 0 = p := by simp [eAt, h1]
        have e3 : (eAt f (a :: x) (b :: y) ∘ Nat.succ) = eAt f x y := by funext j; simp [eAt]
        rw [e2, e3]
        simp [Bool.and_assoc]
    · cases h

section
variable {W : Wd} {c : Cx} {σ : List Addr} {hp : Hp} {s : Shared} {Q : V → Hp → Prop} {E : Value → Shared → Prop}

theorem veq_same (g : Gd W c.fr s.heap σ hp) : ∀ (n : Nat) (u u' : V) (v : Value) (r : Bool), VR W s.heap σ v u → VR W s.heap σ v u' → veq n hp u u' = some r → r = true
  | 0, _, _, _, _, _, _, h => by simp [veq] at h
  | n + 1, u, u', v, r, r1, r2, h => by
    have all : ∀ (items : List Value) (x y : List V), VRs W s.heap σ items x → VRs W s.heap σ items y → veqs (veq n hp) x y = some r → r = true := fun items x y p q h => by
      obtain ⟨k1, k2⟩ := veqs_spec _ _ _ _ h
      subst k2
      have hl : x.length = y.length := p.1.symm.trans q.1
      simp only [Bool.and_eq_true, List.all_eq_true, List.mem_range, beq_iff_eq]
      refine ⟨fun j hj => ?_, hl⟩
      have hx : j < x.length := by omega
      have hy : j < y.length := by omega
      have hi : j < items.length := by rw [p.1]; exact hx
      exact veq_same g n x[j] y[j] items[j] _ (p.2 j _ _ (by simp [hi]) (by simp [hx])) (q.2 j _ _ (by simp [hi]) (by simp [hy])) (k1 j _ _ (by simp [hx]) (by simp [hy]))
    unfold veq at h
    split at h
    · cases r1; cases r2; simp at h; exact h
    · cases r1 with
      | tup e1 l1 b1 q1 nh1 =>
        cases r2 with
        | tup e2 l2 b2 q2 nh2 =>
          rw [e1] at e2
          injection e2 with e2
          injection e2 with _ _ e2
          injection e2 with e2
          have e3 := congrArg Array.toList e2
          simp at e3
          subst e3
          exact all _ _ _ ⟨l1, q1⟩ ⟨l2, q2⟩ h
    · cases r1 with
      | ref e1 =>
        cases r2 with
        | ref e2 =>
          have hij := (List.getElem?_inj (List.getElem?_eq_some_iff.mp e1).1 g.nd).mp (e1.trans e2.symm)
          subst hij
          split at h
          · rename_i x y ex ey
            rw [ex] at ey
            injection ey with ey
            injection ey with ey
            subst ey
            rw [if_pos rfl] at h
            obtain ⟨items, k, _, rr⟩ := g.list e1 ex
            exact all _ _ _ rr rr h
          · cases h
    · cases h

theorem isTuple_of {h : Heap} {a : Addr} {items : List Value} {n : Nat} (e : h.get? a = some { cls := .type "tuple", data := .seq items.toArray n }) : h.IsTuple a items.toArray := ⟨_, e, rfl, n, rfl⟩

theorem veq_ok (g : Gd W c.fr s.heap σ hp) : ∀ (n : Nat) (A : Around) (u u' : V) (v v' : Value) (r : Bool), A.units + n < cLine → VR W s.heap σ v u → VR W s.heap σ v' u' → veq n hp u u' = some r →
    RcAt A s v v' r ∧ RcNeAt A s v v' (!r) ∧ EqAt A s v v' r
  | 0, _, _, _, _, _, _, _, _, _, h => by simp [veq] at h
  | n + 1, A, u, u', v, v', r, hu, r1, r2, h => by
    have hsame := veq_same g (n + 1) u u'
    have he : ∀ (i1 i2 : List Value) (x y : List V), VRs W s.heap σ i1 x → VRs W s.heap σ i2 y → (∀ (j : Nat) (u u' : V), x[j]? = some u → y[j]? = some u' → veq n hp u u' = some (eAt (veq n hp) x y j)) →
        ∀ j (h1 : j < i1.toArray.size) (h2 : j < i2.toArray.size), EqAt A.in1 s i1.toArray[j] i2.toArray[j] (eAt (veq n hp) x y j) := fun i1 i2 x y p q k j h1 h2 => by
      have h1' : j < i1.length := by simpa using h1
      have h2' : j < i2.length := by simpa using h2
      have hx : j < x.length := by rw [← p.1]; exact h1'
      have hy : j < y.length := by rw [← q.1]; exact h2'
      have := (veq_ok g n A.in1 x[j] y[j] i1[j] i2[j] _ (by simp only [Around.in1_units]; omega) (p.2 j _ _ (by simp [h1']) (by simp [hx])) (q.2 j _ _ (by simp [h2']) (by simp [hy])) (k j _ _ (by simp [hx]) (by simp [hy]))).2.2
      simpa using this
    have hu' : A.units < cLine := by omega
    unfold veq at h
    split at h
    · cases r1; cases r2; simp at h; subst h; exact ⟨.int_int _ _ _ _, .int_int _ _ _ _, .int_int _ _ _ _⟩
    · rename_i x y
      cases r1 with
      | @tup a1 n1 it1 x e1 l1 b1 q1 nh1 =>
        cases r2 with
        | @tup a2 n2 it2 y e2 l2 b2 q2 nh2 =>
          obtain ⟨k1, k2⟩ := veqs_spec _ _ _ _ h
          have t1 := isTuple_of e1
          have t2 := isTuple_of e2
          have hh := he it1 it2 x y ⟨l1, q1⟩ ⟨l2, q2⟩ k1
          have c1 := RcAt.tuples t1 t2 hu' hh
          have c2 := RcNeAt.tuples t1 t2 hu' hh
          have er : ((List.range (min it1.toArray.size it2.toArray.size)).all (eAt (veq n hp) x y) && it1.toArray.size == it2.toArray.size) = r := by
            rw [k2]; simp [l1, l2]
          rw [er] at c1 c2
          refine ⟨c1, c2, ?_⟩
          by_cases ha : a1 = a2
          · subst ha
            have hr : r = true := hsame (.ref a1) r (.tup e1 l1 b1 q1 nh1) (.tup e2 l2 b2 q2 nh2) (by unfold veq; exact h)
            rw [hr]; exact .same _
          · exact .of_refs ha c1
    · cases r1 with
      | @ref a1 i1 e1 =>
        cases r2 with
        | @ref a2 i2 e2 =>
          have h0 := h
          split at h
          · rename_i x y ex ey
            obtain ⟨it1, m1, L1, q1⟩ := g.list e1 ex
            obtain ⟨it2, m2, L2, q2⟩ := g.list e2 ey
            have both : RcAt A s (.ref a1) (.ref a2) r ∧ RcNeAt A s (.ref a1) (.ref a2) (!r) := by
              split at h
              · rename_i hl
                obtain ⟨k1, k2⟩ := veqs_spec _ _ _ _ h
                have hz : it1.size = it2.size := by have := q1.1; have := q2.1; simp at *; omega
                have hh := he it1.toList it2.toList x y q1 q2 k1
                have er : (List.range it1.size).all (eAt (veq n hp) x y) = r := by
                  rw [k2]
                  have a1 := q1.1; have a2 := q2.1
                  simp at a1 a2
                  rw [← a1, ← a2, hz]; simp
                have c1 := RcAt.lists L1.isList L2.isList hz hu' (by simpa using hh)
                have c2 := RcNeAt.lists L1.isList L2.isList hz hu' (by simpa using hh)
                rw [er] at c1 c2
                exact ⟨c1, c2⟩
              · rename_i hl
                simp at h; subst h
                have hz : (it1.size != it2.size) = true := by have := q1.1; have := q2.1; simp at *; omega
                exact ⟨RcAt.lists_lengths L1.isList L2.isList hz hu', RcNeAt.lists_lengths L1.isList L2.isList hz hu'⟩
            refine ⟨both.1, both.2, ?_⟩
            by_cases ha : a1 = a2
            · subst ha
              have hr : r = true := hsame (.ref a1) r (.ref e1) (.ref e2) (by unfold veq; exact h0)
              rw [hr]; exact .same _
            · exact .of_refs ha both.1
          · cases h
    · cases h
end
end Mine

end

section
set_option maxRecDepth 10000
namespace Mine
open PySem PyProof.Rows PySem.SeqAt

section
variable {W : Wd} {c : Cx} {σ : List Addr} {hp : Hp} {s : Shared} {Q : V → Hp → Prop} {E : Value → Shared → Prop} {A : Around}

noncomputable def unCmp : CmpK → CmpOp
  | .eq => .Eq | .ne => .NotEq | .lt => .Lt | .le => .LtE | .gt => .Gt | .ge => .GtE
theorem cmpK_eq {op : CmpOp} {k : CmpK} (h : cmpK op = some k) : op = unCmp k := by
  cases op <;> simp only [cmpK, Option.some.injEq, reduceCtorEq] at h <;> subst h <;> rfl
theorem okCmp {k : CmpK} {op : CmpOp} {a b : V} {va vb : Value} (kw : WdOk W) (hk : cmpK op = some k) (g : Gd W c.fr s.heap σ hp) (ra : VR W s.heap σ va a) (rb : VR W s.heap σ vb b)
    (hu : A.units + 20 < cLine) (hw : kCmp k a b hp Q) : wpAny (model W.prog W.w) A (compareOp op va vb) (PE W c σ s Q) E s := by
  have hk' := cmpK_eq hk; subst hk'
  cases k with
  | eq =>
    obtain ⟨r, h1, h2⟩ := hw
    exact (veq_ok g 10 A a b va vb r (by omega) ra rb h1).1 _ _ _ _ (pe_here g .bool h2)
  | ne =>
    obtain ⟨r, h1, h2⟩ := hw
    exact (veq_ok g 10 A a b va vb r (by omega) ra rb h1).2.1 _ _ _ _ (pe_here g .bool h2)
  | lt => (replace hw := kInts_elim hw); obtain ⟨x, y, rfl, rfl, hw⟩ := hw; cases ra; cases rb; exact P.lt_int (pe_here g .bool hw)
  | le => (replace hw := kInts_elim hw); obtain ⟨x, y, rfl, rfl, hw⟩ := hw; cases ra; cases rb; exact P.le_int (pe_here g .bool hw)
  | gt => (replace hw := kInts_elim hw); obtain ⟨x, y, rfl, rfl, hw⟩ := hw; cases ra; cases rb; exact P.gt_int (pe_here g .bool hw)
  | ge => (replace hw := kInts_elim hw); obtain ⟨x, y, rfl, rfl, hw⟩ := hw; cases ra; cases rb; exact P.ge_int (pe_here g .bool hw)
end
end Mine

end

section
set_option maxRecDepth 10000
namespace Mine
open PySem PyProof.Rows PySem.SeqAt

theorem sizeLine_val : sizeLine = 16777216 := rfl
theorem seqIndex_nn {k : Int} {n : Nat} (h0 : 0 ≤ k) (h : k.toNat < n) : seqIndex? k n = some k.toNat := by
  obtain ⟨j, rfl⟩ := Int.eq_ofNat_of_zero_le h0
  have h' : j < n := h
  unfold seqIndex?
  simp [h', Int.not_lt.mpr (Int.natCast_nonneg j)]
theorem clampI_eq (n : Nat) (i : Int) : clampI n i = clipAt n i := rfl
theorem cut_eq {α : Type} (l : List α) (lo hi : Option Int) : cut l lo hi = (l.drop (lo.elim 0 (clipAt l.length))).take (hi.elim l.length (clipAt l.length) - lo.elim 0 (clipAt l.length)) := by
  unfold cut
  cases lo <;> cases hi <;> simp only [Option.elim, clampI_eq] <;> rw [List.drop_take] 
theorem cut_le {α : Type} (l : List α) (lo hi : Option Int) : (cut l lo hi).length ≤ l.length := by
  rw [cut_eq]; simp; omega
section
variable {W : Wd} {c : Cx} {σ : List Addr} {hp : Hp} {s : Shared} {Q : V → Hp → Prop} {E : Value → Shared → Prop} {A : Around}

theorem vrs_cut {h : Heap} {x : List Value} {a : List V} (r : VRs W h σ x a) (lo hi : Option Int) : VRs W h σ (cut x lo hi) (cut a lo hi) := by
  simp only [cut_eq, ← r.1]
  refine ⟨by simp [r.1], fun i v u e1 e2 => ?_⟩
  rw [List.getElem?_take] at e1 e2
  split at e1
  · rw [List.getElem?_drop] at e1
    rw [if_pos (by assumption), List.getElem?_drop] at e2
    exact r.2 _ v u e1 e2
  · cases e1

theorem okSub {o i : V} {vo vi : Value} {value slice : Expr} (kw : WdOk W) (hsl : ∀ a b d p, slice ≠ .Slice a b d p) (g : Gd W c.fr s.heap σ hp) (ro : VR W s.heap σ vo o) (ri : VR W s.heap σ vi i)
    (hw : kSub W.G o i hp Q) : wpAny (model W.prog W.w) A (subscriptTail value slice vo vi) (PE W c σ s Q) E s := by
  have hs : ∀ x y, subscripted slice false x y = operate [x, y] (getItem x y) := fun x y => by
    cases slice <;> first | rfl | exact absurd rfl (hsl _ _ _ _)
  unfold kSub at hw
  split at hw
  · obtain ⟨h0, u, h2, hw⟩ := hw
    cases ri
    cases ro with
    | tup e l b r =>
      obtain ⟨v, hv, rv⟩ := VRs.get ⟨l, r⟩ h2
      have hlt := (List.getElem?_eq_some_iff.mp hv).1
      rw [sizeLine_val] at b
      refine item_tupleT (l := _) ⟨_, e, rfl, _, rfl⟩ (by omega) (by omega) (seqIndex_nn h0 hlt) hv (pe_here g rv hw) (hs _ _)
  · obtain ⟨h0, n, h1, hw⟩ := hw
    cases ri
    cases ro
    obtain ⟨vals, hl, hi⟩ := kw.script
    have hlt := (List.getElem?_eq_some_iff.mp h1).1
    have := kw.scrLen
    obtain ⟨t, ht⟩ := hi.get _ n h1
    have hl' : s.heap.IsList W.sa vals.toArray := hl.at fun o e => g.base _ _ e
    exact tail_any hl'.typeIs slot_list_getitem.lookup (wpAny_getItem_list hl' h0 (by omega) (by simpa using ht) (pe_here g .int hw)) (hs _ _)
  · split at hw
    · rename_i r k _ vs e
      obtain ⟨h0, u, h2, hw⟩ := hw
      cases ri
      cases ro with
      | ref er =>
        obtain ⟨items, n, L, rr⟩ := g.list er e
        have hlen := g.listLen e
        obtain ⟨v, hv, rv⟩ := VRs.get rr h2
        have hlt := (List.getElem?_eq_some_iff.mp h2).1
        rw [sizeLine_val] at hlen
        exact tail_any L.isList.typeIs slot_list_getitem.lookup (wpAny_getItem_list L.isList h0 (by omega) (by simpa using hv) (pe_here g rv hw)) (hs _ _)
    · exact hw.elim
  · exact hw.elim

theorem okSlice {o : V} {vo vl vu : Value} {lo hi : Option Int} {value : Expr} {el eh : Option Expr} {p : Pos} (kw : WdOk W) (g : Gd W c.fr s.heap σ hp) (ro : VR W s.heap σ vo o) (pl : IsPart vl lo) (pu : IsPart vu hi)
    (hw : kSlice W.G o lo hi hp Q) : wpAny (model W.prog W.w) A (subscriptTail value (.Slice el eh none p) vo (.ref s.heap.objs.size)) (PE W c σ s Q) E
      { s with heap := s.heap.push { cls := .type "slice", data := .fields #[vl, vu, .none] } } := by
  have hs : ∀ x y, subscripted (.Slice el eh none p) false x y = operate [y, x] (getItem x y) := fun x y => rfl
  have k1 : ∀ b ob, s.heap.get? b = some ob → (s.heap.push { cls := .type "slice", data := .fields #[vl, vu, .none] }).get? b = some ob := fun _ _ e => Heap.get?_push_of_some _ e
  have g1 := g.keeps k1
  have x1 : Ev c.fr σ σ s { s with heap := s.heap.push { cls := .type "slice", data := .fields #[vl, vu, .none] } } := ev_keeps g k1
  have hsl := Heap.IsSliceOf.new s.heap vl vu .none
  unfold kSlice at hw
  split at hw
  · split at hw
    · rename_i r _ vs e
      cases ro with
      | ref er =>
        obtain ⟨items, n, L, rr⟩ := g1.list er e
        have hlen := g1.listLen e
        have hsz : items.size = vs.length := by have := rr.1; simpa using this
        refine tail_any L.isList.typeIs slot_list_getitem.lookup (wpAny_getItem_list_slice (hs := hsl) L.isList pl pu .none (by simp) ?_ (by omega)) (hs _ _)
        rw [slicePick_plain]
        refine PE.from x1 (pe_push g1 ?_ ?_ hw)
        · have e : ((items.toList.drop (lo.elim 0 (clipAt items.size))).take (hi.elim items.size (clipAt items.size) - lo.elim 0 (clipAt items.size))).toArray.toList = cut items.toList lo hi := by
            rw [cut_eq]; simp
          rw [e]
          exact vrs_cut rr lo hi
        · have := cut_le vs lo hi; omega
    · exact hw.elim
  · exact hw.elim
end
end Mine

end

section
set_option maxRecDepth 10000
namespace Mine
open PySem PyProof.Rows PySem.SeqAt PySem.W

section
variable {W : Wd} {C : Calls} {c : Cx} {sc : Scope} {names : Names} {σ : List Addr} {hp : Hp} {s : Shared} {l : Loc}

inductive PEs (W : Wd) (c : Cx) (σ : List Addr) (s : Shared) (Q : List V → Hp → Prop) (vs : List Value) (s' : Shared) : Prop
  | mk (us : List V) (hp' : Hp) (σ' : List Addr) : VRs W s'.heap σ' vs us → Gd W c.fr s'.heap σ' hp' → Ev c.fr σ σ' s s' → Q us hp' → PEs W c σ s Q vs s'
noncomputable def plainE (e : Expr) : Prop := ∀ a p, e ≠ .Starred a p
theorem starEach_cons {e : Expr} (h : plainE e) (r : List Expr) (env : Env) : starEach (e :: r) env = (false, eval e env) :: starEach r env := by
  cases e <;> first | rfl | exact absurd rfl (h _ _)
theorem backTo_cons (pos : Pos) (t : Sem Value) (r : List (Bool × Sem Value)) : backTo pos ((false, t) :: r) = (false, t) :: backTo pos r := rfl

inductive OkEs (W : Wd) (C : Calls) (c : Cx) (sc : Scope) (names : Names) : List Expr → List CE → Prop
  | nil : OkEs W C c sc names [] []
  | cons {e : Expr} {ce : CE} {es : List Expr} {ces : List CE} : plainE e → OkE W C c sc names e ce → OkEs W C c sc names es ces → OkEs W C c sc names (e :: es) (ce :: ces)

theorem okArgs {pos : Pos} (k : CxOk W c) {es : List Expr} {ces : List CE} (o : OkEs W C c sc names es ces) : ∀ {σ : List Addr} {hp : Hp} {s : Shared} {Q : List V → Hp → Prop} {E : Nat → Hp → Prop}, Gd W c.fr s.heap σ hp → LR W c sc names l σ s.heap → wpEs W.G C ces l hp Q E →
    wpAny (model W.prog W.w) c.A (spliced (backTo pos (starEach es c.env))) (PEs W c σ s Q) (EE W c σ s E) s := by
  induction o with
  | nil =>
    intro σ hp s Q E g lr hw
    simp only [wpEs] at hw
    exact Calls.spliced_nil ⟨[], hp, σ, .nil, g, ev_keeps g fun _ _ e => e, hw⟩
  | cons hpl oe _ ih =>
    intro σ hp s Q E g lr hw
    simp only [wpEs] at hw
    rw [starEach_cons hpl, backTo_cons]
    refine Calls.spliced_cons ?_
    refine wpAny_mono (oe l hp σ s _ E g lr hw) (fun v s₁ p => ?_) fun _ _ x => x
    obtain ⟨u, hp₁, σ₁, r, g₁, x, q⟩ := p
    refine wpAny_mono (ih g₁ (lr.ev k g g₁ x) q) (fun vs s₂ p => ?_) fun _ _ p => p.from g g₁ x
    obtain ⟨us, hp₂, σ₂, rs, g₂, y, q⟩ := p
    exact ⟨u :: us, hp₂, σ₂, .cons (r.mono g₁ y) rs, g₂, x.trans y, q⟩
end
end Mine

end

section
set_option maxRecDepth 10000
namespace Mine
open PySem PyProof.Rows PySem.SeqAt PySem.W

noncomputable def biVal : Bi → Value
  | .len => .builtin "len" | .sum => .builtin "sum" | .min2 => .builtin "min" | .max2 => .builtin "max"
  | .all => .builtin "all" | .any => .builtin "any" | .list => .type "list" | .int => .type "int"

theorem preSum_list (ns : List Int) : ∀ n, n ≤ ns.length → preSum (fun i => ns.getD i 0) n = (ns.take n).sum
  | 0, _ => by simp [preSum]
  | n + 1, h => by
    rw [preSum, preSum_list ns n (by omega), List.take_add_one]
    have : ns[n]? = some (ns.getD n 0) := by
      rw [List.getD_eq_getElem?_getD]
      have : n < ns.length := by omega
      simp [this]
    rw [this]; simp
theorem preSum_all (ns : List Int) : preSum (fun i => ns.getD i 0) ns.length = ns.sum := by rw [preSum_list ns _ (Nat.le_refl _), List.take_length]
theorem all_range (bs : List Bool) : (List.range bs.length).all (fun i => bs.getD i false) = bs.all id := by
  rw [Bool.eq_iff_iff]
  simp only [List.all_eq_true, List.mem_range, id]
  constructor
  · intro h b hb
    obtain ⟨i, hi, rfl⟩ := List.getElem_of_mem hb
    have := h i hi
    simpa [List.getD_eq_getElem?_getD, hi] using this
  · intro h i hi
    have := h bs[i] (List.getElem_mem hi)
    simpa [List.getD_eq_getElem?_getD, hi] using this
theorem any_range (bs : List Bool) : (List.range bs.length).any (fun i => bs.getD i false) = bs.any id := by
  rw [Bool.eq_iff_iff]
  simp only [List.any_eq_true, List.mem_range, id]
  constructor
  · rintro ⟨i, hi, h⟩
    exact ⟨bs[i], List.getElem_mem hi, by simpa [List.getD_eq_getElem?_getD, hi] using h⟩
  · rintro ⟨b, hb, h⟩
    obtain ⟨i, hi, rfl⟩ := List.getElem_of_mem hb
    exact ⟨i, hi, by simpa [List.getD_eq_getElem?_getD, hi] using h⟩

section
variable {W : Wd} {c : Cx} {σ : List Addr} {hp : Hp} {s : Shared} {Q : V → Hp → Prop} {E : Value → Shared → Prop} {A : Around}

theorem ints_get {h : Heap} {items : List Value} {ns : List Int} (r : VRs W h σ items (ns.map V.int)) {i : Nat} {v : Value} (e : items[i]? = some v) : ∃ t, v = .int (ns.getD i 0) t := by
  have hi : i < ns.length := by have := r.1; simp at this; have := (List.getElem?_eq_some_iff.mp e).1; omega
  have := r.2 i v (V.int ns[i]) e (by simp [hi])
  cases this
  rw [List.getD_eq_getElem?_getD]; simp [hi]
theorem bools_get {h : Heap} {items : List Value} {bs : List Bool} (r : VRs W h σ items (bs.map V.bool)) {i : Nat} {v : Value} (e : items[i]? = some v) : v = .bool (bs.getD i false) := by
  have hi : i < bs.length := by have := r.1; simp at this; have := (List.getElem?_eq_some_iff.mp e).1; omega
  have := r.2 i v (V.bool bs[i]) e (by simp [hi])
  cases this
  rw [List.getD_eq_getElem?_getD]; simp [hi]

theorem len_one {α : Type} {P : List α → Prop} (h : ∀ a, P [a]) : ∀ l : List α, l.length = 1 → P l
  | [a], _ => h a
theorem len_two {α : Type} {P : List α → Prop} (h : ∀ a b, P [a, b]) : ∀ l : List α, l.length = 2 → P l
  | [a, b], _ => h a b
theorem vrs_one {h : Heap} {vs : List Value} {u : V} (r : VRs W h σ vs [u]) : ∃ v, vs = [v] ∧ VR W h σ v u := by
  refine len_one (P := fun vs => VRs W h σ vs [u] → ∃ v, vs = [v] ∧ VR W h σ v u) (fun v r => ⟨v, rfl, r.2 0 v u rfl rfl⟩) vs r.1 r
theorem vrs_two {h : Heap} {vs : List Value} {u u' : V} (r : VRs W h σ vs [u, u']) : ∃ v v', vs = [v, v'] ∧ VR W h σ v u ∧ VR W h σ v' u' := by
  refine len_two (P := fun vs => VRs W h σ vs [u, u'] → ∃ v v', vs = [v, v'] ∧ VR W h σ v u ∧ VR W h σ v' u') (fun v v' r => ⟨v, v', rfl, r.2 0 v u rfl rfl, r.2 1 v' u' rfl rfl⟩) vs r.1 r
theorem vrs_none {h : Heap} {vs : List Value} (r : VRs W h σ vs []) : vs = [] := by
  have hl := r.1
  exact List.eq_nil_of_length_eq_zero (by simpa using hl)

theorem pe_walk {a : Addr} {h' : Heap} {tk : Nat} {v : Value} {u : V} {o : Obj} (g : Gd W c.fr s.heap σ hp) (k : ∀ b ob, b ∉ [s.heap.objs.size] → (s.heap.push o).get? b = some ob → h'.get? b = some ob)
    (r : ∀ h, VR W h σ v u) (q : Q u hp) : PE W c σ s Q v { s with heap := h', toks := tk } := by
  refine pe_keeps g (fun b ob e => k b ob ?_ (Heap.get?_push_of_some _ e)) (r _) q
  simp only [List.mem_singleton]
  exact Nat.ne_of_lt (Heap.lt_size e)

theorem k1_elim {as : List V} {f : V → Prop} (h : k1 as f) : ∃ a, as = [a] ∧ f a := by
  unfold k1 at h
  split at h
  · exact ⟨_, rfl, h⟩
  · exact h.elim
theorem k2_elim {as : List V} {f : V → V → Prop} (h : k2 as f) : ∃ a b, as = [a, b] ∧ f a b := by
  unfold k2 at h
  split at h
  · exact ⟨_, _, rfl, h⟩
  · exact h.elim
theorem kRefL_elim {a : V} {h : Hp} {f : List V → Prop} (w : kRefL a h f) : ∃ i vs, a = .ref i ∧ h[i]? = some (.list vs) ∧ f vs := by
  unfold kRefL at w
  split at w
  · split at w
    · rename_i e; exact ⟨_, _, rfl, e, w⟩
    · exact w.elim
  · exact w.elim
theorem okBi {b : Bi} {us : List V} {vs : List Value} (kw : WdOk W) (hh : A.handled = none) (g : Gd W c.fr s.heap σ hp) (r : VRs W s.heap σ vs us)
    (hw : kBi W.G b us hp Q) : wpAny (model W.prog W.w) A (call (biVal b) vs) (PE W c σ s Q) E s := by
  cases b with
  | len =>
    (replace hw := k1_elim hw); obtain ⟨a, rfl, hw⟩ := hw
    obtain ⟨v, rfl, rv⟩ := vrs_one r
    unfold kLen at hw
    split at hw
    · cases rv
      obtain ⟨vals, hl, hi⟩ := kw.script
      have hl' : s.heap.IsList W.sa vals.toArray := hl.at fun o e => g.base _ _ e
      have h1 := hi.length
      have h2 := kw.scrLen
      refine Calls.call_len_list hl' (by simp; omega) ?_
      have : ((vals.toArray.size : Nat) : Int) = (W.G.scr.length : Int) := by simp [h1]
      rw [this]
      exact pe_tok g .int hw
    · cases rv with
      | tup e l b r =>
        rw [sizeLine_val] at b
        refine P.len_tuple e (by simp; omega) ?_
        simp only [List.size_toArray, l]
        exact pe_tok g .int hw
    · (replace hw := kRefL_elim hw); obtain ⟨i, vs, rfl, e, hw⟩ := hw
      cases rv with
      | ref ei =>
        obtain ⟨items, n, L, rr⟩ := g.list ei e
        have hl := g.listLen e
        rw [sizeLine_val] at hl
        have hsz : items.size = vs.length := by have := rr.1; simpa using this
        refine Calls.call_len_list L.isList (by omega) ?_
        rw [hsz]
        exact pe_tok g .int hw
  | sum =>
    (replace hw := k1_elim hw); obtain ⟨a, rfl, hw⟩ := hw
    obtain ⟨v, rfl, rv⟩ := vrs_one r
    (replace hw := kRefL_elim hw); obtain ⟨i, vs, rfl, e, hw⟩ := hw
    obtain ⟨ns, rfl, hw⟩ := hw
    cases rv with
    | ref ei =>
      obtain ⟨items, n, L, rr⟩ := g.list ei e
      have hne := Nat.ne_of_lt (Heap.lt_size L)
      have hsz : items.size = ns.length := by have := rr.1; simpa using this
      refine call_sum_walkG (wpAny_pyIter_list L.isList ?_)
      refine ⟨_, _, _, _, _, _, fun i => ns.getD i 0, rfl, Walks.list (A := A.in1) hh _ _ hne items, ⟨⟨_, Heap.get?_push_size _ rfl, rfl, rfl⟩, L.isList.push _⟩, ?_, fun i v hv => ints_get rr (by simpa using hv), fun h' tk t' k => ?_⟩
      · intro b hb
        simp only [List.mem_cons, List.not_mem_nil, or_false] at hb
        rw [Heap.size_push]
        rcases hb with rfl | rfl
        · exact Nat.lt_succ_self _
        · exact Nat.lt_succ_of_lt (Heap.lt_size L)
      · rw [hsz, preSum_all]
        exact pe_walk (a := 0) g k (fun _ => .int) hw
  | min2 =>
    (replace hw := k2_elim hw); obtain ⟨a, b, rfl, hw⟩ := hw
    (replace hw := kInts_elim hw); obtain ⟨x, y, rfl, rfl, hw⟩ := hw
    obtain ⟨v, v', rfl, r1, r2⟩ := vrs_two r
    cases r1; cases r2
    refine min_two_ints hh fun h' tk k => ?_
    by_cases hxy : y < x
    · rw [if_pos hxy]
      rw [show min x y = y by omega] at hw
      exact pe_keeps g k .int hw
    · rw [if_neg hxy]
      rw [show min x y = x by omega] at hw
      exact pe_keeps g k .int hw
  | max2 =>
    (replace hw := k2_elim hw); obtain ⟨a, b, rfl, hw⟩ := hw
    (replace hw := kInts_elim hw); obtain ⟨x, y, rfl, rfl, hw⟩ := hw
    obtain ⟨v, v', rfl, r1, r2⟩ := vrs_two r
    cases r1; cases r2
    refine max_two_ints hh fun h' tk k => ?_
    by_cases hxy : y > x
    · rw [if_pos hxy]
      rw [show max x y = y by omega] at hw
      exact pe_keeps g k .int hw
    · rw [if_neg hxy]
      rw [show max x y = x by omega] at hw
      exact pe_keeps g k .int hw
  | all =>
    (replace hw := k1_elim hw); obtain ⟨a, rfl, hw⟩ := hw
    obtain ⟨v, rfl, rv⟩ := vrs_one r
    (replace hw := kRefL_elim hw); obtain ⟨i, vs, rfl, e, hw⟩ := hw
    obtain ⟨bs, rfl, hw⟩ := hw
    cases rv with
    | ref ei =>
      obtain ⟨items, n, L, rr⟩ := g.list ei e
      have hne := Nat.ne_of_lt (Heap.lt_size L)
      have hsz : items.size = bs.length := by have := rr.1; simpa using this
      refine call_all_walk (wpAny_pyIter_list L.isList ?_)
      refine ⟨_, _, _, _, _, _, fun i => bs.getD i false, rfl, Walks.list (A := A.in1) hh _ _ hne items, ⟨⟨_, Heap.get?_push_size _ rfl, rfl, rfl⟩, L.isList.push _⟩, fun i v s Q E hv hq => ?_, fun h' tk k => ?_⟩
      · have := bools_get rr (i := i) (v := v) (by simpa using hv)
        subst this
        exact wpAny_truthy_bool hq
      · rw [hsz, all_range]
        exact pe_walk (a := 0) g k (fun _ => .bool) hw
  | any =>
    (replace hw := k1_elim hw); obtain ⟨a, rfl, hw⟩ := hw
    obtain ⟨v, rfl, rv⟩ := vrs_one r
    (replace hw := kRefL_elim hw); obtain ⟨i, vs, rfl, e, hw⟩ := hw
    obtain ⟨bs, rfl, hw⟩ := hw
    cases rv with
    | ref ei =>
      obtain ⟨items, n, L, rr⟩ := g.list ei e
      have hne := Nat.ne_of_lt (Heap.lt_size L)
      have hsz : items.size = bs.length := by have := rr.1; simpa using this
      refine call_any_walk (wpAny_pyIter_list L.isList ?_)
      refine ⟨_, _, _, _, _, _, fun i => bs.getD i false, rfl, Walks.list (A := A.in1) hh _ _ hne items, ⟨⟨_, Heap.get?_push_size _ rfl, rfl, rfl⟩, L.isList.push _⟩, fun i v s Q E hv hq => ?_, fun h' tk k => ?_⟩
      · have := bools_get rr (i := i) (v := v) (by simpa using hv)
        subst this
        exact wpAny_truthy_bool hq
      · rw [hsz, any_range]
        exact pe_walk (a := 0) g k (fun _ => .bool) hw
  | list =>
    (replace hw := k1_elim hw); obtain ⟨a, rfl, hw⟩ := hw
    obtain ⟨v, rfl, rv⟩ := vrs_one r
    (replace hw := kRefL_elim hw); obtain ⟨i, vs, rfl, e, hw⟩ := hw
    cases rv with
    | ref ei =>
      obtain ⟨items, n, L, rr⟩ := g.list ei e
      have hl := g.listLen e
      have hsz : items.size = vs.length := by have := rr.1; simpa using this
      exact call_list_seq _ (.inl rfl) L rfl rfl (fun h' c' k hc => pe_list g k (fresh_size _) hc rr hl hw) (by omega)
  | int =>
    (replace hw := k1_elim hw); obtain ⟨a, rfl, hw⟩ := hw
    obtain ⟨v, rfl, rv⟩ := vrs_one r
    cases rv <;> first | exact False.elim hw | skip
    exact call_int_bool (pe_tok g .int hw)
end
end Mine

end

section
set_option maxRecDepth 10000
namespace Mine
open PySem PyProof.Rows PySem.SeqAt PySem.W

section
variable {W : Wd} {C : Calls} {c : Cx} {sc : Scope} {names : Names} {σ : List Addr} {hp : Hp} {s : Shared} {l : Loc} {Q : V → Hp → Prop} {E : Nat → Hp → Prop} {E' : Value → Shared → Prop} {A : Around}

theorem pe_store {i : Nat} {a : Addr} {o : O} {v : Value} {u : V} {h' : Heap} {t : Nat} (g : Gd W c.fr s.heap σ hp) (hi : σ[i]? = some a) (k : ∀ b ob, b ≠ a → s.heap.get? b = some ob → h'.get? b = some ob)
    (r : ORel W h' σ a o) (rv : VR W h' σ v u) (q : Q u (hp.set i o)) : PE W c σ s Q v { s with heap := h', toks := t } :=
  ⟨u, _, σ, rv, g.store hi k r, ev_store g (mem_of_get? hi) k, q⟩

theorem vr_store {i : Nat} {a : Addr} {v : Value} {u : V} {h' : Heap} (g : Gd W c.fr s.heap σ hp) (hi : σ[i]? = some a) (k : ∀ b ob, b ≠ a → s.heap.get? b = some ob → h'.get? b = some ob) (r : VR W s.heap σ v u) : VR W h' σ v u :=
  r.mono' g ⟨[], by simp⟩ fun b ob e hb => .inl (k b ob (fun q => hb (q ▸ mem_of_get? hi)) e)

theorem okEvalArgs {f : Value} {pos : Pos} (k : CxOk W c) {es : List Expr} {ces : List CE} (o : OkEs W C c sc names es ces) {Q : List V → Hp → Prop} (g : Gd W c.fr s.heap σ hp) (lr : LR W c sc names l σ s.heap) (hw : wpEs W.G C ces l hp Q E) :
    wpAny (model W.prog W.w) c.A (evalArgs f true (backTo pos (starEach es c.env)) []) (fun a s' => a.kw = [] ∧ PEs W c σ s Q a.pos s') (EE W c σ s E) s := by
  have h := okArgs (pos := pos) k o g lr hw
  cases o with
  | nil =>
    simp only [wpEs] at hw
    exact PySem.evalArgs_none ⟨rfl, [], hp, σ, .nil, g, ev_keeps g fun _ _ e => e, hw⟩
  | cons hpl _ _ =>
    rw [starEach_cons hpl, backTo_cons] at h ⊢
    exact Calls.evalArgs_plain (wpAny_mono h (fun _ _ p => ⟨rfl, p⟩) fun _ _ p => p)

theorem noStar {es : List Expr} {ces : List CE} (o : OkEs W C c sc names es ces) (pos : Pos) : (backTo pos (starEach es c.env)).any (·.1) = false := by
  induction o with
  | nil => rfl
  | cons hpl _ _ ih => rw [starEach_cons hpl, backTo_cons, List.any_cons, ih]; rfl
theorem noStarAll {es : List Expr} {ces : List CE} (o : OkEs W C c sc names es ces) (pos : Pos) : (backTo pos (starEach es c.env)).all (fun x => !x.1) = true := by
  induction o with
  | nil => rfl
  | cons hpl _ _ ih => rw [starEach_cons hpl, backTo_cons, List.all_cons, ih]; rfl

theorem base_plain {o : Expr} {attr : Str} {env : Env} {x : Sem Value} (h : plainBase o = true) : attributeBase o attr env x = x := by
  unfold attributeBase
  split
  · simp [plainBase] at h
  · rfl

theorem methCall {M : Model} {env : Env} {o : Expr} {name : Str} {apos pos : Pos} {args : List Expr} {Qv : Value → Shared → Prop} {Ev' : Value → Shared → Prop} (hb : plainBase o = true) (hl : (apos.endLine == pos.line) = true)
    (hall : (backTo pos (starEach args env)).all (fun x => !x.1) = true) (hn : args.length < 30)
    (h : wpAny M A (eval o env) (fun ov s₁ => wpAny M A (getMethod ov name (do return (← importBound o env).getD true)) (fun fx s₂ => wpAny M A (callWith pos fx.1 fx.2 (backTo pos (starEach args env)) []) Qv Ev' s₂) Ev' s₁) Ev' s) :
    wpAny M A (eval (.Call (.Attribute o name apos) args [] pos) env) Qv Ev' s := by
  rw [arm_eval_Call, base_plain hb]
  refine wpAny_bind (wpAny_mono h (fun ov s₁ h₁ => ?_) fun _ _ e => e)
  refine wpAny_bind (wpAny_standAt ?_)
  have hform : methodCallForm (args.length + ([] : List Keyword).length) (backTo pos (starEach args env)) (backToKw pos (keywordEach [] env)) = true := by
    unfold methodCallForm
    rw [hall]
    simp only [Bool.true_and]
    have : (backToKw pos (keywordEach [] env)) = [] := rfl
    rw [this]
    simp; exact hn
  have hpos : methodCallPos true o env apos pos = pure pos := by unfold methodCallPos; simp [hl]
  unfold methodCall
  rw [hform]
  have hc : calleeOf true o env ov name = getMethod ov name (do return (← importBound o env).getD true) := by unfold calleeOf; rfl
  rw [hc]
  refine wpAny_bind (wpAny_holding (wpAny_mono h₁ (fun fx s₂ h₂ => ?_) fun _ _ e => e))
  obtain ⟨f, first⟩ := fx
  exact wpAny_bind (wpAny_of_eq hpos h₂)

end
end Mine

end

section
set_option maxRecDepth 10000
namespace Mine
open PySem PyProof.Rows PySem.SeqAt PySem.W

section
variable {W : Wd} {C : Calls} {c : Cx} {sc : Scope} {names : Names} {σ : List Addr} {hp : Hp} {s : Shared} {l : Loc} {Q : V → Hp → Prop} {E : Nat → Hp → Prop} {E' : Value → Shared → Prop} {A : Around}

theorem mach_builtin {M : Model} {id : String} : ∀ h, True → ∃ k, (k = Keeper.frame ∨ k = Keeper.machine ∨ k = Keeper.boundFrame) ∧ Looks M h (keeperOf (.builtin id)) k :=
  fun _ _ => ⟨.machine, .inr (.inl rfl), Looks.of_pure rfl⟩
theorem mach_type {M : Model} {id : String} : ∀ h, True → ∃ k, (k = Keeper.frame ∨ k = Keeper.machine ∨ k = Keeper.boundFrame) ∧ Looks M h (keeperOf (.type id)) k :=
  fun _ _ => ⟨.machine, .inr (.inl rfl), Looks.of_pure rfl⟩

theorem okCallWith {f : Value} {first : List Value} {pos : Pos} {P : Heap → Prop} (k : CxOk W c) {es : List Expr} {ces : List CE} (o : OkEs W C c sc names es ces) {R : List V → Hp → Prop} (g : Gd W c.fr s.heap σ hp) (lr : LR W c sc names l σ s.heap)
    (hw : wpEs W.G C ces l hp R E) (hk : ∀ h, P h → ∃ k, (k = Keeper.frame ∨ k = Keeper.machine ∨ k = Keeper.boundFrame) ∧ Looks (model W.prog W.w) h (keeperOf f) k)
    (hP : ∀ {s' : Shared} {σ' hp'}, Gd W c.fr s'.heap σ' hp' → P s'.heap)
    (next : ∀ us vs hp₁ σ₁ s₁, VRs W s₁.heap σ₁ vs us → Gd W c.fr s₁.heap σ₁ hp₁ → (∀ v' u', VR W s.heap σ v' u' → VR W s₁.heap σ₁ v' u') → (∃ t, σ₁ = σ ++ t) → LR W c sc names l σ₁ s₁.heap → R us hp₁ →
      wpAny (model W.prog W.w) c.A (call f (first ++ vs)) (PE W c σ₁ s₁ Q) (EE W c σ₁ s₁ E) s₁) :
    wpAny (model W.prog W.w) c.A (callWith pos f first (backTo pos (starEach es c.env)) []) (PE W c σ s Q) (EE W c σ s E) s := by
  refine callWith_of (P := P) (by rw [noStar o pos]; rfl) hk ?_
  refine wpAny_mono (okEvalArgs k o g lr hw) (fun a s₁ p => ?_) fun _ _ e => e
  obtain ⟨hkw, us, hp₁, σ₁, rs, g₁, x, q⟩ := p
  obtain ⟨ap, akw⟩ := a
  simp only at hkw rs
  subst hkw
  refine ⟨hP g₁, ?_⟩
  exact wpAny_mono (next us ap hp₁ σ₁ s₁ rs g₁ (fun _ _ r => r.mono g x) (let ⟨t, e, _⟩ := x.pre; ⟨t, e⟩) (lr.ev k g g₁ x) q) (fun _ _ p => p.from x) fun _ _ p => p.from g g₁ x

theorem okMethB {m : MK} {name : Str} {vo : Value} {o : V} {es : List Expr} {ces : List CE} {pos : Pos} {pl : Sem Bool} (kw : WdOk W) (k : CxOk W c) (oks : OkEs W C c sc names es ces) (g : Gd W c.fr s.heap σ hp) (lr : LR W c sc names l σ s.heap)
    (ro : VR W s.heap σ vo o) (hm : methKind name o hp = some m) (hw : wpEs W.G C ces l hp (fun vs h2 => kMeth m o vs h2 Q) E) :
    wpAny (model W.prog W.w) c.A (getMethod vo name pl) (fun fx s₂ => wpAny (model W.prog W.w) c.A (callWith pos fx.1 fx.2 (backTo pos (starEach es c.env)) []) (PE W c σ s Q) (EE W c σ s E) s₂) (EE W c σ s E) s := by
  unfold methKind at hm
  split at hm
  · rename_i i
    cases ro with
    | ref ei =>
      rename_i a
      split at hm
      · rename_i vs e
        obtain ⟨items, n, L, rr⟩ := g.list ei e
        have hT : s.TypeIs (.ref a) "list" := L.isList.typeIs
        have hd : ∀ a', Value.ref a = .ref a' → ∃ ob, s.heap.get? a' = some ob ∧ ob.dict = none := fun a' q => by cases q; exact ⟨_, L, rfl⟩
        split at hm
        · rename_i hn
          subst hn; cases hm
          refine getMethod_builtin hT F.plainAttrs_list F.slot_list_append F.type_list_append hd ?_
          refine okCallWith (P := fun _ => True) k oks g lr hw mach_builtin (fun _ => trivial) fun us ws hp₁ σ₁ s₁ rs g₁ _ hpre _ q => ?_
          replace q : kAppend i us hp₁ Q := q
          unfold kAppend at q
          split at q
          · rename_i vs' x e'
            obtain ⟨w, rfl, rw⟩ := vrs_one rs
            have ei' := pre_get hpre ei
            obtain ⟨items', n', L', rr'⟩ := g₁.list ei' e'
            have hsz : items'.size = vs'.length := by have := rr'.1; simpa using this
            refine call_meets F.slot_list_append L'.isList.typeIs F.entry_list_append (F.args_list_append_2 _ _) (PySem.list_append a items' n' w (by omega)) ⟨L', ?_⟩
            have kk : ∀ b ob, b ≠ a → s₁.heap.get? b = some ob → (s₁.heap.update a (Obj.mapSeq fun xs => xs.push w)).get? b = some ob := fun b ob hb e => (Heap.get?_update_other _ _ (Ne.symm hb)).trans e
            have hmono := fun v u (r : VR W s₁.heap σ₁ v u) => vr_store g₁ ei' kk r
            have hall : VRs W s₁.heap σ₁ (items'.toList ++ [w]) (vs' ++ [x]) := rr'.append (.cons rw .nil)
            refine pe_store (i := i) (o := .list (vs' ++ [x])) (t := s₁.toks) g₁ ei' kk ⟨⟨_, _, L'.update _, ?_⟩, by simp; omega⟩ .none q.2
            simp only [Array.toList_push]
            exact ⟨hall.1, fun i v u e1 e2 => hmono _ _ (hall.2 i v u e1 e2)⟩
          · exact q.elim
        · cases hm
      · cases hm
  · cases hm
end
end Mine

end

section
set_option maxRecDepth 10000
namespace Mine
open PySem PyProof.Rows PySem.SeqAt PySem.W

section
variable {W : Wd} {C : Calls} {c : Cx} {sc : Scope} {names : Names} {σ : List Addr} {hp : Hp} {s : Shared} {l : Loc} {Q : V → Hp → Prop} {E : Nat → Hp → Prop} {E' : Value → Shared → Prop} {A : Around}

theorem kIn (kw : WdOk W) {fr : List Addr} {h : Heap} (g : Gd W fr h σ hp) : W.K.In h := kw.kin.keeps g.base

theorem ans_true {K : Frag} {x t c : Value} {H : Heap → Prop} (ty : ∀ (M : Model) (h : Heap), H h → Looks M h (typeOf x) t) (e : kitOne K t c = some true) : Answers (fun s => K.In s.heap ∧ H s.heap) x c true := by
  intro dep tk prog w A R s hs
  obtain ⟨h0, g, d, tt, os⟩ := s
  obtain ⟨⟨X, p⟩, hq⟩ := hs
  have LT := ty (model prog w) h0 p
  unfold kitOne at e
  unfold Builtin.«isinstance.nested»
  refine wpAny_bind (LT.at ?_)
  by_cases q : (t == c) = true
  · rw [if_pos q]
    first
      | exact wpAny_bind (wpAny_rule (hq tt))
      | exact wpAny_bind (wpAny_rule (wpAny_pure (hq tt)))
  · rw [if_neg q] at e
    rw [if_neg q]
    obtain ⟨hty, his, hsub⟩ := kit_cls (M := model prog w) X e
    have LI : Looks (model prog w) h0 (isInstance x c) true := LT.andThen hsub
    refine wpAny_bind (hty.at ?_)
    rw [if_pos (by decide)]
    k_delta "plainIsInstance"
    refine wpAny_bind (wpAny_bind (his.at ?_))
    simp only [Bool.not_true, Bool.false_eq_true, if_false]
    refine wpAny_bind (LI.at ?_)
    first
      | exact wpAny_pure (wpAny_pure (hq tt))
      | (simp only [if_true]; first | exact wpAny_pure (wpAny_pure (hq tt)) | exact wpAny_pure (hq tt) | exact wpAny_bind (wpAny_pure (wpAny_pure (hq tt))))

theorem okIsi {a : V} {va : Value} {k : Cls} (kw : WdOk W) (g : Gd W c.fr s.heap σ hp) (ra : VR W s.heap σ va a) (hw : kIsi W.G a k hp Q) :
    wpAny (model W.prog W.w) A (call (.builtin "isinstance") [va, clsVal k]) (PE W c σ s Q) E' s := by
  unfold kIsi at hw
  split at hw
  · cases ra; exact IsiPair.int_int (pe_here g .bool hw)
  · cases ra with
    | tup e _ _ _ => exact IsiPair.tuple_tuple e rfl (pe_here g .bool hw)
  · split at hw
    · rename_i i _ vs e
      cases ra with
      | ref ei =>
        obtain ⟨items, n, L, rr⟩ := g.list ei e
        exact IsiPair.list_list L rfl (pe_here g .bool hw)
    · exact hw.elim
  · cases ra; exact IsiPair.int_bool (pe_tok g .bool hw)
  · exact hw.elim
end
end Mine

end

section
set_option maxRecDepth 10000
namespace Mine
open PySem PyProof.Rows PySem.SeqAt PySem.W

noncomputable def FrmOk (W : Wd) (c : Cx) (h : Heap) : Prop := (∃ m, Fr W.B c.L h m) ∧ h.FunFrames W.B c.outer

noncomputable def RC (Qv : Value → Shared → Prop) (Ev' : Value → Shared → Prop) (r : Result) (s' : Shared) : Prop := match r with
  | .ok (.ret v) => Qv v s'
  | .ok _ => False
  | .error e => Ev' e s'

noncomputable def OkC (W : Wd) (C : Calls) (c : Cx) : Prop :=
  ∀ (A : Around) (f : Nat) (vs : List Value) (us : List V) (hp : Hp) (σ : List Addr) (s : Shared) (Q : V → Hp → Prop) (E : Nat → Hp → Prop),
    A.frames = c.A.frames → A.handled = none → A.depth ≤ c.A.depth + 2 → A.units ≤ c.A.units + 10 →
    Gd W c.fr s.heap σ hp → FrmOk W c s.heap → VRs W s.heap σ vs us → C f us hp Q E →
    codeAny (model W.prog W.w) A (.call (.ref f) ⟨vs, []⟩) (RC (PE W c σ s Q) (XC W (c.fenv :: c.outer) c.fr σ s E)) s

section
variable {W : Wd} {C : Calls} {c : Cx} {sc : Scope} {names : Names} {σ : List Addr} {hp : Hp} {s : Shared} {l : Loc} {Q : V → Hp → Prop} {E : Nat → Hp → Prop} {E' : Value → Shared → Prop} {A : Around}

theorem LR.frmOk {h : Heap} (lr : LR W c sc names l σ h) : FrmOk W c h := ⟨lr.frm, lr.ff⟩

theorem pylong (kw : WdOk W) (k : CxOk W c) (g : Gd W c.fr s.heap σ hp) : PylongRoom (model W.prog W.w) c.A s :=
  PylongRoom.of (kw.nolim.keeps g.base) (by have := k.depth; have : Builtin.pylongFrames = 100 := rfl; omega)
    (SeerAt.of (kw.noseer.keeps g.base) kw.tree k.stk k.fgen k.fco k.fblt k.fglob)

theorem okConst {cst : Const} {kk : Nat} {pos : Pos} {ce : CE} (h : cConst cst = some ce) : OkE W C c sc names (.Constant cst kk pos) ce := by
  intro l hp σ s Q E g lr hw
  unfold cConst at h
  split at h
  · cases h; simp only [wpE] at hw; exact wpAny_Constant_none (pe_here g .none hw)
  · cases h; simp only [wpE] at hw; exact wpAny_Constant_bool (pe_here g .bool hw)
  · cases h; simp only [wpE] at hw; exact wpAny_Constant_int (pe_tok g .int hw)
  · cases h; simp only [wpE] at hw; exact wpAny_Constant_str (pe_tok g .str hw)
  · cases h

theorem okVar {x : Str} {pos : Pos} {i : Nat} (k : CxOk W c) (hv : isVar sc x = true) (hi : names.lookup x = some i) : OkE W C c sc names (.Name x pos) (.var i) := by
  intro l hp σ s Q E g lr hw
  simp only [wpE] at hw
  split at hw
  · rename_i u hu
    obtain ⟨v, rv, rd⟩ := lr.rd x i u hv hi hu
    have hd : (x == ("__debug__" : Str)) = false := by
      unfold isVar at hv; simp only [Bool.and_eq_true, Bool.not_eq_true'] at hv; exact hv.1.1.2
    have hcd : (x == ("__classdict__" : Str)) = false := by
      unfold isVar at hv; simp only [Bool.and_eq_true, Bool.not_eq_true'] at hv; exact hv.1.2
    refine wpAny_Name ?_ hd
    rcases rd with ⟨h1, m, hn, hm⟩ | ⟨h1 | h1, ca, hc, hcell⟩
    · exact wpAny_loadName_local k.kind h1 hn hm (pe_here g rv hw)
    · exact wpAny_loadName_cell k.kind h1 hc hcell (pe_here g rv hw)
    · exact wpAny_loadName_free k.kind h1 hc hcell (pe_here g rv hw) hcd
  · exact hw.elim

theorem globName {x : Str} {pos : Pos} {gv : GV} {v : Value} {Qv : Value → Shared → Prop} (kw : WdOk W) (k : CxOk W c) (g : Gd W c.fr s.heap σ hp) (hx : c.env.kindOf x = some .globalImplicit) (hd : (x == ("__debug__" : Str)) = false) (hg : W.glob.lookup x = some gv)
    (hv : match gv with | .fn a => v = .ref a | .book C => v = .ref C | .exc C => v = .ref C | .bi b => biName? b = some v | .attr => False) (q : Qv v s) :
    wpAny (model W.prog W.w) A (eval (.Name x pos) c.env) Qv E' s := by
  have ok := kw.globOk x gv hg
  obtain ⟨mg, mb, n1, n2, hb⟩ := kw.globs
  have X := kw.kin
  refine Calls.Name_function_global k.kind hx ?_ hd
  cases gv with
  | fn a => subst hv; exact Calls.loadGlobal_global (by rw [k.glob]; exact n1.keeps g.base) (mg_of X n1 ok.1) q
  | book C => subst hv; exact Calls.loadGlobal_global (by rw [k.glob]; exact n1.keeps g.base) (mg_of X n1 ok.1) q
  | exc C => subst hv; exact Calls.loadGlobal_global (by rw [k.glob]; exact n1.keeps g.base) (mg_of X n1 ok) q
  | bi b => exact Calls.loadGlobal_builtin (by rw [k.glob]; exact n1.keeps g.base) (mg_none_of X n1 ok.1) (by rw [k.blt]; exact n2.keeps g.base) ((hb x ok.2.2).trans (ok.2.1.trans hv)) q
  | attr => exact hv.elim

theorem okBinOp {a b : Expr} {ca cb : CE} {op : Operator} {kk : BinK} {pos : Pos} (kw : WdOk W) (k : CxOk W c) (hk : binK op = some kk) (oa : OkE W C c sc names a ca) (ob : OkE W C c sc names b cb) : OkE W C c sc names (.BinOp a op b pos) (.bin kk ca cb) := by
  intro l hp σ s Q E g lr hw
  simp only [wpE] at hw
  refine wpAny_BinOp ?_
  refine wpAny_mono (oa l hp σ s _ E g lr hw) (fun va s₁ p => ?_) fun _ _ x => x
  obtain ⟨ua, hp₁, σ₁, ra, g₁, x, q⟩ := p
  refine wpAny_mono (ob l hp₁ σ₁ s₁ _ E g₁ (lr.ev k g g₁ x) q) (fun vb s₂ p => ?_) fun _ _ z => z.from g g₁ x
  obtain ⟨ub, hp₂, σ₂, rb, g₂, y, q⟩ := p
  refine wpAny_mono (okBin (E := fun _ _ => False) hk g₂ (ra.mono g₁ y) rb (fun _ _ => .inr (pylong kw k g₂)) q) (fun _ _ p => p.from (x.trans y)) fun _ _ z => z.elim

theorem okNot {a : Expr} {ca : CE} {pos : Pos} (oa : OkE W C c sc names a ca) : OkE W C c sc names (.UnaryOp .Not a pos) (.not ca) := by
  intro l hp σ s Q E g lr hw
  simp only [wpE] at hw
  refine wpAny_UnaryOp ?_
  refine wpAny_mono (oa l hp σ s _ E g lr hw) (fun va s₁ p => ?_) fun _ _ x => x
  obtain ⟨ua, hp₁, σ₁, ra, g₁, x, q⟩ := p
  split at q
  · cases ra
    exact not_of (wpAny_truthy_bool ((pe_here g₁ .bool q).from x))
  · exact q.elim

theorem okBool {op : BoolOp} {pos : Pos} (k : CxOk W c) : ∀ {es : List Expr} {x : CE} {ces : List CE}, OkEs W C c sc names es (x :: ces) → ∀ {l hp σ s Q E}, Gd W c.fr s.heap σ hp → LR W c sc names l σ s.heap → wpE W.G C (foldB op x ces) l hp Q E →
    wpAny (model W.prog W.w) c.A (boolOp pos op (evalEach es c.env)) (PE W c σ s Q) (EE W c σ s E) s := by
  intro es x ces o
  induction ces generalizing es x with
  | nil =>
    intro l hp σ s Q E g lr hw
    cases o with
    | cons _ oe r =>
      cases r with
      | nil =>
        simp only [foldB] at hw
        exact oe l hp σ s Q E g lr hw
  | cons y ces ih =>
    intro l hp σ s Q E g lr hw
    cases o with
    | @cons e _ es _ hpl oe r =>
      have hne : ∃ t ts, evalEach es c.env = t :: ts := by
        cases r with
        | cons _ _ _ => exact ⟨_, _, rfl⟩
      obtain ⟨t, ts, ht⟩ := hne
      have hb : boolOp pos op (evalEach (e :: es) c.env) = (do
          let v ← eval e c.env
          standAt pos
          let t ← holding [v] (truthy v)
          match op, t with
          | .And, false | .Or, true => pure v
          | _, _ => boolOp pos op (evalEach es c.env)) := by
        show boolOp pos op (eval e c.env :: evalEach es c.env) = _
        rw [ht]; rfl
      rw [hb]
      cases op with
      | And =>
        simp only [foldB, wpE] at hw
        refine wpAny_bind (wpAny_mono (oe l hp σ s _ E g lr hw) (fun va s₁ p => ?_) fun _ _ x => x)
        obtain ⟨ua, hp₁, σ₁, ra, g₁, x, q⟩ := p
        refine wpAny_bind (wpAny_standAt (wpAny_bind (wpAny_holding ?_)))
        split at q
        · cases ra
          refine wpAny_truthy_bool ?_
          exact wpAny_mono (ih r g₁ (lr.ev k g g₁ x) q) (fun _ _ p => p.from x) fun _ _ z => z.from g g₁ x
        · cases ra
          exact wpAny_truthy_bool (wpAny_pure ((pe_here g₁ .bool q).from x))
        · exact q.elim
      | Or =>
        simp only [foldB, wpE] at hw
        refine wpAny_bind (wpAny_mono (oe l hp σ s _ E g lr hw) (fun va s₁ p => ?_) fun _ _ x => x)
        obtain ⟨ua, hp₁, σ₁, ra, g₁, x, q⟩ := p
        refine wpAny_bind (wpAny_standAt (wpAny_bind (wpAny_holding ?_)))
        split at q
        · cases ra
          refine wpAny_truthy_bool ?_
          exact wpAny_mono (ih r g₁ (lr.ev k g g₁ x) q) (fun _ _ p => p.from x) fun _ _ z => z.from g g₁ x
        · cases ra
          exact wpAny_truthy_bool (wpAny_pure ((pe_here g₁ .bool q).from x))
        · exact q.elim

theorem okCmp1 {a b : Expr} {ca cb : CE} {op : CmpOp} {kk : CmpK} {pos : Pos} (kw : WdOk W) (k : CxOk W c) (hk : cmpK op = some kk) (hm : behindInMarks op b = false) (oa : OkE W C c sc names a ca) (ob : OkE W C c sc names b cb) : OkE W C c sc names (.Compare a [op] [b] pos) (.cmp kk ca cb) := by
  intro l hp σ s Q E g lr hw
  simp only [wpE] at hw
  refine wpAny_Compare1 ?_ hm
  refine wpAny_mono (oa l hp σ s _ E g lr hw) (fun va s₁ p => ?_) fun _ _ x => x
  obtain ⟨ua, hp₁, σ₁, ra, g₁, x, q⟩ := p
  refine wpAny_mono (ob l hp₁ σ₁ s₁ _ E g₁ (lr.ev k g g₁ x) q) (fun vb s₂ p => ?_) fun _ _ z => z.from g g₁ x
  obtain ⟨ub, hp₂, σ₂, rb, g₂, y, q⟩ := p
  exact wpAny_mono (okCmp (E := fun _ _ => False) kw hk g₂ (ra.mono g₁ y) rb (by have := k.units; omega) q) (fun _ _ p => p.from (x.trans y)) fun _ _ z => z.elim

theorem okList {es : List Expr} {ces : List CE} {pos : Pos} (k : CxOk W c) (o : OkEs W C c sc names es ces) : OkE W C c sc names (.List es pos) (.list ces) := by
  intro l hp σ s Q E g lr hw
  simp only [wpE] at hw
  refine wpAny_List_spliced ?_
  refine wpAny_mono (okArgs (pos := pos) k o g lr hw) (fun vs s₁ p => ?_) fun _ _ x => x
  obtain ⟨us, hp₁, σ₁, rs, g₁, x, q⟩ := p
  refine ⟨by rw [rs.1]; exact q.1, ?_⟩
  exact (pe_push (t := s₁.toks) g₁ (by simpa using rs) q.1 q.2).from x
theorem okTup {es : List Expr} {ces : List CE} {kk : Nat} {pos : Pos} (k : CxOk W c) (o : OkEs W C c sc names es ces) : OkE W C c sc names (.Tuple es kk pos) (.tup ces) := by
  intro l hp σ s Q E g lr hw
  simp only [wpE] at hw
  refine wpAny_Tuple_spliced ?_
  refine wpAny_mono (okArgs (pos := pos) k o g lr hw) (fun vs s₁ p => ?_) fun _ _ x => x
  obtain ⟨us, hp₁, σ₁, rs, g₁, x, q⟩ := p
  refine ⟨by rw [rs.1]; exact q.1, ?_⟩
  exact (pe_tup (t := s₁.toks) g₁ (by simpa using rs) q.1 q.2).from x
theorem okSubs {o i : Expr} {co ci : CE} {pos : Pos} (kw : WdOk W) (k : CxOk W c) (hsl : ∀ a b d p, i ≠ .Slice a b d p) (oo : OkE W C c sc names o co) (oi : OkE W C c sc names i ci) : OkE W C c sc names (.Subscript o i pos) (.sub co ci) := by
  intro l hp σ s Q E g lr hw
  simp only [wpE] at hw
  refine Subscript_ ?_
  refine wpAny_mono (oo l hp σ s _ E g lr hw) (fun vo s₁ p => ?_) fun _ _ x => x
  obtain ⟨uo, hp₁, σ₁, ro, g₁, x, q⟩ := p
  refine wpAny_mono (oi l hp₁ σ₁ s₁ _ E g₁ (lr.ev k g g₁ x) q) (fun vi s₂ p => ?_) fun _ _ z => z.from g g₁ x
  obtain ⟨ui, hp₂, σ₂, ri, g₂, y, q⟩ := p
  exact wpAny_mono (okSub (E := fun _ _ => False) kw hsl g₂ (ro.mono g₁ y) ri q) (fun _ _ p => p.from (x.trans y)) fun _ _ z => z.elim

inductive OkO (W : Wd) (C : Calls) (c : Cx) (sc : Scope) (names : Names) : Option Expr → Option CE → Prop
  | none : OkO W C c sc names none none
  | some {e : Expr} {ce : CE} : OkE W C c sc names e ce → OkO W C c sc names (some e) (some ce)

theorem okPart {e : Option Expr} {ce : Option CE} (o : OkO W C c sc names e ce) {R : Option Int → Hp → Prop} (g : Gd W c.fr s.heap σ hp) (lr : LR W c sc names l σ s.heap) (hw : wpO W.G C ce l hp R E) :
    wpAny (model W.prog W.w) c.A (evalPart e c.env) (fun v s' => ∃ i hp' σ', IsPart v i ∧ Gd W c.fr s'.heap σ' hp' ∧ Ev c.fr σ σ' s s' ∧ R i hp') (EE W c σ s E) s := by
  cases o with
  | none =>
    simp only [wpO] at hw
    exact wpAny_evalPart_none ⟨none, hp, σ, .none, g, ev_keeps g fun _ _ e => e, hw⟩
  | some oe =>
    simp only [wpO] at hw
    refine wpAny_evalPart_some (wpAny_mono (oe l hp σ s _ E g lr hw) (fun v s₁ p => ?_) fun _ _ x => x)
    obtain ⟨u, hp₁, σ₁, r, g₁, x, q⟩ := p
    split at q
    · cases r
      exact ⟨_, hp₁, σ₁, .int _ _, g₁, x, q⟩
    · exact q.elim

theorem okSliceE {o : Expr} {lo hi : Option Expr} {co : CE} {cl ch : Option CE} {p pos : Pos} (kw : WdOk W) (k : CxOk W c) (oo : OkE W C c sc names o co) (ol : OkO W C c sc names lo cl) (oh : OkO W C c sc names hi ch) : OkE W C c sc names (.Subscript o (.Slice lo hi none p) pos) (.slice co cl ch) := by
  intro l hp σ s Q E g lr hw
  simp only [wpE] at hw
  refine Subscript_ ?_
  refine wpAny_mono (oo l hp σ s _ E g lr hw) (fun vo s₁ p => ?_) fun _ _ x => x
  obtain ⟨uo, hp₁, σ₁, ro, g₁, x, q⟩ := p
  have lr₁ := lr.ev k g g₁ x
  refine wpAny_Slice ?_
  refine wpAny_mono (okPart ol g₁ lr₁ q) (fun vl s₂ p => ?_) fun _ _ z => z.from g g₁ x
  obtain ⟨il, hp₂, σ₂, pl, g₂, y, q⟩ := p
  refine wpAny_mono (okPart oh g₂ (lr₁.ev k g₁ g₂ y) q) (fun vh s₃ p => ?_) fun _ _ z => (z.from g₁ g₂ y).from g g₁ x
  obtain ⟨ih, hp₃, σ₃, ph, g₃, z, q⟩ := p
  refine wpAny_evalPart_none ?_
  exact wpAny_mono (okSlice (E := fun _ _ => False) kw g₃ ((ro.mono g₁ y).mono g₂ z) pl ph q) (fun _ _ p => p.from ((x.trans y).trans z)) fun _ _ t => t.elim
end
end Mine

end

section
set_option maxRecDepth 10000
namespace Mine
open PySem PyProof.Rows PySem.SeqAt PySem.W

section
variable {W : Wd} {C : Calls} {c : Cx} {sc : Scope} {names : Names} {σ : List Addr} {hp : Hp} {s : Shared} {l : Loc} {Q : V → Hp → Prop} {E : Nat → Hp → Prop} {E' : Value → Shared → Prop} {A : Around}

theorem callX {f : Nat} {vs : List Value} {us : List V} (oc : OkC W C c) (hf : A.frames = c.A.frames) (hh : A.handled = none) (hd : A.depth ≤ c.A.depth + 2) (hu : A.units ≤ c.A.units + 10)
    (g : Gd W c.fr s.heap σ hp) (fo : FrmOk W c s.heap) (r : VRs W s.heap σ vs us) (hw : C f us hp Q E) : wpAny (model W.prog W.w) A (call (.ref f) vs) (PE W c σ s Q) (XC W (c.fenv :: c.outer) c.fr σ s E) s := by
  refine wpAny_call (codeAny_mono (oc A f vs us hp σ s Q E hf hh hd hu g fo r hw) fun r s' p => ?_)
  exact p
theorem callC {f : Nat} {vs : List Value} {us : List V} (oc : OkC W C c) (hf : A.frames = c.A.frames) (hh : A.handled = none) (hd : A.depth ≤ c.A.depth + 2) (hu : A.units ≤ c.A.units + 10)
    (g : Gd W c.fr s.heap σ hp) (fo : FrmOk W c s.heap) (r : VRs W s.heap σ vs us) (hw : C f us hp Q (fun _ _ => False)) : wpAny (model W.prog W.w) A (call (.ref f) vs) (PE W c σ s Q) (EE W c σ s E) s :=
  wpAny_mono (callX oc hf hh hd hu g fo r hw) (fun _ _ p => p) fun _ _ ⟨_, _, _, _, z⟩ => z

theorem okCallWithX {f : Value} {first : List Value} {pos : Pos} {P : Heap → Prop} (k : CxOk W c) {es : List Expr} {ces : List CE} (o : OkEs W C c sc names es ces) {R : List V → Hp → Prop} (g : Gd W c.fr s.heap σ hp) (lr : LR W c sc names l σ s.heap)
    (hw : wpEs W.G C ces l hp R (fun _ _ => False)) (hk : ∀ h, P h → ∃ k, (k = Keeper.frame ∨ k = Keeper.machine ∨ k = Keeper.boundFrame) ∧ Looks (model W.prog W.w) h (keeperOf f) k)
    (hP : ∀ {s' : Shared} {σ' hp'}, Gd W c.fr s'.heap σ' hp' → P s'.heap)
    (next : ∀ us vs hp₁ σ₁ s₁, VRs W s₁.heap σ₁ vs us → Gd W c.fr s₁.heap σ₁ hp₁ → (∀ v' u', VR W s.heap σ v' u' → VR W s₁.heap σ₁ v' u') → (∃ t, σ₁ = σ ++ t) → LR W c sc names l σ₁ s₁.heap → R us hp₁ →
      wpAny (model W.prog W.w) c.A (call f (first ++ vs)) (PE W c σ₁ s₁ Q) (XC W (c.fenv :: c.outer) c.fr σ₁ s₁ E) s₁) :
    wpAny (model W.prog W.w) c.A (callWith pos f first (backTo pos (starEach es c.env)) []) (PE W c σ s Q) (XC W (c.fenv :: c.outer) c.fr σ s E) s := by
  refine callWith_of (P := P) (by rw [noStar o pos]; rfl) hk ?_
  refine wpAny_mono (okEvalArgs k o g lr hw) (fun a s₁ p => ?_) fun _ _ e => False.elim e
  obtain ⟨hkw, us, hp₁, σ₁, rs, g₁, x, q⟩ := p
  obtain ⟨ap, akw⟩ := a
  simp only at hkw rs
  subst hkw
  refine ⟨hP g₁, ?_⟩
  exact wpAny_mono (next us ap hp₁ σ₁ s₁ rs g₁ (fun _ _ r => r.mono g x) (let ⟨t, e, _⟩ := x.pre; ⟨t, e⟩) (lr.ev k g g₁ x) q) (fun _ _ p => p.from x) fun _ _ p => p.from g x

theorem okFnX {x : Str} {np pos : Pos} {a : Nat} {es : List Expr} {ces : List CE} (kw : WdOk W) (k : CxOk W c) (oc : OkC W C c) (hx : c.env.kindOf x = some .globalImplicit) (hd : (x == ("__debug__" : Str)) = false) (hg : W.glob.lookup x = some (.fn a))
    (o : OkEs W C c sc names es ces) : Gd W c.fr s.heap σ hp → LR W c sc names l σ s.heap → wpEs W.G C ces l hp (fun vs h1 => C a vs h1 Q E) (fun _ _ => False) →
    wpAny (model W.prog W.w) c.A (eval (.Call (.Name x np) es [] pos) c.env) (PE W c σ s Q) (XC W (c.fenv :: c.outer) c.fr σ s E) s := by
  intro g lr hw
  refine wpAny_Call_ofName (globName (v := .ref a) kw k g hx hd hg rfl ?_)
  have hk := (kw.globOk x _ hg).2
  refine okCallWithX (P := fun h => W.K.In h) k o g lr hw (fun h X => keeps_K hk h X) (fun g' => kIn kw g') fun us vs hp₁ σ₁ s₁ r g₁ _ _ lr₁ q => ?_
  exact callX oc rfl k.hh (by omega) (by omega) g₁ lr₁.frmOk r q

theorem okFn {x : Str} {np pos : Pos} {a : Nat} {es : List Expr} {ces : List CE} (kw : WdOk W) (k : CxOk W c) (oc : OkC W C c) (hx : c.env.kindOf x = some .globalImplicit) (hd : (x == ("__debug__" : Str)) = false) (hg : W.glob.lookup x = some (.fn a))
    (o : OkEs W C c sc names es ces) : OkE W C c sc names (.Call (.Name x np) es [] pos) (.call a ces) := by
  intro l hp σ s Q E g lr hw
  simp only [wpE] at hw
  refine wpAny_Call_ofName (globName (v := .ref a) kw k g hx hd hg rfl ?_)
  have hk := (kw.globOk x _ hg).2
  refine okCallWith (P := fun h => W.K.In h) k o g lr hw (fun h X => keeps_K hk h X) (fun g' => kIn kw g') fun us vs hp₁ σ₁ s₁ r g₁ _ _ lr₁ q => ?_
  exact callC oc rfl k.hh (by omega) (by omega) g₁ lr₁.frmOk r q

theorem biOf_val {b : Str} {k : Bi} (h : biOf b = some k) : biName? b = some (biVal k) := by
  unfold biOf at h
  split at h
  · cases h; rename_i e; subst e; rfl
  split at h
  · cases h; rename_i e; subst e; rfl
  split at h
  · cases h; rename_i e; subst e; rfl
  split at h
  · cases h; rename_i e; subst e; rfl
  split at h
  · cases h; rename_i e; subst e; rfl
  split at h
  · cases h; rename_i e; subst e; rfl
  split at h
  · cases h; rename_i e; subst e; rfl
  split at h
  · cases h; rename_i e; subst e; rfl
  cases h

theorem mach_bi {M : Model} (b : Bi) : ∀ h, True → ∃ k, (k = Keeper.frame ∨ k = Keeper.machine ∨ k = Keeper.boundFrame) ∧ Looks M h (keeperOf (biVal b)) k := by
  cases b <;> first | exact mach_builtin | exact mach_type

theorem okBuiltin {x b : Str} {np pos : Pos} {bb : Bi} {es : List Expr} {ces : List CE} (kw : WdOk W) (k : CxOk W c) (hx : c.env.kindOf x = some .globalImplicit) (hd : (x == ("__debug__" : Str)) = false) (hg : W.glob.lookup x = some (.bi b))
    (hb : biOf b = some bb) (o : OkEs W C c sc names es ces) : OkE W C c sc names (.Call (.Name x np) es [] pos) (.bi bb ces) := by
  intro l hp σ s Q E g lr hw
  simp only [wpE] at hw
  refine wpAny_Call_ofName (globName (v := biVal bb) kw k g hx hd hg (biOf_val hb) ?_)
  refine okCallWith (P := fun _ => True) k o g lr hw (mach_bi bb) (fun _ => trivial) fun us vs hp₁ σ₁ s₁ r g₁ _ _ lr₁ q => ?_
  exact okBi kw k.hh g₁ r q

theorem clsBi_val {n : Str} {cl : Cls} (h : clsBi n = some cl) : biName? n = some (clsVal cl) := by
  unfold clsBi at h
  split at h
  · cases h; rename_i e; subst e; rfl
  split at h
  · cases h; rename_i e; subst e; rfl
  split at h
  · cases h; rename_i e; subst e; rfl
  split at h
  · cases h; rename_i e; subst e; rfl
  split at h
  · cases h; rename_i e; subst e; rfl
  split at h
  · cases h; rename_i e; subst e; rfl
  cases h

theorem clsName {x : Str} {pos : Pos} {cl : Cls} {Qv : Value → Shared → Prop} (kw : WdOk W) (k : CxOk W c) (g : Gd W c.fr s.heap σ hp) (hx : c.env.kindOf x = some .globalImplicit) (hd : (x == ("__debug__" : Str)) = false) (hc : clsOf W.glob x = some cl) (q : Qv (clsVal cl) s) :
    wpAny (model W.prog W.w) A (eval (.Name x pos) c.env) Qv E' s := by
  unfold clsOf at hc
  split at hc
  · rename_i C hg; cases hc; exact globName kw k g hx hd hg rfl q
  · rename_i C hg; cases hc; exact globName kw k g hx hd hg rfl q
  · rename_i n hg; exact globName kw k g hx hd hg (clsBi_val hc) q
  · cases hc

theorem okIsinst {x cx : Str} {np cp pos : Pos} {e : Expr} {ce : CE} {cl : Cls} (kw : WdOk W) (k : CxOk W c) (hx : c.env.kindOf x = some .globalImplicit) (hd : (x == ("__debug__" : Str)) = false) (hg : W.glob.lookup x = some (.bi "isinstance"))
    (hcx : c.env.kindOf cx = some .globalImplicit) (hcd : (cx == ("__debug__" : Str)) = false) (hcl : clsOf W.glob cx = some cl) (hpl : plainE e) (o : OkE W C c sc names e ce) : OkE W C c sc names (.Call (.Name x np) [e, .Name cx cp] [] pos) (.isi ce cl) := by
  intro l hp σ s Q E g lr hw
  simp only [wpE] at hw
  refine wpAny_Call_ofName (globName (v := .builtin "isinstance") kw k g hx hd hg rfl ?_)
  have hst : backTo pos (starEach [e, .Name cx cp] c.env) = (false, eval e c.env) :: (false, eval (.Name cx cp) c.env) :: [] := by
    rw [starEach_cons hpl]; rfl
  show wpAny _ _ (callWith pos _ [] (backTo pos (starEach [e, .Name cx cp] c.env)) []) _ _ _
  rw [hst]
  refine callWith_of (P := fun _ => True) (by rfl) mach_builtin ?_
  refine Calls.evalArgs_plain (Calls.spliced_cons ?_)
  refine wpAny_mono (o l hp σ s _ E g lr hw) (fun v s₁ p => ?_) fun _ _ x => x
  obtain ⟨u, hp₁, σ₁, r, g₁, y, q⟩ := p
  refine Calls.spliced_cons (clsName kw k g₁ hcx hcd hcl (Calls.spliced_nil ⟨trivial, ?_⟩))
  exact wpAny_mono (okIsi (E' := fun _ _ => False) kw g₁ r q) (fun _ _ p => p.from y) fun _ _ z => z.elim

theorem okMeth {o : Expr} {name : Str} {apos pos : Pos} {es : List Expr} {co : CE} {ces : List CE} (kw : WdOk W) (k : CxOk W c) (oc : OkC W C c) (hb : plainBase o = true) (hl : (apos.endLine == pos.line) = true) (hn : es.length < 30)
    (oo : OkE W C c sc names o co) (os : OkEs W C c sc names es ces) : OkE W C c sc names (.Call (.Attribute o name apos) es [] pos) (.meth co name ces) := by
  intro l hp σ s Q E g lr hw
  simp only [wpE] at hw
  refine methCall hb hl (noStarAll os pos) hn ?_
  refine wpAny_mono (oo l hp σ s _ E g lr hw) (fun vo s₁ p => ?_) fun _ _ x => x
  obtain ⟨u, hp₁, σ₁, ro, g₁, x, q⟩ := p
  have lr₁ := lr.ev k g g₁ x
  split at q
  · rename_i m hm
    exact wpAny_mono (okMethB kw k os g₁ lr₁ ro hm q) (fun _ _ p => wpAny_mono p (fun _ _ p => p.from x) fun _ _ z => z.from g g₁ x) fun _ _ z => z.from g g₁ x
  · exact q.elim

end
end Mine

end

section
set_option maxRecDepth 10000
namespace Mine
open PySem PyProof.Rows PySem.SeqAt PySem.W

noncomputable abbrev TupAt (h : Heap) (a : Addr) : Prop := ∃ items n, h.get? a = some { cls := .type "tuple", data := .seq items n }
noncomputable def Own (W : Wd) (h : Heap) (a : Addr) : Prop := (∃ o n vs, h.get? a = some o ∧ o.cls = .type n ∧ n ≠ "tuple" ∧ n ≠ "list" ∧ n ≠ "dict" ∧ o.data = .fields vs) ∨ a ∈ W.hid
noncomputable def OwnL (W : Wd) (h : Heap) (a : Addr) : Prop := Own W h a ∨ ∃ o x n, h.get? a = some o ∧ o.cls = .type "list" ∧ o.data = .seq x n
noncomputable def KO (W : Wd) (own : List Addr) (h h' : Heap) : Prop := (∀ b o, b ∉ own → h.get? b = some o → h'.get? b = some o) ∧ ∀ a ∈ W.hid, TupAt h' a

section
variable {W : Wd} {c : Cx} {sc : Scope} {names : Names} {σ : List Addr} {hp : Hp} {l : Loc} {h h' : Heap} {own fr : List Addr}

theorem own_not {a : Addr} {o : Obj} (ho : OwnL W h a) (hh : ∀ a ∈ W.hid, TupAt h a) (e : h.get? a = some o) : (∃ n, o.cls = .type n ∧ (n = "tuple" → a ∈ W.hid)) ∧ ((∃ vs, o.data = .fields vs) ∨ ∃ x n, o.data = .seq x n) := by
  rcases ho with (⟨o', n, vs, e', h1, h2, h3, h4, h5⟩ | hm) | ⟨o', x, n, e', h1, h2⟩
  · rw [e] at e'; cases e'
    exact ⟨⟨n, h1, fun q => absurd q h2⟩, .inl ⟨vs, h5⟩⟩
  · obtain ⟨x, n, e'⟩ := hh a hm
    rw [e] at e'; cases e'
    exact ⟨⟨"tuple", rfl, fun _ => hm⟩, .inr ⟨x, n, rfl⟩⟩
  · rw [e] at e'; cases e'
    exact ⟨⟨_, h1, fun q => absurd q (by decide)⟩, .inr ⟨x, n, h2⟩⟩

theorem VR.ko {v : Value} {u : V} (hh : ∀ a ∈ W.hid, TupAt h a) (ho : ∀ a ∈ own, OwnL W h a) (k : ∀ b o, b ∉ own → h.get? b = some o → h'.get? b = some o) (r : VR W h σ v u) : VR W h' σ v u := by
  induction r with
  | none => exact .none
  | bool => exact .bool
  | int => exact .int
  | str => exact .str
  | tup e hl hb _ hn ih =>
    refine .tup (k _ _ (fun q => ?_) e) hl hb ih hn
    obtain ⟨⟨n, h1, h2⟩, _⟩ := own_not (ho _ q) hh e
    cases h1
    exact hn (h2 rfl)
  | ref e => exact .ref e
  | inst e0 e hc hdi hd hi =>
    refine .inst e0 (k _ _ (fun q => ?_) e) hc hdi hd hi
    obtain ⟨⟨n, h1, _⟩, _⟩ := own_not (ho _ q) hh e
    rw [hc] at h1; cases h1
  | scr => exact .scr
  | exc e hc hd =>
    refine .exc (k _ _ (fun q => ?_) e) hc hd
    obtain ⟨⟨n, h1, _⟩, _⟩ := own_not (ho _ q) hh e
    rw [hc] at h1; cases h1

theorem Gd.notOwn (g : Gd W fr h σ hp) {a : Addr} (ho : Own W h a) : a ∉ σ := fun ha => by
  obtain ⟨o, e, h1, _⟩ := g.there ha
  rcases ho with ⟨o', n, vs, e', h2, _, h3, h4, _⟩ | hm
  · rw [e] at e'; cases e'
    rcases h1 with h1 | h1 <;> rw [h1] at h2 <;> cases h2
    · exact h3 rfl
    · exact h4 rfl
  · obtain ⟨x, n, e'⟩ := g.hid a hm
    rw [e] at e'; cases e'
    rcases h1 with h1 | h1 <;> simp at h1

theorem Gd.ko (g : Gd W fr h σ hp) (hσ : ∀ a ∈ own, a ∉ σ) (ho : ∀ a ∈ own, OwnL W h a) (hb : ∀ a ∈ own, W.B.get? a = none) (k : KO W own h h') : Gd W fr h' σ hp := by
  refine ⟨fun b o e => k.1 b o (fun q => ?_) (g.base b o e), g.len, g.nd, fun i a o e1 e2 => (g.objs i a o e1 e2).keep (fun ob e => k.1 _ _ (fun q => hσ _ q (mem_of_get? e1)) e) fun v u r => r.ko g.hid ho k.1, g.bfree, fun b hb' => ?_, k.2⟩
  · rw [hb b q] at e; cases e
  · obtain ⟨h1, o, es, n, e, hd⟩ := g.frs b hb'
    refine ⟨h1, o, es, n, k.1 _ _ (fun q => ?_) e, hd⟩
    obtain ⟨_, h2⟩ := own_not (ho _ q) g.hid e
    rcases h2 with ⟨_, h2⟩ | ⟨_, _, h2⟩ <;> rw [hd] at h2 <;> cases h2

theorem ns_ko {a : Addr} {m : Str → Option Value} (hh : ∀ a ∈ W.hid, TupAt h a) (ho : ∀ a ∈ own, OwnL W h a) (k : ∀ b o, b ∉ own → h.get? b = some o → h'.get? b = some o) (n : h.Ns a m) : h'.Ns a m := by
  obtain ⟨o, es, ep, e, hd, r⟩ := n
  refine ⟨o, es, ep, k _ _ (fun q => ?_) e, hd, r⟩
  obtain ⟨_, h2⟩ := own_not (ho _ q) hh e
  rcases h2 with ⟨_, h2⟩ | ⟨_, _, h2⟩ <;> rw [hd] at h2 <;> cases h2
theorem cell_ko {a : Addr} {v : Option Value} (hh : ∀ a ∈ W.hid, TupAt h a) (ho : ∀ a ∈ own, OwnL W h a) (k : ∀ b o, b ∉ own → h.get? b = some o → h'.get? b = some o) (n : h.IsCell a v) : h'.IsCell a v := by
  obtain ⟨o, e, hd⟩ := n
  refine ⟨o, k _ _ (fun q => ?_) e, hd⟩
  obtain ⟨_, h2⟩ := own_not (ho _ q) hh e
  rcases h2 with ⟨_, h2⟩ | ⟨_, _, h2⟩ <;> rw [hd] at h2 <;> cases h2
theorem Gd.frNot (g : Gd W fr h σ hp) (ho : ∀ a ∈ own, OwnL W h a) {b : Addr} (hb : b ∈ fr) : b ∉ own := fun q => by
  obtain ⟨_, o, es, n, e, hd⟩ := g.frs b hb
  obtain ⟨_, h2⟩ := own_not (ho _ q) g.hid e
  rcases h2 with ⟨_, h2⟩ | ⟨_, _, h2⟩ <;> rw [hd] at h2 <;> cases h2
theorem ff_ko {base : Heap} (k : ∀ b o, b ∉ own → h.get? b = some o → h'.get? b = some o) : ∀ {l : List Env}, (∀ b ∈ l.filterMap (·.frame), b ∉ own) → h.FunFrames base l → h'.FunFrames base l
  | [], _, _ => trivial
  | env :: l, hx, ⟨h1, ⟨L, o, hf, hn, hob, hd⟩, hr⟩ =>
    ⟨h1, ⟨L, o, hf, hn, k _ _ (hx L (by rw [List.filterMap_cons_some hf]; exact List.mem_cons_self)) hob, hd⟩, ff_ko k (fun b hb => hx b (by rw [List.filterMap_cons_some hf]; exact List.mem_cons_of_mem _ hb)) hr⟩
theorem mem_fr {b : Addr} (hf : c.fenv.frame = some c.L) (hb : b ∈ c.outer.filterMap (·.frame)) : b ∈ c.fr := by
  unfold Cx.fr; rw [List.filterMap_cons_some hf]; exact List.mem_cons_of_mem _ hb
theorem rd_ko {env : Env} {x : Str} {v : Value} (hh : ∀ a ∈ W.hid, TupAt h a) (ho : ∀ a ∈ own, OwnL W h a) (k : ∀ b o, b ∉ own → h.get? b = some o → h'.get? b = some o) (r : Rd env h x v) : Rd env h' x v := by
  rcases r with ⟨h1, m, hn, hv⟩ | ⟨h1, c, hl', hv⟩
  · exact .inl ⟨h1, m, ns_ko hh ho k hn, hv⟩
  · exact .inr ⟨h1, c, hl', cell_ko hh ho k hv⟩

theorem LR.ko (kf : c.fenv.frame = some c.L) (r : LR W c sc names l σ h) (g : Gd W c.fr h σ hp) (g' : Gd W fr h' σ hp) (ho : ∀ a ∈ own, OwnL W h a) (k : KO W own h h') : LR W c sc names l σ h' := by
  obtain ⟨⟨m, F⟩, ff, nl, ⟨m', hn⟩, rd, hlen, hlb, cel⟩ := r
  have hh := g.hid
  refine ⟨⟨m, ns_ko hh ho k.1 F.ns, g'.base, F.above⟩, ff_ko k.1 (fun b hb => g.frNot ho (mem_fr kf hb)) ff, nl, ⟨m', ns_ko hh ho k.1 hn⟩, fun y i u h1 h2 h3 => ?_, hlen, hlb, fun p hp => let ⟨h1, v, h2⟩ := cel p hp; ⟨h1, v, cell_ko hh ho k.1 h2⟩⟩
  obtain ⟨v, hv, hr⟩ := rd y i u h1 h2 h3
  exact ⟨v, hv.ko hh ho k.1, rd_ko hh ho k.1 hr⟩

theorem Ev.ko {σ' : List Addr} {s s₁ s₂ : Shared} (x : Ev fr σ σ' s s₁) (hf : ∀ a ∈ own, s.heap.get? a = Option.none) (k : ∀ b o, b ∉ own → s₁.heap.get? b = some o → s₂.heap.get? b = some o) (h1 : s₂.gens = s₁.gens) (h2 : s₂.os = s₁.os) : Ev fr σ σ' s s₂ := by
  refine ⟨x.pre, x.nd, fun b o e hb => ?_, h1.trans x.gens, h2.trans x.os⟩
  have hb' : b ∉ own := fun q => by rw [hf b q] at e; cases e
  rcases x.kp b o e hb with q | ⟨q, sl, q'⟩
  · exact .inl (k _ _ hb' q)
  · exact .inr ⟨q, sl, k _ _ hb' q'⟩

noncomputable def Wd.At (W : Wd) (hd : List Addr) : Wd := { W with hid := hd }

theorem VR.at_ {hd : List Addr} {v : Value} {u : V} (hn : ∀ a, a ∉ W.hid → h.get? a ≠ Option.none → a ∉ hd) (k : ∀ b o, h.get? b = some o → h'.get? b = some o) (r : VR W h σ v u) : VR (W.At hd) h' σ v u := by
  induction r with
  | none => exact .none
  | bool => exact .bool
  | int => exact .int
  | str => exact .str
  | tup e hl hb _ hh ih => exact .tup (k _ _ e) hl hb ih (hn _ hh (by rw [e]; simp))
  | ref e => exact .ref e
  | inst e0 e hc hdi hd hi => exact .inst e0 (k _ _ e) hc hdi hd hi
  | scr => exact .scr
  | exc e hc hd => exact .exc (k _ _ e) hc hd

theorem ORel.at_ {hd : List Addr} {a : Addr} {o : O} (hn : ∀ a, a ∉ W.hid → h.get? a ≠ Option.none → a ∉ hd) (k : ∀ b o, h.get? b = some o → h'.get? b = some o) (r : ORel W h σ a o) : ORel (W.At hd) h' σ a o := by
  cases o with
  | list vs =>
    obtain ⟨⟨items, n, h1, h2⟩, hb⟩ := r
    exact ⟨⟨items, n, k _ _ h1, h2.1, fun i v u e1 e2 => (h2.2 i v u e1 e2).at_ hn k⟩, hb⟩
  | dict es =>
    obtain ⟨⟨kvs, ⟨ob, en, h1, r1⟩, h2, h3⟩, hb⟩ := r
    exact ⟨⟨kvs, ⟨ob, en, k _ _ h1, r1⟩, h2, h3.1, fun i v u e1 e2 => (h3.2 i v u e1 e2).at_ hn k⟩, hb⟩

theorem Gd.at_ {hd : List Addr} (hn : ∀ a, a ∉ W.hid → h.get? a ≠ Option.none → a ∉ hd) (k : ∀ b o, h.get? b = some o → h'.get? b = some o) (hh : ∀ a ∈ hd, TupAt h' a) (g : Gd W fr h σ hp) : Gd (W.At hd) fr h' σ hp :=
  ⟨fun b o e => k b o (g.base b o e), g.len, g.nd, fun i a o e1 e2 => (g.objs i a o e1 e2).at_ hn k, g.bfree, fun b hb => ⟨(g.frs b hb).1, let ⟨o, es, n, e, hd⟩ := (g.frs b hb).2; ⟨o, es, n, k _ _ e, hd⟩⟩, hh⟩

theorem Gd.koAt {hd : List Addr} (g : Gd W fr h σ hp) (hσ : ∀ a ∈ own, a ∉ σ) (ho : ∀ a ∈ own, OwnL W h a) (hb : ∀ a ∈ own, W.B.get? a = none) (k : ∀ b o, b ∉ own → h.get? b = some o → h'.get? b = some o) (hs : ∀ a ∈ hd, a ∈ W.hid) (hno : ∀ a ∈ hd, a ∉ own) : Gd (W.At hd) fr h' σ hp := by
  have mv : ∀ v u, VR W h σ v u → VR (W.At hd) h' σ v u := fun v u r => (r.ko g.hid ho k).at_ (fun a h1 _ h2 => h1 (hs a h2)) fun _ _ e => e
  refine ⟨fun b o e => k b o (fun q => ?_) (g.base b o e), g.len, g.nd, fun i a o e1 e2 => ?_, g.bfree, fun b hb' => ?_, fun a ha => let ⟨x, n, e⟩ := g.hid a (hs a ha); ⟨x, n, k _ _ (hno a ha) e⟩⟩
  · have e' : W.B.get? b = some o := e
    rw [hb b q] at e'; cases e'
  · have r := g.objs i a o e1 e2
    have ka : ∀ ob, h.get? a = some ob → h'.get? a = some ob := fun ob e => k _ _ (fun q => hσ _ q (mem_of_get? e1)) e
    cases o with
    | list vs =>
      obtain ⟨⟨items, n, h1, h2⟩, hb⟩ := r
      exact ⟨⟨items, n, ka _ h1, h2.1, fun i v u e1 e2 => mv _ _ (h2.2 i v u e1 e2)⟩, hb⟩
    | dict es =>
      obtain ⟨⟨kvs, ⟨ob, en, h1, r1⟩, h2, h3⟩, hb⟩ := r
      exact ⟨⟨kvs, ⟨ob, en, ka _ h1, r1⟩, h2, h3.1, fun i v u e1 e2 => mv _ _ (h3.2 i v u e1 e2)⟩, hb⟩
  · obtain ⟨h1, o, es, n, e, hd⟩ := g.frs b hb'
    exact ⟨h1, o, es, n, k _ _ (g.frNot ho hb') e, hd⟩
theorem LR.koAt {hd : List Addr} (kf : c.fenv.frame = some c.L) (r : LR W c sc names l σ h) (g : Gd W c.fr h σ hp) (hσ : ∀ a ∈ own, a ∉ σ) (ho : ∀ a ∈ own, OwnL W h a) (hb : ∀ a ∈ own, W.B.get? a = none) (k : ∀ b o, b ∉ own → h.get? b = some o → h'.get? b = some o) (hs : ∀ a ∈ hd, a ∈ W.hid) (hno : ∀ a ∈ hd, a ∉ own) : LR (W.At hd) c sc names l σ h' := by
  have g' := g.koAt hσ ho hb k hs hno
  obtain ⟨⟨m, F⟩, ff, nl, ⟨m', hn⟩, rd, hlen, hlb, cel⟩ := r
  have hh := g.hid
  refine ⟨⟨m, ns_ko hh ho k F.ns, g'.base, F.above⟩, ff_ko k (fun b hb => g.frNot ho (mem_fr kf hb)) ff, nl, ⟨m', ns_ko hh ho k hn⟩, fun y i u h1 h2 h3 => ?_, hlen, hlb, fun p hp => let ⟨h1, v, h2⟩ := cel p hp; ⟨h1, v, cell_ko hh ho k h2⟩⟩
  obtain ⟨v, hv, hr⟩ := rd y i u h1 h2 h3
  exact ⟨v, (hv.ko hh ho k).at_ (fun a h1 _ h2 => h1 (hs a h2)) fun _ _ e => e, rd_ko hh ho k hr⟩

structure Iter (W : Wd) (A : Around) (fr : List Addr) (tgt : Expr) (it : Value) (own σ₀ : List Addr) (hv : List Value) (hu : List V) (src : Src) (St : Nat → Heap → Prop) : Prop where
  next : ∀ k s σ hp u, (∃ t, σ = σ₀ ++ t) → St k s.heap → Gd W fr s.heap σ hp → VRs W s.heap σ hv hu → src.alive hp → src.items[k]? = some u →
    wpAny (model W.prog W.w) A (pyNext it) (fun r s₁ => ∃ v, r = some v ∧ wpAny (model W.prog W.w) A (letOwnedTupleGo tgt it v) (fun _ s₂ => St (k + 1) s₂.heap ∧ VR W s₂.heap σ v u ∧ KO W own s.heap s₂.heap ∧ s₂.gens = s.gens ∧ s₂.os = s.os) (fun _ _ => False) s₁) (fun _ _ => False) s
  done : ∀ s σ hp, (∃ t, σ = σ₀ ++ t) → St src.items.length s.heap → Gd W fr s.heap σ hp → VRs W s.heap σ hv hu → src.alive hp →
    wpAny (model W.prog W.w) A (pyNext it) (fun r s₁ => r = none ∧ (∀ b o, b ∉ own → s.heap.get? b = some o → s₁.heap.get? b = some o) ∧ s₁.gens = s.gens ∧ s₁.os = s.os) (fun _ _ => False) s
  keep : ∀ k h h', St k h → (∀ a ∈ own, ∀ o, h.get? a = some o → h'.get? a = some o) → St k h'
  isOwn : ∀ k h a, St k h → a ∈ own → Own W h a
  bfree : ∀ a ∈ own, W.B.get? a = none
  self : ∀ k (s : Shared) (Q : Value → Shared → Prop) (E : Value → Shared → Prop), St k s.heap → Q it s → wpAny (model W.prog W.w) A (pyIter it) Q E s

theorem letGo_plain {M : Model} {A : Around} {E : Value → Shared → Prop} {s : Shared} {tgt : Expr} {r : Addr} {v : Value} {o : Obj} {n : String} {Q : Unit → Shared → Prop} (e : s.heap.get? r = some o) (hc : o.cls = .type n) (hn : ["enumerate", "zip", "dict_itemiterator", "dict_reverseitemiterator", "odict_iterator", "itertools.zip_longest", "itertools.pairwise"].contains n = false) (q : Q () s) :
    wpAny M A (letOwnedTupleGo tgt (.ref r) v) Q E s := by
  unfold letOwnedTupleGo
  split
  · split
    · rename_i h; cases h
      refine wpAny_bind (wpAny_load e ?_)
      split
      · rename_i h1 _
        rw [hc] at h1; cases h1
        rw [hn]
        exact wpAny_pure q
      · exact wpAny_pure q
    · exact wpAny_pure q
  · split
    · rename_i h; cases h
      refine wpAny_bind (wpAny_load e ?_)
      split
      · rename_i h1 _
        rw [hc] at h1; cases h1
        rw [hn]
        exact wpAny_pure q
      · exact wpAny_pure q
    · exact wpAny_pure q
  · exact wpAny_pure q

theorem ko_of (hh : ∀ a ∈ W.hid, TupAt h a) {a : Addr} (hn : ¬ TupAt h a) (k : ∀ b o, b ≠ a → h.get? b = some o → h'.get? b = some o) : KO W [a] h h' :=
  ⟨fun b o hb e => k b o (fun q => hb (by simp [q])) e, fun b hb => let ⟨x, n, e⟩ := hh b hb; ⟨x, n, k b _ (fun q => hn (q ▸ ⟨x, n, e⟩)) e⟩⟩

theorem iter_list {A : Around} {tgt : Expr} {it a : Addr} {i : Nat} {σ₀ : List Addr} {vs : List V} (hh : A.handled = none) (hi : σ₀[i]? = some a) (hb : W.B.get? it = none) :
    Iter W A fr tgt (.ref it) [it] σ₀ [] [] ⟨vs, fun h' => h'[i]? = some (.list vs)⟩ (fun k h => h.IsListIter it a k) where
  next k s σ hp u hpre st g _ al e := by
    obtain ⟨⟨items, n, L, r⟩, _⟩ := g.objs i a _ (pre_get hpre hi) al
    obtain ⟨v, ev, rv⟩ := VRs.get r e
    obtain ⟨o, ho, hc, hd⟩ := id st
    have hT : ¬ TupAt s.heap it := fun ⟨x, m, e⟩ => by rw [ho] at e; cases e; cases hd
    refine wpAny_pyNext_list_item st ⟨_, L, rfl, n, rfl⟩ (by simpa using ev) fun h' st' sb => ⟨v, rfl, ?_⟩
    obtain ⟨o', ho', hc', _⟩ := id st'
    have ow : ∀ b ∈ [it], Own W s.heap b := fun b hb => by simp at hb; subst hb; exact .inl ⟨o, _, _, ho, hc, by decide, by decide, by decide, hd⟩
    refine letGo_plain (o := o') ho' hc' (by decide) ⟨st', rv.ko g.hid (fun b hb => .inl (ow b hb)) fun b ob hb e => sb.extBut b ob (fun q => hb (by simp [q])) e, ko_of g.hid hT fun b ob hb e => sb.extBut b ob hb e, rfl, rfl⟩
  done s σ hp hpre st g _ al := by
    obtain ⟨⟨items, n, L, r⟩, _⟩ := g.objs i a _ (pre_get hpre hi) al
    obtain ⟨o, ho, hc, hd⟩ := id st
    have hT : ¬ TupAt s.heap it := fun ⟨x, m, e⟩ => by rw [ho] at e; cases e; cases hd
    refine wpAny_pyNext_list_end hh st ⟨_, L, rfl, n, rfl⟩ (by have := r.1; simp at this ⊢; omega) fun h' sb => ⟨rfl, fun b ob hb e => sb b ob (fun q => hb (by simp [q])) e, rfl, rfl⟩
  keep k h h' st ke := by obtain ⟨o, e, r⟩ := st; exact ⟨o, ke it (by simp) o e, r⟩
  isOwn k h b st hb := by simp at hb; subst hb; obtain ⟨o, e, hc, hd⟩ := st; exact .inl ⟨o, _, _, e, hc, by decide, by decide, by decide, hd⟩
  bfree b hb' := by simp at hb'; subst hb'; exact hb
  self k s Q E st q := wpAny_pyIter_listiter st q

theorem iter_tup {A : Around} {tgt : Expr} {it a : Addr} {σ₀ : List Addr} {vs : List V} (hh : A.handled = none) (hb : W.B.get? it = none) :
    Iter W A fr tgt (.ref it) [it] σ₀ [.ref a] [.tup vs] ⟨vs, fun _ => True⟩ (fun k h => h.IsTupleIter it a k) where
  next k s σ hp u hpre st g rs al e := by
    have r := rs.2 0 _ _ rfl rfl
    cases r with
    | @tup _ n items _ L hl hb hr hn =>
    obtain ⟨v, ev, rv⟩ := VRs.get (W := W) (h := s.heap) (σ := σ) ⟨hl, hr⟩ e
    obtain ⟨o, ho, hc, hd⟩ := id st
    have hT : ¬ TupAt s.heap it := fun ⟨x, m, e⟩ => by rw [ho] at e; cases e; cases hd
    refine wpAny_pyNext_tuple_item st ⟨_, L, rfl, n, rfl⟩ (by simpa using ev) fun h' st' sb => ⟨v, rfl, ?_⟩
    obtain ⟨o', ho', hc', _⟩ := id st'
    have ow : ∀ b ∈ [it], Own W s.heap b := fun b hb => by simp at hb; subst hb; exact .inl ⟨o, _, _, ho, hc, by decide, by decide, by decide, hd⟩
    refine letGo_plain (o := o') ho' hc' (by decide) ⟨st', rv.ko g.hid (fun b hb => .inl (ow b hb)) fun b ob hb e => sb.extBut b ob (fun q => hb (by simp [q])) e, ko_of g.hid hT fun b ob hb e => sb.extBut b ob hb e, rfl, rfl⟩
  done s σ hp hpre st g rs al := by
    have r := rs.2 0 _ _ rfl rfl
    cases r with
    | @tup _ n items _ L hl hb hr hn =>
    obtain ⟨o, ho, hc, hd⟩ := id st
    have hT : ¬ TupAt s.heap it := fun ⟨x, m, e⟩ => by rw [ho] at e; cases e; cases hd
    refine wpAny_pyNext_tuple_end hh st ⟨_, L, rfl, n, rfl⟩ (by simp; omega) fun h' sb => ⟨rfl, fun b ob hb e => sb b ob (fun q => hb (by simp [q])) e, rfl, rfl⟩
  keep k h h' st ke := by obtain ⟨o, e, r⟩ := st; exact ⟨o, ke it (by simp) o e, r⟩
  isOwn k h b st hb := by simp at hb; subst hb; obtain ⟨o, e, hc, hd⟩ := st; exact .inl ⟨o, _, _, e, hc, by decide, by decide, by decide, hd⟩
  bfree b hb' := by simp at hb'; subst hb'; exact hb
  self k s Q E st q := wpAny_pyIter_tupleiter st q

theorem iter_range {A : Around} {tgt : Expr} {it : Addr} {n : Nat} {σ₀ : List Addr} (hh : A.handled = none) (hb : W.B.get? it = none) :
    Iter W A fr tgt (.ref it) [it] σ₀ [] [] ⟨(List.range n).map fun (k : Nat) => V.int (k : Int), fun _ => True⟩ (fun k h => IsRangeIter h it k ((n : Int) - k) 1) where
  next k s σ hp u hpre st g _ al e := by
    have hk : k < n := by have := (List.getElem?_eq_some_iff.mp e).1; simpa using this
    have hu : u = .int k := by simp [hk] at e; exact e.symm
    subst hu
    have hT : ¬ TupAt s.heap it := fun ⟨x, m, e⟩ => by rw [st] at e; simp at e
    refine wpAny_pyNext_range_item st (by omega) fun h' st' sb => ⟨_, rfl, ?_⟩
    refine letGo_plain st' rfl (by decide) ⟨?_, .int, ko_of g.hid hT fun b ob hb e => sb.extBut b ob hb e, rfl, rfl⟩
    have e1 : (((k + 1 : Nat) : Int)) = (k : Int) + 1 := by omega
    have e2 : (n : Int) - ((k + 1 : Nat) : Int) = (n : Int) - k - 1 := by omega
    show IsRangeIter h' it _ _ 1
    rw [e2, e1]; exact st'
  done s σ hp hpre st g _ al := by
    have hT : ¬ TupAt s.heap it := fun ⟨x, m, e⟩ => by rw [st] at e; simp at e
    refine wpAny_pyNext_range_end hh st (by simp) fun h' sb => ⟨rfl, fun b ob hb e => sb b ob (fun q => hb (by simp [q])) e, rfl, rfl⟩
  keep k h h' st ke := ke it (by simp) _ st
  isOwn k h b st hb := by simp at hb; subst hb; exact .inl ⟨_, _, _, st, rfl, by decide, by decide, by decide, rfl⟩
  bfree b hb' := by simp at hb'; subst hb'; exact hb
  self k s Q E st q := wpAny_pyIter_rangeiter st q
end
end Mine

end

section

end

section
set_option maxRecDepth 10000
namespace Mine
open PySem PyProof.Rows PySem.SeqAt PySem.W

inductive PIt (W : Wd) (c : Cx) (sc : Scope) (names : Names) (l : Loc) (tgt : Expr) (σ : List Addr) (s : Shared) (Q : Src → Hp → Prop) (it : Value) (s₂ : Shared) : Prop
  | mk (hd own : List Addr) (hv : List Value) (hu : List V) (src : Src) (St : Nat → Heap → Prop) (hp' : Hp) (σ' : List Addr) : Gd (W.At hd) c.fr s₂.heap σ' hp' → LR (W.At hd) c sc names l σ' s₂.heap → Ev c.fr σ σ' s s₂ → (∀ a ∈ own, s.heap.get? a = none) →
    (∀ A : Around, A.handled = none → Iter (W.At hd) A c.fr tgt it own σ' hv hu src St) → VRs (W.At hd) s₂.heap σ' hv hu → St 0 s₂.heap → (∀ a ∈ W.hid, a ∈ hd) → src.items.length ≤ sizeLine → Q src hp' → PIt W c sc names l tgt σ s Q it s₂

noncomputable def OkIt (W : Wd) (C : Calls) (c : Cx) (sc : Scope) (names : Names) (tgt e : Expr) (cit : It) : Prop :=
  ∀ l hp σ s Q E, Gd W c.fr s.heap σ hp → LR W c sc names l σ s.heap → wpIt W.G C cit l hp Q E →
    wpAny (model W.prog W.w) c.A (eval e c.env) (fun x s₁ => wpAny (model W.prog W.w) c.A (pyIter x) (PIt W c sc names l tgt σ s Q) (EE W c σ s E) s₁) (EE W c σ s E) s

section
variable {W : Wd} {C : Calls} {c : Cx} {sc : Scope} {names : Names} {σ : List Addr} {hp : Hp} {s : Shared} {l : Loc} {E' : Value → Shared → Prop} {A : Around} {tgt : Expr}

theorem Ev.fresh {fr σ' : List Addr} {s₁ : Shared} {a : Addr} (x : Ev fr σ σ' s s₁) (g : Gd W fr s.heap σ hp) (hn : s₁.heap.get? a = none) (hs : a ∉ σ) : s.heap.get? a = none := by
  cases e : s.heap.get? a with
  | none => rfl
  | some o => obtain ⟨sl, e'⟩ := x.kp.at e hs; rw [hn] at e'; cases e'
theorem Gd.notin {fr : List Addr} {h : Heap} {a : Addr} (g : Gd W fr h σ hp) (hn : h.get? a = none) : a ∉ σ := fun q => by
  obtain ⟨o, e, _⟩ := g.there q; rw [hn] at e; cases e
theorem Ev.fresh' {fr σ' : List Addr} {hp' : Hp} {s₁ : Shared} {a : Addr} (x : Ev fr σ σ' s s₁) (g : Gd W fr s.heap σ hp) (g' : Gd W fr s₁.heap σ' hp') (hn : s₁.heap.get? a = none) : s.heap.get? a = none := by
  refine x.fresh g hn fun q => g'.notin hn ?_
  obtain ⟨t, e, _⟩ := x.pre
  rw [e]; exact List.mem_append_left _ q
theorem Gd.bnone {fr : List Addr} {h : Heap} {a : Addr} (g : Gd W fr h σ hp) (hn : h.get? a = none) : W.B.get? a = none := by
  cases e : W.B.get? a with
  | none => rfl
  | some o => rw [g.base _ _ e] at hn; cases hn

theorem fresh_ge (h : Heap) (j : Nat) (hj : h.objs.size ≤ j) : h.get? j = none := by
  cases e : h.get? j with
  | none => rfl
  | some o => exact absurd (Heap.lt_size e) (Nat.not_lt.mpr hj)
theorem pit_new {σ₁ : List Addr} {hp₁ : Hp} {s₁ : Shared} {o : Obj} {hv : List Value} {hu : List V} {src : Src} {St : Nat → Heap → Prop} {Q : Src → Hp → Prop} {tk : Nat} (kf : CxOk W c) (g : Gd W c.fr s.heap σ hp) (g₁ : Gd W c.fr s₁.heap σ₁ hp₁) (lr₁ : LR W c sc names l σ₁ s₁.heap) (x : Ev c.fr σ σ₁ s s₁)
    (it : ∀ A : Around, A.handled = none → Iter W A c.fr tgt (.ref s₁.heap.objs.size) [s₁.heap.objs.size] σ₁ hv hu src St) (rs : VRs W s₁.heap σ₁ hv hu) (st : St 0 (s₁.heap.push o)) (hsz : src.items.length ≤ sizeLine) (q : Q src hp₁) :
    PIt W c sc names l tgt σ s Q (.ref s₁.heap.objs.size) { s₁ with heap := s₁.heap.push o, toks := tk } := by
  have k : ∀ b ob, s₁.heap.get? b = some ob → (s₁.heap.push o).get? b = some ob := fun _ _ e => Heap.get?_push_of_some _ e
  have y : Ev c.fr σ₁ σ₁ s₁ { s₁ with heap := s₁.heap.push o, toks := tk } := ev_keeps g₁ k
  exact ⟨W.hid, _, hv, hu, src, St, hp₁, σ₁, g₁.keeps k, lr₁.ev kf g₁ (g₁.keeps k) y, x.trans y, fun a ha => by
    simp at ha; subst ha; exact x.fresh' g g₁ (fresh_size _), it, rs.mono g₁ y, st, fun _ h => h, hsz, q⟩

theorem okIt_val {e : Expr} {ce : CE} (kw : WdOk W) (k : CxOk W c) (o : OkE W C c sc names e ce) : OkIt W C c sc names tgt e (.val ce) := by
  intro l hp σ s Q E g lr hw
  simp only [wpIt] at hw
  refine wpAny_mono (o l hp σ s _ E g lr hw) (fun v s₁ p => ?_) fun _ _ x => x
  obtain ⟨u, hp₁, σ₁, r, g₁, x, src, hs, q⟩ := p
  have lr₁ := lr.ev k g g₁ x
  have hb := g₁.bnone (fresh_size s₁.heap)
  unfold srcOf at hs
  split at hs
  · rename_i i
    cases r with
    | @ref a _ ei =>
    split at hs
    · rename_i vs e
      cases hs
      obtain ⟨items, n, L, rr⟩ := g₁.list ei e
      exact wpAny_pyIter_list (⟨_, L, rfl, n, rfl⟩) (pit_new (tk := s₁.toks) k g g₁ lr₁ x (fun A hh => iter_list hh ei hb) .nil ⟨_, Heap.get?_push_size _ rfl, rfl, rfl⟩ (g₁.listLen e) q)
    · cases hs
  · rename_i vs
    cases hs
    have r' := r
    cases r with
    | @tup a n items _ L hl hb' hr hn =>
    exact wpAny_pyIter_tuple (⟨_, L, rfl, n, rfl⟩) (pit_new (tk := s₁.toks) k g g₁ lr₁ x (fun A hh => iter_tup (a := a) hh hb) (.cons r' .nil) ⟨_, Heap.get?_push_size _ rfl, rfl, rfl⟩ hb' q)
  · cases hs

theorem okIt_range {e : Expr} {ce : CE} {x : Str} {np pos : Pos} (kw : WdOk W) (k : CxOk W c) (hx : c.env.kindOf x = some .globalImplicit) (hd : (x == ("__debug__" : Str)) = false) (hg : W.glob.lookup x = some (.bi "range")) (hpl : plainE e) (o : OkE W C c sc names e ce) :
    OkIt W C c sc names tgt (.Call (.Name x np) [e] [] pos) (.range ce) := by
  intro l hp σ s Q E g lr hw
  simp only [wpIt] at hw
  refine wpAny_Call_ofName (globName (v := .type "range") kw k g hx hd hg rfl ?_)
  have hst : backTo pos (starEach [e] c.env) = (false, eval e c.env) :: [] := by rw [starEach_cons hpl]; rfl
  show wpAny _ _ (callWith pos _ [] (backTo pos (starEach [e] c.env)) []) _ _ _
  rw [hst]
  refine callWith_of (P := fun _ => True) (by rfl) mach_type ?_
  refine Calls.evalArgs_plain (Calls.spliced_cons ?_)
  refine wpAny_mono (o l hp σ s _ E g lr hw) (fun v s₁ p => ?_) fun _ _ x => x
  obtain ⟨u, hp₁, σ₁, r, g₁, y, q⟩ := p
  refine Calls.spliced_nil ⟨trivial, ?_⟩
  split at q
  · rename_i n
    obtain ⟨h1, h2, q⟩ := q
    cases r
    rename_i t
    refine call_range_1 ?_
    have kp : ∀ b ob, s₁.heap.get? b = some ob → (s₁.heap.push { cls := .type "range", data := .fields #[.int 0 s₁.toks, .int n t, .int 1 (s₁.toks + 1)] }).get? b = some ob := fun _ _ e => Heap.get?_push_of_some _ e
    have g₂ := g₁.keeps kp
    have y₂ : Ev c.fr σ₁ σ₁ s₁ { s₁ with heap := s₁.heap.push { cls := .type "range", data := .fields #[.int 0 s₁.toks, .int n t, .int 1 (s₁.toks + 1)] }, toks := s₁.toks + 1 + 1 } := ev_keeps g₁ kp
    refine wpAny_pyIter_range (IsRange.new ..) (small_one (by omega) (by omega) (by omega) (by omega)) ?_
    refine pit_new (s₁ := { s₁ with heap := s₁.heap.push { cls := .type "range", data := .fields #[.int 0 s₁.toks, .int n t, .int 1 (s₁.toks + 1)] }, toks := s₁.toks + 1 + 1 }) k g g₂ ((lr.ev k g g₁ y).ev k g₁ g₂ y₂) (y.trans y₂) (fun A hh => iter_range (n := n.toNat) hh (g₂.bnone (fresh_size _))) .nil ?_ (by simp [sizeLine]; omega) q
    have e1 : Builtin.Range.rangeSize 0 n 1 = ((n.toNat : Nat) : Int) - ((0 : Nat) : Int) := by rw [rangeSize_one]; split <;> omega
    rw [e1]
    exact Heap.get?_push_size _ rfl
  · exact q.elim

end
end Mine

end

section
set_option maxRecDepth 10000
namespace Mine
open PySem PyProof.Rows PySem.SeqAt PySem.W

inductive PTr (W : Wd) (fr : List Addr) (σ : List Addr) (s : Shared) (Q : Bool → Hp → Prop) (b : Bool) (s' : Shared) : Prop
  | mk (hp' : Hp) (σ' : List Addr) : Gd W fr s'.heap σ' hp' → Ev fr σ σ' s s' → Q b hp' → PTr W fr σ s Q b s'
noncomputable abbrev PT (W : Wd) (c : Cx) (σ : List Addr) (s : Shared) (Q : Bool → Hp → Prop) (b : Bool) (s' : Shared) : Prop := PTr W c.fr σ s Q b s'
noncomputable def asB (Q : Bool → Hp → Prop) (v : V) (h : Hp) : Prop := match v with | .bool b => Q b h | _ => False

noncomputable def OkT (W : Wd) (C : Calls) (c : Cx) (sc : Scope) (names : Names) (e : Expr) (ce : CE) : Prop :=
  ∀ l hp σ s (Q : Bool → Hp → Prop) E, Gd W c.fr s.heap σ hp → LR W c sc names l σ s.heap → wpE W.G C ce l hp (asB Q) E →
    wpAny (model W.prog W.w) c.A (isTrue e c.env (eval e c.env)) (PT W c σ s Q) (EE W c σ s E) s

section
variable {W : Wd} {C : Calls} {c : Cx} {sc : Scope} {names : Names} {σ : List Addr} {hp : Hp} {s : Shared} {l : Loc} {E' : Value → Shared → Prop} {A : Around} {tgt : Expr}

theorem PT.from {σ₁ : List Addr} {s₁ s' : Shared} {Q : Bool → Hp → Prop} {b : Bool} (x : Ev c.fr σ σ₁ s s₁) (p : PT W c σ₁ s₁ Q b s') : PT W c σ s Q b s' := by
  obtain ⟨hp', σ', g, y, q⟩ := p
  exact ⟨hp', σ', g, x.trans y, q⟩

theorem truthy_of {v : Value} {s₁ : Shared} {Q : Bool → Hp → Prop} (p : PE W c σ s (asB Q) v s₁) : wpAny (model W.prog W.w) A (truthy v) (PT W c σ s Q) E' s₁ := by
  obtain ⟨u, hp₁, σ₁, r, g₁, x, q⟩ := p
  unfold asB at q
  split at q
  · cases r; exact wpAny_truthy_bool ⟨hp₁, σ₁, g₁, x, q⟩
  · exact q.elim

noncomputable def plainT : Expr → Bool
  | .UnaryOp .. | .BoolOp .. | .IfExp .. | .Compare .. => false
  | _ => true

theorem okT_plain {e : Expr} {ce : CE} (hp : plainT e = true) (o : OkE W C c sc names e ce) : OkT W C c sc names e ce := by
  intro l hp' σ s Q E g lr hw
  refine isTrue_plain (wpAny_mono (o l hp' σ s _ E g lr hw) (fun v s₁ p => truthy_of p) fun _ _ x => x) ?_
  cases e <;> first | rfl | (simp [plainT] at hp)

theorem okT_not {a : Expr} {ca : CE} {pos : Pos} (oa : OkT W C c sc names a ca) : OkT W C c sc names (.UnaryOp .Not a pos) (.not ca) := by
  intro l hp σ s Q E g lr hw
  simp only [wpE] at hw
  refine isTrue_not (wpAny_mono (oa l hp σ s (fun b h => Q (!b) h) E g lr ?_) (fun b s' p => (let ⟨hp', σ', a1, a2, a3⟩ := p; ⟨hp', σ', a1, a2, a3⟩)) fun _ _ z => z)
  refine cast (congrArg (fun Z => wpE W.G C ca l hp Z E) (funext fun v => funext fun h => ?_)) hw
  cases v <;> rfl

theorem okT_cmp1 {a b : Expr} {ca cb : CE} {op : CmpOp} {kk : CmpK} {pos : Pos} (kw : WdOk W) (k : CxOk W c) (hk : cmpK op = some kk) (hm : behindInMarks op b = false) (oa : OkE W C c sc names a ca) (ob : OkE W C c sc names b cb) : OkT W C c sc names (.Compare a [op] [b] pos) (.cmp kk ca cb) := by
  intro l hp σ s Q E g lr hw
  simp only [wpE] at hw
  refine wpAny_isTrue_Compare1 ?_ hm
  refine wpAny_mono (oa l hp σ s _ E g lr hw) (fun va s₁ p => ?_) fun _ _ x => x
  obtain ⟨ua, hp₁, σ₁, ra, g₁, x, q⟩ := p
  refine wpAny_mono (ob l hp₁ σ₁ s₁ _ E g₁ (lr.ev k g g₁ x) q) (fun vb s₂ p => ?_) fun _ _ z => z.from g g₁ x
  obtain ⟨ub, hp₂, σ₂, rb, g₂, y, q⟩ := p
  exact wpAny_mono (okCmp (E := fun _ _ => False) kw hk g₂ (ra.mono g₁ y) rb (by have := k.units; omega) q) (fun _ _ p => truthy_of (p.from (x.trans y))) fun _ _ z => z.elim

inductive OkTs (W : Wd) (C : Calls) (c : Cx) (sc : Scope) (names : Names) : List Expr → List CE → Prop
  | nil : OkTs W C c sc names [] []
  | cons {e : Expr} {ce : CE} {es : List Expr} {ces : List CE} : OkT W C c sc names e ce → OkTs W C c sc names es ces → OkTs W C c sc names (e :: es) (ce :: ces)

theorem okT_all {op : BoolOp} (k : CxOk W c) : ∀ {es : List Expr} {x : CE} {ces : List CE}, OkTs W C c sc names es (x :: ces) → ∀ {l hp σ s Q E}, Gd W c.fr s.heap σ hp → LR W c sc names l σ s.heap → wpE W.G C (foldB op x ces) l hp (asB Q) E →
    wpAny (model W.prog W.w) c.A (allTrue op es c.env) (PT W c σ s Q) (EE W c σ s E) s := by
  intro es x ces o
  induction ces generalizing es x with
  | nil =>
    intro l hp σ s Q E g lr hw
    cases o with
    | @cons e _ _ _ oe r =>
      cases r with
      | nil =>
        simp only [foldB] at hw
        have hb : allTrue op [e] c.env = (do match op, ← isTrue e c.env (eval e c.env) with
            | .And, false => pure false
            | .Or, true => pure true
            | _, _ => pure (op == .And)) := rfl
        rw [hb]
        refine wpAny_bind (wpAny_mono (oe l hp σ s Q E g lr hw) (fun b s₁ p => ?_) fun _ _ x => x)
        cases op <;> cases b <;> exact wpAny_pure p
  | cons y ces ih =>
    intro l hp σ s Q E g lr hw
    cases o with
    | @cons e _ es _ oe r =>
      have hb : allTrue op (e :: es) c.env = (do match op, ← isTrue e c.env (eval e c.env) with
            | .And, false => pure false
            | .Or, true => pure true
            | _, _ => allTrue op es c.env) := rfl
      rw [hb]
      cases op with
      | And =>
        simp only [foldB, wpE] at hw
        refine wpAny_bind (wpAny_mono (oe l hp σ s (fun b h => if b then wpE W.G C (foldB .And y ces) l h (asB Q) E else Q false h) E g lr ?_) (fun b s₁ p => ?_) fun _ _ x => x)
        · refine cast (congrArg (fun Z => wpE W.G C x l hp Z E) (funext fun v => funext fun h => ?_)) hw
          cases v <;> first | rfl | (rename_i b; cases b <;> rfl)
        · obtain ⟨hp₁, σ₁, g₁, x, q⟩ := p
          cases b with
          | true => exact wpAny_mono (ih r g₁ (lr.ev k g g₁ x) q) (fun _ _ p => p.from x) fun _ _ z => z.from g g₁ x
          | false => exact wpAny_pure ⟨hp₁, σ₁, g₁, x, q⟩
      | Or =>
        simp only [foldB, wpE] at hw
        refine wpAny_bind (wpAny_mono (oe l hp σ s (fun b h => if b then Q true h else wpE W.G C (foldB .Or y ces) l h (asB Q) E) E g lr ?_) (fun b s₁ p => ?_) fun _ _ x => x)
        · refine cast (congrArg (fun Z => wpE W.G C x l hp Z E) (funext fun v => funext fun h => ?_)) hw
          cases v <;> first | rfl | (rename_i b; cases b <;> rfl)
        · obtain ⟨hp₁, σ₁, g₁, x, q⟩ := p
          cases b with
          | false => exact wpAny_mono (ih r g₁ (lr.ev k g g₁ x) q) (fun _ _ p => p.from x) fun _ _ z => z.from g g₁ x
          | true => exact wpAny_pure ⟨hp₁, σ₁, g₁, x, q⟩
end
end Mine

end

section
set_option maxRecDepth 10000
namespace Mine
open PySem PyProof.Rows PySem.SeqAt PySem.W

noncomputable def Soft (h : Heap) (a : Addr) : Prop := ∃ o, h.get? a = some o ∧ ((∃ es n, o.data = .dict es n) ∨ ∃ v, o.data = .cell v)
noncomputable def Cx.own (c : Cx) : List Addr := c.env.locals :: c.env.cells.map (·.2)

structure EvX (fr X σ σ' : List Addr) (s s' : Shared) : Prop where
  pre : ∃ t, σ' = σ ++ t ∧ ∀ a ∈ t, s.heap.get? a = none
  nd : σ'.Nodup
  kp : Kp fr (σ ++ X) s.heap s'.heap
  kx : ∀ a ∈ X, ∀ o, s.heap.get? a = some o → ∃ o', s'.heap.get? a = some o'
  gens : s'.gens = s.gens
  os : s'.os = s.os

section
variable {W : Wd} {C : Calls} {c : Cx} {sc : Scope} {names : Names} {σ σ' : List Addr} {hp hp' : Hp} {s s' : Shared} {l : Loc} {E' : Value → Shared → Prop} {A : Around} {tgt : Expr} {h h' : Heap} {fr X : List Addr}

theorem Ev.x (x : Ev fr σ σ' s s') (hX : ∀ a ∈ X, a ∉ σ) : EvX fr X σ σ' s s' :=
  ⟨x.pre, x.nd, x.kp.mono fun _ hb => List.mem_append_left _ hb, fun a ha o e => let ⟨sl, e'⟩ := x.kp.at e (hX a ha); ⟨_, e'⟩, x.gens, x.os⟩

theorem EvX.trans {σ₂ : List Addr} {s₂ : Shared} (x : EvX fr X σ σ' s s') (y : EvX fr X σ' σ₂ s' s₂) : EvX fr X σ σ₂ s s₂ := by
  obtain ⟨⟨t, rfl, ht⟩, _, k, kx, g, o⟩ := x
  obtain ⟨⟨t', rfl, ht'⟩, nd, k', kx', g', o'⟩ := y
  refine ⟨⟨t ++ t', by simp, fun a ha => ?_⟩, nd, fun b ob e hb => ?_, fun a ha ob e => ?_, g'.trans g, o'.trans o⟩
  · rcases List.mem_append.mp ha with q | q
    · exact ht a q
    · cases e : s.heap.get? a with
      | none => rfl
      | some ob =>
        have hs : a ∉ σ := fun hs => (List.nodup_append.mp nd).2.2 a (List.mem_append_left _ hs) a q rfl
        by_cases hx : a ∈ X
        · obtain ⟨o1, e1⟩ := kx a hx ob e
          rw [ht' a q] at e1; cases e1
        · obtain ⟨sl, q'⟩ := k.at e (fun z => (List.mem_append.mp z).elim hs hx)
          rw [ht' a q] at q'; cases q'
  · have hb1 : b ∉ σ := fun z => hb (List.mem_append_left _ z)
    have hb2 : b ∉ X := fun z => hb (List.mem_append_right _ z)
    have hb' : b ∉ (σ ++ t) ++ X := fun z => by
      rcases List.mem_append.mp z with z | z
      · rcases List.mem_append.mp z with z | z
        · exact hb1 z
        · rw [ht b z] at e; cases e
      · exact hb2 z
    rcases k b ob e hb with q | ⟨hf, sl, q⟩
    · exact k' b ob q hb'
    · rcases k' b _ q hb' with q' | ⟨_, sl', q'⟩
      · exact .inr ⟨hf, sl, q'⟩
      · exact .inr ⟨hf, sl', q'⟩
  · obtain ⟨o1, e1⟩ := kx a ha ob e
    exact kx' a ha o1 e1

theorem EvX.ko {own : List Addr} {s₁ s₂ : Shared} (x : EvX fr X σ σ' s s₁) (hf : ∀ a ∈ own, s.heap.get? a = none) (k : ∀ b o, b ∉ own → s₁.heap.get? b = some o → s₂.heap.get? b = some o) (h1 : s₂.gens = s₁.gens) (h2 : s₂.os = s₁.os) : EvX fr X σ σ' s s₂ := by
  refine ⟨x.pre, x.nd, fun b o e hb => ?_, fun a ha o e => ?_, h1.trans x.gens, h2.trans x.os⟩
  · have hb' : b ∉ own := fun q => by rw [hf b q] at e; cases e
    rcases x.kp b o e hb with q | ⟨q, sl, q'⟩
    · exact .inl (k _ _ hb' q)
    · exact .inr ⟨q, sl, k _ _ hb' q'⟩
  · have hb' : a ∉ own := fun q => by rw [hf a q] at e; cases e
    obtain ⟨o', e'⟩ := x.kx a ha o e
    exact ⟨o', k _ _ hb' e'⟩

theorem soft_not {a : Addr} {o : Obj} (hs : Soft h a) (e : h.get? a = some o) : (∀ x n, o.data ≠ .seq x n) ∧ (∀ vs, o.data ≠ .fields vs) ∧ o.data ≠ .plain := by
  obtain ⟨o', e', hd⟩ := hs
  rw [e] at e'; cases e'
  rcases hd with ⟨es, n, hd⟩ | ⟨v, hd⟩ <;> rw [hd] <;> simp

theorem VR.monoX (g : Gd W fr h σ hp) (hpre : ∃ t, σ' = σ ++ t) (hX : ∀ a ∈ X, Soft h a) (k : Kp fr (σ ++ X) h h') {v : Value} {u : V} (r : VR W h σ v u) : VR W h' σ' v u := by
  have nin : ∀ {a : Addr} {o : Obj}, h.get? a = some o → o.cls ≠ .type "list" → o.cls ≠ .type "dict" → ((∃ x n, o.data = .seq x n) ∨ (∃ vs, o.data = .fields vs) ∨ o.data = .plain) → a ∉ σ ++ X := fun e h1 h2 h3 q => by
    rcases List.mem_append.mp q with q | q
    · exact g.notTup e h1 h2 q
    · obtain ⟨n1, n2, n3⟩ := soft_not (hX _ q) e
      rcases h3 with ⟨x, n, h3⟩ | ⟨vs, h3⟩ | h3
      · exact n1 _ _ h3
      · exact n2 _ h3
      · exact n3 h3
  induction r with
  | none => exact .none
  | bool => exact .bool
  | int => exact .int
  | str => exact .str
  | tup e hl hb _ hh ih =>
    refine .tup (k.exact e (nin e (show Value.type "tuple" ≠ Value.type "list" by decide) (show Value.type "tuple" ≠ Value.type "dict" by decide) (.inl ⟨_, _, rfl⟩)) fun q => ?_) hl hb ih hh
    obtain ⟨_, o, es, n, e', hd⟩ := g.frs _ q
    rw [e] at e'; cases e'; cases hd
  | ref e => exact .ref (pre_get hpre e)
  | inst e0 e hc hdi hd hi =>
    obtain ⟨sl, e'⟩ := k.at e (nin e (by rw [hc]; intro z; cases z) (by rw [hc]; intro z; cases z) (.inr (.inr hd)))
    exact .inst e0 e' hc hdi hd (pre_get hpre hi)
  | scr => exact .scr
  | exc e hc hd =>
    obtain ⟨sl, e'⟩ := k.at e (nin e (by rw [hc]; intro z; cases z) (by rw [hc]; intro z; cases z) (.inr (.inl ⟨_, hd⟩)))
    exact .exc e' hc hd

theorem LR.own_soft (lr : LR W c sc names l σ h) : ∀ a ∈ c.own, Soft h a := fun a ha => by
  unfold Cx.own at ha
  rcases List.mem_cons.mp ha with rfl | ha
  · obtain ⟨m, o, es, n, e, hd, _⟩ := lr.ns
    exact ⟨o, e, .inl ⟨es, n, hd⟩⟩
  · obtain ⟨p, hp, rfl⟩ := List.mem_map.mp ha
    obtain ⟨_, v, o, e, hd⟩ := lr.cel p hp
    exact ⟨o, e, .inr ⟨v, hd⟩⟩
theorem LR.own_not (lr : LR W c sc names l σ h) (g : Gd W fr h σ hp) : ∀ a ∈ c.own, a ∉ σ := fun a ha => by
  unfold Cx.own at ha
  rcases List.mem_cons.mp ha with rfl | ha
  · exact lr.nl
  · obtain ⟨p, hp, rfl⟩ := List.mem_map.mp ha
    obtain ⟨_, v, hc⟩ := lr.cel p hp
    exact cell_notin g hc
theorem LR.own_b (lr : LR W c sc names l σ h) : ∀ a ∈ c.own, W.B.get? a = none := fun a ha => by
  unfold Cx.own at ha
  rcases List.mem_cons.mp ha with rfl | ha
  · exact lr.lb
  · obtain ⟨p, hp, rfl⟩ := List.mem_map.mp ha
    exact (lr.cel p hp).1

theorem Gd.put {a : Addr} (g : Gd W fr h σ hp) (ha : a ∉ σ) (hs : Soft h a) (hb : W.B.get? a = none) (k : ∀ b o, b ≠ a → h.get? b = some o → h'.get? b = some o) (hd : a ∈ fr → ∃ o es n, h'.get? a = some o ∧ o.data = .dict es n) : Gd W fr h' σ hp := by
  have kp : Kp fr (σ ++ [a]) h h' := fun b o e hb => .inl (k b o (fun q => hb (by simp [q])) e)
  have mv : ∀ v u, VR W h σ v u → VR W h' σ v u := fun v u r => r.monoX g ⟨[], by simp⟩ (fun b hb => by simp at hb; subst hb; exact hs) kp
  refine ⟨fun b o e => k b o (fun q => ?_) (g.base b o e), g.len, g.nd, fun i b o e1 e2 => (g.objs i b o e1 e2).keep (fun ob e => k _ _ (fun q => ha (q ▸ mem_of_get? e1)) e) mv, g.bfree, fun b hb' => ?_, fun b hb => ?_⟩
  · rw [q, hb] at e; cases e
  · obtain ⟨h1, o, es, n, e, hd'⟩ := g.frs b hb'
    refine ⟨h1, ?_⟩
    by_cases q : b = a
    · subst q; exact hd hb'
    · exact ⟨o, es, n, k _ _ q e, hd'⟩
  · obtain ⟨x, n, e⟩ := g.hid b hb
    refine ⟨x, n, k _ _ (fun q => ?_) e⟩
    subst q
    exact (soft_not hs e).1 _ _ rfl

theorem lget_lset_self : ∀ {l : Loc} {i : Nat} {v : Option V}, i < l.length → lget (lset l i v) i = v
  | [], _, _, h => absurd h (by simp)
  | _ :: _, 0, _, _ => rfl
  | _ :: r, n + 1, v, h => by simp only [lset, lget]; exact lget_lset_self (by simpa using h)
theorem lget_lset_ne : ∀ {l : Loc} {i j : Nat} {v : Option V}, i ≠ j → lget (lset l i v) j = lget l j
  | [], _, _, _, _ => rfl
  | _ :: _, 0, 0, _, h => absurd rfl h
  | _ :: _, 0, _ + 1, _, _ => rfl
  | _ :: _, _ + 1, 0, _, _ => rfl
  | _ :: r, n + 1, m + 1, v, h => by simp only [lset, lget]; exact lget_lset_ne (by omega)
theorem length_lset : ∀ {l : Loc} {i : Nat} {v : Option V}, (lset l i v).length = l.length
  | [], _, _ => rfl
  | _ :: _, 0, _ => rfl
  | _ :: r, n + 1, v => by simp only [lset, List.length_cons]; rw [length_lset]

structure NmOk (c : Cx) (sc : Scope) (names : Names) (X : List Addr) (x : Str) (i : Nat) : Prop where
  kind : (c.env.kindOf x = some .local ∧ c.env.locals ∈ X) ∨ (c.env.kindOf x = some .cell ∧ ∃ ca, c.env.cells.lookup x = some ca ∧ ca ∈ X)
  sub : ∀ a ∈ X, a ∈ c.own
  at_ : names.lookup x = some i
  lt : i < names.length
  inj : ∀ y, isVar sc y = true → names.lookup y = some i → y = x
  cinj : c.env.kindOf x = some .cell → ∀ y ca, c.env.cells.lookup x = some ca → c.env.cells.lookup y = some ca → y = x

theorem mem_of_lookup {α β : Type} [BEq α] [LawfulBEq α] : ∀ {l : List (α × β)} {x : α} {b : β}, l.lookup x = some b → (x, b) ∈ l
  | [], _, _, h => by simp at h
  | (y, b') :: r, x, b, h => by
    rw [List.lookup_cons] at h
    cases hx : x == y with
    | true => rw [hx] at h; simp at h; have := eq_of_beq hx; subst this; subst h; exact List.mem_cons_self
    | false => rw [hx] at h; exact List.mem_cons_of_mem _ (mem_of_lookup h)

theorem ns_unique {a : Addr} {m m' : Str → Option Value} (x : h.Ns a m) (y : h.Ns a m') : m = m' := by
  obtain ⟨o, es, ep, e, hd, _, hf⟩ := x
  obtain ⟨o', es', ep', e', hd', _, hf'⟩ := y
  rw [e] at e'; cases e'
  rw [hd] at hd'; cases hd'
  funext n
  rw [← hf n, ← hf' n]

theorem okStore {x : Str} {i : Nat} {v : Value} {u : V} (k : CxOk W c) (n : NmOk c sc names X x i) (g : Gd W c.fr s.heap σ hp) (lr : LR W c sc names l σ s.heap) (rv : VR W s.heap σ v u) :
    wpAny (model W.prog W.w) A (storeName c.env x v) (fun _ s' => Gd W c.fr s'.heap σ hp ∧ LR W c sc names (lset l i (some u)) σ s'.heap ∧ EvX c.fr X σ σ s s') E' s := by
  obtain ⟨m, hn⟩ := lr.ns
  have core : ∀ (a : Addr) (h' : Heap) (tk : Nat), a ∈ X → Heap.SameBut a s.heap h' → (a ∈ c.fr → ∃ o es n, h'.get? a = some o ∧ o.data = .dict es n) → (∃ m, h'.Ns c.L m) → (∃ m, h'.Ns c.env.locals m) → (∀ p ∈ c.env.cells, ∃ v, h'.IsCell p.2 v) →
      Rd c.env h' x v → (∀ y w, y ≠ x → Rd c.env s.heap y w → Rd c.env h' y w) → Soft h' a →
      Gd W c.fr h' σ hp ∧ LR W c sc names (lset l i (some u)) σ h' ∧ EvX c.fr X σ σ s { s with heap := h', toks := tk } := by
    intro a h' tk haX sb hfr hL hl hc hx hy hsf
    have ha := n.sub a haX
    have ks : ∀ b o, b ≠ a → s.heap.get? b = some o → h'.get? b = some o := fun b o hb e => sb.extBut b o hb e
    have g' := g.put (lr.own_not g a ha) (lr.own_soft a ha) (lr.own_b a ha) ks hfr
    have kp : Kp c.fr (σ ++ X) s.heap h' := fun b o e hb => .inl (ks b o (fun q => hb (List.mem_append_right _ (q ▸ haX))) e)
    have mv : ∀ v u, VR W s.heap σ v u → VR W h' σ v u := fun v u r => r.monoX g ⟨[], by simp⟩ (fun b hb => lr.own_soft b (n.sub b hb)) kp
    obtain ⟨mL, hL⟩ := hL
    obtain ⟨m0, F⟩ := lr.frm
    refine ⟨g', ⟨⟨mL, hL, g'.base, F.above⟩, ?_, lr.nl, hl, fun y j w h1 h2 h3 => ?_, by rw [length_lset]; exact lr.len, lr.lb, fun p hp => ⟨(lr.cel p hp).1, hc p hp⟩⟩, ⟨⟨[], by simp, by simp⟩, g.nd, kp, fun b hb o e => ?_, rfl, rfl⟩⟩
    · have : ∀ {l : List Env}, (∀ b ∈ l.filterMap (·.frame), b ∈ c.fr) → s.heap.FunFrames W.B l → h'.FunFrames W.B l := by
        intro l
        induction l with
        | nil => exact fun _ _ => trivial
        | cons env l ih =>
          intro hm ⟨h1, ⟨L, o, hf, hn, hob, hd⟩, hr⟩
          refine ⟨h1, ?_, ih (fun b hb => hm b (by rw [List.filterMap_cons_some hf]; exact List.mem_cons_of_mem _ hb)) hr⟩
          by_cases q : L = a
          · subst q
            obtain ⟨o', es, n, e', hd'⟩ := hfr (hm L (by rw [List.filterMap_cons_some hf]; exact List.mem_cons_self))
            exact ⟨L, o', hf, hn, e', fun vs => by rw [hd']; simp⟩
          · exact ⟨L, o, hf, hn, ks _ _ q hob, hd⟩
      exact this (fun b hb => mem_fr k.frame hb) lr.ff
    · by_cases hyx : y = x
      · subst hyx
        have hji : j = i := by
          have := n.at_
          rw [h2] at this; exact Option.some.inj this
        subst hji
        rw [lget_lset_self (by rw [lr.len]; exact n.lt)] at h3
        cases h3
        exact ⟨v, mv _ _ rv, hx⟩
      · have hij : i ≠ j := fun q => hyx (n.inj y h1 (q ▸ h2))
        rw [lget_lset_ne hij] at h3
        obtain ⟨w', rw', hr⟩ := lr.rd y j w h1 h2 h3
        exact ⟨w', mv _ _ rw', hy y w' hyx hr⟩
    · by_cases q : b = a
      · subst q; obtain ⟨o', e', _⟩ := hsf; exact ⟨o', e'⟩
      · exact ⟨o, ks _ _ q e⟩
  rcases n.kind with ⟨hk, hmem⟩ | ⟨hk, ca, hca, hmem'⟩
  · refine wpAny_storeName_local hk hn (fun h' hn' sb => core c.env.locals h' _ hmem sb ?_ ?_ ⟨_, hn'⟩ ?_ (.inl ⟨hk, _, hn', by simp⟩) ?_ ?_) ?_
    · intro _; obtain ⟨o, es, n, e, hd, _⟩ := hn'; exact ⟨o, es, n, e, hd⟩
    · obtain ⟨m0, F⟩ := lr.frm
      by_cases q : c.L = c.env.locals
      · rw [q]; exact ⟨_, hn'⟩
      · exact ⟨m0, F.ns.sameBut sb q⟩
    · intro p hp
      obtain ⟨_, w, o, e, hd⟩ := lr.cel p hp
      refine ⟨w, o, sb.extBut _ _ (fun q => ?_) e, hd⟩
      obtain ⟨o', es, n, e', hd', _⟩ := hn
      rw [← q, e] at e'; cases e'; rw [hd] at hd'; cases hd'
    · intro y w hy hr
      rcases hr with ⟨h1, m1, hn1, hm1⟩ | ⟨h1, cb, h2, o, e, hd⟩
      · refine .inl ⟨h1, _, hn', ?_⟩
        rw [if_neg hy]
        rw [← ns_unique hn1 hn]; exact hm1
      · refine .inr ⟨h1, cb, h2, o, sb.extBut _ _ (fun q => ?_) e, hd⟩
        obtain ⟨o', es, n, e', hd', _⟩ := hn
        rw [← q, e] at e'; cases e'; rw [hd] at hd'; cases hd'
    · obtain ⟨o, es, n, e, hd, _⟩ := hn'; exact ⟨o, e, .inl ⟨es, n, hd⟩⟩
    · rw [k.kind]; rfl
  · have hm : (x, ca) ∈ c.env.cells := mem_of_lookup hca
    obtain ⟨_, v0, hv0⟩ := lr.cel _ hm
    have hne : ∀ {a mm}, s.heap.Ns a mm → a ≠ ca := fun hn q => by
      obtain ⟨o', es, n, e', hd', _⟩ := hn
      obtain ⟨o, e, hd⟩ := hv0
      rw [q, e] at e'; cases e'; rw [hd] at hd'; cases hd'
    refine wpAny_storeName_cell k.kind hk hca hv0 fun h' hv' sb => ?_
    refine core ca h' s.toks hmem' sb ?_ ?_ ⟨_, hn.sameBut sb (hne hn)⟩ ?_ (.inr ⟨.inl hk, ca, hca, hv'⟩) ?_ ?_
    · intro hf
      obtain ⟨_, o, es, n, e, hd⟩ := g.frs ca hf
      obtain ⟨o', e', hd'⟩ := hv0
      rw [e] at e'; cases e'; rw [hd] at hd'; cases hd'
    · obtain ⟨m0, F⟩ := lr.frm
      exact ⟨m0, F.ns.sameBut sb (hne F.ns)⟩
    · intro p hp
      by_cases q : p.2 = ca
      · rw [q]; exact ⟨_, hv'⟩
      · obtain ⟨_, w, o, e, hd⟩ := lr.cel p hp
        exact ⟨w, o, sb.extBut _ _ q e, hd⟩
    · intro y w hy hr
      rcases hr with ⟨h1, m1, hn1, hm1⟩ | ⟨h1, cb, h2, o, e, hd⟩
      · exact .inl ⟨h1, _, hn1.sameBut sb (hne hn1), hm1⟩
      · refine .inr ⟨h1, cb, h2, o, sb.extBut _ _ (fun q => ?_) e, hd⟩
        subst q
        exact hy (n.cinj hk y _ hca h2)
    · obtain ⟨o, e, hd⟩ := hv'; exact ⟨o, e, .inr ⟨_, hd⟩⟩
end
end Mine

end

section
set_option maxRecDepth 10000
namespace Mine
open PySem PyProof.Rows PySem.SeqAt PySem.W

inductive NmsOk (c : Cx) (sc : Scope) (names : Names) (X : List Addr) : List Expr → List Nat → Prop
  | nil : NmsOk c sc names X [] []
  | cons {x : Str} {p : Pos} {i : Nat} {es : List Expr} {is : List Nat} : NmOk c sc names X x i → NmsOk c sc names X es is → NmsOk c sc names X (.Name x p :: es) (i :: is)

inductive TgtOk (c : Cx) (sc : Scope) (names : Names) (X : List Addr) : Expr → Tgt → Prop
  | name {x : Str} {p : Pos} {i : Nat} : NmOk c sc names X x i → TgtOk c sc names X (.Name x p) (.name i)
  | tup {es : List Expr} {is : List Nat} {k : Nat} {p : Pos} : NmsOk c sc names X es is → TgtOk c sc names X (.Tuple es k p) (.tup is)

section
variable {W : Wd} {C : Calls} {c : Cx} {sc : Scope} {names : Names} {σ σ' : List Addr} {hp hp' : Hp} {s s' : Shared} {l l' : Loc} {E' : Value → Shared → Prop} {A : Around} {tgt : Expr} {h h' : Heap} {fr X : List Addr}

noncomputable def PA (W : Wd) (c : Cx) (sc : Scope) (names : Names) (X : List Addr) (l : Loc) (σ : List Addr) (hp : Hp) (s s' : Shared) : Prop :=
  Gd W c.fr s'.heap σ hp ∧ LR W c sc names l σ s'.heap ∧ EvX c.fr X σ σ s s'

theorem okInOrder (k : CxOk W c) (hX : ∀ a ∈ X, a ∈ c.own) {es : List Expr} {is : List Nat} (n : NmsOk c sc names X es is) : ∀ {items : List Value} {vs : List V} {l : Loc} {s : Shared}, Gd W c.fr s.heap σ hp → LR W c sc names l σ s.heap → VRs W s.heap σ items vs → bindAll is vs l = some l' →
    wpAny (model W.prog W.w) A (assignInOrder ((assignEach es c.env).map (·.2)) items) (fun _ s' => PA W c sc names X l' σ hp s s') E' s := by
  induction n with
  | nil =>
    intro items vs l s g lr rs hb
    cases vs with
    | nil =>
      cases hb
      have : items = [] := vrs_none rs
      subst this
      exact wpAny_pure ⟨g, lr, (ev_keeps g fun _ _ e => e : Ev c.fr σ σ s s).x fun a ha => lr.own_not g a (hX a ha)⟩
    | cons v vs => cases hb
  | @cons x p i es is hn _ ih =>
    intro items vs l s g lr rs hb
    cases vs with
    | nil => cases hb
    | cons u vs =>
      cases items with
      | nil => have := rs.1; simp at this
      | cons v items =>
        simp only [bindAll] at hb
        have rv : VR W s.heap σ v u := rs.2 0 v u rfl rfl
        show wpAny _ _ (do holding items (assign (.Name x p) c.env v); assignInOrder ((assignEach es c.env).map (·.2)) items) _ _ _
        refine wpAny_bind (wpAny_holding (wpAny_assign_Name (wpAny_mono (okStore (E' := fun _ _ => False) k hn g lr rv) (fun _ s₁ p => ?_) fun _ _ z => z.elim)))
        obtain ⟨g₁, lr₁, x₁⟩ := p
        have rs₁ : VRs W s₁.heap σ items vs := ⟨by have := rs.1; simpa using this, fun j v' u' e1 e2 => (rs.2 (j + 1) v' u' (by simpa using e1) (by simpa using e2)).monoX g ⟨[], by simp⟩ (fun b hb => lr.own_soft b (hX b hb)) x₁.kp⟩
        exact wpAny_mono (ih g₁ lr₁ rs₁ hb) (fun _ s₂ p => ⟨p.1, p.2.1, x₁.trans p.2.2⟩) fun _ _ z => z

theorem NmsOk.len {es : List Expr} {is : List Nat} (n : NmsOk c sc names X es is) : es.length = is.length := by
  induction n with
  | nil => rfl
  | cons _ _ ih => simp [ih]
theorem NmsOk.each {es : List Expr} {is : List Nat} (n : NmsOk c sc names X es is) : (assignEach es c.env).length = es.length ∧ (assignEach es c.env).findIdx? (·.1) = none := by
  induction n with
  | nil => exact ⟨rfl, rfl⟩
  | @cons x p i es is hn _ ih =>
    have : assignEach (.Name x p :: es) c.env = (false, assign (.Name x p) c.env) :: assignEach es c.env := rfl
    rw [this]
    refine ⟨by simp [ih.1], ?_⟩
    rw [List.findIdx?_cons]
    simp [ih.2]
theorem bindAll_len : ∀ {is : List Nat} {vs : List V} {l l' : Loc}, bindAll is vs l = some l' → is.length = vs.length
  | [], [], _, _, _ => rfl
  | i :: is, v :: vs, l, l', h => by simp only [bindAll] at h; simp [bindAll_len h]
  | [], _ :: _, _, _, h => by simp [bindAll] at h
  | _ :: _, [], _, _, h => by simp [bindAll] at h

theorem okAsg {t : Tgt} {v : Value} {u : V} (k : CxOk W c) (hX : ∀ a ∈ X, a ∈ c.own) (hh : A.handled = none) (ok : TgtOk c sc names X tgt t) (g : Gd W c.fr s.heap σ hp) (lr : LR W c sc names l σ s.heap) (rv : VR W s.heap σ v u) (hb : bindT t u l = some l') :
    wpAny (model W.prog W.w) A (assign tgt c.env v) (fun _ s' => PA W c sc names X l' σ hp s s') E' s := by
  cases ok with
  | name n =>
    simp only [bindT] at hb
    cases hb
    exact wpAny_assign_Name (okStore k n g lr rv)
  | tup n =>
    simp only [bindT] at hb
    split at hb
    · rename_i vs
      cases rv with
      | @tup a m items _ e hl hb' hr hn =>
      refine wpAny_assign_Tuple hh (⟨_, e, rfl, m, rfl⟩) (by rw [n.each.1, n.len, bindAll_len hb, ← hl]; simp) n.each.2 fun h' xb => ?_
      have kp : ∀ b o, s.heap.get? b = some o → h'.get? b = some o := fun b o e => xb b o (Nat.ne_of_lt (Heap.lt_size e)) e
      have g₁ := g.keeps kp
      have y : Ev c.fr σ σ s { s with heap := h' } := ev_keeps g kp
      have lr₁ := lr.ev k g g₁ y
      have rs : VRs W h' σ items vs := (show VRs W s.heap σ items vs from ⟨hl, hr⟩).mono g y
      have := okInOrder (E' := E') (A := A) (s := { s with heap := h' }) k hX n g₁ lr₁ rs hb
      exact wpAny_mono this (fun _ s₂ p => ⟨p.1, p.2.1, (y.x fun a ha => lr.own_not g a (hX a ha)).trans p.2.2⟩) fun _ _ z => z
    · cases hb
end
end Mine

end

section
set_option maxRecDepth 10000
namespace Mine
open PySem PyProof.Rows PySem.SeqAt PySem.W

section
variable {prog : Program} {w : World} {A : Around} {R : Result → Shared → Prop} {s : Shared}

theorem compLoop_any {elt target iter : Expr} {ifs : List Expr} {scope : Scope} {pos : Pos} {it acc : Value} {env : Env} (I : Nat → Shared → Prop)
    (turn : ∀ n s, I n s → wpAny (model prog w) A (pyNext it) (fun r s₁ => match r with
      | none => R (.ok .next) s₁
      | some v => wpAny (model prog w) A (letOwnedTupleGo target it v) (fun _ s₁' => wpAny (model prog w) A (assign target env v) (fun _ s₂ =>
          wpAny (model prog w) A (forIn ifs true fun c r => if r = true then do let ok ← isTrue c env (eval c env); pure (ForInStep.yield ok) else pure (ForInStep.yield r)) (fun ok s₃ =>
            if ok = true then wpAny (model prog w) A (eval elt env) (fun x s₄ =>
              wpAny (model prog w) A (call (.builtin "list.append") [acc, x]) (fun _ s₅ => ∃ m, m < n ∧ I m s₅) (fun _ _ => False) s₄) (fun _ _ => False) s₃
            else ∃ m, m < n ∧ I m s₃) (fun _ _ => False) s₂) (fun _ _ => False) s₁') (fun _ _ => False) s₁) (fun _ _ => False) s)
    (n : Nat) (h : I n s) :
    codeAny (model prog w) A (.compLoop (.ListComp elt [⟨target, iter, ifs, 0⟩] scope pos) 0 it acc env) R s := by
  refine codeAny_loop rfl I (fun n s hI => ?_) n h
  show wpAny _ A ((compTurn (.ListComp elt [⟨target, iter, ifs, 0⟩] scope pos) 0 it acc env).onRaise (fun x => do noteFrame x env; theTreesLotGoes x)) _ _ s
  refine wpAny_noted ?_
  rw [compTurn_list]
  refine wpAny_bind (wpAny_standAt (wpAny_bind (wpAny_mono (turn n s hI) (fun r s₁ h₁ => ?_) fun _ _ h' => h'.elim)))
  cases r with
  | none => exact wpAny_pure h₁
  | some v =>
    refine wpAny_bind (wpAny_mono h₁ (fun _ s₁' h₁' => ?_) fun _ _ h' => h'.elim)
    refine wpAny_bind (wpAny_mono h₁' (fun _ s₂ h₂ => wpAny_bind (wpAny_mono h₂ (fun ok s₃ h₃ => ?_) fun _ _ h' => h'.elim)) fun _ _ h' => h'.elim)
    cases ok with
    | false => exact wpAny_pure ⟨rfl, h₃⟩
    | true =>
      exact wpAny_bind (wpAny_bind (wpAny_mono h₃ (fun x s₄ h₄ => wpAny_bind (wpAny_mono h₄ (fun _ s₅ h₅ => wpAny_pure (wpAny_pure ⟨rfl, h₅⟩)) fun _ _ h' => h'.elim)) fun _ _ h' => h'.elim))
end

noncomputable def Cx.comp (c : Cx) (cs : Scope) (cl : List (Str × Addr)) (D : Addr) : Cx := { c with env := compEnvC cs cl D c.env }

structure CompOk (c : Cx) (sc cs : Scope) (names : Names) (xs : List Str) (cl : List (Str × Addr)) : Prop where
  kind : cs.kind = .function
  loc : ∀ x ∈ xs, cs.names.lookup x = some .local
  var : ∀ x, isVar cs x = true → x ∈ xs ∨ (x ∉ xs ∧ (relabel cs c.env).names.lookup x = some .cell ∧ isVar sc x = true ∧ c.env.kindOf x = some .cell ∧ cl.lookup x = c.env.cells.lookup x)
  clm : ∀ p ∈ cl, p ∈ c.env.cells
  nd : xs.Nodup
  nlt : ∀ x i, names.lookup x = some i → i < names.length
  clos : closureFor cs c.env = pure cl
  nocell : ∀ x ∈ cs.names, x.2 ≠ .cell
  locs : ∀ x ∈ cs.names, x.2 = .local → cs.names.lookup x.1 = some .local

section
variable {W : Wd} {C : Calls} {c : Cx} {sc cs : Scope} {names : Names} {xs : List Str} {cl : List (Str × Addr)} {σ σ' : List Addr} {hp hp' : Hp} {s s' : Shared} {l l' : Loc} {E' : Value → Shared → Prop} {A : Around} {tgt : Expr} {h h' : Heap} {fr X : List Addr} {D : Addr}

theorem CxOk.comp (k : CxOk W c) (hk : cs.kind = .function) : CxOk W (c.comp cs cl D) :=
  ⟨k.stk, k.hh, hk, k.glob, k.blt, k.frame, k.eframe, k.fkind, k.fgen, k.fco, k.fglob, k.fblt, k.depth, k.units⟩

theorem lookup_zip (b : Nat) : ∀ {xs : List Str} {x : Str} {names : Names}, x ∉ xs → (xs.zipIdx b ++ names).lookup x = names.lookup x
  | [], _, _, _ => by simp
  | y :: r, x, names, h => by
    have h1 : (x == y) = false := by
      rw [beq_eq_false_iff_ne]; intro q; exact h (by simp [q])
    rw [List.zipIdx_cons, List.cons_append, List.lookup_cons, h1]
    exact lookup_zip (b + 1) fun q => h (List.mem_cons_of_mem _ q)
theorem lookup_zip_at : ∀ {xs : List Str} {b j : Nat} {x : Str} {names : Names}, xs.Nodup → xs[j]? = some x → (xs.zipIdx b ++ names).lookup x = some (b + j)
  | [], _, _, _, _, _, h => by simp at h
  | y :: r, b, 0, x, names, _, h => by
    simp at h; subst h
    rw [List.zipIdx_cons, List.cons_append, List.lookup_cons]
    simp
  | y :: r, b, j + 1, x, names, hn, h => by
    have hx : x ∈ r := List.mem_of_getElem? (by simpa using h)
    have h1 : (x == y) = false := by
      rw [beq_eq_false_iff_ne]; intro q; subst q; exact (List.nodup_cons.mp hn).1 hx
    rw [List.zipIdx_cons, List.cons_append, List.lookup_cons, h1]
    have := lookup_zip_at (b := b + 1) (names := names) (List.nodup_cons.mp hn).2 (by simpa using h)
    rw [this]; exact congrArg some (by omega)
theorem lookup_zip_lt {xs : List Str} {names : Names} {x : Str} {i : Nat} (hn : ∀ x i, names.lookup x = some i → i < names.length) (hx : (xs.zipIdx names.length ++ names).lookup x = some i) (h : x ∉ xs) : i < names.length := by
  rw [lookup_zip _ h] at hx; exact hn x i hx

theorem lget_append_left : ∀ {l m : Loc} {i : Nat}, i < l.length → lget (l ++ m) i = lget l i
  | [], _, _, h => absurd h (by simp)
  | _ :: _, _, 0, _ => rfl
  | _ :: r, m, i + 1, h => by simp only [List.cons_append, lget]; exact lget_append_left (by simpa using h)
theorem lget_append_right : ∀ {l m : Loc} {i : Nat}, lget (l ++ m) (l.length + i) = lget m i
  | [], _, _ => by simp
  | _ :: r, m, i => by
    have : (r.length + 1 + i) = (r.length + i) + 1 := by omega
    simp only [List.cons_append, List.length_cons, this, lget]
    exact lget_append_right
theorem lget_none : ∀ {n i : Nat}, lget (List.replicate n none) i = none
  | 0, _ => rfl
  | n + 1, 0 => rfl
  | n + 1, i + 1 => by rw [List.replicate_succ]; exact lget_none

noncomputable abbrev inNames (names : Names) (xs : List Str) : Names := xs.zipIdx names.length ++ names
theorem LR.comp (o : CompOk c sc cs names xs cl) (g : Gd W c.fr h σ hp) (lr : LR W c sc names l σ h) {m : Str → Option Value} (hD : h.Ns D m) (hσ : D ∉ σ) (hb : W.B.get? D = none) :
    LR W (c.comp cs cl D) cs (inNames names xs) (l ++ List.replicate xs.length none) σ h := by
  refine ⟨lr.frm, lr.ff, hσ, ⟨m, hD⟩, fun x i u h1 h2 h3 => ?_, by simp [lr.len]; omega, hb, fun p hp => lr.cel p (o.clm p hp)⟩
  rcases o.var x h1 with hx | ⟨hx, hk, hv, hk', hcl⟩
  · obtain ⟨j, hj⟩ := List.getElem?_of_mem hx
    have := lookup_zip_at (b := names.length) (names := names) o.nd hj
    rw [this] at h2
    cases h2
    rw [← lr.len, lget_append_right, lget_none] at h3
    cases h3
  · have hi := lookup_zip_lt o.nlt h2 hx
    rw [lookup_zip _ hx] at h2
    rw [lget_append_left (by rw [lr.len]; exact hi)] at h3
    obtain ⟨v, rv, rd⟩ := lr.rd x i u hv h2 h3
    refine ⟨v, rv, ?_⟩
    rcases rd with ⟨h4, _⟩ | ⟨_, ca, h5, h6⟩
    · rw [hk'] at h4; cases h4
    · exact .inr ⟨.inl hk, ca, hcl.trans h5, h6⟩

theorem NmOk.comp (o : CompOk c sc cs names xs cl) {x : Str} {j : Nat} (hj : xs[j]? = some x) : NmOk (c.comp cs cl D) cs (inNames names xs) [D] x (names.length + j) := by
  have hx : x ∈ xs := List.mem_of_getElem? hj
  have hk : (relabel cs c.env).names.lookup x = some .local := lookup_relabel_local (o.loc x hx)
  refine ⟨.inl ⟨hk, List.mem_cons_self⟩, fun a ha => by simp at ha; subst ha; exact List.mem_cons_self, lookup_zip_at o.nd hj, ?_, fun y hy h2 => ?_, fun h1 => ?_⟩
  · have := (List.getElem?_eq_some_iff.mp hj).1
    simp; omega
  · by_cases hyx : y ∈ xs
    · obtain ⟨j', hj'⟩ := List.getElem?_of_mem hyx
      have := lookup_zip_at (b := names.length) (names := names) o.nd hj'
      rw [this] at h2
      have : j' = j := by simp at h2; exact h2
      subst this
      rw [hj] at hj'; cases hj'; rfl
    · have := lookup_zip_lt o.nlt h2 hyx
      omega
  · have h1' : (relabel cs c.env).names.lookup x = some .cell := h1
    rw [hk] at h1'; cases h1'

theorem Gd.adopt {a : Addr} {items : Array Value} {n : Nat} {vs : List V} (g : Gd W fr h σ hp) (ha : a ∉ σ) (hb : W.B.get? a = none) (hf : a ∉ fr) (e : IsL h a items n) (r : VRs W h σ items.toList vs) (hl : vs.length ≤ sizeLine) : Gd W fr h (σ ++ [a]) (hp ++ [.list vs]) := by
  have mono : ∀ v u, VR W h σ v u → VR W h (σ ++ [a]) v u := fun v u r => r.mono' g ⟨[a], rfl⟩ (kp_refl fr _ _)
  refine ⟨g.base, by simp [g.len], ?_, ?_, ?_, ?_, g.hid⟩
  · rw [List.nodup_append]
    exact ⟨g.nd, by simp, fun x hx y hy => by simp at hy; subst hy; exact fun z => ha (z ▸ hx)⟩
  · intro i b ob e1 e2
    by_cases hi : i < σ.length
    · rw [List.getElem?_append_left hi] at e1
      rw [List.getElem?_append_left (g.len ▸ hi)] at e2
      exact (g.objs i b ob e1 e2).keep (fun _ e => e) mono
    · have hi' : i = σ.length := by
        have := (List.getElem?_eq_some_iff.mp e1).1
        simp at this; omega
      subst hi'
      simp at e1
      rw [g.len] at e2
      simp at e2
      subst e1 e2
      exact ⟨⟨items, n, e, r.1, fun i v u e1 e2 => mono _ _ (r.2 i v u e1 e2)⟩, hl⟩
  · intro b hb'
    rcases List.mem_append.mp hb' with q | q
    · exact g.bfree b q
    · simp at q; subst q; exact hb
  · intro b hb'
    obtain ⟨h1, r⟩ := g.frs b hb'
    refine ⟨fun q => ?_, r⟩
    rcases List.mem_append.mp q with q | q
    · exact h1 q
    · simp at q; subst q; exact hf hb'

theorem LR.weaken (lr : LR W c sc names l σ h) (hl : l'.length = l.length) (hw : ∀ i u, lget l' i = some u → lget l i = some u) : LR W c sc names l' σ h :=
  ⟨lr.frm, lr.ff, lr.nl, lr.ns, fun x i u h1 h2 h3 => lr.rd x i u h1 h2 (hw i u h3), hl.trans lr.len, lr.lb, lr.cel⟩

theorem LR.sigma {t : List Addr} (g : Gd W fr h σ hp) (g' : Gd W fr h (σ ++ t) hp') (lr : LR W c sc names l σ h) (hn : c.env.locals ∉ t) : LR W c sc names l (σ ++ t) h :=
  ⟨lr.frm, lr.ff, fun q => (List.mem_append.mp q).elim lr.nl hn, lr.ns, fun x i u h1 h2 h3 => let ⟨v, rv, rd⟩ := lr.rd x i u h1 h2 h3; ⟨v, rv.mono' g ⟨t, rfl⟩ (kp_refl fr _ _), rd⟩, lr.len, lr.lb, lr.cel⟩

theorem LR.other {a : Addr} (k : CxOk W c) (g : Gd W c.fr h σ hp) (lr : LR W c sc names l σ h) (hs : Soft h a) (ho : a ∉ c.own) (hf : a ∉ c.fr) (hσ : a ∉ σ) (hb : W.B.get? a = none) (kk : ∀ b o, b ≠ a → h.get? b = some o → h'.get? b = some o) : LR W c sc names l σ h' := by
  have g' := g.put hσ hs hb kk fun q => absurd q hf
  have kp : Kp c.fr (σ ++ [a]) h h' := fun b o e hb => .inl (kk b o (fun q => hb (by simp [q])) e)
  have mv : ∀ v u, VR W h σ v u → VR W h' σ v u := fun v u r => r.monoX g ⟨[], by simp⟩ (fun b hb => by simp at hb; subst hb; exact hs) kp
  have ns : ∀ {b m}, b ≠ a → h.Ns b m → h'.Ns b m := fun hb ⟨o, es, ep, e, r⟩ => ⟨o, es, ep, kk _ _ hb e, r⟩
  have hL : c.L ≠ a := fun q => hf (q ▸ k.lfr)
  have hloc : c.env.locals ≠ a := fun q => ho (q ▸ List.mem_cons_self)
  have hcell : ∀ p ∈ c.env.cells, p.2 ≠ a := fun p hp q => ho (List.mem_cons_of_mem _ (List.mem_map.mpr ⟨p, hp, q⟩))
  obtain ⟨m, F⟩ := lr.frm
  obtain ⟨m', hn⟩ := lr.ns
  refine ⟨⟨m, ns hL F.ns, g'.base, F.above⟩, ?_, lr.nl, ⟨m', ns hloc hn⟩, fun y i u h1 h2 h3 => ?_, lr.len, lr.lb, fun p hp => let ⟨h1, v, o, e, h2⟩ := lr.cel p hp; ⟨h1, v, o, kk _ _ (hcell p hp) e, h2⟩⟩
  · exact ff_ko (own := [a]) (fun b o hb e => kk b o (fun q => hb (by simp [q])) e) (fun b hb' q => by simp at q; subst q; exact hf (mem_fr k.frame hb')) lr.ff
  · obtain ⟨v, hv, hr⟩ := lr.rd y i u h1 h2 h3
    refine ⟨v, mv _ _ hv, ?_⟩
    rcases hr with ⟨h1, m, hn, hv⟩ | ⟨h1, cb, hl', o, e, hv⟩
    · exact .inl ⟨h1, m, ns hloc hn, hv⟩
    · exact .inr ⟨h1, cb, hl', o, kk _ _ (hcell (y, cb) (mem_of_lookup hl')) e, hv⟩
end
end Mine

end

section
set_option maxRecDepth 10000
namespace Mine
open PySem PyProof.Rows PySem.SeqAt PySem.W

section
variable {W : Wd} {C : Calls} {c : Cx} {sc cs : Scope} {names : Names} {xs : List Str} {cl : List (Str × Addr)} {σ σ' : List Addr} {hp hp' : Hp} {s s' : Shared} {l l' : Loc} {E' : Value → Shared → Prop} {A : Around} {tgt : Expr} {h h' : Heap} {fr X : List Addr} {D : Addr}

theorem Ev.transX {σ₁ σ₂ : List Addr} {s₁ s₂ : Shared} (x : Ev fr σ σ₁ s s₁) (y : EvX fr X σ₁ σ₂ s₁ s₂) (hX : ∀ a ∈ X, s.heap.get? a = none) : Ev fr σ σ₂ s s₂ := by
  obtain ⟨⟨t, rfl, ht⟩, _, k, g, o⟩ := x
  obtain ⟨⟨t', rfl, ht'⟩, nd, k', kx', g', o'⟩ := y
  refine ⟨⟨t ++ t', by simp, fun a ha => ?_⟩, nd, fun b ob e hb => ?_, g'.trans g, o'.trans o⟩
  · rcases List.mem_append.mp ha with q | q
    · exact ht a q
    · cases e : s.heap.get? a with
      | none => rfl
      | some ob =>
        have hs : a ∉ σ := fun hs => (List.nodup_append.mp nd).2.2 a (List.mem_append_left _ hs) a q rfl
        obtain ⟨sl, q'⟩ := k.at e hs
        rw [ht' a q] at q'; cases q'
  · have hb' : b ∉ (σ ++ t) ++ X := fun z => by
      rcases List.mem_append.mp z with z | z
      · rcases List.mem_append.mp z with z | z
        · exact hb z
        · rw [ht b z] at e; cases e
      · rw [hX b z] at e; cases e
    rcases k b ob e hb with q | ⟨hf, sl, q⟩
    · exact k' b ob q hb'
    · rcases k' b _ q hb' with q' | ⟨_, sl', q'⟩
      · exact .inr ⟨hf, sl, q'⟩
      · exact .inr ⟨hf, sl', q'⟩

theorem Ev.notin {a : Addr} {o : Obj} (x : Ev fr σ σ' s s') (ha : a ∉ σ) (e : s.heap.get? a = some o) : a ∉ σ' := by
  obtain ⟨t, rfl, ht⟩ := x.pre
  intro q
  rcases List.mem_append.mp q with q | q
  · exact ha q
  · rw [ht a q] at e; cases e

noncomputable def tgtT (b : Nat) : Expr → List Str → Tgt
  | .Name _ _, _ => .name b
  | _, xs => .tup ((List.range xs.length).map (b + ·))

theorem nmsComp {D : Addr} (o : CompOk c sc cs names xs cl) : ∀ {es : List Expr} {ys : List Str} {b : Nat}, allM (fun e => match e with | .Name x _ => some x | _ => none) es = some ys → xs.drop b = ys →
    NmsOk (c.comp cs cl D) cs (inNames names xs) [D] es ((List.range ys.length).map (names.length + b + ·))
  | [], ys, b, h, hd => by simp [allM] at h; subst h; exact .nil
  | e :: es, ys, b, h, hd => by
    simp only [allM] at h
    split at h
    · rename_i y ys' h1 h2
      cases h
      split at h1
      · cases h1
        have hb : xs[b]? = some y := by
          have : (xs.drop b)[0]? = some y := by rw [hd]; rfl
          rw [List.getElem?_drop] at this; simpa using this
        have ht : xs.drop (b + 1) = ys' := by
          have : (xs.drop b).drop 1 = ys' := by rw [hd]; rfl
          rw [List.drop_drop] at this; exact this
        rw [List.length_cons, List.range_succ_eq_map, List.map_cons, List.map_map]
        refine .cons (NmOk.comp o hb) ?_
        have := nmsComp (D := D) o h2 ht
        refine cast (congrArg (NmsOk _ _ _ _ es) ?_) this
        apply List.map_congr_left
        intro j _
        simp only [Function.comp]
        omega
      · cases h1
    · cases h

theorem tgtComp {D : Addr} (o : CompOk c sc cs names xs cl) (h : tgtNames tgt = some xs) : TgtOk (c.comp cs cl D) cs (inNames names xs) [D] tgt (tgtT names.length tgt xs) := by
  unfold tgtNames at h
  split at h
  · cases h
    exact .name (NmOk.comp (j := 0) o rfl)
  · split at h
    · exact .tup (nmsComp (b := 0) o h rfl)
    · cases h
  · cases h

theorem lset_right : ∀ {l m : Loc} {i : Nat} {v : Option V}, lset (l ++ m) (l.length + i) v = l ++ lset m i v
  | [], _, _, _ => by simp
  | _ :: r, m, i, v => by
    have : (r.length + 1 + i) = (r.length + i) + 1 := by omega
    simp only [List.cons_append, List.length_cons, this, lset]
    rw [lset_right]
theorem bindAll_comp : ∀ (vs : List V) (l : Loc), bindAll ((List.range vs.length).map (l.length + ·)) vs (l ++ List.replicate vs.length none) = some (l ++ vs.map some)
  | [], l => by simp [bindAll]
  | v :: vs, l => by
    rw [List.length_cons, List.range_succ_eq_map, List.map_cons, List.map_map]
    simp only [bindAll, List.replicate_succ]
    rw [lset_right (i := 0)]
    simp only [lset]
    have := bindAll_comp vs (l ++ [some v])
    simp only [List.length_append, List.length_cons, List.length_nil, List.append_assoc, List.cons_append, List.nil_append] at this
    refine Eq.trans ?_ (this.trans (by simp))
    congr 1
    apply List.map_congr_left
    intro j _
    simp only [Function.comp]
    omega
theorem bindT_comp {u : V} {vals : List V} (h : tgtNames tgt = some xs) (hu : unpackN xs.length u = some vals) : vals.length = xs.length ∧ bindT (tgtT l.length tgt xs) u (l ++ List.replicate xs.length none) = some (l ++ vals.map some) := by
  unfold tgtNames at h
  split at h
  · cases h
    simp [unpackN] at hu
    subst hu
    refine ⟨rfl, ?_⟩
    simp only [tgtT, bindT]
    rw [show [_].length = 1 from rfl]
    have := lset_right (l := l) (m := [none]) (i := 0) (v := some u)
    simp only [Nat.add_zero, lset] at this
    simp [List.replicate, this]
  · rename_i es kk p
    split at h
    · rename_i h2
      have hl : ∀ {es : List Expr} {ys : List Str}, allM (fun e => match e with | .Name x _ => some x | _ => none) es = some ys → ys.length = es.length := by
        intro es
        induction es with
        | nil => intro ys h; simp [allM] at h; subst h; rfl
        | cons e es ih =>
          intro ys h
          simp only [allM] at h
          split at h
          · cases h; rename_i h2; simp [ih h2]
          · cases h
      have hx := hl h
      unfold unpackN at hu
      rw [if_neg (by omega)] at hu
      split at hu
      · split at hu
        · rename_i vs hvs
          cases hu
          refine ⟨hvs, ?_⟩
          simp only [tgtT, bindT]
          rw [← hvs]
          exact bindAll_comp vals l
        · cases hu
      · cases hu
    · cases h
  · cases h

theorem forIn_ifs {M : Model} {env : Env} {ifs : List Expr} {Q : Bool → Shared → Prop} {E : Value → Shared → Prop} (h : match ifs with | [] => Q true s | [c] => wpAny M A (isTrue c env (eval c env)) Q E s | _ => False) :
    wpAny M A (forIn ifs true fun c r => if r = true then do let ok ← isTrue c env (eval c env); pure (ForInStep.yield ok) else pure (ForInStep.yield r)) Q E s := by
  split at h
  · exact wpAny_pure h
  · simp only [List.forIn_cons, List.forIn_nil, if_true]
    exact wpAny_bind (wpAny_bind (wpAny_mono h (fun b s₁ q => wpAny_pure (wpAny_pure q)) fun _ _ z => z))
  · exact h.elim
end
end Mine

end

section
set_option maxRecDepth 10000
namespace Mine
open PySem PyProof.Rows PySem.SeqAt PySem.W

inductive PComp (W : Wd) (c : Cx) (sc : Scope) (names : Names) (l : Loc) (σ : List Addr) (s : Shared) (Q : V → Hp → Prop) (D K : Addr) (s' : Shared) : Prop
  | mk (hp' : Hp) (σ' : List Addr) (items : Array Value) (n : Nat) (accs : List V) (m : Str → Option Value) : Gd W c.fr s'.heap σ' hp' → LR W c sc names l σ' s'.heap → Ev c.fr σ σ' s s' → IsL s'.heap D items n → VRs W s'.heap σ' items.toList accs → accs.length ≤ sizeLine → D ∉ σ' → s.heap.get? D = none →
    s'.heap.Ns K m → K ∉ σ' → s.heap.get? K = none → D ≠ K → Q (.ref hp'.length) (hp' ++ [.list accs]) → PComp W c sc names l σ s Q D K s'

inductive OkIf (W : Wd) (C : Calls) (c : Cx) (sc : Scope) (names : Names) : List Expr → Option CE → Prop
  | none : OkIf W C c sc names [] none
  | some {e : Expr} {ce : CE} : OkT W C c sc names e ce → OkIf W C c sc names [e] (some ce)

section
variable {W : Wd} {C : Calls} {c : Cx} {sc cs : Scope} {names : Names} {xs : List Str} {cl : List (Str × Addr)} {σ σ' : List Addr} {hp hp' : Hp} {s s' : Shared} {l l' : Loc} {E' : Value → Shared → Prop} {A : Around} {tgt : Expr} {h h' : Heap} {fr X : List Addr} {D : Addr}

theorem okIf {ifs : List Expr} {cond : Option CE} {Q : Bool → Hp → Prop} {E : Nat → Hp → Prop} (o : OkIf W C c sc names ifs cond) (g : Gd W c.fr s.heap σ hp) (lr : LR W c sc names l σ s.heap) (hw : wpT W.G C cond l hp Q E) :
    wpAny (model W.prog W.w) c.A (forIn ifs true fun e r => if r = true then do let ok ← isTrue e c.env (eval e c.env); pure (ForInStep.yield ok) else pure (ForInStep.yield r)) (PT W c σ s Q) (fun _ _ => False) s := by
  cases o with
  | none =>
    simp only [wpT] at hw
    exact forIn_ifs ⟨hp, σ, g, ev_keeps g fun _ _ e => e, hw⟩
  | some o =>
    simp only [wpT] at hw
    refine forIn_ifs (o l hp σ s Q E g lr ?_)
    refine cast (congrArg (fun Z => wpE W.G C _ l hp Z E) (funext fun v => funext fun h => ?_)) hw
    cases v <;> rfl

theorem okCompRun {elt it : Expr} {cel : CE} {ifs : List Expr} {cond : Option CE} {pos : Pos} {itv : Value} {Q : V → Hp → Prop} {E : Nat → Hp → Prop} {s₂ : Shared} (k : CxOk W c) (o : CompOk c sc cs names xs cl) (ht : tgtNames tgt = some xs)
    (oe : ∀ hd D, OkE (W.At hd) C (c.comp cs cl D) cs (inNames names xs) elt cel) (oi : ∀ hd D, OkIf (W.At hd) C (c.comp cs cl D) cs (inNames names xs) ifs cond) (g : Gd W c.fr s.heap σ hp) (lr : LR W c sc names l σ s.heap)
    (p : PIt W c sc names l tgt σ s (fun src h1 => ∃ I : Nat → List V → Hp → Prop, I 0 [] h1 ∧
        (∀ k acc h2 v, I k acc h2 → src.items[k]? = some v → src.alive h2 ∧ ∃ vals, unpackN xs.length v = some vals ∧
          wpT W.G C cond (l ++ vals.map some) h2 (fun b h3 => if b then wpE W.G C cel (l ++ vals.map some) h3 (fun x h4 => I (k + 1) (acc ++ [x]) h4) E else I (k + 1) acc h3) E) ∧
        (∀ acc h2, I src.items.length acc h2 → src.alive h2 ∧ Q (.ref h2.length) (h2 ++ [.list acc]))) itv s₂) {Ef : Value → Shared → Prop} :
    wpAny (model W.prog W.w) c.A (newList []) (fun acc s₃ => wpAny (model W.prog W.w) c.A (newFunctionEnv cs c.env.globals cl [] c.env.qual none .none (some c.env)) (fun cenv s₄ =>
      codeAny (model W.prog W.w) c.A (.compStart (.ListComp elt [⟨tgt, it, ifs, 0⟩] cs pos) 0 itv acc { cenv with scope := relabel cs c.env }) (fun r s' => match r with
        | .ok _ => ∃ D, acc = .ref D ∧ PComp W c sc names l σ s Q D cenv.locals s'
        | .error _ => False) s₄) Ef s₃) Ef s₂ := by
  obtain ⟨hd, own, hv, hu, src, St, hp₂, σ₂, g₂, lr₂, x₂, hof, hit, rs₂, st₂, hsub, hsz, I, I0, hturn, hend⟩ := p
  replace hit := hit c.A k.hh
  refine wpAny_newObj_type (wpAny_newFunctionEnv o.nocell (by intro y hy; simp at hy) (fun h₁ hns₁ hsb₁ => ?_) o.kind)
  dsimp only at hns₁ hsb₁ ⊢
  generalize hH2 : s₂.heap.push { cls := .type "list", dict := none, data := .seq ([] : List Value).toArray } = H2 at hns₁ hsb₁ ⊢
  have hK : H2.objs.size = s₂.heap.objs.size + 1 := by rw [← hH2, Heap.size_push]
  have hDK : s₂.heap.objs.size ≠ H2.objs.size := by rw [hK]; exact Nat.ne_of_lt (Nat.lt_succ_self _)
  have old : ∀ b o, s₂.heap.get? b = some o → h₁.get? b = some o := fun b o e => hsb₁.extBut b o (by rw [hK]; exact Nat.ne_of_lt (Nat.lt_succ_of_lt (Heap.lt_size e))) (Heap.get?_push_of_some _ (hH2 ▸ Heap.get?_push_of_some _ e))
  have fD : s₂.heap.get? s₂.heap.objs.size = none := fresh_size _
  have fK : s₂.heap.get? H2.objs.size = none := fresh_ge _ _ (by rw [hK]; exact Nat.le_succ _)
  have hacc : IsL h₁ s₂.heap.objs.size #[] 0 := hsb₁.extBut _ _ hDK (Heap.get?_push_of_some _ (hH2 ▸ Heap.get?_push_size _ rfl))
  have g₂' : Gd W c.fr s₂.heap σ₂ hp₂ := g₂.at_ (W := W.At hd) (hd := W.hid) (fun a h1 _ h2 => h1 (hsub a h2)) (fun _ _ e => e) (fun a ha => g₂.hid a (hsub a ha))
  have sD : s.heap.get? s₂.heap.objs.size = none := x₂.fresh' g g₂' fD
  have sK : s.heap.get? H2.objs.size = none := x₂.fresh' g g₂' fK
  have bK : W.B.get? H2.objs.size = none := g.bnone sK
  have bD : W.B.get? s₂.heap.objs.size = none := g.bnone sD
  have frn : ∀ {a}, s.heap.get? a = none → a ∉ c.fr := fun ha q => by obtain ⟨_, o, es, n, e, _⟩ := g.frs _ q; rw [ha] at e; cases e
  have tk0 : ∀ tk, Ev c.fr σ₂ σ₂ s₂ { s₂ with heap := h₁, toks := tk } := fun tk => ev_keeps g₂ old
  have g₁ : Gd (W.At hd) c.fr h₁ σ₂ hp₂ := g₂.keeps old
  have hDσ : s₂.heap.objs.size ∉ σ₂ := g₂.notin fD
  have hKσ : H2.objs.size ∉ σ₂ := g₂.notin fK
  have lr₁ : LR (W.At hd) c sc names l σ₂ h₁ := lr₂.ev (s := s₂) (s' := { s₂ with heap := h₁ }) ⟨k.stk, k.hh, k.kind, k.glob, k.blt, k.frame, k.eframe, k.fkind, k.fgen, k.fco, k.fglob, k.fblt, k.depth, k.units⟩ g₂ g₁ (tk0 _)
  have lrc : LR (W.At hd) (c.comp cs cl H2.objs.size) cs (inNames names xs) (l ++ List.replicate xs.length none) σ₂ h₁ := lr₁.comp o g₁ hns₁ hKσ bK
  have hownD : ∀ {a}, s₂.heap.get? a = none → a ∉ own := fun ha q => by
    have := hit.isOwn 0 _ _ st₂ q
    rcases this with ⟨o, n, vs, e, _⟩ | hm
    · rw [ha] at e; cases e
    · obtain ⟨x, n, e⟩ := g₂.hid _ hm; rw [ha] at e; cases e
  have hDo := hownD fD
  have hKo := hownD fK
  have k' : ∀ hd, CxOk (W.At hd) (c.comp cs cl H2.objs.size) := fun hd => ⟨k.stk, k.hh, o.kind, k.glob, k.blt, k.frame, k.eframe, k.fkind, k.fgen, k.fco, k.fglob, k.fblt, k.depth, k.units⟩
  have loop : ∀ tk, codeAny (model W.prog W.w) c.A (.compLoop (.ListComp elt [⟨tgt, it, ifs, 0⟩] cs pos) 0 itv (.ref s₂.heap.objs.size) (compEnvC cs cl H2.objs.size c.env)) (fun r s' => match r with
        | .ok _ => ∃ D, Value.ref s₂.heap.objs.size = .ref D ∧ PComp W c sc names l σ s Q D H2.objs.size s'
        | .error _ => False) { s₂ with heap := h₁, toks := tk } := by
    intro tk
    refine compLoop_any (fun n s' => ∃ k accs hpk σk items nn, n + k = src.items.length ∧ accs.length ≤ k ∧ I k accs hpk ∧ Gd (W.At hd) c.fr s'.heap σk hpk ∧ LR (W.At hd) (c.comp cs cl H2.objs.size) cs (inNames names xs) (l ++ List.replicate xs.length none) σk s'.heap ∧
      Ev c.fr σ σk s s' ∧ (∃ t, σk = σ₂ ++ t) ∧ St k s'.heap ∧ VRs (W.At hd) s'.heap σk hv hu ∧ IsL s'.heap s₂.heap.objs.size items nn ∧ VRs (W.At hd) s'.heap σk items.toList accs ∧ s₂.heap.objs.size ∉ σk) ?_ src.items.length
      ⟨0, [], hp₂, σ₂, #[], 0, rfl, Nat.le_refl _, I0, g₁, lrc, x₂.trans (tk0 tk), ⟨[], by simp⟩, hit.keep 0 _ _ st₂ fun a _ o e => old a o e, rs₂.mono g₂ (tk0 tk), hacc, .nil, hDσ⟩
    rintro n s' ⟨kk, accs, hpk, σk, items, nn, hn, hal, hI, gk, lrk, xk, hpre, st, rs, hL, ra, hDk⟩
    have hσo : ∀ a ∈ own, a ∉ σk := fun a ha => gk.notOwn (hit.isOwn _ _ _ st ha)
    have hoL : ∀ a ∈ own, OwnL (W.At hd) s'.heap a := fun a ha => .inl (hit.isOwn _ _ _ st ha)
    cases hu' : src.items[kk]? with
    | none =>
      have hkk : kk = src.items.length := by
        have := List.getElem?_eq_none_iff.mp hu'; omega
      subst hkk
      obtain ⟨hal', q⟩ := hend accs hpk hI
      refine wpAny_mono (hit.done s' σk hpk hpre st gk rs hal') (fun r s₁ p => ?_) fun _ _ z => z
      obtain ⟨rfl, kp, eg, eo⟩ := p
      have hno : ∀ a ∈ W.hid, a ∉ own := fun a ha q => by
        obtain ⟨x, n, e⟩ := g.hid a ha
        rw [hof a q] at e; cases e
      have gW : Gd W c.fr s₁.heap σk hpk := gk.koAt (W := W.At hd) (hd := W.hid) hσo hoL hit.bfree kp hsub hno
      have xW : Ev c.fr σ σk s s₁ := xk.ko hof kp eg eo
      obtain ⟨mK, hnK⟩ := lrk.ns
      have hnK' : s₁.heap.Ns H2.objs.size mK := by
        obtain ⟨ob, es, ep, e, r⟩ := hnK
        exact ⟨ob, es, ep, kp _ _ hKo e, r⟩
      refine ⟨_, rfl, hpk, σk, items, nn, accs, mK, gW, lr.ev k g gW xW, xW, kp _ _ hDo hL, ⟨ra.1, fun i v u e1 e2 => ?_⟩, by omega, hDk, sD, hnK', lrk.nl, sK, hDK, q⟩
      exact ((ra.2 i v u e1 e2).ko gk.hid hoL kp).at_ (W := W.At hd) (hd := W.hid) (fun a h1 _ h2 => h1 (hsub a h2)) fun _ _ e => e
    | some u =>
      have hkk : kk < src.items.length := (List.getElem?_eq_some_iff.mp hu').1
      obtain ⟨hal', vals, hvals, hw⟩ := hturn kk accs hpk u hI hu'
      refine wpAny_mono (hit.next kk s' σk hpk u hpre st gk rs hal' hu') (fun r s₁ p => ?_) fun _ _ z => z
      obtain ⟨v, rfl, p⟩ := p
      refine wpAny_mono p (fun _ s₃ p => ?_) fun _ _ z => z
      obtain ⟨st₃, rv, ko, eg, eo⟩ := p
      have g₃ := gk.ko hσo hoL hit.bfree ko
      have lr₃ := LR.ko (c := c.comp cs cl H2.objs.size) k.frame lrk gk g₃ hoL ko
      have x₃ := xk.ko hof ko.1 eg eo
      have rs₃ : VRs (W.At hd) s₃.heap σk hv hu := ⟨rs.1, fun i v u e1 e2 => (rs.2 i v u e1 e2).ko gk.hid hoL ko.1⟩
      have ra₃ : VRs (W.At hd) s₃.heap σk items.toList accs := ⟨ra.1, fun i v u e1 e2 => (ra.2 i v u e1 e2).ko gk.hid hoL ko.1⟩
      have hL₃ : IsL s₃.heap s₂.heap.objs.size items nn := ko.1 _ _ hDo hL
      obtain ⟨hvl, hb⟩ := bindT_comp (l := l) ht hvals
      rw [lr.len] at hb
      refine wpAny_mono (okAsg (E' := fun _ _ => False) (X := [H2.objs.size]) (k' hd) (fun a ha => by simp at ha; subst ha; exact List.mem_cons_self) k.hh (tgtComp o ht) g₃ lr₃ rv hb) (fun _ s₄ p => ?_) fun _ _ z => z
      obtain ⟨g₄, lr₄, y₄⟩ := p
      have sf : ∀ a ∈ [H2.objs.size], Soft s₃.heap a := fun a ha => by simp at ha; subst ha; exact lr₃.own_soft _ List.mem_cons_self
      have keepX : ∀ {a ob}, s₃.heap.get? a = some ob → a ∉ σk → a ≠ H2.objs.size → a ∉ c.fr → s₄.heap.get? a = some ob := fun e h1 h2 h3 => by
        rcases y₄.kp _ _ e (fun q => (List.mem_append.mp q).elim h1 fun q => h2 (by simpa using q)) with q | ⟨q, _⟩
        · exact q
        · exact absurd q h3
      have frow : ∀ a ∈ own, a ∉ c.fr := fun a ha => frn (hof a ha)
      have st₄ : St (kk + 1) s₄.heap := hit.keep _ _ _ st₃ fun a ha ob e => keepX e (g₃.notOwn (hit.isOwn _ _ _ st₃ ha)) (fun q => hKo (q ▸ ha)) (frow a ha)
      have rs₄ : VRs (W.At hd) s₄.heap σk hv hu := ⟨rs₃.1, fun i v u e1 e2 => (rs₃.2 i v u e1 e2).monoX g₃ ⟨[], by simp⟩ sf y₄.kp⟩
      have ra₄ : VRs (W.At hd) s₄.heap σk items.toList accs := ⟨ra₃.1, fun i v u e1 e2 => (ra₃.2 i v u e1 e2).monoX g₃ ⟨[], by simp⟩ sf y₄.kp⟩
      have hL₄ : IsL s₄.heap s₂.heap.objs.size items nn := keepX hL₃ hDk hDK (frn sD)
      have x₄ : Ev c.fr σ σk s s₄ := x₃.transX y₄ fun a ha => by simp at ha; subst ha; exact sK
      refine wpAny_mono (okIf (W := W.At hd) (oi hd H2.objs.size) g₄ lr₄ hw) (fun b s₅ p => ?_) fun _ _ z => z
      obtain ⟨hp₅, σ₅, g₅, y₅, q⟩ := p
      have lr₅ := lr₄.ev (k' hd) g₄ g₅ y₅
      have keep5 : ∀ {a ob} {σa σb : List Addr} {sa sb : Shared}, Ev c.fr σa σb sa sb → sa.heap.get? a = some ob → a ∉ σa → a ∉ c.fr → sb.heap.get? a = some ob := fun y e h1 h2 => y.kp.exact e h1 h2
      have hD₅ : s₂.heap.objs.size ∉ σ₅ := y₅.notin hDk hL₄
      have st₅ : St (kk + 1) s₅.heap := hit.keep _ _ _ st₄ fun a ha ob e => keep5 y₅ e (g₄.notOwn (hit.isOwn _ _ _ st₄ ha)) (frow a ha)
      have hL₅ : IsL s₅.heap s₂.heap.objs.size items nn := keep5 y₅ hL₄ hDk (frn sD)
      have weak : ∀ i u, lget (l ++ List.replicate xs.length none) i = some u → lget (l ++ vals.map some) i = some u := fun i u e => by
        by_cases hi : i < l.length
        · rw [lget_append_left hi] at e ⊢; exact e
        · obtain ⟨j, rfl⟩ : ∃ j, i = l.length + j := ⟨i - l.length, by omega⟩
          rw [lget_append_right, lget_none] at e; cases e
      have hlw : (l ++ List.replicate xs.length none).length = (l ++ vals.map some).length := by simp [hvl]
      cases b with
      | false =>
        rw [if_neg (by decide)]
        simp only [Bool.false_eq_true, if_false] at q
        refine ⟨src.items.length - (kk + 1), by omega, kk + 1, accs, hp₅, σ₅, items, nn, by omega, by omega, q, g₅, lr₅.weaken hlw weak, x₄.trans y₅, ?_, st₅, rs₄.mono g₄ y₅, hL₅, ra₄.mono g₄ y₅, hD₅⟩
        obtain ⟨t, rfl⟩ := hpre
        obtain ⟨t', rfl, _⟩ := y₅.pre
        exact ⟨t ++ t', by simp⟩
      | true =>
        rw [if_pos rfl]
        simp only [if_true] at q
        refine wpAny_mono (oe hd H2.objs.size _ _ _ _ _ _ g₅ lr₅ q) (fun xv s₆ p => ?_) fun _ _ z => z.elim
        obtain ⟨ux, hp₆, σ₆, rx, g₆, y₆, q⟩ := p
        have lr₆ := lr₅.ev (k' hd) g₅ g₆ y₆
        have hD₆ : s₂.heap.objs.size ∉ σ₆ := y₆.notin hD₅ hL₅
        have st₆ : St (kk + 1) s₆.heap := hit.keep _ _ _ st₅ fun a ha ob e => keep5 y₆ e (g₅.notOwn (hit.isOwn _ _ _ st₅ ha)) (frow a ha)
        have hL₆ : IsL s₆.heap s₂.heap.objs.size items nn := keep5 y₆ hL₅ hD₅ (frn sD)
        have ra₆ := (ra₄.mono g₄ y₅).mono g₅ y₆
        have rs₆ := (rs₄.mono g₄ y₅).mono g₅ y₆
        have hil : items.size ≤ sizeLine := by have := ra₆.1; simp at this; omega
        refine call_meets F.slot_list_append hL₆.isList.typeIs F.entry_list_append (F.args_list_append_2 _ _) (PySem.list_append s₂.heap.objs.size items nn xv hil) ⟨hL₆, ?_⟩
        have kA : ∀ b ob, b ∉ [s₂.heap.objs.size] → s₆.heap.get? b = some ob → (s₆.heap.update s₂.heap.objs.size (Obj.mapSeq fun xs => xs.push xv)).get? b = some ob := fun b ob hb e => (Heap.get?_update_other _ _ (fun q => hb (by simp [q]))).trans e
        have oA : ∀ a ∈ [s₂.heap.objs.size], OwnL (W.At hd) s₆.heap a := fun a ha => by simp at ha; subst ha; exact .inr ⟨_, _, _, hL₆, rfl, rfl⟩
        have sA : ∀ a ∈ [s₂.heap.objs.size], a ∉ σ₆ := fun a ha => by simp at ha; subst ha; exact hD₆
        have koA : KO (W.At hd) [s₂.heap.objs.size] s₆.heap (s₆.heap.update s₂.heap.objs.size (Obj.mapSeq fun xs => xs.push xv)) := ⟨kA, fun a ha => by
          obtain ⟨x, n, e⟩ := g₆.hid a ha
          refine ⟨x, n, kA _ _ (fun q => ?_) e⟩
          simp at q; subst q
          rw [hL₆] at e; simp at e⟩
        have g₇ := g₆.ko sA oA (fun a ha => by simp at ha; subst ha; exact bD) koA
        have lr₇ := LR.ko (c := c.comp cs cl H2.objs.size) k.frame lr₆ g₆ g₇ oA koA
        have mvA : ∀ v u, VR (W.At hd) s₆.heap σ₆ v u → VR (W.At hd) (s₆.heap.update s₂.heap.objs.size (Obj.mapSeq fun xs => xs.push xv)) σ₆ v u := fun v u r => r.ko g₆.hid oA kA
        have x₇ : Ev c.fr σ σ₆ s { s₆ with heap := s₆.heap.update s₂.heap.objs.size (Obj.mapSeq fun xs => xs.push xv) } := Ev.ko (own := [s₂.heap.objs.size]) ((x₄.trans y₅).trans y₆) (fun a ha => by simp at ha; subst ha; exact sD) kA rfl rfl
        have ra₇ : VRs (W.At hd) s₆.heap σ₆ (items.toList ++ [xv]) (accs ++ [ux]) := ra₆.append (.cons rx .nil)
        refine ⟨src.items.length - (kk + 1), by omega, kk + 1, accs ++ [ux], hp₆, σ₆, items.push xv, _, by omega, by simp; omega, q, g₇, lr₇.weaken hlw weak, x₇, ?_, hit.keep _ _ _ st₆ fun a ha ob e => kA _ _ (fun q => hDo (by simp at q; exact q ▸ ha)) e, ⟨rs₆.1, fun i v u e1 e2 => mvA _ _ (rs₆.2 i v u e1 e2)⟩, hL₆.update _, ?_, hD₆⟩
        · obtain ⟨t, rfl⟩ := hpre
          obtain ⟨t', rfl, _⟩ := y₅.pre
          obtain ⟨t'', rfl, _⟩ := y₆.pre
          exact ⟨t ++ t' ++ t'', by simp⟩
        · simp only [Array.toList_push]
          exact ⟨ra₇.1, fun i v u e1 e2 => mvA _ _ (ra₇.2 i v u e1 e2)⟩
  exact codeAny_compStart_list (loop _) (hit.self 0 _ _ _ (hit.keep 0 _ _ st₂ fun a _ o e => old a o e) (loop _))
end
end Mine

end

section
set_option maxRecDepth 10000
namespace Mine
open PySem PyProof.Rows PySem.SeqAt PySem.W

section
variable {W : Wd} {C : Calls} {c : Cx} {sc cs : Scope} {names : Names} {xs : List Str} {cl : List (Str × Addr)} {σ σ' : List Addr} {hp hp' : Hp} {s s' : Shared} {l l' : Loc} {E' : Value → Shared → Prop} {A : Around} {tgt : Expr} {h h' : Heap} {fr X : List Addr} {D K : Addr}

theorem Ev.adopt {a : Addr} (x : Ev fr σ σ' s s') (g : Gd W fr s'.heap (σ' ++ [a]) hp') (ha : s.heap.get? a = none) : Ev fr σ (σ' ++ [a]) s s' := by
  obtain ⟨⟨t, rfl, ht⟩, nd, k, g1, o1⟩ := x
  refine ⟨⟨t ++ [a], by simp, fun b hb => ?_⟩, g.nd, k, g1, o1⟩
  rcases List.mem_append.mp hb with q | q
  · exact ht b q
  · simp at q; subst q; exact ha

theorem pcomp_soft {m : Str → Option Value} (hn : h.Ns K m) : Soft h K := by
  obtain ⟨o, es, n, e, hd, _⟩ := hn
  exact ⟨o, e, .inl ⟨es, n, hd⟩⟩

theorem okComp {elt it : Expr} {cel : CE} {cit : It} {ifs : List Expr} {cond : Option CE} {pos : Pos} (k : CxOk W c) (o : CompOk c sc cs names xs cl) (ht : tgtNames tgt = some xs) (hs : ∀ x, foldedSetIterable it c.env x = pure x)
    (oit : OkIt W C c sc names tgt it cit) (oe : ∀ hd D, OkE (W.At hd) C (c.comp cs cl D) cs (inNames names xs) elt cel) (oi : ∀ hd D, OkIf (W.At hd) C (c.comp cs cl D) cs (inNames names xs) ifs cond) :
    OkE W C c sc names (.ListComp elt [⟨tgt, it, ifs, 0⟩] cs pos) (.comp cel xs.length cit cond) := by
  intro l hp σ s Q E g lr hw
  simp only [wpE] at hw
  rw [eval_ListComp]
  refine wpAny_comprehension_free (use := none) rfl hs o.clos o.kind o.locs (wpAny_mono (oit l hp σ s _ E g lr hw) (fun xv s₁ h₁ => wpAny_mono h₁ (fun itv s₂ p => ?_) fun _ _ e => e) fun _ _ e => e)
  refine wpAny_mono (okCompRun (it := it) (pos := pos) (Ef := EE W c σ s E) k o ht oe oi g lr p) (fun acc s₃ p => wpAny_mono p (fun cenv s₄ p => codeAny_mono p fun r s' p => ?_) fun _ _ z => z) fun _ _ z => z
  cases r with
  | error e => exact p.elim
  | ok f =>
    obtain ⟨D, rfl, hp', σ', items, n, accs, m, g', lr', x, hL, ra, hal, hDσ, sD, hnK, hKσ, sK, hDK, q⟩ := p
    refine ⟨m, hnK, fun h'' sb => ?_⟩
    have kk : ∀ b ob, b ≠ cenv.locals → s'.heap.get? b = some ob → h''.get? b = some ob := fun b ob hb e => sb.extBut b ob hb e
    have frn : ∀ {a}, s.heap.get? a = none → a ∉ c.fr := fun ha q => by obtain ⟨_, o, es, n, e, _⟩ := g.frs _ q; rw [ha] at e; cases e
    have g'' := g'.put hKσ (pcomp_soft hnK) (g.bnone sK) kk fun q => absurd q (frn sK)
    have kp : Kp c.fr (σ' ++ [cenv.locals]) s'.heap h'' := fun b o e hb => .inl (kk b o (fun q => hb (by simp [q])) e)
    have mv : ∀ v u, VR W s'.heap σ' v u → VR W h'' σ' v u := fun v u r => r.monoX g' ⟨[], by simp⟩ (fun b hb => by simp at hb; subst hb; exact pcomp_soft hnK) kp
    have hL'' : IsL h'' D items n := kk _ _ hDK hL
    have g3 := g''.adopt hDσ (g.bnone sD) (frn sD) hL'' ⟨ra.1, fun i v u e1 e2 => mv _ _ (ra.2 i v u e1 e2)⟩ hal
    have x'' : Ev c.fr σ σ' s { s' with heap := h'' } := Ev.ko (own := [cenv.locals]) x (fun a ha => by simp at ha; subst ha; exact sK) (fun b o hb e => kk b o (fun q => hb (by simp [q])) e) rfl rfl
    exact ⟨_, _, _, .ref (by rw [← g'.len]; simp), g3, x''.adopt g3 sD, q⟩
end
end Mine

end

section
set_option maxRecDepth 10000
namespace Mine
open PySem PyProof.Rows PySem.SeqAt PySem.W

inductive PN (W : Wd) (c : Cx) (sc : Scope) (names : Names) (σ : List Addr) (s : Shared) (N : Loc → Hp → Prop) (s' : Shared) : Prop
  | mk (l' : Loc) (hp' : Hp) (σ' : List Addr) : Gd W c.fr s'.heap σ' hp' → LR W c sc names l' σ' s'.heap → EvX c.fr c.own σ σ' s s' → N l' hp' → PN W c sc names σ s N s'
inductive PR (W : Wd) (c : Cx) (σ : List Addr) (s : Shared) (R : V → Hp → Prop) (v : Value) (s' : Shared) : Prop
  | mk (u : V) (hp' : Hp) (σ' : List Addr) : VR W s'.heap σ' v u → Gd W c.fr s'.heap σ' hp' → EvX c.fr c.own σ σ' s s' → R u hp' → PR W c σ s R v s'
noncomputable def PS (W : Wd) (c : Cx) (sc : Scope) (names : Names) (σ : List Addr) (s : Shared) (N : Loc → Hp → Prop) (R : V → Hp → Prop) (f : Flow) (s' : Shared) : Prop := match f with
  | .next => PN W c sc names σ s N s'
  | .ret v => PR W c σ s R v s'
  | _ => False

inductive XS (W : Wd) (c : Cx) (σ : List Addr) (s : Shared) (E : Nat → Loc → Hp → Prop) (x : Value) (s' : Shared) : Prop
  | mk (X : Nat) (l' : Loc) (hp' : Hp) (σ' : List Addr) (e : Addr) (Bx : Heap) (a0 : Value) : x = .ref e → Gd W [] Bx σ' hp' → (∃ t, σ' = σ ++ t ∧ ∀ a ∈ t, s.heap.get? a = none) → s'.gens = s.gens → s'.os = s.os →
   (∀ b o, s.heap.get? b = some o → b ∉ σ → b ∉ c.fr → b ∉ c.own → Bx.get? b = some o) →
   (∀ b o, s.heap.get? b = some o → b ∈ c.fr → b ∉ c.own → ∃ sl, s'.heap.get? b = some { o with slots := sl }) →
   (Heap.HeldW Bx (c.fenv :: c.outer) e (.ref X) a0 c.L s'.heap ∨ ∃ h₁ args, Bx.StaysIn h₁ ∧ h₁.FunFrames Bx (c.fenv :: c.outer) ∧ Heap.MadeExcOf h₁ s'.heap e (.ref X) args) → E X l' hp' → XS W c σ s E x s'

noncomputable def OkS (W : Wd) (C : Calls) (c : Cx) (sc : Scope) (names : Names) (st : Stmt) (cst : CS) : Prop :=
  ∀ l hp σ s N R E, Gd W c.fr s.heap σ hp → LR W c sc names l σ s.heap → wpS W.G C cst l hp N R E →
    wpAny (model W.prog W.w) c.A (exec st c.env) (PS W c sc names σ s N R) (XS W c σ s E) s
noncomputable def OkSs (W : Wd) (C : Calls) (c : Cx) (sc : Scope) (names : Names) (st : List Stmt) (cst : List CS) : Prop :=
  ∀ l hp σ s N R E, Gd W c.fr s.heap σ hp → LR W c sc names l σ s.heap → wpSs W.G C cst l hp N R E →
    wpAny (model W.prog W.w) c.A (execs st c.env) (PS W c sc names σ s N R) (XS W c σ s E) s

section
variable {W : Wd} {C : Calls} {c : Cx} {sc cs : Scope} {names : Names} {xs : List Str} {cl : List (Str × Addr)} {σ σ' : List Addr} {hp hp' : Hp} {s s' : Shared} {l l' : Loc} {E' : Value → Shared → Prop} {A : Around} {tgt : Expr} {h h' : Heap} {fr X : List Addr} {D K : Addr}

theorem PS.from {σ₁ : List Addr} {s₁ : Shared} {N : Loc → Hp → Prop} {R : V → Hp → Prop} {f : Flow} (x : EvX c.fr c.own σ σ₁ s s₁) (p : PS W c sc names σ₁ s₁ N R f s') : PS W c sc names σ s N R f s' := by
  cases f with
  | next => obtain ⟨l', hp', σ', g, lr, y, q⟩ := p; exact ⟨l', hp', σ', g, lr, x.trans y, q⟩
  | ret v => obtain ⟨u, hp', σ', r, g, y, q⟩ := p; exact ⟨u, hp', σ', r, g, x.trans y, q⟩
  | brk => exact p.elim
  | cont => exact p.elim

theorem XS.from {σ₁ : List Addr} {s₁ : Shared} {E : Nat → Loc → Hp → Prop} {x : Value} (g : Gd W c.fr s.heap σ hp) (y : EvX c.fr c.own σ σ₁ s s₁) (f : XS W c σ₁ s₁ E x s') : XS W c σ s E x s' := by
  obtain ⟨X, l', hp', σ', e, Bx, a0, rfl, gx, ⟨t', rfl, ht'⟩, q1, q2, k1, k2, st, qE⟩ := f
  obtain ⟨⟨t, rfl, ht⟩, nd, kp, kx, e1, e2⟩ := y
  refine ⟨X, l', hp', _, e, Bx, a0, rfl, gx, ⟨t ++ t', by simp, fun a ha => ?_⟩, q1.trans e1, q2.trans e2, fun b o hb hn hf ho => ?_, fun b o hb hf ho => ?_, st, qE⟩
  · rcases List.mem_append.mp ha with q | q
    · exact ht a q
    · cases e : s.heap.get? a with
      | none => rfl
      | some ob =>
        have hs : a ∉ σ := fun hs => (List.nodup_append.mp gx.nd).2.2 a (List.mem_append_left _ hs) a q rfl
        by_cases hx : a ∈ c.own
        · obtain ⟨o1, e1⟩ := kx a hx ob e
          rw [ht' a q] at e1; cases e1
        · obtain ⟨sl, q'⟩ := kp.at e (fun z => (List.mem_append.mp z).elim hs hx)
          rw [ht' a q] at q'; cases q'
  · refine k1 b o (kp.exact hb (fun z => (List.mem_append.mp z).elim hn ho) hf) (fun q => ?_) hf ho
    rcases List.mem_append.mp q with q | q
    · exact hn q
    · rw [ht b q] at hb; cases hb
  · obtain ⟨sl, e⟩ := kp.at hb (fun z => (List.mem_append.mp z).elim (g.frs b hf).1 ho)
    obtain ⟨sl', e'⟩ := k2 b _ e hf ho
    exact ⟨sl', e'⟩
theorem noteMade {M : Model} {base h : Heap} {env : Env} {outer : List Env} {L e : Addr} {cls : Value} {args : List Value} {Q : Unit → Shared → Prop}
    (hfr : A.frames = some (env :: outer)) (hf : env.frame = some L) (hkb : base.StaysIn h) (hl : h.FunFrames base (env :: outer)) (hx : Heap.MadeExcOf h s.heap e cls args)
    (hQ : ∀ h' t, Heap.HeldW base (env :: outer) e cls (.ref t) L h' → s.heap.UpToSlots h' → Q () { s with heap := h' }) : wpAny M A (noteFrame (.ref e) env) Q E' s := by
  obtain ⟨t, he, htn, ht⟩ := hx.there
  have fresh : base.get? e = none := by
    cases hq : base.get? e with
    | none => rfl
    | some o' => have := hkb e o' hq; rw [hx.new] at this; cases this
  unfold noteFrame
  simp only [hf]
  refine wpAny_bind (wpAny_field (x := Value.none) he rfl rfl ?_)
  rw [if_neg (show ¬ ((Value.none != Value.none) = true) from by simp)]
  refine wpAny_entryW (a0 := .ref t) hfr (hl.of_keeps fun b o hb _ => ⟨o, hx.keeps b o hb, rfl⟩) hf he (fun b o hb => hx.keeps b o (hkb b o hb)) fresh rfl (by show 1 < 6; decide) rfl fun h' hN => ?_
  obtain ⟨n1, n2, n3, n4⟩ := hN
  exact hQ h' t ⟨n1, fresh, n2, n3⟩ n4
theorem cameBack {M : Model} {base : Heap} {env : Env} {l : List Env} {L e : Addr} {cls a0 : Value} {Ex : Value → Shared → Prop} (hf : env.frame = some L) (hh : Heap.HeldW base l e cls a0 L s.heap)
    (hQ : ∀ h', Heap.HeldW base l e cls a0 L h' → s.heap.UpToSlots h' → Ex (.ref e) { s with heap := h' }) : cameBackBy M A env Ex (.ref e) s := by
  obtain ⟨hkb, hen, hl, oe, vs, T, oT, ts, he, hcls, hd, h1, hnT, hTe, hT, hdT, h3⟩ := hh
  have hsz3 : 3 < ts.size := (Array.getElem?_eq_some_iff.mp h3).1
  have other : ∀ b, b ≠ T → (s.heap.update T (Obj.mapFields (·.setIfInBounds 3 (rawInt L)))).get? b = s.heap.get? b := fun b hb => Heap.get?_update_other _ _ (Ne.symm hb)
  have noRecord : ∀ b o, s.heap.get? b = some o → (∀ vs, o.data ≠ .fields vs) → b ≠ T := fun b o hb hnf q => by
    rw [q, hT] at hb; injection hb with hb; subst hb; exact hnf ts hdT
  unfold cameBackBy
  refine wpAny_bind (wpAny_field he hd h1 ?_)
  rw [if_neg (show ¬ ((Value.ref T == Value.none) = true) from by simp)]
  rw [hf]
  unfold setFlight
  refine wpAny_bind (wpAny_field he hd h1 ?_)
  rw [if_pos (show (Value.ref T != Value.none) = true from by simp)]
  refine wpAny_setField hT hdT hsz3 (hQ _ ⟨fun b o hbo => (other b fun q => by rw [q, hnT] at hbo; cases hbo).trans (hkb b o hbo), hen, hl.of_keeps fun b o hb hnf => ⟨o, (other b (noRecord b o hb hnf)).trans hb, rfl⟩, ?_⟩ fun b o hb hnf => ⟨o.slots, (other b (noRecord b o hb hnf)).trans hb⟩)
  exact ⟨oe, vs, T, _, _, (other e (Ne.symm hTe)).trans he, hcls, hd, h1, hnT, hTe, Heap.get?_update_self _ hT (Obj.isFreed_of_fields (Obj.data_mapFields hdT _)), Obj.data_mapFields hdT _, by simp [hsz3]⟩
theorem XS.out {M : Model} {E : Nat → Loc → Hp → Prop} {x : Value} (k : CxOk W c) (hfe : c.fenv = c.env) (g : Gd W c.fr s.heap σ hp) (z : XS W c σ s E x s') :
    notedBy M c.A c.env (cameBackBy M c.A c.env (XS W c σ s E)) x s' := by
  obtain ⟨X, l', hp', σ', e, Bx, a0, rfl, gx, pre, q1, q2, k1, k2, st, qE⟩ := z
  have stk : c.A.frames = some (c.env :: c.outer) := by rw [k.stk, hfe]
  have up : ∀ {h₁ h₂ : Heap}, (∀ b o, s.heap.get? b = some o → b ∈ c.fr → b ∉ c.own → ∃ sl, h₁.get? b = some { o with slots := sl }) → h₁.UpToSlots h₂ → ∀ b o, s.heap.get? b = some o → b ∈ c.fr → b ∉ c.own → ∃ sl, h₂.get? b = some { o with slots := sl } := fun k2 u b o h1 h2 h3 => by
    obtain ⟨sl, e1⟩ := k2 b o h1 h2 h3
    obtain ⟨_, o', es, n, e2, hd⟩ := g.frs b h2
    rw [h1] at e2; cases e2
    obtain ⟨sl', e3⟩ := u b _ e1 (fun vs q => by rw [show ({ o with slots := sl } : Obj).data = o.data from rfl, hd] at q; cases q)
    exact ⟨sl', e3⟩
  have back : ∀ (s₁ : Shared) (a1 : Value), s₁.gens = s'.gens → s₁.os = s'.os → (∀ b o, s.heap.get? b = some o → b ∈ c.fr → b ∉ c.own → ∃ sl, s₁.heap.get? b = some { o with slots := sl }) → Heap.HeldW Bx (c.env :: c.outer) e (.ref X) a1 c.L s₁.heap → cameBackBy M c.A c.env (XS W c σ s E) (.ref e) s₁ := by
    intro s₁ a1 g1 g2 k2' hh
    refine cameBack k.eframe hh fun h' hh' u => ?_
    exact ⟨X, l', hp', σ', e, Bx, a1, rfl, gx, pre, g1.trans q1, g2.trans q2, k1, up k2' u, .inl (by rw [hfe]; exact hh'), qE⟩
  rcases st with st | ⟨h₁, args, hb, hff, hm⟩
  · rw [hfe] at st
    exact wpAny_noteFrame_againW k.eframe st.2.2.2 (back s' a0 rfl rfl k2 st)
  · rw [hfe] at hff
    exact noteMade stk k.eframe hb hff hm fun h' t hh u => back _ _ rfl rfl (up k2 u) hh

theorem ps_next {N : Loc → Hp → Prop} {R : V → Hp → Prop} {σ₁ : List Addr} {hp₁ : Hp} {s₁ : Shared} (k : CxOk W c) (g : Gd W c.fr s.heap σ hp) (lr : LR W c sc names l σ s.heap) (g₁ : Gd W c.fr s₁.heap σ₁ hp₁) (x : Ev c.fr σ σ₁ s s₁) (q : N l hp₁) : PS W c sc names σ s N R .next s₁ :=
  ⟨l, hp₁, σ₁, g₁, lr.ev k g g₁ x, x.x (lr.own_not g), q⟩

theorem okNil (k : CxOk W c) : OkSs W C c sc names [] [] := by
  intro l hp σ s N R E g lr hw
  simp only [wpSs] at hw
  exact wpAny_execs_nil (ps_next k g lr g (ev_keeps g fun _ _ e => e) hw)

theorem okCons {st : Stmt} {cst : CS} {sts : List Stmt} {csts : List CS} (o : OkS W C c sc names st cst) (os : OkSs W C c sc names sts csts) : OkSs W C c sc names (st :: sts) (cst :: csts) := by
  intro l hp σ s N R E g lr hw
  simp only [wpSs] at hw
  refine wpAny_execs_cons (wpAny_mono (o l hp σ s _ R E g lr hw) (fun f s₁ p => ?_) fun _ _ z => z)
  cases f with
  | next =>
    obtain ⟨l', hp', σ', g', lr', x, q⟩ := p
    exact wpAny_mono (os l' hp' σ' s₁ N R E g' lr' q) (fun _ _ p => p.from x) fun _ _ z => z.from g x
  | ret v => exact p
  | brk => exact p.elim
  | cont => exact p.elim

theorem okExpr {e : Expr} {ce : CE} {pos : Pos} (k : CxOk W c) (hne : ∀ a b d p, e ≠ .ListComp a b d p) (hs : swapsWith e none pos.line c.env = pure false) (o : OkE W C c sc names e ce) : OkS W C c sc names (.Expr e pos) (.expr ce) := by
  intro l hp σ s N R E g lr hw
  simp only [wpS] at hw
  rw [exec_Expr _ _ _ (by unfold interactive; rw [k.kind]; rfl) hs]
  refine wpAny_bind (wpAny_standAt (wpAny_bind (wpAny_mono (o l hp σ s _ _ g lr hw) (fun v s₁ p => ?_) fun _ _ z => False.elim z)))
  obtain ⟨u, hp₁, σ₁, r, g₁, x, q⟩ := p
  exact wpAny_dropValue (ps_next k g lr g₁ x q)

theorem okRet {e : Expr} {ce : CE} {pos : Pos} (o : OkE W C c sc names e ce) : OkS W C c sc names (.Return (some e) pos) (.ret ce) := by
  intro l hp σ s N R E g lr hw
  simp only [wpS] at hw
  refine wpAny_Return_some (wpAny_mono (o l hp σ s _ _ g lr hw) (fun v s₁ p => ?_) fun _ _ z => False.elim z)
  obtain ⟨u, hp₁, σ₁, r, g₁, x, q⟩ := p
  exact ⟨u, hp₁, σ₁, r, g₁, x.x (lr.own_not g), q⟩

theorem okIte {e : Expr} {ce : CE} {t f : List Stmt} {ct cf : List CS} {pos : Pos} (k : CxOk W c) (o : OkT W C c sc names e ce) (ot : OkSs W C c sc names t ct) (of : OkSs W C c sc names f cf) : OkS W C c sc names (.If e t f pos) (.ite ce ct cf) := by
  intro l hp σ s N R E g lr hw
  simp only [wpS] at hw
  refine wpAny_If (wpAny_mono (o l hp σ s (fun b h1 => if b then wpSs W.G C ct l h1 N R E else wpSs W.G C cf l h1 N R E) (fun x h1 => E x l h1) g lr ?_) (fun b s₁ p => ?_) fun _ _ z => False.elim z)
  · refine cast (congrArg (fun Z => wpE W.G C ce l hp Z (fun x h1 => E x l h1)) (funext fun v => funext fun h => ?_)) hw
    cases v <;> first | rfl | (rename_i b; cases b <;> rfl)
  · obtain ⟨hp₁, σ₁, g₁, x, q⟩ := p
    have xx : EvX c.fr c.own σ σ₁ s s₁ := x.x (lr.own_not g)
    cases b with
    | true => exact wpAny_mono (ot l hp₁ σ₁ s₁ N R E g₁ (lr.ev k g g₁ x) q) (fun _ _ p => p.from xx) fun _ _ z => z.from g xx
    | false => exact wpAny_mono (of l hp₁ σ₁ s₁ N R E g₁ (lr.ev k g g₁ x) q) (fun _ _ p => p.from xx) fun _ _ z => z.from g xx

theorem okAssign {x : Str} {i : Nat} {v : Expr} {cv : CE} {np pos : Pos} (k : CxOk W c) (n : NmOk c sc names c.own x i) (hs : swapsWith v (some (.Name x np)) pos.line c.env = pure false) (o : OkE W C c sc names v cv) :
    OkS W C c sc names (.Assign [.Name x np] v pos) (.assign i cv) := by
  intro l hp σ s N R E g lr hw
  simp only [wpS] at hw
  refine wpAny_Assign_Name (wpAny_mono (o l hp σ s _ _ g lr hw) (fun v s₁ p => ?_) fun _ _ z => False.elim z) hs
  obtain ⟨u, hp₁, σ₁, r, g₁, y, q⟩ := p
  refine wpAny_mono (okStore (E' := fun _ _ => False) k n g₁ (lr.ev k g g₁ y) r) (fun _ s₂ p => ?_) fun _ _ z => False.elim z
  exact ⟨_, hp₁, σ₁, p.1, p.2.1, (y.x (lr.own_not g)).trans p.2.2, q⟩

end
end Mine

end

section
set_option maxRecDepth 10000
namespace Mine
open PySem PyProof.Rows PySem.SeqAt PySem.W

section
variable {W : Wd} {C : Calls} {c : Cx} {sc cs : Scope} {names : Names} {xs : List Str} {cl : List (Str × Addr)} {σ σ' : List Addr} {hp hp' : Hp} {s s' : Shared} {l l' : Loc} {E' : Value → Shared → Prop} {A : Around} {tgt : Expr} {h h' : Heap} {fr X : List Addr} {D K : Addr}

theorem CxOk.at_ (k : CxOk W c) (hd : List Addr) : CxOk (W.At hd) c := ⟨k.stk, k.hh, k.kind, k.glob, k.blt, k.frame, k.eframe, k.fkind, k.fgen, k.fco, k.fglob, k.fblt, k.depth, k.units⟩

theorem XS.no {x : Value} (f : XS W c σ s (fun _ _ _ => False) x s') : False := by
  obtain ⟨X, l', hp', σ', e, Bx, a0, rfl, gx, pre, q1, q2, k1, k2, st, z⟩ := f
  exact z
theorem XS.at_ {hd : List Addr} {E : Nat → Loc → Hp → Prop} {x : Value} (f : XS (W.At hd) c σ s E x s') (hsub : ∀ a ∈ W.hid, a ∈ hd) : XS W c σ s E x s' := by
  obtain ⟨X, l', hp', σ', e, Bx, a0, rfl, gx, pre, q1, q2, k1, k2, st, z⟩ := f
  exact ⟨X, l', hp', σ', e, Bx, a0, rfl, gx.at_ (W := W.At hd) (hd := W.hid) (fun a h1 _ h2 => h1 (hsub a h2)) (fun _ _ e => e) (fun a ha => gx.hid a (hsub a ha)), pre, q1, q2, k1, k2, st, z⟩
theorem okFor {it : Expr} {cit : It} {t : Tgt} {body : List Stmt} {cb : List CS} {pos : Pos} (k : CxOk W c) (hfe : c.fenv = c.env) (hs : ∀ x, foldedSetIterable it c.env x = pure x) (ot : TgtOk c sc names c.own tgt t)
    (oit : OkIt W C c sc names tgt it cit) (ob : ∀ hd, OkSs (W.At hd) C c sc names body cb) : OkS W C c sc names (.For tgt it body [] pos) (.loop t cit cb) := by
  intro l hp σ s N R E g lr hw
  simp only [wpS] at hw
  refine wpAny_For (wpAny_mono (oit l hp σ s _ _ g lr hw) (fun xv s₁ p => wpAny_mono p (fun itv s₂ p => ?_) fun _ _ z => z.elim) fun _ _ z => z.elim) hs
  obtain ⟨hd, own, hv, hu, src, St, hp₂, σ₂, g₂, lr₂, x₂, hof, hit, rs₂, st₂, hsub, hsz, I, I0, hturn, hend⟩ := p
  replace hit := hit c.A k.hh
  have kd := k.at_ hd
  have frn : ∀ {a}, s.heap.get? a = none → a ∉ c.fr := fun ha q => by obtain ⟨_, o, es, n, e, _⟩ := g.frs _ q; rw [ha] at e; cases e
  have frow : ∀ a ∈ own, a ∉ c.fr := fun a ha => frn (hof a ha)
  have ownn : ∀ a ∈ own, a ∉ c.own := fun a ha q => by
    obtain ⟨o, e, _⟩ := lr.own_soft a q
    rw [hof a ha] at e; cases e
  refine codeAny_forLoop_any (fun n s' => ∃ kk lk hpk σk, n + kk = src.items.length ∧ I kk lk hpk ∧ Gd (W.At hd) c.fr s'.heap σk hpk ∧ LR (W.At hd) c sc names lk σk s'.heap ∧ EvX c.fr c.own σ σk s s' ∧ (∃ t, σk = σ₂ ++ t) ∧ St kk s'.heap ∧ VRs (W.At hd) s'.heap σk hv hu) ?_ src.items.length
    ⟨0, l, hp₂, σ₂, rfl, I0, g₂, lr₂, x₂.x (lr.own_not g), ⟨[], by simp⟩, st₂, rs₂⟩
  rintro n s' ⟨kk, lk, hpk, σk, hn, hI, gk, lrk, xk, hpre, st, rs⟩
  have hσo : ∀ a ∈ own, a ∉ σk := fun a ha => gk.notOwn (hit.isOwn _ _ _ st ha)
  have hoL : ∀ a ∈ own, OwnL (W.At hd) s'.heap a := fun a ha => .inl (hit.isOwn _ _ _ st ha)
  cases hu' : src.items[kk]? with
  | none =>
    have hkk : kk = src.items.length := by
      have := List.getElem?_eq_none_iff.mp hu'; omega
    subst hkk
    obtain ⟨hal', q⟩ := hend lk hpk hI
    refine wpAny_mono (hit.done s' σk hpk hpre st gk rs hal') (fun r s₁ p => ?_) fun _ _ z => z.elim
    obtain ⟨rfl, kp, eg, eo⟩ := p
    have hno : ∀ a ∈ W.hid, a ∉ own := fun a ha q => by
      obtain ⟨x, n, e⟩ := g.hid a ha
      rw [hof a q] at e; cases e
    have gW : Gd W c.fr s₁.heap σk hpk := gk.koAt (W := W.At hd) (hd := W.hid) hσo hoL hit.bfree kp hsub hno
    have lW : LR W c sc names lk σk s₁.heap := LR.koAt (W := W.At hd) (hd := W.hid) k.frame lrk gk hσo hoL hit.bfree kp hsub hno
    exact wpAny_execs_nil ⟨lk, hpk, σk, gW, lW, xk.ko hof kp eg eo, q⟩
  | some u =>
    have hkk : kk < src.items.length := (List.getElem?_eq_some_iff.mp hu').1
    obtain ⟨hal', l3, hb, hw⟩ := hturn kk lk hpk u hI hu'
    refine wpAny_mono (hit.next kk s' σk hpk u hpre st gk rs hal' hu') (fun r s₁ p => ?_) fun _ _ z => z.elim
    obtain ⟨v, rfl, p⟩ := p
    refine wpAny_mono p (fun _ s₃ p => ?_) fun _ _ z => z.elim
    obtain ⟨st₃, rv, ko, eg, eo⟩ := p
    have g₃ := gk.ko hσo hoL hit.bfree ko
    have lr₃ := LR.ko k.frame lrk gk g₃ hoL ko
    have x₃ := xk.ko hof ko.1 eg eo
    have rs₃ : VRs (W.At hd) s₃.heap σk hv hu := ⟨rs.1, fun i v u e1 e2 => (rs.2 i v u e1 e2).ko gk.hid hoL ko.1⟩
    have keepX : ∀ {a ob} {σa σb : List Addr} {sa sb : Shared}, EvX c.fr c.own σa σb sa sb → sa.heap.get? a = some ob → a ∉ σa → a ∈ own → sb.heap.get? a = some ob := fun y e h1 h2 => by
      rcases y.kp _ _ e (fun q => (List.mem_append.mp q).elim h1 (ownn _ h2)) with q | ⟨q, _⟩
      · exact q
      · exact absurd q (frow _ h2)
    refine wpAny_mono (okAsg (W := W.At hd) (E' := fun _ _ => False) (X := c.own) kd (fun _ h => h) k.hh ot g₃ lr₃ rv hb) (fun _ s₄ p => ?_) fun _ _ z => z.elim
    obtain ⟨g₄, lr₄, y₄⟩ := p
    have st₄ : St (kk + 1) s₄.heap := hit.keep _ _ _ st₃ fun a ha ob e => keepX y₄ e (g₃.notOwn (hit.isOwn _ _ _ st₃ ha)) ha
    have rs₄ : VRs (W.At hd) s₄.heap σk hv hu := ⟨rs₃.1, fun i v u e1 e2 => (rs₃.2 i v u e1 e2).monoX g₃ ⟨[], by simp⟩ lr₃.own_soft y₄.kp⟩
    refine wpAny_mono (ob hd l3 hpk σk s₄ _ _ _ g₄ lr₄ hw) (fun f s₅ p => ?_) fun _ _ z => ((z.at_ hsub).from g (x₃.trans y₄)).out k hfe g
    cases f with
    | next =>
      obtain ⟨l', hp', σ', g', lr', y, q⟩ := p
      obtain ⟨tt, hpre'⟩ := hpre
      obtain ⟨t', ht', _⟩ := y.pre
      exact ⟨src.items.length - (kk + 1), by omega, kk + 1, l', hp', σ', by omega, q, g', lr', (x₃.trans y₄).trans y, ⟨tt ++ t', by rw [ht', hpre']; simp⟩,
        hit.keep _ _ _ st₄ fun a ha ob e => keepX y e (g₄.notOwn (hit.isOwn _ _ _ st₄ ha)) ha, ⟨rs₄.1, fun i v u e1 e2 => (rs₄.2 i v u e1 e2).monoX g₄ ⟨t', ht'⟩ lr₄.own_soft y.kp⟩⟩
    | ret v =>
      obtain ⟨u, hp', σ', r, g', y, q⟩ := p
      refine ⟨u, hp', σ', r.at_ (W := W.At hd) (hd := W.hid) (fun a h1 _ h2 => h1 (hsub a h2)) (fun _ _ e => e), g'.at_ (W := W.At hd) (hd := W.hid) (fun a h1 _ h2 => h1 (hsub a h2)) (fun _ _ e => e) (fun a ha => g'.hid a (hsub a ha)), (x₃.trans y₄).trans y, q⟩
    | brk => exact p.elim
    | cont => exact p.elim

theorem okAssignComp {elt it : Expr} {cel : CE} {cit : It} {ifs : List Expr} {cond : Option CE} {np pos spos : Pos} {x : Str} {i : Nat} (k : CxOk W c) (n : NmOk c sc names c.own x i) (hs : swapsWith (.ListComp elt [⟨tgt, it, ifs, 0⟩] cs pos) (some (.Name x np)) spos.line c.env = pure true)
    (o : CompOk c sc cs names xs cl) (ht : tgtNames tgt = some xs) (hs' : ∀ x, foldedSetIterable it c.env x = pure x)
    (oit : OkIt W C c sc names tgt it cit) (oe : ∀ hd D, OkE (W.At hd) C (c.comp cs cl D) cs (inNames names xs) elt cel) (oi : ∀ hd D, OkIf (W.At hd) C (c.comp cs cl D) cs (inNames names xs) ifs cond) :
    OkS W C c sc names (.Assign [.Name x np] (.ListComp elt [⟨tgt, it, ifs, 0⟩] cs pos) spos) (.assign i (.comp cel xs.length cit cond)) := by
  intro l hp σ s N R E g lr hw
  simp only [wpS, wpE] at hw
  rw [exec_Assign_Name_used _ _ _ _ hs]
  refine wpAny_bind (wpAny_standAt (wpAny_bind ?_))
  show wpAny _ c.A (do let _ ← comprehension (.ListComp elt [⟨tgt, it, ifs, 0⟩] cs pos) cs c.env _ (newList []) false (eval it c.env) (some (assign (.Name x np) c.env))) _ _ s
  refine wpAny_bind (wpAny_mono (wpAny_comprehension_free (use := some (assign (.Name x np) c.env)) (Q := fun _ s' => PS W c sc names σ s N R .next s') rfl hs' o.clos o.kind o.locs
    (wpAny_mono (oit l hp σ s _ _ g lr hw) (fun xv s₁ h₁ => wpAny_mono h₁ (fun itv s₂ p => ?_) fun _ _ e => e.elim) fun _ _ e => e.elim)) (fun _ s' hq => wpAny_pure (wpAny_pure hq)) fun _ _ e => e)
  refine wpAny_mono (okCompRun (it := it) (pos := pos) (Ef := fun _ _ => False) (Q := fun v h1 => N (lset l i (some v)) h1) (E := fun x h1 => E x l h1) k o ht oe oi g lr p) (fun acc s₃ p => wpAny_mono p (fun cenv s₄ p => codeAny_mono p fun r s' p => ?_) fun _ _ z => False.elim z) fun _ _ z => False.elim z
  cases r with
  | error e => exact p.elim
  | ok f =>
    obtain ⟨D, rfl, hp', σ', items, m, accs, mK, g', lr', x', hL, ra, hal, hDσ, sD, hnK, hKσ, sK, hDK, q⟩ := p
    have frn : ∀ {a}, s.heap.get? a = none → a ∉ c.fr := fun ha q => by obtain ⟨_, o, es, n, e, _⟩ := g.frs _ q; rw [ha] at e; cases e
    have ownn : ∀ {a}, s.heap.get? a = none → a ∉ c.own := fun ha q => by
      obtain ⟨o, e, _⟩ := lr.own_soft _ q
      rw [ha] at e; cases e
    have g3 := g'.adopt hDσ (g.bnone sD) (frn sD) hL ra hal
    have lr3 : LR W c sc names l (σ' ++ [D]) s'.heap := lr'.sigma g' g3 (fun q => ownn sD (by simp at q; rw [← q]; exact List.mem_cons_self))
    have x3 : Ev c.fr σ (σ' ++ [D]) s s' := x'.adopt g3 sD
    have rD : VR W s'.heap (σ' ++ [D]) (.ref D) (.ref hp'.length) := .ref (by rw [← g'.len]; simp)
    refine wpAny_assign_Name (wpAny_mono (okStore (E' := fun _ _ => False) k n g3 lr3 rD) (fun _ s₅ p => ?_) fun _ _ z => False.elim z)
    obtain ⟨g5, lr5, x5⟩ := p
    have hKσ3 : cenv.locals ∉ σ' ++ [D] := fun q => (List.mem_append.mp q).elim hKσ fun q => hDK (List.mem_singleton.mp q).symm
    have hnK5 : s₅.heap.Ns cenv.locals mK := by
      obtain ⟨ob, es, ep, e, r⟩ := hnK
      rcases x5.kp _ _ e (fun q => (List.mem_append.mp q).elim hKσ3 (ownn sK)) with e' | ⟨q, _⟩
      · exact ⟨ob, es, ep, e', r⟩
      · exact absurd q (frn sK)
    refine ⟨mK, hnK5, fun h'' sb => ?_⟩
    have kk : ∀ b ob, b ≠ cenv.locals → s₅.heap.get? b = some ob → h''.get? b = some ob := fun b ob hb e => sb.extBut b ob hb e
    have g6 := g5.put hKσ3 (pcomp_soft hnK5) (g.bnone sK) kk fun q => absurd q (frn sK)
    have lr6 := lr5.other k g5 (pcomp_soft hnK5) (ownn sK) (frn sK) hKσ3 (g.bnone sK) kk
    have x6 : EvX c.fr c.own σ (σ' ++ [D]) s { s₅ with heap := h'' } := EvX.ko (own := [cenv.locals]) ((x3.x (lr.own_not g)).trans x5) (fun a ha => by simp at ha; subst ha; exact sK) (fun b o hb e => kk b o (fun q => hb (by simp [q])) e) rfl rfl
    exact ⟨_, _, _, g6, lr6, x6, q⟩
end
end Mine

end

section
set_option maxRecDepth 10000
namespace Mine
open PySem PyProof.Rows PySem.SeqAt PySem.W

structure FnEnv (c : Cx) (sc : Scope) (names : Names) : Prop where
  scope : c.env.scope = sc
  kinds : ∀ x k, sc.names.lookup x = some k → k = .local ∨ k = .cell ∨ k = .globalImplicit
  cells : ∀ x, sc.names.lookup x = some .cell → ∃ ca, c.env.cells.lookup x = some ca
  cinj : ∀ x y ca, c.env.cells.lookup x = some ca → c.env.cells.lookup y = some ca → y = x
  nlt : ∀ x i, names.lookup x = some i → i < names.length
  ninj : ∀ x y i, names.lookup x = some i → names.lookup y = some i → y = x

noncomputable def GlEnv (c : Cx) (sc : Scope) : Prop := ∀ x, isGlob sc x = true → c.env.kindOf x = some .globalImplicit ∧ (x == ("__debug__" : Str)) = false

section
variable {W : Wd} {C : Calls} {c : Cx} {sc cs : Scope} {names : Names} {xs : List Str}

theorem FnEnv.gl (f : FnEnv c sc names) : GlEnv c sc := fun x h => by
  unfold isGlob at h
  simp only [Bool.and_eq_true, Bool.not_eq_true', beq_iff_eq] at h
  refine ⟨?_, h.2⟩
  show c.env.scope.names.lookup x = _
  rw [f.scope]; exact h.1

theorem FnEnv.nm (f : FnEnv c sc names) {x : Str} {i : Nat} (hv : isVar sc x = true) (hi : names.lookup x = some i) : NmOk c sc names c.own x i := by
  have hk : c.env.kindOf x = sc.names.lookup x := by show c.env.scope.names.lookup x = _; rw [f.scope]
  have hkind : sc.names.lookup x = some .local ∨ sc.names.lookup x = some .cell := by
    unfold isVar at hv
    simp only [Bool.and_eq_true, Bool.or_eq_true, beq_iff_eq] at hv
    rcases hv.1.1.1 with (h | h) | h
    · exact .inl h
    · exact .inr h
    · rcases f.kinds x _ h with q | q | q <;> cases q
  refine ⟨?_, fun _ h => h, hi, f.nlt x i hi, fun y _ h2 => f.ninj x y i hi h2, fun _ y ca h1 h2 => f.cinj x y ca h1 h2⟩
  rcases hkind with h | h
  · exact .inl ⟨hk.trans h, List.mem_cons_self⟩
  · obtain ⟨ca, hca⟩ := f.cells x h
    exact .inr ⟨hk.trans h, ca, hca, List.mem_cons_of_mem _ (List.mem_map.mpr ⟨_, mem_of_lookup hca, rfl⟩)⟩

noncomputable def clAcc (cells : List (Str × Addr)) : List (Str × NameKind) → List (Str × Addr) → List (Str × Addr)
  | [], acc => acc
  | (n, k) :: r, acc => if k == .free then (match cells.lookup n with | some a => clAcc cells r ((n, a) :: acc) | none => clAcc cells r acc) else clAcc cells r acc

theorem closureFor_eq {env : Env} (h : ∀ p ∈ cs.names, p.2 = .free → ∃ a, env.cells.lookup p.1 = some a) : closureFor cs env = pure (clAcc env.cells cs.names []) := by
  unfold closureFor
  have go : ∀ (l : List (Str × NameKind)) (acc : List (Str × Addr)), (∀ p ∈ l, p.2 = .free → ∃ a, env.cells.lookup p.1 = some a) →
      (forIn l acc fun (x : Str × NameKind) (r : List (Str × Addr)) => (match x with
        | (name, kind) => if (kind == NameKind.free) = true then do let x ← cellOf env name; pure (ForInStep.yield ((name, x) :: r)) else pure (ForInStep.yield r) : Sem (ForInStep (List (Str × Addr))))) = pure (clAcc env.cells l acc) := by
    intro l
    induction l with
    | nil => intro acc _; rfl
    | cons p l ih =>
      intro acc hl
      obtain ⟨n, k⟩ := p
      rw [List.forIn_cons]
      by_cases hk : (k == NameKind.free) = true
      · obtain ⟨a, ha⟩ := hl (n, k) List.mem_cons_self (by simpa using hk)
        simp only at ha
        have : cellOf env n = pure a := by unfold cellOf; rw [ha]
        simp only [hk, if_true, this, clAcc, ha]
        exact ih _ fun p hp => hl p (List.mem_cons_of_mem _ hp)
      · simp only [hk, clAcc]
        exact ih _ fun p hp => hl p (List.mem_cons_of_mem _ hp)
  have := go cs.names [] h
  refine Eq.trans ?_ (congrArg (fun m : Sem (List (Str × Addr)) => m >>= pure) this)
  rfl

theorem clAcc_mem {cells : List (Str × Addr)} : ∀ {l : List (Str × NameKind)} {acc : List (Str × Addr)}, (∀ p ∈ acc, p ∈ cells) → ∀ p ∈ clAcc cells l acc, p ∈ cells
  | [], _, h => h
  | (n, k) :: r, acc, h => by
    simp only [clAcc]
    split
    · split
      · rename_i a ha
        exact clAcc_mem fun p hp => by
          rcases List.mem_cons.mp hp with rfl | hp
          · exact mem_of_lookup ha
          · exact h p hp
      · exact clAcc_mem h
    · exact clAcc_mem h
theorem clAcc_lookup {cells : List (Str × Addr)} {x : Str} {a : Addr} (ha : cells.lookup x = some a) : ∀ {l : List (Str × NameKind)} {acc : List (Str × Addr)}, ((x, NameKind.free) ∈ l ∨ acc.lookup x = some a) → (clAcc cells l acc).lookup x = some a
  | [], _, h => by
    rcases h with h | h
    · simp at h
    · exact h
  | (n, k) :: r, acc, h => by
    simp only [clAcc]
    split
    · rename_i hk
      split
      · rename_i b hb
        refine clAcc_lookup ha ?_
        by_cases hx : x = n
        · subst hx
          rw [ha] at hb; cases hb
          exact .inr (by simp)
        · rcases h with h | h
          · rcases List.mem_cons.mp h with h | h
            · cases h; exact absurd rfl hx
            · exact .inl h
          · refine .inr ?_
            have h1 : (x == n) = false := by rw [beq_eq_false_iff_ne]; exact hx
            rw [List.lookup_cons, h1]; exact h
      · rename_i hb
        refine clAcc_lookup ha ?_
        rcases h with h | h
        · rcases List.mem_cons.mp h with h | h
          · cases h; rw [ha] at hb; cases hb
          · exact .inl h
        · exact .inr h
    · rename_i hk
      refine clAcc_lookup ha ?_
      rcases h with h | h
      · rcases List.mem_cons.mp h with h | h
        · cases h; simp at hk
        · exact .inl h
      · exact .inr h

theorem nodupB_iff : ∀ {l : List Str}, nodupB l = true → l.Nodup
  | [], _ => List.nodup_nil
  | x :: r, h => by
    simp only [nodupB, Bool.and_eq_true, Bool.not_eq_true'] at h
    rw [List.nodup_cons]
    refine ⟨fun q => ?_, nodupB_iff h.2⟩
    have := List.contains_iff_mem.mpr q
    rw [h.1] at this; cases this

theorem lookup_of_mem {α β : Type} [BEq α] [LawfulBEq α] : ∀ {l : List (α × β)} {x : α} {b : β}, (l.map (·.1)).Nodup → (x, b) ∈ l → l.lookup x = some b
  | [], _, _, _, h => by simp at h
  | (y, b') :: r, x, b, hn, h => by
    rw [List.map_cons, List.nodup_cons] at hn
    rw [List.lookup_cons]
    rcases List.mem_cons.mp h with h' | h'
    · cases h'; simp
    · have : (x == y) = false := by
        rw [beq_eq_false_iff_ne]; intro q; subst q
        exact hn.1 (List.mem_map.mpr ⟨_, h', rfl⟩)
      rw [this]; exact lookup_of_mem hn.2 h'

theorem lookup_relabel {env : Env} : ∀ {names : List (Str × NameKind)} {x : Str} {k : NameKind}, names.lookup x = some k →
    (names.map fun (n, k) => if (k == NameKind.free && env.scope.kind == .function && env.kindOf n == some .cell) then (n, NameKind.cell) else (n, k)).lookup x = some (if (k == NameKind.free && env.scope.kind == .function && env.kindOf x == some .cell) then .cell else k)
  | [], _, _, h => by simp at h
  | (n, k') :: r, x, k, h => by
    show List.lookup x ((if (k' == NameKind.free && env.scope.kind == .function && env.kindOf n == some .cell) = true then (n, NameKind.cell) else (n, k')) :: _) = _
    rw [List.lookup_cons] at h
    cases hx : x == n with
    | true =>
      rw [hx] at h
      have := eq_of_beq hx
      subst this
      simp at h
      subst h
      by_cases hc : (k' == NameKind.free && env.scope.kind == .function && env.kindOf x == some .cell) = true
      · rw [if_pos hc, if_pos hc]; simp
      · rw [if_neg hc, if_neg hc]; simp
    | false =>
      rw [hx] at h
      have ih := lookup_relabel (env := env) h
      by_cases hc : (k' == NameKind.free && env.scope.kind == .function && env.kindOf n == some .cell) = true
      · rw [if_pos hc, List.lookup_cons, hx]; exact ih
      · rw [if_neg hc, List.lookup_cons, hx]; exact ih

theorem compOk (f : FnEnv c sc names) (hk : c.env.scope.kind = .function) (h : compScopeOk sc cs xs = true) : CompOk c sc cs names xs (clAcc c.env.cells cs.names []) ∧ ∀ D, GlEnv (c.comp cs (clAcc c.env.cells cs.names []) D) cs := by
  unfold compScopeOk at h
  simp only [Bool.and_eq_true, List.all_eq_true, beq_iff_eq, Bool.or_eq_true, bne_iff_ne, ne_eq, Bool.not_eq_true'] at h
  obtain ⟨⟨⟨⟨⟨⟨h1, h2⟩, h3⟩, h4⟩, h5⟩, h6⟩, h7⟩ := h
  have hnd := nodupB_iff h6
  have hfree : ∀ p ∈ cs.names, p.2 = .free → (sc.names.lookup p.1 = some .cell ∧ p.1 ∉ xs) := fun p hp hq => by
    rcases h5 p hp with q | ⟨q1, q2⟩
    · exact absurd hq q
    · refine ⟨q1, fun z => ?_⟩
      have := List.contains_iff_mem.mpr z
      rw [q2] at this; cases this
  refine ⟨⟨h1, h3, fun x hx => ?_, clAcc_mem (by simp), nodupB_iff h7, f.nlt, closureFor_eq fun p hp hq => f.cells _ (hfree p hp hq).1, fun p hp q => ?_, fun p hp q => lookup_of_mem hnd (by rw [← q]; exact hp)⟩, fun D x hx => ?_⟩
  · unfold isVar at hx
    simp only [Bool.and_eq_true, Bool.or_eq_true, beq_iff_eq, Bool.not_eq_true'] at hx
    obtain ⟨⟨⟨hk', hd1⟩, hd2⟩, hd3⟩ := hx
    rcases hk' with (hl | hl) | hl
    · left
      rcases h4 _ (mem_of_lookup hl) with (q | q) | q
      · exact absurd rfl q
      · have q' : x = ".0" := q
        rw [q'] at hd3; simp at hd3
      · exact List.contains_iff_mem.mp q
    · rcases h2 _ (mem_of_lookup hl) with (q | q) | q <;> cases q
    · right
      obtain ⟨hs, hnx⟩ := hfree _ (mem_of_lookup hl) rfl
      have hke : c.env.kindOf x = some .cell := by show c.env.scope.names.lookup x = _; rw [f.scope]; exact hs
      refine ⟨hnx, ?_, ?_, hke, ?_⟩
      · have := lookup_relabel (env := c.env) hl
        rw [if_pos (by rw [hk, hke]; rfl)] at this
        exact this
      · unfold isVar
        simp [hs, hd1, hd2, hd3]
      · obtain ⟨ca, hca⟩ := f.cells x hs
        rw [hca]
        exact clAcc_lookup hca (.inl (mem_of_lookup hl))
  · rcases h2 p hp with (z | z) | z <;> rw [q] at z <;> cases z
  · unfold isGlob at hx
    simp only [Bool.and_eq_true, Bool.not_eq_true', beq_iff_eq] at hx
    refine ⟨?_, hx.2⟩
    have := lookup_relabel (env := c.env) hx.1
    rw [if_neg (by simp)] at this
    exact this
end
end Mine

end

section
set_option maxRecDepth 10000
namespace Mine
open PySem PyProof.Rows PySem.SeqAt PySem.W

section
variable {W : Wd} {C : Calls} {c : Cx} {sc cs : Scope} {names : Names} {xs : List Str} {base : Option Nat}

theorem WdOk.at_ (kw : WdOk W) (hd : List Addr) : WdOk (W.At hd) :=
  ⟨kw.nolim, kw.noseer, kw.tree, kw.script, kw.scrLen, kw.sysmod, kw.kin, kw.globs, kw.globOk, kw.excOk, kw.subOk, kw.attrs, kw.book, kw.meths, kw.initOk⟩

noncomputable def OkB (W : Wd) (C : Calls) (c : Cx) (sc : Scope) (names : Names) (e : Expr) (ce : CE) : Prop := ∀ hd, OkE (W.At hd) C c sc names e ce ∧ OkT (W.At hd) C c sc names e ce

theorem OkB.plain {e : Expr} {ce : CE} (hp : plainT e = true) (h : ∀ hd, OkE (W.At hd) C c sc names e ce) : OkB W C c sc names e ce := fun hd => ⟨h hd, okT_plain hp (h hd)⟩

noncomputable def Go (W : Wd) (C : Calls) (c : Cx) (sc : Scope) (names : Names) (go : Expr → Option CE) : Prop := ∀ e ce, go e = some ce → plainE e ∧ OkB W C c sc names e ce

theorem Go.es {go : Expr → Option CE} (g : Go W C c sc names go) (hd : List Addr) : ∀ {es : List Expr} {ces : List CE}, allM go es = some ces → OkEs (W.At hd) C c sc names es ces
  | [], _, h => by simp [allM] at h; subst h; exact .nil
  | e :: es, ces, h => by
    simp only [allM] at h
    split at h
    · rename_i b bs h1 h2
      cases h
      obtain ⟨p, o⟩ := g e b h1
      exact .cons p (o hd).1 (g.es hd h2)
    · cases h
theorem Go.ts {go : Expr → Option CE} (g : Go W C c sc names go) (hd : List Addr) : ∀ {es : List Expr} {ces : List CE}, allM go es = some ces → OkTs (W.At hd) C c sc names es ces
  | [], _, h => by simp [allM] at h; subst h; exact .nil
  | e :: es, ces, h => by
    simp only [allM] at h
    split at h
    · rename_i b bs h1 h2
      cases h
      obtain ⟨p, o⟩ := g e b h1
      exact .cons (o hd).2 (g.ts hd h2)
    · cases h
theorem Go.o {go : Expr → Option CE} (g : Go W C c sc names go) (hd : List Addr) {e : Option Expr} {ce : Option CE} (h : optM go e = some ce) : OkO (W.At hd) C c sc names e ce := by
  cases e with
  | none => simp [optM] at h; subst h; exact .none
  | some e =>
    simp only [optM] at h
    split at h
    · rename_i b h1; cases h; exact .some ((g e b h1).2 hd).1
    · cases h
theorem biName_shape {f : Expr} {b : Str} (h : biName W.glob sc f = some b) : ∃ x p, f = .Name x p ∧ isGlob sc x = true ∧ W.glob.lookup x = some (.bi b) := by
  unfold biName at h
  split at h
  · rename_i x p
    split at h
    · rename_i hg
      split at h
      · rename_i b' hl
        cases h
        exact ⟨x, p, rfl, hg, hl⟩
      · cases h
    · cases h
  · cases h

theorem okIt_main {go : Expr → Option CE} {tgt e : Expr} {cit : It} (kw : WdOk W) (k : CxOk W c) (gl : GlEnv c sc) (g : Go W C c sc names go) (ht : tgtFits tgt cit = true) (h : cIt W.glob sc go e = some cit) (hd : List Addr) : OkIt (W.At hd) C c sc names tgt e cit := by
  have kd := k.at_ hd
  have kwd := kw.at_ hd
  unfold cIt at h
  split at h
  · rename_i a hr
    split at h
    · rename_i ca h1
      cases h
      unfold oneOf at hr
      split at hr
      · split at hr
        · rename_i hb
          cases hr
          obtain ⟨n, np, rfl, hg, hl⟩ := biName_shape hb
          obtain ⟨g1, g2⟩ := gl n hg
          exact okIt_range kwd kd g1 g2 hl (g _ _ h1).1 ((g _ _ h1).2 hd).1
        · cases hr
      · cases hr
    · cases h
  · split at h
    · rename_i ca h1
      cases h
      exact okIt_val kwd kd ((g _ _ h1).2 hd).1
    · cases h

theorem folded_pure {it : Expr} {env : Env} {go : Expr → Option CE} {cit : It} (hg : ∀ a b d, go (.Set a b d) = none) (h : cIt W.glob sc go it = some cit) : ∀ x, foldedSetIterable it env x = pure x := by
  intro x
  cases it <;> first | rfl | skip
  rename_i a b d
  exfalso
  unfold cIt at h
  simp [oneOf, hg] at h

theorem okBi_call {go : Expr → Option CE} {b : Str} {x : Str} {np pos : Pos} {args : List Expr} {ce : CE} (kw : WdOk W) (k : CxOk W c) (gl : GlEnv c sc) (g : Go W C c sc names go) (hg : isGlob sc x = true) (hl : W.glob.lookup x = some (.bi b)) (h : cBi go b args = some ce) (hd : List Addr) :
    OkE (W.At hd) C c sc names (.Call (.Name x np) args [] pos) ce := by
  unfold cBi at h
  split at h
  · rename_i kk as h1 h2
    cases h
    obtain ⟨g1, g2⟩ := gl x hg
    exact okBuiltin (kw.at_ hd) (k.at_ hd) g1 g2 hl h1 (g.es hd h2)
  · cases h

theorem okCall_main {go : Expr → Option CE} {f : Expr} {args : List Expr} {kws : List Keyword} {pos : Pos} {ce : CE} (kw : WdOk W) (k : CxOk W c) (oc : ∀ hd, OkC (W.At hd) C c) (gl : GlEnv c sc) (g : Go W C c sc names go) (h : cCall W.glob sc go f args kws pos = some ce) (hd : List Addr) :
    OkE (W.At hd) C c sc names (.Call f args kws pos) ce := by
  have kd := k.at_ hd
  have kwd := kw.at_ hd
  unfold cCall at h
  split at h
  · rename_i o m apos
    unfold cMeth at h
    split at h
    · cases h
    · rename_i hc
      split at h
      · rename_i a as h1 h2
        cases h
        refine okMeth kwd kd (oc hd) ?_ ?_ ?_ ((g _ _ h1).2 hd).1 (g.es hd h2)
        · cases hb : plainBase o with
          | true => rfl
          | false => exact absurd (.inr (.inl hb)) hc
        · cases hb : (apos.endLine == pos.line) with
          | true => rfl
          | false => exact absurd (.inr (.inr (.inl hb))) hc
        · exact Nat.lt_of_not_le fun hb => hc (.inr (.inr (.inr hb)))
      · cases h
  · rename_i x np
    split at h
    · rename_i hg
      obtain ⟨g1, g2⟩ := gl x hg
      unfold cFn at h
      split at h
      · rename_i a hl
        split at h
        · rename_i as h1
          cases h
          exact okFn kwd kd (oc hd) g1 g2 hl (g.es hd h1)
        · cases h
      · rename_i b hl
        split at h
        · rename_i hb
          subst hb
          unfold cIsi at h
          split at h
          · rename_i y cx cp
            split at h
            · rename_i hcg
              split at h
              · rename_i a cl h1 h2
                cases h
                obtain ⟨g3, g4⟩ := gl cx hcg
                exact okIsinst kwd kd g1 g2 hl g3 g4 h2 (g _ _ h1).1 ((g _ _ h1).2 hd).1
              · cases h
            · cases h
          · cases h
        · exact okBi_call kw k gl g hg hl h hd
      · cases h
    · cases h
  · cases h

theorem cE_set {n : Nat} {a : List Expr} {b : Nat} {d : Pos} : cE W.glob n sc base names (.Set a b d) = none := by
  cases n <;> rfl

theorem okE_main (kw : WdOk W) : ∀ (n : Nat) {sc : Scope} {base : Option Nat} {names : Names} {c : Cx}, CxOk W c → (∀ hd, OkC (W.At hd) C c) → GlEnv c sc → (∀ b, base = some b → b = names.length ∧ FnEnv c sc names) → Go W C c sc names (cE W.glob n sc base names)
  | 0, _, _, _, _, _, _, _, _ => fun e ce h => by simp [cE] at h
  | n + 1, sc, base, names, c, k, oc, gl, hb => fun e ce h => by
    have g := okE_main kw n k oc gl hb
    cases e with
    | Constant cst kk pos =>
      simp only [cE] at h
      exact ⟨(fun _ _ q => by cases q), OkB.plain rfl fun hd => okConst h⟩
    | Name x pos =>
      simp only [cE] at h
      split at h
      · rename_i hv
        split at h
        · rename_i i hi
          cases h
          exact ⟨(fun _ _ q => by cases q), OkB.plain rfl fun hd => okVar (k.at_ hd) hv hi⟩
        · cases h
      · cases h
    | BinOp l op r pos =>
      simp only [cE] at h
      unfold cBin at h
      split at h
      · rename_i kk a b h1 h2 h3
        cases h
        exact ⟨(fun _ _ q => by cases q), OkB.plain rfl fun hd => okBinOp (kw.at_ hd) (k.at_ hd) h1 ((g _ _ h2).2 hd).1 ((g _ _ h3).2 hd).1⟩
      · cases h
    | UnaryOp op x pos =>
      simp only [cE] at h
      unfold cUn at h
      split at h
      · rename_i a h1
        cases h
        exact ⟨(fun _ _ q => by cases q), fun hd => ⟨okNot ((g _ _ h1).2 hd).1, okT_not ((g _ _ h1).2 hd).2⟩⟩
      · cases h
    | BoolOp op vs pos =>
      simp only [cE] at h
      unfold cBool at h
      split at h
      · rename_i x y r h1
        cases h
        refine ⟨(fun _ _ q => by cases q), fun hd => ⟨?_, ?_⟩⟩
        · intro l hp σ s Q E gg lr hw
          exact okBool (k.at_ hd) (g.es hd h1) gg lr hw
        · intro l hp σ s Q E gg lr hw
          exact wpAny_isTrue_BoolOp (okT_all (k.at_ hd) (g.ts hd h1) gg lr hw)
      · cases h
    | Compare l ops rs pos =>
      simp only [cE] at h
      unfold cCmp at h
      split at h
      · rename_i op r
        split at h
        · rename_i kk a b h1 h2 h3
          split at h
          · cases h
          · rename_i hm
            cases h
            have hm' : behindInMarks op r = false := by simpa using hm
            exact ⟨(fun _ _ q => by cases q), fun hd => ⟨okCmp1 (kw.at_ hd) (k.at_ hd) h1 hm' ((g _ _ h2).2 hd).1 ((g _ _ h3).2 hd).1, okT_cmp1 (kw.at_ hd) (k.at_ hd) h1 hm' ((g _ _ h2).2 hd).1 ((g _ _ h3).2 hd).1⟩⟩
        · cases h
      · cases h
    | Call f args kws pos =>
      simp only [cE] at h
      exact ⟨(fun _ _ q => by cases q), OkB.plain rfl fun hd => okCall_main kw k oc gl g h hd⟩
    | Subscript o i pos =>
      simp only [cE] at h
      unfold cSubs at h
      split at h
      · split at h
        · rename_i a lo hi h1 h2 h3 h4
          cases h
          exact ⟨(fun _ _ q => by cases q), OkB.plain rfl fun hd => okSliceE (kw.at_ hd) (k.at_ hd) ((g _ _ h2).2 hd).1 (g.o hd h3) (g.o hd h4)⟩
        · cases h
      · rename_i hns
        split at h
        · rename_i a b h1 h2
          cases h
          exact ⟨(fun _ _ q => by cases q), OkB.plain rfl fun hd => okSubs (kw.at_ hd) (k.at_ hd) (fun a b d p q => hns a b d p q) ((g _ _ h1).2 hd).1 ((g _ _ h2).2 hd).1⟩
        · cases h
    | List es pos =>
      simp only [cE] at h
      split at h
      · rename_i as h1
        cases h
        exact ⟨(fun _ _ q => by cases q), OkB.plain rfl fun hd => okList (k.at_ hd) (g.es hd h1)⟩
      · cases h
    | Tuple es kk pos =>
      simp only [cE] at h
      split at h
      · rename_i as h1
        cases h
        exact ⟨(fun _ _ q => by cases q), OkB.plain rfl fun hd => okTup (k.at_ hd) (g.es hd h1)⟩
      · cases h
    | ListComp elt gens cs pos =>
      simp only [cE] at h
      split at h
      · rename_i b tgt it ifs
        obtain ⟨rfl, f⟩ := hb b rfl
        split at h
        · rename_i xs hx
          unfold cComp at h
          split at h
          · rename_i xs' _ _ _ _ _ i el cond h1 h2 h3 h4
            split at h
            · rename_i htf
              cases h
              obtain ⟨co, gl'⟩ := compOk f (by rw [f.scope] at *; have := k.kind; rwa [f.scope] at this) h4
              have gi : ∀ D, Go W C (c.comp cs (clAcc c.env.cells cs.names []) D) cs (inNames names xs') (cE W.glob n cs none (inNames names xs')) := fun D =>
                okE_main kw n (k.comp co.kind) (fun hd => oc hd) (gl' D) (fun b q => by cases q)
              refine ⟨(fun _ _ q => by cases q), OkB.plain rfl fun hd => okComp (k.at_ hd) co hx (folded_pure (fun a b d => cE_set) h1) (okIt_main kw k gl g htf h1 hd) (fun hd' D => ((gi D _ _ h2).2 hd').1) (fun hd' D => ?_)⟩
              split at h3
              · cases h3; exact .none
              · simp only [optM] at h3
                split at h3
                · rename_i b hb'
                  cases h3
                  exact .some ((gi D _ _ hb').2 hd').2
                · cases h3
              · cases h3
            · cases h
          · cases h
        · cases h
      · cases h
    | _ => simp [cE] at h
end
end Mine

end

section
set_option maxRecDepth 10000
namespace Mine
open PySem PyProof.Rows PySem.SeqAt PySem.W

noncomputable def strip (h : Heap) (fr : List Addr) : Heap := ⟨h.objs.mapIdx fun i o => if i ∈ fr then { o with data := .freed } else o, h.life⟩
theorem get?_strip (h : Heap) (fr : List Addr) (b : Addr) : (strip h fr).get? b = if b ∈ fr then none else h.get? b := by
  unfold strip Heap.get?
  simp only [Array.getElem?_mapIdx]
  cases e : h.objs[b]? with
  | none => split <;> simp
  | some o =>
    by_cases hb : b ∈ fr
    · simp [hb]
    · simp [hb]

section
variable {W : Wd} {C : Calls} {c : Cx} {sc cs : Scope} {names : Names} {σ σ' : List Addr} {hp hp' : Hp} {s s' : Shared} {l : Loc} {fr : List Addr} {h h' : Heap}

theorem strip_in {b : Addr} {o : Obj} (e : h.get? b = some o) (hb : b ∉ fr) : (strip h fr).get? b = some o := by rw [get?_strip, if_neg hb]; exact e
theorem strip_stays : (strip h fr).StaysIn h := fun b o e => by
  rw [get?_strip] at e
  split at e
  · cases e
  · exact e

theorem VR.strip (g : Gd W fr h σ hp) {v : Value} {u : V} (r : VR W h σ v u) : VR W (Mine.strip h fr) σ v u := by
  have nf : ∀ {a o}, h.get? a = some o → (∀ es n, o.data ≠ .dict es n) → a ∉ fr := fun e hd q => by
    obtain ⟨_, o', es, n, e', hd'⟩ := g.frs _ q
    rw [e] at e'; cases e'; exact hd _ _ hd'
  induction r with
  | none => exact .none
  | bool => exact .bool
  | int => exact .int
  | str => exact .str
  | tup e hl hb _ hh ih => exact .tup (strip_in e (nf e (fun es n q => by cases q))) hl hb ih hh
  | ref e => exact .ref e
  | inst e0 e hc hdi hd hi => exact .inst e0 (strip_in e (nf e fun es n q => by rw [hd] at q; cases q)) hc hdi hd hi
  | scr => exact .scr
  | exc e hc hd => exact .exc (strip_in e (nf e fun es n q => by rw [hd] at q; cases q)) hc hd

theorem Gd.strip (g : Gd W fr h σ hp) (hb : ∀ b ∈ fr, W.B.get? b = none) : Gd W [] (Mine.strip h fr) σ hp := by
  refine ⟨fun b o e => strip_in (g.base b o e) (fun q => by rw [hb b q] at e; cases e), g.len, g.nd, fun i a o e1 e2 => ?_, g.bfree, by simp, fun a ha => ?_⟩
  · refine (g.objs i a o e1 e2).keep (fun ob e => strip_in e (fun q => (g.frs _ q).1 (mem_of_get? e1))) (fun _ _ r => r.strip g)
  · obtain ⟨x, n, e⟩ := g.hid a ha
    refine ⟨x, n, strip_in e fun q => ?_⟩
    obtain ⟨_, o', es, n, e', hd'⟩ := g.frs _ q
    rw [e] at e'; cases e'; cases hd'

theorem ff_base {base base' : Heap} : ∀ {l : List Env}, (∀ b ∈ l.filterMap (·.frame), base'.get? b = none) → h.FunFrames base l → h.FunFrames base' l
  | [], _, _ => trivial
  | env :: l, hb, ⟨h1, ⟨L, o, hf, hn, ho, hd⟩, hr⟩ =>
    ⟨h1, ⟨L, o, hf, hb L (by rw [List.filterMap_cons_some hf]; exact List.mem_cons_self), ho, hd⟩, ff_base (fun b hm => hb b (by rw [List.filterMap_cons_some hf]; exact List.mem_cons_of_mem _ hm)) hr⟩
theorem ff_none {base : Heap} : ∀ {l : List Env}, h.FunFrames base l → ∀ b ∈ l.filterMap (·.frame), base.get? b = none
  | [], _ => by simp
  | env :: l, ⟨_, ⟨L, o, hf, hn, _, _⟩, hr⟩ => fun b hb => by
    rw [List.filterMap_cons_some hf] at hb
    rcases List.mem_cons.mp hb with rfl | hb
    · exact hn
    · exact ff_none hr b hb
theorem LR.ffs (k : CxOk W c) (lr : LR W c sc names l σ h) : h.FunFrames W.B (c.fenv :: c.outer) := by
  obtain ⟨m, F⟩ := lr.frm
  obtain ⟨ob, es, ep, e, hd, _⟩ := F.ns
  exact ⟨by rw [k.fkind]; decide, ⟨c.L, ob, k.frame, fresh_ge _ _ F.above, e, fun vs => by rw [hd]; simp⟩, lr.ff⟩

theorem okRaise {x : Str} {X : Nat} {t : Str} {kk : Nat} {np ap cpos pos : Pos} (kw : WdOk W) (k : CxOk W c) (hx : c.env.kindOf x = some .globalImplicit) (hd : (x == ("__debug__" : Str)) = false) (hg : W.glob.lookup x = some (.exc X)) :
    OkS W C c sc names (.Raise (some (.Call (.Name x np) [.Constant (.str t) kk ap] [] cpos)) none pos) (.raise X) := by
  intro l hp σ s N R E g lr hw
  simp only [wpS] at hw
  obtain ⟨bmB, newId, initId, Bn, mg, O, FB⟩ := kw.excOk x X hg
  obtain ⟨tl, N', nm, q, bs, hdct, sn, sub, ab, col, dd, k0, k1, k2, k3, k5, mN, hC, hN, hni, T⟩ := O.obj
  refine wpAny_Raise_call_subT (C := X) (nm := nm) (q := q) (N := N') (bs := bs) (bm := tl) (hdct := hdct) (sn := sn) (sub := sub) (ab := ab) (col := col) (dd := dd) (k0 := k0) (k1 := k1) (k2 := k2) (k3 := k3) (k5 := k5)
    FB (mN := mN) (T.hasType FB.hasBase) k.hh rfl hni (globName kw k g hx hd hg rfl ⟨rfl, ?_⟩)
  refine Calls.evalArgs_plain (Calls.spliced_cons ?_)
  show wpAny _ _ (eval (.Constant (.str t) kk ap) c.env) _ _ _
  refine wpAny_Constant_str (Calls.spliced_nil ?_)
  refine ⟨rfl, (by show 1 ≤ sizeLine; decide), g.base _ _ hC, hN.keeps g.base, T.keeps g.base, fun h' e hm => ?_⟩
  have ffs := lr.ffs k
  refine ⟨X, l, hp, σ, e, strip s.heap c.fr, .none, rfl, g.strip (ff_none ffs), ⟨[], by simp, by simp⟩, rfl, rfl, fun b o e _ hf _ => strip_in e hf, fun b o e _ _ => ⟨o.slots, hm.keeps b o e⟩, .inr ⟨s.heap, _, strip_stays, ?_, hm⟩, hw⟩
  exact ff_base (fun b hb => by rw [get?_strip, if_pos (show b ∈ c.fr from hb)]) ffs

theorem excMatches_K {X D : Nat} {b : Bool} {e : Addr} {oe : Obj} {A : Around} {Q : Bool → Shared → Prop} {E' : Value → Shared → Prop} (kw : WdOk W) (hK : W.K.In s.heap) (hs : W.G.isSub X (.own D) = some b) (he : s.heap.get? e = some oe) (hc : oe.cls = .ref X) (q : Q b s) :
    wpAny (model W.prog W.w) A (excMatches (.ref e) (.ref D)) Q E' s := by
  obtain ⟨h1, h2, h3, h4⟩ := (kw.subOk X _ b hs).1 D rfl
  have l1 := looks_instIn (M := model W.prog W.w) hK h1
  have l2 : Looks (model W.prog W.w) s.heap (isType (.ref D)) true := (kit_cls (M := model W.prog W.w) hK h2).2.1
  have l3 := looks_subIn (M := model W.prog W.w) hK h3
  have l4 := looks_subIn (M := model W.prog W.w) hK h4
  have l5 : Looks (model W.prog W.w) s.heap (typeOf (.ref e)) (.ref X) := hc ▸ (Looks.ld he).andThen .now
  unfold excMatches isExcClass
  refine wpAny_bind (l1.at ?_)
  simp only [Bool.false_eq_true, if_false]
  refine wpAny_bind (wpAny_pure ?_)
  simp only [List.forIn_cons, List.forIn_nil]
  refine wpAny_bind (wpAny_bind (wpAny_bind (wpAny_bind (l2.at ?_))))
  simp only [if_true]
  refine l3.at ?_
  simp only [Bool.not_true, Bool.false_eq_true, if_false]
  refine wpAny_pure (wpAny_pure ?_)
  refine wpAny_bind (l5.at ?_)
  refine wpAny_bind (wpAny_bind (wpAny_bind (l4.at ?_)))
  cases b with
  | true => exact wpAny_pure (wpAny_pure (wpAny_pure q))
  | false => exact wpAny_pure (wpAny_pure (wpAny_pure q))

structure Hot (W : Wd) (c : Cx) (X : Nat) (e : Addr) (Bx : Heap) (a0 : Value) (σ σ' : List Addr) (hp' : Hp) (s s' : Shared) : Prop where
  gx : Gd W [] Bx σ' hp'
  pre : ∃ t, σ' = σ ++ t ∧ ∀ a ∈ t, s.heap.get? a = none
  gens : s'.gens = s.gens
  os : s'.os = s.os
  k1 : ∀ b o, s.heap.get? b = some o → b ∉ σ → b ∉ c.fr → Bx.get? b = some o
  k2 : ∀ b o, s.heap.get? b = some o → b ∈ c.fr → ∃ sl, s'.heap.get? b = some { o with slots := sl }
  fl : Heap.FlyingW Bx (c.fenv :: c.outer) e (.ref X) a0 s'.heap

theorem Hot.ev {X : Nat} {e : Addr} {Bx : Heap} {a0 : Value} (t : Hot W c X e Bx a0 σ σ' hp' s s') : Ev c.fr σ σ' s s' :=
  ⟨t.pre, t.gx.nd, fun b o h1 h2 => by
    by_cases hf : b ∈ c.fr
    · exact .inr ⟨hf, t.k2 b o h1 hf⟩
    · exact .inl (t.fl.1 _ _ (t.k1 b o h1 h2 hf)), t.gens, t.os⟩
theorem Hot.gd {X : Nat} {e : Addr} {Bx : Heap} {a0 : Value} (t : Hot W c X e Bx a0 σ σ' hp' s s') (g : Gd W c.fr s.heap σ hp) : Gd W c.fr s'.heap σ' hp' := by
  have g' := t.gx.keeps t.fl.1
  refine ⟨g'.base, g'.len, g'.nd, g'.objs, g'.bfree, fun b hb => ⟨fun q => ?_, ?_⟩, g'.hid⟩
  · obtain ⟨o, e1, _⟩ := t.gx.there q
    rw [ff_none t.fl.2.2.1 b hb] at e1; cases e1
  · obtain ⟨_, o, es, n, e1, hd⟩ := g.frs b hb
    obtain ⟨sl, e2⟩ := t.k2 b o e1 hb
    exact ⟨_, es, n, e2, hd⟩
theorem Hot.step {X : Nat} {e : Addr} {Bx : Heap} {a0 : Value} {h₁ : Heap} (t : Hot W c X e Bx a0 σ σ' hp' s s') (g : Gd W c.fr s.heap σ hp) (hf : Heap.FlyingW Bx (c.fenv :: c.outer) e (.ref X) a0 h₁) (up : s'.heap.UpToSlots h₁) :
    Hot W c X e Bx a0 σ σ' hp' s { s' with heap := h₁ } :=
  ⟨t.gx, t.pre, t.gens, t.os, t.k1, fun b o h1 h2 => by
    obtain ⟨sl, e1⟩ := t.k2 b o h1 h2
    obtain ⟨_, o', es, n, e2, hd⟩ := g.frs b h2
    rw [h1] at e2; cases e2
    obtain ⟨sl', e3⟩ := up b _ e1 (fun vs q => by rw [show ({ o with slots := sl } : Obj).data = o.data from rfl, hd] at q; cases q)
    exact ⟨sl', e3⟩, hf⟩

inductive OkH (W : Wd) (c : Cx) (sc : Scope) (names : Names) : List ExceptHandler → List CH → Prop
  | nil : OkH W c sc names [] []
  | set {x y : Str} {i D : Nat} {b : Bool} {kk : Nat} {np yp cp ap pos : Pos} {hs : List ExceptHandler} {chs : List CH} : c.env.kindOf x = some .globalImplicit → (x == ("__debug__" : Str)) = false → clsOf W.glob x = some (.own D) →
      NmOk c sc names c.own y i → OkH W c sc names hs chs → OkH W c sc names (.ExceptHandler (some (.Name x np)) none [.Assign [.Name y yp] (.Constant (.bool b) kk cp) ap] pos :: hs) (.set D i b :: chs)
  | isi {x n ix cx : Str} {i D : Nat} {cl : Cls} {np rp ip np2 cp cpos pos : Pos} {hs : List ExceptHandler} {chs : List CH} : c.env.kindOf x = some .globalImplicit → (x == ("__debug__" : Str)) = false → clsOf W.glob x = some (.own D) →
      NmOk c sc names c.own n i → isVar sc n = true → c.env.kindOf n = some .local → c.env.kindOf ix = some .globalImplicit → (ix == ("__debug__" : Str)) = false → W.glob.lookup ix = some (.bi "isinstance") →
      c.env.kindOf cx = some .globalImplicit → (cx == ("__debug__" : Str)) = false → clsOf W.glob cx = some cl →
      OkH W c sc names hs chs → OkH W c sc names (.ExceptHandler (some (.Name x np)) (some n) [.Return (some (.Call (.Name ix ip) [.Name n np2, .Name cx cp] [] cpos)) rp] pos :: hs) (.isi D i cl :: chs)

theorem isiExc {A : Around} {E' : Value → Shared → Prop} {X i : Nat} {cl : Cls} {n ix cx : Str} {ip np2 cp cpos : Pos} {Qv : Value → Shared → Prop} (kw : WdOk W) (k : CxOk W c) (g : Gd W c.fr s.heap σ hp) (lr : LR W c sc names l σ s.heap)
    (hv : isVar sc n = true) (hn : names.lookup n = some i) (hl : c.env.kindOf n = some .local) (hu : lget l i = some (.exc X)) (h1 : c.env.kindOf ix = some .globalImplicit) (h2 : (ix == ("__debug__" : Str)) = false) (h3 : W.glob.lookup ix = some (.bi "isinstance"))
    (h4 : c.env.kindOf cx = some .globalImplicit) (h5 : (cx == ("__debug__" : Str)) = false) (h6 : clsOf W.glob cx = some cl) (hs : W.G.isSub X cl = some true) (q : ∀ tk, Qv (.bool true) { s with toks := tk }) :
    wpAny (model W.prog W.w) A (eval (.Call (.Name ix ip) [.Name n np2, .Name cx cp] [] cpos) c.env) Qv E' s := by
  refine wpAny_Call_ofName (globName (v := .builtin "isinstance") kw k g h1 h2 h3 rfl ?_)
  show wpAny _ _ (callWith cpos _ [] ((false, eval (.Name n np2) c.env) :: (false, eval (.Name cx cp) c.env) :: []) []) _ _ _
  refine callWith_of (P := fun _ => True) (by rfl) mach_builtin ?_
  refine Calls.evalArgs_plain (Calls.spliced_cons ?_)
  obtain ⟨v, rv, rd⟩ := lr.rd n i _ hv hn hu
  have hd : (n == ("__debug__" : Str)) = false := by
    unfold isVar at hv; simp only [Bool.and_eq_true, Bool.not_eq_true'] at hv; exact hv.1.1.2
  refine wpAny_Name ?_ hd
  rcases rd with ⟨_, m, hns, hm⟩ | ⟨hk, _⟩
  · refine wpAny_loadName_local k.kind hl hns hm ?_
    refine Calls.spliced_cons (clsName kw k g h4 h5 h6 (Calls.spliced_nil ⟨trivial, ?_⟩))
    have h7 := (kw.subOk _ _ _ hs).2
    cases rv with
    | @exc e o vs _ e1 e2 e3 =>
      refine call_isinstance (S := fun _ R s => (W.K.In s.heap ∧ (∃ oe, s.heap.get? e = some oe ∧ oe.cls = o.cls)) ∧ ∀ tk, R (.ok (.ret (.bool true))) { s with toks := tk })
        (fun prog w A R s hs => isinstance_outer (ans_true (t := o.cls) (H := fun h => ∃ oe, h.get? e = some oe ∧ oe.cls = o.cls) (fun M h ⟨oe, h1, h2⟩ => h2 ▸ (Looks.ld h1).andThen .now) (by rw [e2]; exact h7) 0 _ prog w A R s hs) (by intro q; cases q)) ⟨⟨kIn kw g, o, e1, rfl⟩, q⟩
  · rw [hl] at hk; rcases hk with hk | hk <;> cases hk

theorem okHandlers {X : Nat} {e : Addr} {Bx : Heap} {a0 : Value} {N : Loc → Hp → Prop} {R : V → Hp → Prop} {E' : Value → Shared → Prop} (kw : WdOk W) (k : CxOk W c) (g : Gd W c.fr s.heap σ hp) (lr : LR W c sc names l σ s.heap) :
    ∀ {hs : List ExceptHandler} {chs : List CH}, OkH W c sc names hs chs → ∀ {s' : Shared}, Hot W c X e Bx a0 σ σ' hp' s s' → wpH W.G chs X l hp' N R →
    wpAny (model W.prog W.w) c.A (handleBy (.ref e) c.env hs) (PS W c sc names σ s N R) E' s' := by
  intro hs chs o
  induction o with
  | nil => intro s' t hw; simp only [wpH] at hw
  | @set x y i D b kk np yp cp ap pos hs chs hx hd hcl nm _ ih =>
    intro s' t hw
    simp only [wpH] at hw
    have g' := t.gd g
    obtain ⟨oe, ho, hoc⟩ := t.fl.there
    refine wpAny_handleBy_cons (codeAny_handlers_test (clsName (A := c.A.mark (some (.ref e))) kw k g' hx hd hcl ?_)) (by intro q; cases q)
    split at hw
    · rename_i hs'
      refine excMatches_K kw (kIn kw g') hs' ho hoc ?_
      refine codeAny_handlers_suite (lands_againW t.fl fun h₆ hf₆ up₆ => ?_)
      have t6 := t.step g hf₆ up₆
      have g6 := t6.gd g
      have ev := t6.ev
      have lr6 := lr.ev k g g6 ev
      refine wpAny_execs_cons (wpAny_Assign_Name (wpAny_Constant_bool ?_) rfl)
      refine wpAny_mono (okStore (s := { s' with heap := h₆ }) (A := c.A.mark (some (.ref e))) (E' := fun _ _ => False) k nm g6 lr6 (.bool (b := b))) (fun _ s₇ p => ?_) fun _ _ z => False.elim z
      obtain ⟨g7, lr7, x7⟩ := p
      exact wpAny_execs_nil ⟨_, _, _, g7, lr7, (ev.x (lr.own_not g)).trans x7, hw⟩
    · rename_i hs'
      refine excMatches_K kw (kIn kw g') hs' ho hoc ?_
      exact ih t hw
    · exact hw.elim
  | @isi x n ix cx i D cl np rp ip np2 cp cpos pos hs chs hx hd hcl nm hv hn i1 i2 i3 i4 i5 i6 _ ih =>
    intro s' t hw
    simp only [wpH] at hw
    have g' := t.gd g
    obtain ⟨oe, ho, hoc⟩ := t.fl.there
    refine wpAny_handleBy_cons (codeAny_handlers_test (clsName (A := c.A.mark (some (.ref e))) kw k g' hx hd hcl ?_)) (by intro q; cases q)
    split at hw
    · rename_i hs'
      obtain ⟨hsub, hw⟩ := hw
      refine excMatches_K kw (kIn kw g') hs' ho hoc ?_
      refine codeAny_handlers_suite_as (lands_againW t.fl fun h₆ hf₆ up₆ => ?_)
      have t6 := t.step g hf₆ up₆
      have g6 := t6.gd g
      have ev := t6.ev
      have lr6 := lr.ev k g g6 ev
      obtain ⟨oe6, vs6, he6, hc6, hd6, _⟩ := hf₆.first
      have rv : VR W h₆ σ' (.ref e) (.exc X) := .exc he6 hc6 hd6
      refine wpAny_mono (okStore (s := { s' with heap := h₆ }) (A := c.A.mark (some (.ref e))) (E' := fun _ _ => False) k nm g6 lr6 rv) (fun _ s₇ p => ?_) fun _ _ z => False.elim z
      obtain ⟨g7, lr7, x7⟩ := p
      refine wpAny_execs_cons (wpAny_Return_some (isiExc kw k g7 lr7 hv nm.at_ hn (lget_lset_self (by rw [lr.len]; exact nm.lt)) i1 i2 i3 i4 i5 i6 hsub fun tk => ?_))
      have x8 := (ev.x (lr.own_not g)).trans x7
      obtain ⟨m9, hn9⟩ := lr7.ns
      refine wpAny_nameGoes_keeps (s := { s₇ with toks := tk }) hn hn9 (by rw [k.kind]; rfl) fun h' v' hn' sb => ?_
      have hown : c.env.locals ∈ c.own := List.mem_cons_self
      have ks : ∀ b o, b ≠ c.env.locals → s₇.heap.get? b = some o → h'.get? b = some o := fun b o hb e => sb.extBut b o hb e
      have hnew : ∃ o es n, h'.get? c.env.locals = some o ∧ o.data = .dict es n := by obtain ⟨o, es, n, e, hd, _⟩ := hn'; exact ⟨o, es, n, e, hd⟩
      have g10 := g7.put (lr7.own_not g7 _ hown) (lr7.own_soft _ hown) (lr7.own_b _ hown) ks (fun _ => hnew)
      have kp : Kp c.fr (σ' ++ c.own) s₇.heap h' := fun b o e hb => .inl (ks b o (fun q => hb (List.mem_append_right _ (q ▸ hown))) e)
      have x10 : EvX c.fr c.own σ' σ' s₇ { s₇ with heap := h', toks := tk + 1 } := by
        refine ⟨⟨[], by simp, by simp⟩, g7.nd, kp, fun b hb o e => ?_, rfl, rfl⟩
        by_cases q : b = c.env.locals
        · subst q; obtain ⟨o', _, _, e', _⟩ := hnew; exact ⟨o', e'⟩
        · exact ⟨o, ks _ _ q e⟩
      exact ⟨_, _, σ', .bool, g10, x8.trans x10, hw⟩
    · rename_i hs'
      refine excMatches_K kw (kIn kw g') hs' ho hoc ?_
      exact ih t hw
    · exact hw.elim

theorem okCaught {h₀ : ExceptHandler} {hs : List ExceptHandler} {chs : List CH} {N : Loc → Hp → Prop} {R : V → Hp → Prop} {E' : Value → Shared → Prop} {x : Value} {s₁ : Shared} (kw : WdOk W) (k : CxOk W c) (he : c.fenv = c.env) (g : Gd W c.fr s.heap σ hp) (lr : LR W c sc names l σ s.heap)
    (oh : OkH W c sc names (h₀ :: hs) chs) (z : XC W (c.fenv :: c.outer) c.fr σ s (fun x h2 => wpH W.G chs x l h2 N R) x s₁) :
    wpAny (model W.prog W.w) c.A (noteFrame x c.env) (fun _ s₂ => wpAny (model W.prog W.w) c.A (setFlight x none) (fun _ s₃ => wpAny (model W.prog W.w) c.A (handleBy x c.env (h₀ :: hs)) (PS W c sc names σ s N R) E' s₃) E' s₂) E' s₁ := by
  obtain ⟨X, hp', σ', ⟨e, Bx, a0, rfl, gx, pre, q1, q2, k1, k2, fl⟩, hw⟩ := z
  have t1 : Hot W c X e Bx a0 σ σ' hp' s s₁ := ⟨gx, pre, q1, q2, k1, k2, fl⟩
  have hf : c.env.frame = some c.L := k.eframe
  have stk : c.A.frames = some (c.env :: c.outer) := by rw [k.stk, he]
  rw [he] at fl
  refine wpAny_looks_onW stk hf fl fun h₄ held up₄ => ?_
  refine wpAny_landsW held fun h₅ fl₅ up₅ => ?_
  rw [← he] at fl₅
  exact okHandlers kw k g lr oh (t1.step g fl₅ (up₄.trans up₅)) hw

theorem okTryE {x : Str} {a : Nat} {np cpos ep pos : Pos} {es : List Expr} {ces : List CE} {h₀ : ExceptHandler} {hs : List ExceptHandler} {chs : List CH} (kw : WdOk W) (k : CxOk W c) (he : c.fenv = c.env) (oc : OkC W C c) (hx : c.env.kindOf x = some .globalImplicit) (hd : (x == ("__debug__" : Str)) = false) (hg : W.glob.lookup x = some (.fn a))
    (o : OkEs W C c sc names es ces) (oh : OkH W c sc names (h₀ :: hs) chs) : OkS W C c sc names (.Try [.Expr (.Call (.Name x np) es [] cpos) ep] (h₀ :: hs) [] [] pos) (.tryC none a ces chs) := by
  intro l hp σ s N R E g lr hw
  simp only [wpS] at hw
  refine wpAny_Try_except (wpAny_execs_cons ?_)
  rw [exec_Expr _ _ _ (by unfold interactive; rw [k.kind]; rfl) rfl]
  refine wpAny_bind (wpAny_standAt (wpAny_bind (wpAny_mono (okFnX kw k oc hx hd hg o g lr hw) (fun v s₁ p => ?_) fun x s₁ z => okCaught kw k he g lr oh z)))
  obtain ⟨u, hp₁, σ₁, r, g₁, y, q⟩ := p
  exact wpAny_dropValue (wpAny_execs_nil (wpAny_execs_nil (ps_next k g lr g₁ y q)))
theorem okTryA {x y : Str} {a i : Nat} {np yp cpos ep pos : Pos} {es : List Expr} {ces : List CE} {h₀ : ExceptHandler} {hs : List ExceptHandler} {chs : List CH} (kw : WdOk W) (k : CxOk W c) (he : c.fenv = c.env) (oc : OkC W C c) (hx : c.env.kindOf x = some .globalImplicit) (hd : (x == ("__debug__" : Str)) = false) (hg : W.glob.lookup x = some (.fn a))
    (n : NmOk c sc names c.own y i) (o : OkEs W C c sc names es ces) (oh : OkH W c sc names (h₀ :: hs) chs) : OkS W C c sc names (.Try [.Assign [.Name y yp] (.Call (.Name x np) es [] cpos) ep] (h₀ :: hs) [] [] pos) (.tryC (some i) a ces chs) := by
  intro l hp σ s N R E g lr hw
  simp only [wpS] at hw
  refine wpAny_Try_except (wpAny_execs_cons ?_)
  refine wpAny_Assign_Name (wpAny_mono (okFnX kw k oc hx hd hg o g lr hw) (fun v s₁ p => ?_) fun x s₁ z => okCaught kw k he g lr oh z) rfl
  obtain ⟨u, hp₁, σ₁, r, g₁, y, q⟩ := p
  refine wpAny_mono (okStore (E' := fun _ _ => False) k n g₁ (lr.ev k g g₁ y) r) (fun _ s₂ p => ?_) fun _ _ z => False.elim z
  exact wpAny_execs_nil (wpAny_execs_nil ⟨_, hp₁, σ₁, p.1, p.2.1, (y.x (lr.own_not g)).trans p.2.2, q⟩)
end
end Mine

end

section
set_option maxRecDepth 10000
namespace Mine
open PySem PyProof.Rows PySem.SeqAt PySem.W

section
variable {W : Wd} {C : Calls} {c : Cx} {sc cs : Scope} {names : Names} {xs : List Str} {base : Option Nat}

theorem comp_parts (kw : WdOk W) (k : CxOk W c) (oc : ∀ hd, OkC (W.At hd) C c) (f : FnEnv c sc names) {n : Nat} {elt : Expr} {gens : List Comprehension} {cs : Scope} {pos : Pos} {ce : CE} (h : cE W.glob n sc (some names.length) names (.ListComp elt gens cs pos) = some ce) :
    ∃ tgt it ifs xs cl cel cit cond, gens = [⟨tgt, it, ifs, 0⟩] ∧ ce = .comp cel xs.length cit cond ∧ CompOk c sc cs names xs cl ∧ tgtNames tgt = some xs ∧ (∀ x, foldedSetIterable it c.env x = pure x) ∧ (∀ hd, OkIt (W.At hd) C c sc names tgt it cit) ∧
      (∀ hd D, OkE (W.At hd) C (c.comp cs cl D) cs (inNames names xs) elt cel) ∧ (∀ hd D, OkIf (W.At hd) C (c.comp cs cl D) cs (inNames names xs) ifs cond) := by
  cases n with
  | zero => simp [cE] at h
  | succ n =>
    have gl := f.gl
    have g := okE_main kw n k oc gl (fun b q => by cases q; exact ⟨rfl, f⟩ : ∀ b, some names.length = some b → b = names.length ∧ FnEnv c sc names)
    simp only [cE] at h
    split at h
    · rename_i b tgt it ifs hbb
      cases hbb
      split at h
      · rename_i xs hx
        unfold cComp at h
        split at h
        · rename_i xs' _ _ _ _ _ i el cond h1 h2 h3 h4
          split at h
          · rename_i htf
            cases h
            obtain ⟨co, gl'⟩ := compOk f (by have := k.kind; exact this) h4
            have gi : ∀ D, Go W C (c.comp cs (clAcc c.env.cells cs.names []) D) cs (inNames names xs') (cE W.glob n cs none (inNames names xs')) := fun D =>
              okE_main kw n (k.comp co.kind) (fun hd => oc hd) (gl' D) (fun b q => by cases q)
            refine ⟨tgt, it, ifs, xs', _, el, i, cond, rfl, rfl, co, hx, folded_pure (fun a b d => cE_set) h1, fun hd => okIt_main kw k gl g htf h1 hd, fun hd' D => ((gi D _ _ h2).2 hd').1, fun hd' D => ?_⟩
            split at h3
            · cases h3; exact .none
            · simp only [optM] at h3
              split at h3
              · rename_i b hb'
                cases h3
                exact .some ((gi D _ _ hb').2 hd').2
              · cases h3
            · cases h3
          · cases h
        · cases h
      · cases h
    · cases h

theorem swaps_not {v : Expr} {t : Option Expr} {line : Nat} {env : Env} {n : Nat} {ce : CE} (h : cE W.glob n sc base names v = some ce) (hn : ∀ a b d p, v ≠ .ListComp a b d p) : swapsWith v t line env = pure false := by
  cases v <;> first | rfl | skip
  · exact absurd rfl (hn _ _ _ _)
  · cases n <;> simp [cE] at h
  · cases n <;> simp [cE] at h

theorem varsOf_one {x : Str} {i : Nat} (h : varsOf sc names [x] = some [i]) : isVar sc x = true ∧ names.lookup x = some i := by
  unfold varsOf at h
  simp only [allM] at h
  split at h
  · rename_i b bs h1 h2
    cases h
    split at h1
    · rename_i hv; exact ⟨hv, h1⟩
    · cases h1
  · cases h

theorem nms_of (f : FnEnv c sc names) : ∀ {es : List Expr} {xs : List Str} {is : List Nat}, allM (fun e => match e with | .Name x _ => some x | _ => none) es = some xs → varsOf sc names xs = some is → NmsOk c sc names c.own es is
  | [], xs, is, h1, h2 => by
    simp [allM] at h1; subst h1
    simp [varsOf, allM] at h2; subst h2
    exact .nil
  | e :: es, xs, is, h1, h2 => by
    simp only [allM] at h1
    split at h1
    · rename_i y ys h3 h4
      cases h1
      split at h3
      · cases h3
        unfold varsOf at h2
        simp only [allM] at h2
        split at h2
        · rename_i i is' h5 h6
          cases h2
          split at h5
          · rename_i hv
            exact .cons (f.nm hv h5) (nms_of f h4 h6)
          · cases h5
        · cases h2
      · cases h3
    · cases h1

theorem tgt_of (f : FnEnv c sc names) {t : Expr} {ct : Tgt} (h : cTgt sc names t = some ct) : TgtOk c sc names c.own t ct := by
  unfold cTgt at h
  split at h
  · split at h
    · rename_i i h1
      cases h
      obtain ⟨h2, h3⟩ := varsOf_one h1
      exact .name (f.nm h2 h3)
    · cases h
  · split at h
    · rename_i xs h1
      split at h
      · rename_i is h2
        cases h
        unfold tgtNames at h1
        simp only at h1
        split at h1
        · exact .tup (nms_of f h1 h2)
        · cases h1
      · cases h
    · cases h
  · cases h

theorem okAssign_main (kw : WdOk W) (k : CxOk W c) (oc : ∀ hd, OkC (W.At hd) C c) (f : FnEnv c sc names) {n : Nat} {t v : Expr} {pos : Pos} {cst : CS} (h : cAssign W.glob sc names n t v = some cst) (hd : List Addr) : OkS (W.At hd) C c sc names (.Assign [t] v pos) cst := by
  have g : Go W C c sc names (cX W.glob sc names n) := okE_main kw n k oc f.gl (fun b q => by cases q; exact ⟨rfl, f⟩)
  have kd := k.at_ hd
  unfold cAssign at h
  split at h
  · rename_i x np
    split at h
    · rename_i i ce h1 h2
      cases h
      obtain ⟨h3, h4⟩ := varsOf_one h1
      have nm := f.nm h3 h4
      by_cases hc : ∃ a b d p, v = .ListComp a b d p
      · obtain ⟨elt, gens, cs, cp, rfl⟩ := hc
        cases hb : (c.env.blockKind == .function && c.env.kindOf x == some .local && np.line == cp.line && !(cs.names.any fun (n, k) => n == x && (k == .local || k == .cell))) with
        | true =>
          obtain ⟨tgt, it, ifs, xs, cl, cel, cit, cond, rfl, rfl, co, hx, hf, oit, oe, oi⟩ := comp_parts kw k oc f h2
          refine okAssignComp kd nm ?_ co hx hf (oit hd) (fun hd' D => oe hd' D) (fun hd' D => oi hd' D)
          show (pure _ : Sem Bool) = pure true
          exact congrArg pure hb
        | false =>
          refine okAssign kd nm ?_ ((g _ _ h2).2 hd).1
          show (pure _ : Sem Bool) = pure false
          exact congrArg pure hb
      · exact okAssign kd nm (swaps_not h2 fun a b d p q => hc ⟨a, b, d, p, q⟩) ((g _ _ h2).2 hd).1
    · cases h
  · cases h

theorem strArg_shape {as : List Expr} (h : strArg as = true) : ∃ t kk p, as = [.Constant (.str t) kk p] := by
  unfold strArg at h
  split at h
  · split at h
    · split at h
      · exact ⟨_, _, _, rfl⟩
      · cases h
    · cases h
  · cases h
theorem okRaise_main (kw : WdOk W) (k : CxOk W c) (f : FnEnv c sc names) {e : Option Expr} {pos : Pos} {cst : CS} (h : cRaise W.glob sc e = some cst) (hd : List Addr) : OkS (W.At hd) C c sc names (.Raise e none pos) cst := by
  unfold cRaise at h
  split at h
  · unfold cRaise1 at h
    split at h
    · split at h
      · rename_i fe as ks cpos hb
        simp only [Bool.and_eq_true, List.isEmpty_iff] at hb
        obtain ⟨h1, rfl⟩ := hb
        obtain ⟨t, kk, p, rfl⟩ := strArg_shape h1
        unfold cRaise2 at h
        split at h
        · rename_i x np
          split at h
          · rename_i hg
            split at h
            · rename_i X hl
              cases h
              obtain ⟨g1, g2⟩ := f.gl x hg
              exact okRaise (kw.at_ hd) (k.at_ hd) g1 g2 hl
            · cases h
          · cases h
        · cases h
      · cases h
    · cases h
  · cases h
theorem one1_shape {ts : List Expr} {x : Str} (h : one1 ts = some x) : ∃ p, ts = [.Name x p] := by
  unfold one1 at h
  split at h
  · split at h
    · cases h; exact ⟨_, rfl⟩
    · cases h
  · cases h
theorem cBoolE_shape {v : Expr} {b : Bool} (h : cBoolE v = some b) : ∃ kk p, v = .Constant (.bool b) kk p := by
  unfold cBoolE at h
  split at h
  · split at h
    · cases h; exact ⟨_, _, rfl⟩
    · cases h
  · cases h
theorem isiArgs_shape {as : List Expr} {x y : Str} (h : isiArgs as = some (x, y)) : ∃ p q, as = [.Name x p, .Name y q] := by
  unfold isiArgs at h
  split at h
  · split at h
    · cases h; exact ⟨_, _, rfl⟩
    · cases h
  · cases h
theorem hCls_shape {t : Option Expr} {D : Nat} (h : hCls W.glob sc t = some D) : ∃ x p, t = some (.Name x p) ∧ isGlob sc x = true ∧ clsOf W.glob x = some (.own D) := by
  unfold hCls at h
  split at h
  · split at h
    · split at h
      · rename_i hg
        split at h
        · rename_i hc; cases h; exact ⟨_, _, rfl, hg, hc⟩
        · cases h
      · cases h
    · cases h
  · cases h
theorem cCallE_shape {n : Nat} {e : Expr} {a : Nat} {as : List CE} (h : cCallE W.glob sc names n e = some (a, as)) : ∃ x np es cp, e = .Call (.Name x np) es [] cp ∧ isGlob sc x = true ∧ W.glob.lookup x = some (.fn a) ∧ allM (cX W.glob sc names n) es = some as := by
  unfold cCallE at h
  split at h
  · split at h
    · rename_i hk
      have := List.isEmpty_iff.mp hk
      subst this
      unfold cCallF at h
      split at h
      · split at h
        · rename_i hg
          split at h
          · rename_i h1 h2; cases h; exact ⟨_, _, _, _, rfl, hg, h1, h2⟩
          · cases h
        · cases h
      · cases h
    · cases h
  · cases h
theorem okHs_main (f : FnEnv c sc names) (hd : List Addr) : ∀ {hs : List ExceptHandler} {chs : List CH}, cHs W.glob sc names hs = some chs → OkH (W.At hd) c sc names hs chs
  | [], chs, h => by simp [cHs] at h; subst h; exact .nil
  | hh :: hs, chs, h => by
    simp only [cHs] at h
    split at h
    · rename_i a b h1 h2
      cases h
      have ih := okHs_main f hd h2
      obtain ⟨ht, hnm, hbody, hpos⟩ := hh
      unfold cH1 at h1
      try simp only at h1
      split at h1
      · rename_i D st h3
        obtain ⟨x, p, rfl, hg, hc⟩ := hCls_shape h3
        obtain ⟨g1, g2⟩ := f.gl x hg
        split at h1
        · unfold cHset at h1
          split at h1
          · split at h1
            · rename_i y b h4 h5
              obtain ⟨yp, rfl⟩ := one1_shape h4
              obtain ⟨kk, cp, rfl⟩ := cBoolE_shape h5
              split at h1
              · rename_i i h6
                cases h1
                obtain ⟨v1, v2⟩ := varsOf_one h6
                exact .set g1 g2 hc (f.nm v1 v2) ih
              · cases h1
            · cases h1
          · cases h1
        · rename_i y
          unfold cHisi at h1
          split at h1
          · split at h1
            · split at h1
              · rename_i hl
                split at h1
                · rename_i i cl h6 h7
                  cases h1
                  obtain ⟨v1, v2⟩ := varsOf_one h6
                  unfold cIsiE at h7
                  split at h7
                  · split at h7
                    · rename_i ix ip a' b' h8
                      obtain ⟨p1, p2, rfl⟩ := isiArgs_shape h8
                      split at h7
                      · rename_i hb
                        simp only [Bool.and_eq_true, List.isEmpty_iff, beq_iff_eq] at hb
                        obtain ⟨⟨⟨⟨rfl, b1⟩, b2⟩, b3⟩, rfl⟩ := hb
                        obtain ⟨g3, g4⟩ := f.gl ix b1
                        obtain ⟨g5, g6⟩ := f.gl b' b3
                        exact .isi g1 g2 hc (f.nm v1 v2) v1 (by show c.env.scope.names.lookup _ = _; rw [f.scope]; exact eq_of_beq hl) g3 g4 b2 g5 g6 h7 ih
                      · cases h7
                    · cases h7
                  · cases h7
                · cases h1
              · cases h1
            · cases h1
          · cases h1
      · cases h1
    · cases h
theorem okTry_main (kw : WdOk W) (k : CxOk W c) (hfe : c.fenv = c.env) (oc : ∀ hd, OkC (W.At hd) C c) (f : FnEnv c sc names) {n : Nat} {body els fin : List Stmt} {hs : List ExceptHandler} {pos : Pos} {cst : CS} (h : cTry W.glob sc names n body hs els fin = some cst) (hd : List Addr) : OkS (W.At hd) C c sc names (.Try body hs els fin pos) cst := by
  have g : Go W C c sc names (cX W.glob sc names n) := okE_main kw n k oc f.gl (fun b q => by cases q; exact ⟨rfl, f⟩)
  unfold cTry at h
  split at h
  · rename_i st
    split at h
    · rename_i chs h1
      have oh := okHs_main f hd h1
      split at h
      · cases h
      · rename_i hne
        cases hs with
        | nil => exact absurd rfl hne
        | cons h₀ hs =>
          unfold cTry1 at h
          split at h
          · split at h
            · rename_i a as h2
              cases h
              obtain ⟨x, np, es, cp, rfl, hg, hl, he⟩ := cCallE_shape h2
              obtain ⟨g1, g2⟩ := f.gl x hg
              exact okTryE (kw.at_ hd) (k.at_ hd) hfe (oc hd) g1 g2 hl (g.es hd he) oh
            · cases h
          · split at h
            · rename_i y h3
              obtain ⟨yp, rfl⟩ := one1_shape h3
              split at h
              · rename_i i a as h4 h2
                cases h
                obtain ⟨x, np, es, cp, rfl, hg, hl, he⟩ := cCallE_shape h2
                obtain ⟨g1, g2⟩ := f.gl x hg
                obtain ⟨v1, v2⟩ := varsOf_one h4
                exact okTryA (kw.at_ hd) (k.at_ hd) hfe (oc hd) g1 g2 hl (f.nm v1 v2) (g.es hd he) oh
              · cases h
            · cases h
          · cases h
    · cases h
  · cases h

theorem okS_main (kw : WdOk W) (k : CxOk W c) (hfe : c.fenv = c.env) (oc : ∀ hd, OkC (W.At hd) C c) (f : FnEnv c sc names) : ∀ n, (∀ st cst, cS W.glob sc names n st = some cst → ∀ hd, OkS (W.At hd) C c sc names st cst) ∧ (∀ st cst, cSs W.glob sc names n st = some cst → ∀ hd, OkSs (W.At hd) C c sc names st cst)
  | 0 => ⟨fun st cst h => by simp [cS] at h, fun st cst h => by simp [cSs] at h⟩
  | n + 1 => by
    obtain ⟨ihS, ihSs⟩ := okS_main kw k hfe oc f n
    have g : Go W C c sc names (cX W.glob sc names n) := okE_main kw n k oc f.gl (fun b q => by cases q; exact ⟨rfl, f⟩)
    refine ⟨fun st cst h hd => ?_, fun st cst h hd => ?_⟩
    · have kd := k.at_ hd
      simp only [cS] at h
      split at h
      · split at h
        · cases h
        · rename_i hnl
          split at h
          · rename_i ce h1
            cases h
            exact okExpr kd (fun a b d p q => hnl _ _ _ _ q) (swaps_not h1 fun a b d p q => hnl _ _ _ _ q) ((g _ _ h1).2 hd).1
          · cases h
      · unfold cRet at h
        split at h
        · split at h
          · rename_i ce h1
            cases h
            exact okRet ((g _ _ h1).2 hd).1
          · cases h
        · cases h
      · unfold cAssign1 at h
        split at h
        · exact okAssign_main kw k oc f h hd
        · cases h
      · split at h
        · rename_i c' t' f' h1 h2 h3
          cases h
          exact okIte kd ((g _ _ h1).2 hd).2 (ihSs _ _ h2 hd) (ihSs _ _ h3 hd)
        · cases h
      · split at h
        · rename_i t' i b h1 h2 h3
          split at h
          · rename_i htf
            cases h
            exact okFor kd hfe (folded_pure (fun a b d => cE_set) h2) (tgt_of f h1) (okIt_main kw k f.gl g htf h2 hd) (fun hd' => ihSs _ _ h3 hd')
          · cases h
        · cases h
      · exact okTry_main kw k hfe oc f h hd
      · split at h
        · exact okRaise_main kw k f h hd
        · cases h
      · cases h
    · simp only [cSs] at h
      split at h
      · cases h; exact okNil (k.at_ hd)
      · split at h
        · rename_i a b h1 h2
          cases h
          exact okCons (ihS _ _ h1 hd) (ihSs _ _ h2 hd)
        · cases h
end
end Mine

end

section
set_option maxRecDepth 10000
namespace Mine
open PySem PyProof.Rows PySem.SeqAt PySem.W

noncomputable def frOf (fs : List Env) : List Addr := fs.filterMap (·.frame)

inductive FnAt (W : Wd) (f : Nat) (cfn : CFn) : Prop
  | mk (o : Obj) (fd : FuncData) (body : List Stmt) (ps : List Str) (fuel : Nat) : W.B.get? f = some o → o.data = .func fd → fd.scope.isCoroutine = false → fd.scope.isGenerator = false → fd.body = .stmts body → W.B.CodeRec fd.code fd.qualname →
  fd.globals = mainGlobals → fd.closure = [] → fd.builtins = builtinsNs → fnScopeOk ps fd.scope = true → cSs W.glob fd.scope ((fnNames ps fd.scope).zipIdx) fuel body = some cfn.body → cfn.params = ps.length → cfn.locals = (fnNames ps fd.scope).length →
  (∀ vs : List Value, vs.length = ps.length → bindArgs fd ⟨vs, []⟩ = pure (ps.zip vs)) → FnAt W f cfn

noncomputable abbrev PEf (W : Wd) (fr : List Addr) (σ : List Addr) (s : Shared) (Q : V → Hp → Prop) (v : Value) (s' : Shared) : Prop := PEr W fr σ s Q v s'

noncomputable def OkCf (W : Wd) (C : Calls) (fs : List Env) (dep un : Nat) : Prop :=
  ∀ (A : Around) (f : Nat) (vs : List Value) (us : List V) (hp : Hp) (σ : List Addr) (s : Shared) (Q : V → Hp → Prop) (E : Nat → Hp → Prop),
    A.frames = some fs → A.handled = none → A.depth ≤ dep → A.units ≤ un → W.B.objs.size ≤ s.heap.objs.size →
    Gd W (frOf fs) s.heap σ hp → s.heap.FunFrames W.B fs → VRs W s.heap σ vs us → C f us hp Q E →
    codeAny (model W.prog W.w) A (.call (.ref f) ⟨vs, []⟩) (RC (PEf W (frOf fs) σ s Q) (XC W fs (frOf fs) σ s E)) s

section
variable {W : Wd} {C : Calls} {c : Cx} {sc : Scope} {names : Names} {σ : List Addr} {hp : Hp} {s : Shared}

theorem lookup_zipIdx {x : Str} {i : Nat} : ∀ {xs : List Str} {b : Nat}, (xs.zipIdx b).lookup x = some i → b ≤ i ∧ xs[i - b]? = some x
  | [], b, h => by simp at h
  | y :: r, b, h => by
    rw [List.zipIdx_cons, List.lookup_cons] at h
    cases hx : x == y with
    | true =>
      rw [hx] at h; simp at h; subst h
      have := eq_of_beq hx; subst this
      simp
    | false =>
      rw [hx] at h
      obtain ⟨h1, h2⟩ := lookup_zipIdx h
      refine ⟨by omega, ?_⟩
      obtain ⟨d, rfl⟩ : ∃ d, i = b + 1 + d := ⟨i - (b + 1), by omega⟩
      have e1 : b + 1 + d - (b + 1) = d := by omega
      have e2 : b + 1 + d - b = d + 1 := by omega
      rw [e1] at h2; rw [e2]
      simpa using h2

theorem bindL_not {k : Str → Option NameKind} {x : Str} : ∀ {bs : List (Str × Value)} {m : Str → Option Value}, x ∉ bs.map (·.1) → bindL k bs m x = m x
  | [], _, _ => rfl
  | (n, v) :: r, m, h => by
    simp only [bindL]
    rw [bindL_not fun q => h (List.mem_cons_of_mem _ q)]
    have hx : x ≠ n := fun q => h (by simp [q])
    split
    · exact if_neg hx
    · rfl
theorem bindL_at {k : Str → Option NameKind} {x : Str} {v : Value} (hk : k x = some .local) : ∀ {bs : List (Str × Value)} {m : Str → Option Value}, (bs.map (·.1)).Nodup → (x, v) ∈ bs → bindL k bs m x = some v
  | [], _, _, h => by simp at h
  | (n, w) :: r, m, hn, h => by
    rw [List.map_cons, List.nodup_cons] at hn
    simp only [bindL]
    rcases List.mem_cons.mp h with h' | h'
    · cases h'
      rw [bindL_not hn.1, if_pos hk, if_pos rfl]
    · exact bindL_at hk hn.2 h'
theorem bindC_not {k : Str → Option NameKind} {x : Str} : ∀ {bs : List (Str × Value)} {m : Str → Option Value}, x ∉ bs.map (·.1) → bindC k bs m x = m x
  | [], _, _ => rfl
  | (n, v) :: r, m, h => by
    simp only [bindC]
    rw [bindC_not fun q => h (List.mem_cons_of_mem _ q)]
    have hx : x ≠ n := fun q => h (by simp [q])
    split
    · rfl
    · exact if_neg hx
theorem bindC_at {k : Str → Option NameKind} {x : Str} {v : Value} (hk : k x ≠ some .local) : ∀ {bs : List (Str × Value)} {m : Str → Option Value}, (bs.map (·.1)).Nodup → (x, v) ∈ bs → bindC k bs m x = some v
  | [], _, _, h => by simp at h
  | (n, w) :: r, m, hn, h => by
    rw [List.map_cons, List.nodup_cons] at hn
    simp only [bindC]
    rcases List.mem_cons.mp h with h' | h'
    · cases h'
      rw [bindC_not hn.1, if_neg hk, if_pos rfl]
    · exact bindC_at hk hn.2 h'

theorem cellsFrom_nodup : ∀ {names : List (Str × NameKind)} {n : Nat} {acc : List (Str × Addr)}, (names.map (·.1)).Nodup → (acc.map (·.1)).Nodup → (∀ x ∈ names.map (·.1), x ∉ acc.map (·.1)) → ((cellsFrom n names acc).map (·.1)).Nodup
  | [], _, _, _, h, _ => h
  | (x, k) :: r, n, acc, hn, ha, hd => by
    rw [List.map_cons, List.nodup_cons] at hn
    simp only [cellsFrom]
    split
    · refine cellsFrom_nodup hn.2 ?_ ?_
      · rw [List.map_cons, List.nodup_cons]
        exact ⟨hd x (by simp), ha⟩
      · intro y hy hq
        rcases List.mem_cons.mp hq with q | q
        · simp only at q; subst q; exact hn.1 hy
        · exact hd y (List.mem_cons_of_mem _ hy) q
    · exact cellsFrom_nodup hn.2 ha fun y hy => hd y (List.mem_cons_of_mem _ hy)
theorem cellsFrom_has {x : Str} : ∀ {names : List (Str × NameKind)} {n : Nat} {acc : List (Str × Addr)}, ((x, NameKind.cell) ∈ names ∨ ∃ a, acc.lookup x = some a) → ∃ a, (cellsFrom n names acc).lookup x = some a
  | [], _, _, h => by
    rcases h with h | h
    · simp at h
    · exact h
  | (y, k) :: r, n, acc, h => by
    simp only [cellsFrom]
    split
    · refine cellsFrom_has ?_
      rcases h with h | ⟨a, h⟩
      · rcases List.mem_cons.mp h with h' | h'
        · cases h'; exact .inr ⟨n, by simp⟩
        · exact .inl h'
      · right
        cases hx : x == y with
        | true => exact ⟨n, by rw [List.lookup_cons, hx]⟩
        | false => exact ⟨a, by rw [List.lookup_cons, hx]; exact h⟩
    · rename_i hk
      refine cellsFrom_has ?_
      rcases h with h | h
      · rcases List.mem_cons.mp h with h' | h'
        · cases h'; simp at hk
        · exact .inl h'
      · exact .inr h

theorem fnNames_nodup {ps : List Str} (h1 : ps.Nodup) (h2 : (sc.names.map (·.1)).Nodup) : (fnNames ps sc).Nodup := by
  unfold fnNames
  rw [List.nodup_append]
  refine ⟨h1, (List.Sublist.map _ List.filter_sublist).nodup h2, fun a ha b hb q => ?_⟩
  subst q
  obtain ⟨p, hp, rfl⟩ := List.mem_map.mp hb
  have := (List.mem_filter.mp hp).2
  simp only [Bool.and_eq_true, Bool.not_eq_true'] at this
  have h3 := List.contains_iff_mem.mpr ha
  rw [this.2] at h3; cases h3

theorem okC_of (k : CxOk W c) (o : OkCf W C (c.fenv :: c.outer) (c.A.depth + 2) (c.A.units + 10)) : OkC W C c := by
  intro A f vs us hp σ s Q E h1 h2 h3 h4 g fo r hw
  obtain ⟨⟨m, F⟩, ff⟩ := fo
  have hL := F.ns
  obtain ⟨ob, es, ep, e, hd, _⟩ := hL
  have hsz : W.B.objs.size ≤ s.heap.objs.size := Nat.le_of_lt (Nat.lt_of_le_of_lt F.above (Heap.lt_size e))
  have hb : W.B.get? c.L = none := fresh_ge _ _ F.above
  refine codeAny_mono (o A f vs us hp σ s Q E (h1.trans k.stk) h2 h3 h4 hsz g ⟨by rw [k.fkind]; decide, ⟨c.L, ob, k.frame, hb, e, fun vs => by rw [hd]; simp⟩, ff⟩ r hw) fun r s' p => ?_
  cases r with
  | error e => exact p
  | ok f => cases f <;> exact p
end
end Mine

end

section
set_option maxRecDepth 10000
namespace Mine
open PySem PyProof.Rows PySem.SeqAt PySem.W

section
variable {W : Wd} {C : Calls}

theorem Ev.leave {L : Addr} {X fr σ σ₁ σ' : List Addr} {s s₁ s' : Shared} (x : Ev fr σ σ₁ s s₁) (y : EvX (L :: fr) X σ₁ σ' s₁ s') (hX : ∀ a ∈ X, s.heap.get? a = none) (hL : s.heap.get? L = none) : Ev fr σ σ' s s' := by
  have x' : Ev (L :: fr) σ σ₁ s s₁ := ⟨x.pre, x.nd, fun b o e hb => (x.kp b o e hb).imp id fun ⟨q, r⟩ => ⟨List.mem_cons_of_mem _ q, r⟩, x.gens, x.os⟩
  have z := x'.transX y hX
  refine ⟨z.pre, z.nd, fun b o e hb => (z.kp b o e hb).imp id fun ⟨q, r⟩ => ⟨?_, r⟩, z.gens, z.os⟩
  rcases List.mem_cons.mp q with rfl | q
  · rw [hL] at e; cases e
  · exact q

theorem Gd.fewer {L : Addr} {fr σ : List Addr} {h : Heap} {hp : Hp} (g : Gd W (L :: fr) h σ hp) : Gd W fr h σ hp :=
  ⟨g.base, g.len, g.nd, g.objs, g.bfree, fun b hb => g.frs b (List.mem_cons_of_mem _ hb), g.hid⟩

theorem leaveX {M : Model} {c : Cx} {σ : List Addr} {hp : Hp} {s s₂ s' : Shared} {E : Nat → Hp → Prop} {x : Value} {Qv : Value → Shared → Prop} {A' : Around}
    (hA : A'.frames = some (c.fenv :: c.outer)) (hfr : c.fenv.frame = some c.L) (g : Gd W (frOf c.outer) s.heap σ hp) (y : Ev (frOf c.outer) σ σ s s₂) (hown : ∀ a ∈ c.own, s.heap.get? a = none) (hLs : s.heap.get? c.L = none)
    (z : XS W c σ s₂ (fun x _ h1 => E x h1) x s') :
    wpAny M A' (leaving c.fenv x) (fun _ s'' => RC Qv (XC W c.outer (frOf c.outer) σ s E) (.error x) s'') (fun e' s'' => RC Qv (XC W c.outer (frOf c.outer) σ s E) (.error e') s'') s' := by
  obtain ⟨X, l', hp', σ', e, Bx, a0, rfl, gx, ⟨t, rfl, ht⟩, q1, q2, k1, k2, st, q⟩ := z
  have hfrc : c.fr = c.L :: frOf c.outer := by unfold Cx.fr frOf; exact List.filterMap_cons_some hfr
  have fin : ∀ h₃ a1, Heap.FlyingW Bx c.outer e (.ref X) a1 h₃ → s'.heap.UpToSlots h₃ → XC W c.outer (frOf c.outer) σ s E (.ref e) { s' with heap := h₃ } := by
    intro h₃ a1 hf up
    refine ⟨X, hp', _, ⟨e, Bx, a1, rfl, gx, ⟨t, rfl, fun a ha => ?_⟩, q1.trans y.gens, q2.trans y.os, fun b o h1 h2 h3 => ?_, fun b o h1 h2 => ?_, hf⟩, q⟩
    · cases e1 : s.heap.get? a with
      | none => rfl
      | some ob =>
        have hs : a ∉ σ := fun hs => (List.nodup_append.mp gx.nd).2.2 a hs a ha rfl
        obtain ⟨sl, q'⟩ := y.kp.at e1 hs
        rw [ht a ha] at q'; cases q'
    · refine k1 b o (y.kp.exact h1 h2 h3) h2 (fun q => ?_) (fun q => ?_)
      · rw [hfrc] at q
        rcases List.mem_cons.mp q with rfl | q
        · rw [hLs] at h1; cases h1
        · exact h3 q
      · rw [hown b q] at h1; cases h1
    · have hb : b ∉ c.own := fun q => by rw [hown b q] at h1; cases h1
      obtain ⟨sl, e1⟩ := y.kp.at h1 (g.frs b h2).1
      obtain ⟨sl', e2⟩ := k2 b _ e1 (by rw [hfrc]; exact List.mem_cons_of_mem _ h2) hb
      obtain ⟨_, o', es, n, e3, hd⟩ := g.frs b h2
      rw [h1] at e3; cases e3
      obtain ⟨sl'', e4⟩ := up b _ e2 (fun vs q => by rw [show ({ ({ o with slots := sl } : Obj) with slots := sl' } : Obj).data = o.data from rfl, hd] at q; cases q)
      exact ⟨sl'', e4⟩
  rcases st with st | ⟨h₁, args, hb, hff, hm⟩
  · unfold leaving
    refine wpAny_bind (wpAny_noteFrame_againW hfr st.2.2.2 ?_)
    refine wpAny_landsW st fun h₃ hf up => fin h₃ _ ⟨hf.1, hf.2.1, hf.2.2.1.2.2, hf.2.2.2⟩ up
  · exact wpAny_leaves_madeW hA hfr hb hff hm fun h₃ t hf _ _ up => fin h₃ _ hf up

theorem okCf (kw : WdOk W) (fns : Nat → Option CFn) (hf : ∀ f cfn, fns f = some cfn → FnAt W f cfn) : ∀ (n : Nat) (fs : List Env) (dep un : Nat), dep + 3 * n + 260 < recursionLimit → un + 20 * n + 120 < cLine → ∀ hd, OkCf (W.At hd) (callF fns W.G n) fs dep un
  | 0, fs, dep, un, h1, h2, hd => fun A f vs us hp σ s Q E _ _ _ _ _ _ _ _ hw => False.elim (by unfold callF at hw; exact hw)
  | n + 1, fs, dep, un, h1, h2, hd => fun A f vs us hp σ s Q E hA hh hdep hun hsz g ff r hw => by
    unfold callF at hw
    split at hw
    · exact hw.elim
    · rename_i fn hfn
      obtain ⟨hlen, hw⟩ := hw
      obtain ⟨o, fd, body, ps, fuel, e1, e2, e3, e4, e5, e6, e7, e8, e9, e10, e11, e12, e13, e14⟩ := hf f fn hfn
      have hvl : vs.length = ps.length := by rw [r.1, hlen, e12]
      have eo : s.heap.get? f = some o := g.base f o e1
      have ecode : s.heap.CodeRec fd.code fd.qualname := by
        obtain ⟨c, oc, vs, t, h1, h2, h3⟩ := e6
        exact ⟨c, oc, vs, t, h1, g.base _ _ h2, h3⟩
      have hok := e10
      unfold fnScopeOk at hok
      simp only [Bool.and_eq_true, List.all_eq_true, beq_iff_eq, Bool.or_eq_true, Bool.not_eq_true'] at hok
      obtain ⟨⟨⟨⟨⟨⟨k1, k2⟩, k3⟩, k4⟩, k5⟩, k6⟩, k7⟩ := hok
      have hnd := nodupB_iff k7
      have hpn := nodupB_iff k6
      have hzip : ((ps.zip vs).map (·.1)) = ps := by rw [List.map_fst_zip]; omega
      refine codeAny_call_function (by omega) eo e2 e3 e4 e5 ecode ?_
      refine wpAny_of_eq (e14 vs hvl) ?_
      rw [e8]
      have hcl : ((cellsFrom (s.heap.objs.size + 1) fd.scope.names []).map (·.1)).Nodup := cellsFrom_nodup hnd (by simp) (by simp)
      have hkinds : ∀ x k, fd.scope.names.lookup x = some k → k = .local ∨ k = .cell ∨ k = .globalImplicit := fun x k h => by
        rcases k4 _ (mem_of_lookup h) with (q | q) | q
        · exact .inl q
        · exact .inr (.inl q)
        · exact .inr (.inr q)
      have hcells : ∀ x, fd.scope.names.lookup x = some .cell → ∃ ca, (cellsFrom (s.heap.objs.size + 1) fd.scope.names []).lookup x = some ca := fun x h => cellsFrom_has (.inl (mem_of_lookup h))
      refine wpAny_newFunctionEnv_cells k1 (fun x hx => ?_) fun env henv s₂ ic => ?_
      · have hxp : x.1 ∈ ps := by rw [← hzip]; exact List.mem_map.mpr ⟨x, hx, rfl⟩
        rcases k5 _ hxp with q | q
        · exact .inl q
        · obtain ⟨ca, hca⟩ := hcells _ q
          exact .inr ⟨q, by rw [hca]; rfl⟩
      · have hloc : env.locals = s.heap.objs.size := by rw [henv]; rfl
        have hcel : env.cells = cellsFrom (s.heap.objs.size + 1) fd.scope.names [] := by rw [henv]; rfl
        have hscope : env.scope = fd.scope := by rw [henv]; rfl
        have hfr : env.frame = some env.locals := by rw [henv]; rfl
        obtain ⟨h', tk, hs2⟩ := ic.toInCall.same
        have keep := ic.toInCall.keep
        have y : Ev (frOf fs) σ σ s s₂ := ev_keeps g keep (by rw [hs2]) (by rw [hs2])
        refine ⟨(kw.nolim.keeps g.base).keeps keep, ?_⟩
        let c : Cx := ⟨A.deeper env, env, env, env.locals, fs⟩
        have kx : CxOk W c := ⟨by show A.frames.map _ = _; rw [hA]; rfl, hh, by show env.scope.kind = _; rw [hscope]; exact k1, by rw [show c.env.globals = fd.globals by show env.globals = _; rw [henv]; rfl]; exact e7,
          by rw [show c.env.builtins = fd.builtins by show env.builtins = _; rw [henv]; rfl]; exact e9, hfr, hfr, by show env.scope.kind = _; rw [hscope]; exact k1, by show env.scope.isGenerator = _; rw [hscope]; exact e4, by show env.scope.isCoroutine = _; rw [hscope]; exact e3,
          by rw [show c.fenv.globals = fd.globals by show env.globals = _; rw [henv]; rfl]; exact e7, by rw [show c.fenv.builtins = fd.builtins by show env.builtins = _; rw [henv]; rfl]; exact e9,
          by show A.depth + 1 + 250 < _; omega, by show A.units + 3 + 100 < _; omega⟩
        have hLs : s.heap.get? env.locals = none := by rw [hloc]; exact fresh_size _
        have hLb : W.B.get? env.locals = none := fresh_ge _ _ (by rw [hloc]; exact hsz)
        have hLσ : env.locals ∉ σ := g.notin hLs
        have hab : ∀ p ∈ env.cells, s.heap.objs.size ≤ p.2 := fun p hp => by have := ic.above p.1 p.2 hp; rw [hloc] at this; exact Nat.le_of_lt this
        have hcb : ∀ p ∈ env.cells, W.B.get? p.2 = none := fun p hp => fresh_ge _ _ (Nat.le_trans hsz (hab p hp))
        have hcs : ∀ p ∈ env.cells, s.heap.get? p.2 = none := fun p hp => fresh_ge _ _ (hab p hp)
        have hclk : ∀ p ∈ env.cells, env.cells.lookup p.1 = some p.2 := fun p hp => lookup_of_mem (by rw [hcel]; exact hcl) hp
        have hown : ∀ a ∈ c.own, s.heap.get? a = none := fun a ha => by
          rcases List.mem_cons.mp ha with rfl | ha
          · exact hLs
          · obtain ⟨p, hp, rfl⟩ := List.mem_map.mp ha
            exact hcs p hp
        have ns2 := ic.toInCall.ns
        have g₂ : Gd (W.At hd) c.fr s₂.heap σ hp := by
          have g1 := g.keeps keep
          refine ⟨g1.base, g1.len, g1.nd, g1.objs, g1.bfree, fun b hb => ?_, g1.hid⟩
          have : b = env.locals ∨ b ∈ frOf fs := by
            unfold Cx.fr at hb
            rw [List.filterMap_cons_some hfr] at hb
            exact List.mem_cons.mp hb
          rcases this with rfl | hb
          · refine ⟨hLσ, ?_⟩
            obtain ⟨ob, es, ep, e, hd, _⟩ := ns2
            exact ⟨ob, es, ep, e, hd⟩
          · exact g1.frs b hb
        have rs₂ : VRs (W.At hd) s₂.heap σ vs us := r.mono g y
        have hnames : (fnNames ps fd.scope).Nodup := fnNames_nodup hpn hnd
        have hkof : ∀ x, env.kindOf x = fd.scope.names.lookup x := fun x => by show env.scope.names.lookup x = _; rw [hscope]
        have lr₂ : LR (W.At hd) c fd.scope ((fnNames ps fd.scope).zipIdx) (us.map some ++ List.replicate (fn.locals - fn.params) none) σ s₂.heap := by
          refine ⟨⟨_, ns2, fun b o e => keep b o (g.base b o e), by show W.B.objs.size ≤ env.locals; rw [hloc]; exact hsz⟩, ?_, hLσ, ⟨_, ns2⟩, fun x i u h1 h2 h3 => ?_, ?_, hLb, fun p hp => ⟨hcb p hp, _, ic.cell p.1 p.2 (hclk p hp)⟩⟩
          · exact ff_ko (own := []) (fun b o _ e => keep b o e) (fun _ _ => by simp) ff
          · obtain ⟨_, hxi⟩ := lookup_zipIdx h2
            simp only [Nat.sub_zero] at hxi
            have hi : i < us.length := by
              by_cases hi : i < us.length
              · exact hi
              · obtain ⟨d, rfl⟩ : ∃ d, i = (us.map some).length + d := ⟨i - us.length, by simp; omega⟩
                rw [lget_append_right, lget_none] at h3; cases h3
            rw [lget_append_left (by simpa using hi)] at h3
            have hu : us[i]? = some u := by
              have : ∀ {l : List V} {i : Nat}, lget (l.map some) i = some u → l[i]? = some u := by
                intro l
                induction l with
                | nil => intro i h; cases i <;> simp [lget] at h
                | cons a l ih =>
                  intro i h
                  cases i with
                  | zero => simp [lget] at h; simp [h]
                  | succ i => simp [lget] at h; simpa using ih h
              exact this h3
            have hip : i < ps.length := by rw [← hvl, r.1]; exact hi
            have hx : ps[i]? = some x := by
              unfold fnNames at hxi
              rwa [List.getElem?_append_left hip] at hxi
            obtain ⟨v, hv, rv⟩ := VRs.get rs₂ hu
            have hmem : (x, v) ∈ ps.zip vs := by
              have : (ps.zip vs)[i]? = some (x, v) := by
                rw [List.getElem?_zip_eq_some]; exact ⟨hx, hv⟩
              exact List.mem_of_getElem? this
            refine ⟨v, rv, ?_⟩
            have hnz : ((ps.zip vs).map (·.1)).Nodup := by rw [hzip]; exact hpn
            rcases k5 x (List.mem_of_getElem? hx) with q | q
            · have q' : env.kindOf x = some .local := (hkof x).trans q
              exact .inl ⟨q', _, ns2, bindL_at q' hnz hmem⟩
            · have q' : env.kindOf x = some .cell := (hkof x).trans q
              obtain ⟨ca, hca⟩ := hcells x q
              rw [← hcel] at hca
              refine .inr ⟨.inl q', ca, hca, ?_⟩
              have := ic.cell x ca hca
              rwa [bindC_at (by rw [q']; intro z; cases z) hnz hmem] at this
          · have : ps.length ≤ (fnNames ps fd.scope).length := by unfold fnNames; simp
            simp; omega
        have fe : FnEnv c fd.scope ((fnNames ps fd.scope).zipIdx) := by
          refine ⟨hscope, hkinds, fun x h => by show ∃ ca, env.cells.lookup x = some ca; rw [hcel]; exact hcells x h, fun x y ca h1 h2 => ?_, fun x i h => ?_, fun x y i h1 h2 => ?_⟩
          · exact name_of_addr ic.apart (mem_of_lookup h2) (mem_of_lookup h1)
          · obtain ⟨_, h⟩ := lookup_zipIdx h
            simp only [Nat.sub_zero] at h
            simpa using (List.getElem?_eq_some_iff.mp h).1
          · obtain ⟨_, h1⟩ := lookup_zipIdx h1
            obtain ⟨_, h2⟩ := lookup_zipIdx h2
            rw [h1] at h2; cases h2; rfl
        have oc : ∀ hd, OkC (W.At hd) (callF fns W.G n) c := fun hd => okC_of (kx.at_ hd) (okCf kw fns hf n (env :: fs) (A.depth + 1 + 2) (A.units + 3 + 10) (by omega) (by omega) hd)
        have main := (okS_main kw kx rfl oc fe fuel).2 body fn.body e11 hd _ _ _ _ _ _ _ g₂ lr₂ hw
        refine codeAny_func (wpAny_mono main (fun fl s' p => ?_) fun xv s' z => ?_)
        cases fl with
        | next =>
          obtain ⟨l', hp', σ', g', lr', x', q⟩ := p
          have x'' : EvX (env.locals :: frOf fs) c.own σ σ' s₂ s' := by
            have : c.fr = env.locals :: frOf fs := by unfold Cx.fr frOf; exact List.filterMap_cons_some hfr
            rw [this] at x'; exact x'
          have g'' : Gd (W.At hd) (env.locals :: frOf fs) s'.heap σ' hp' := by
            have : c.fr = env.locals :: frOf fs := by unfold Cx.fr frOf; exact List.filterMap_cons_some hfr
            rw [this] at g'; exact g'
          exact ⟨.none, hp', σ', .none, g''.fewer, y.leave x'' hown hLs, q⟩
        | ret v =>
          obtain ⟨u, hp', σ', rv, g', x', q⟩ := p
          have x'' : EvX (env.locals :: frOf fs) c.own σ σ' s₂ s' := by
            have : c.fr = env.locals :: frOf fs := by unfold Cx.fr frOf; exact List.filterMap_cons_some hfr
            rw [this] at x'; exact x'
          have g'' : Gd (W.At hd) (env.locals :: frOf fs) s'.heap σ' hp' := by
            have : c.fr = env.locals :: frOf fs := by unfold Cx.fr frOf; exact List.filterMap_cons_some hfr
            rw [this] at g'; exact g'
          exact ⟨u, hp', σ', rv, g''.fewer, y.leave x'' hown hLs, q⟩
        | brk => exact p.elim
        | cont => exact p.elim
        exact leaveX (c := c) (by show A.frames.map _ = _; rw [hA]; rfl) hfr g y hown hLs z
end
end Mine

end

section
set_option maxRecDepth 10000
namespace Mine
open PySem PyProof.Rows PySem.SeqAt PySem.W

noncomputable def objAt (K : Frag) (a : Addr) : Obj := match K.lookup a with | some o => o | none => default
noncomputable def fdAt (K : Frag) (a : Addr) : FuncData := match (objAt K a).data with | .func fd => fd | _ => default
noncomputable def bodyAt (K : Frag) (a : Addr) : List Stmt := match (fdAt K a).body with | .stmts b => b | _ => []
noncomputable def codeAt (K : Frag) (a : Addr) : Addr := match (fdAt K a).code with | .ref c => c | _ => 0
noncomputable def fieldsAt (K : Frag) (a : Addr) : Array Value := match (objAt K a).data with | .fields vs => vs | _ => #[]
noncomputable def tokAt (K : Frag) (a : Addr) : Tok := match ((fieldsAt K (codeAt K a))[1]? : Option Value) with | some (Value.str _ t) => t | _ => 0

structure FnChk (K : Frag) (glob : List (Str × GV)) (a : Addr) (ps : List Str) (cfn : CFn) : Prop where
  obj : K.lookup a = some (objAt K a)
  data : (objAt K a).data = .func (fdAt K a)
  co : (fdAt K a).scope.isCoroutine = false
  gen : (fdAt K a).scope.isGenerator = false
  body : (fdAt K a).body = .stmts (bodyAt K a)
  code : (fdAt K a).code = .ref (codeAt K a)
  cobj : K.lookup (codeAt K a) = some (objAt K (codeAt K a))
  cdata : (objAt K (codeAt K a)).data = .fields (fieldsAt K (codeAt K a))
  cqual : (fieldsAt K (codeAt K a))[1]? = some (.str (fdAt K a).qualname (tokAt K a))
  glb : (fdAt K a).globals = mainGlobals
  clo : (fdAt K a).closure = []
  blt : (fdAt K a).builtins = builtinsNs
  scope : fnScopeOk ps (fdAt K a).scope = true
  cmp : cSs glob (fdAt K a).scope ((fnNames ps (fdAt K a).scope).zipIdx) 60 (bodyAt K a) = some cfn.body
  par : cfn.params = ps.length
  loc : cfn.locals = (fnNames ps (fdAt K a).scope).length
  bind : ∀ vs : List Value, vs.length = ps.length → bindArgs (fdAt K a) ⟨vs, []⟩ = pure (ps.zip vs)

section
variable {W : Wd}
theorem FnChk.at_ {a : Addr} {ps : List Str} {cfn : CFn} (x : W.K.In W.B) (c : FnChk W.K W.glob a ps cfn) : FnAt W a cfn :=
  ⟨_, _, _, ps, 60, x _ _ c.obj, c.data, c.co, c.gen, c.body, ⟨_, _, _, _, c.code, x _ _ c.cobj, c.cdata, c.cqual⟩, c.glb, c.clo, c.blt, c.scope, c.cmp, c.par, c.loc, c.bind⟩


theorem fns_nil : ∀ f cfn, fnsOf [] f = some cfn → FnAt W f cfn := fun f cfn h => by simp [fnsOf] at h
theorem fns_cons {a : Nat} {c : CFn} {tab : List (Nat × CFn)} (h1 : FnAt W a c) (h2 : ∀ f cfn, fnsOf tab f = some cfn → FnAt W f cfn) : ∀ f cfn, fnsOf ((a, c) :: tab) f = some cfn → FnAt W f cfn := fun f cfn h => by
  unfold fnsOf at h
  rw [List.lookup_cons] at h
  split at h
  · rename_i hb
    have := eq_of_beq hb
    cases h; subst this; exact h1
  · exact h2 f cfn h
theorem glob_nil : ∀ x gv, ([] : List (Str × GV)).lookup x = some gv → GlobOk W x gv := fun x gv h => by simp at h
theorem glob_cons {y : Str} {g : GV} {tab : List (Str × GV)} (h1 : GlobOk W y g) (h2 : ∀ x gv, tab.lookup x = some gv → GlobOk W x gv) : ∀ x gv, ((y, g) :: tab).lookup x = some gv → GlobOk W x gv := fun x gv h => by
  rw [List.lookup_cons] at h
  split at h
  · rename_i hb
    have := eq_of_beq hb
    cases h; subst this; exact h1
  · exact h2 x gv h
noncomputable def ExcOk (W : Wd) (x : Str) (X : Nat) : Prop := ∃ bmB newId initId Bn mg, OwnCls x X bmB newId mg W.B ∧ ExcBaseFacts Bn newId initId bmB
theorem exc_nil : ∀ x X, ([] : List (Str × GV)).lookup x = some (.exc X) → ExcOk W x X := fun x gv h => by simp at h
theorem exc_cons {y : Str} {X' : Nat} {tab : List (Str × GV)} (h1 : ExcOk W y X') (h2 : ∀ x X, tab.lookup x = some (.exc X) → ExcOk W x X) : ∀ x X, ((y, .exc X') :: tab).lookup x = some (.exc X) → ExcOk W x X := fun x gv h => by
  rw [List.lookup_cons] at h
  split at h
  · rename_i hb
    have := eq_of_beq hb
    cases h; subst this; exact h1
  · exact h2 x gv h
theorem exc_skip {y : Str} {g : GV} {tab : List (Str × GV)} (hg : ∀ X, g ≠ .exc X) (h2 : ∀ x X, tab.lookup x = some (.exc X) → ExcOk W x X) : ∀ x X, ((y, g) :: tab).lookup x = some (.exc X) → ExcOk W x X := fun x gv h => by
  rw [List.lookup_cons] at h
  split at h
  · cases h; exact absurd rfl (hg _)
  · exact h2 x gv h
noncomputable def SubOk (W : Wd) (X : Nat) (cl : Cls) (b : Bool) : Prop := (∀ D, cl = .own D → PySem.W.instIn W.K (.ref D) (.type "tuple") = some false ∧ PySem.W.kitCls W.K (.ref D) (.ref D) = some true ∧ PySem.W.subIn W.K (.ref D) (.type "BaseException") = some true ∧
    PySem.W.subIn W.K (.ref X) (.ref D) = some b) ∧ PySem.W.kitOne W.K (.ref X) (clsVal cl) = some b
theorem sub_nil : ∀ X cl b, ([] : List ((Nat × Cls) × Bool)).lookup (X, cl) = some b → SubOk W X cl b := fun X cl b h => by simp at h
theorem sub_cons {X' : Nat} {cl' : Cls} {b' : Bool} {tab : List ((Nat × Cls) × Bool)} (h1 : SubOk W X' cl' b') (h2 : ∀ X cl b, tab.lookup (X, cl) = some b → SubOk W X cl b) : ∀ X cl b, (((X', cl'), b') :: tab).lookup (X, cl) = some b → SubOk W X cl b := fun X cl b h => by
  rw [List.lookup_cons] at h
  split at h
  · rename_i hb
    have := eq_of_beq hb
    cases this; cases h; exact h1
  · exact h2 X cl b h
noncomputable def noAttr : List (Str × GV) → Bool
  | [] => true
  | (_, .attr) :: _ => false
  | _ :: r => noAttr r
theorem noAttr_lookup : ∀ {l : List (Str × GV)} {x : Str}, noAttr l = true → l.lookup x ≠ some .attr
  | [], _, _ => by simp
  | (y, g) :: r, x, h => by
    rw [List.lookup_cons]
    split
    · intro q; cases q; simp [noAttr] at h
    · refine noAttr_lookup ?_
      cases g <;> first | exact h | (simp [noAttr] at h)
theorem noAttr_is {l : List (Str × GV)} (h : noAttr l = true) (a : Str) : isAttr l a = false := by
  unfold isAttr
  have := noAttr_lookup (x := "." ++ a) h
  cases hq : (List.lookup ("." ++ a) l == some GV.attr) with
  | false => rfl
  | true => exact absurd (eq_of_beq hq) this

theorem weight_mem : ∀ {ds : List PyData} {d : PyData}, d ∈ ds → PyData.weight d ≤ PyData.weightAll ds
  | [], _, h => by simp at h
  | x :: xs, d, h => by
    rcases List.mem_cons.mp h with rfl | h
    · simp only [PyData.weightAll]; omega
    · have := weight_mem h
      simp only [PyData.weightAll]; omega
theorem bits_of {scr : List Int} (h : (PyData.list (scr.map PyData.int)).layable0 = true) : ∀ n ∈ scr, Builtin.Int.intBits n ≤ 2 ^ 20 := fun n hn => by
  unfold PyData.layable0 at h
  simp only [Bool.and_eq_true, decide_eq_true_eq] at h
  have h1 := h.2
  simp only [PyData.weight] at h1
  have h2 := weight_mem (List.mem_map.mpr ⟨n, hn, rfl⟩ : PyData.int n ∈ scr.map PyData.int)
  have h3 : PyData.weight (.int n) = Builtin.Int.intBits n := by
    simp only [PyData.weight, Builtin.Int.intBits]
  rw [h3] at h2
  exact Nat.le_trans h2 h1

noncomputable def Left (s₁ : Shared) (r : Result) (s' : Shared) : Prop := r = .ok (.ret (.bool true)) ∧ (∀ b o, s₁.heap.get? b = some o → s'.heap.get? b = some o) ∧ s'.os = s₁.os ∧ s'.gens = s₁.gens

theorem bridge {s₁ : Shared} {fa : Addr} {tab : List (Nat × CFn)} {n : Nat} (kw : WdOk W) (hB : W.B = s₁.heap) (hh : W.hid = []) (hf : ∀ f cfn, fnsOf tab f = some cfn → FnAt W f cfn) (hn : n ≤ 40)
    (hw : callF (fnsOf tab) W.G n fa [.scr] [] (fun v _ => v = .bool true) (fun _ _ => False)) :
    codeAny (model W.prog W.w) callerA (.call (.ref fa) ⟨[.ref W.sa], []⟩) (Left s₁) s₁ := by
  have g : Gd W [] s₁.heap [] [] := ⟨fun b o e => by rw [hB] at e; exact e, rfl, List.nodup_nil, fun i a o e => by simp at e, by simp, by simp, by rw [hh]; simp⟩
  have o := okCf kw (fnsOf tab) hf n [] callerA.depth callerA.units (by show 1 + 300 + 3 * n + 260 < 1000; omega) (by show 4 + 20 * n + 120 < 9900; omega) W.hid
  refine codeAny_mono (o callerA fa [.ref W.sa] [.scr] [] [] s₁ _ _ rfl rfl (Nat.le_refl _) (Nat.le_refl _) (by show W.B.objs.size ≤ _; rw [hB]; exact Nat.le_refl _) g trivial (.cons .scr .nil) hw) fun r s' p => ?_
  cases r with
  | error e => obtain ⟨_, _, _, _, z⟩ := p; exact z.elim
  | ok f =>
    cases f with
    | ret v =>
      obtain ⟨u, hp', σ', rv, g', x, rfl⟩ := p
      cases rv
      exact ⟨rfl, fun b o e => x.kp.exact e (by simp) (by simp [frOf]), x.os, x.gens⟩
    | _ => exact p.elim
end
end Mine

end

section
namespace Mine
open PySem
set_option linter.unusedSimpArgs false
set_option linter.unusedVariables false

theorem callF_of {fns : Nat → Option CFn} {G : Gm} {n f : Nat} {fn : CFn} {vs : List V} {h : Hp} {Q : V → Hp → Prop} {E : Nat → Hp → Prop}
    (hf : fns f = some fn) (hl : vs.length = fn.params)
    (hw : wpSs G (callF fns G n) fn.body (vs.map some ++ List.replicate (fn.locals - fn.params) none) h (fun _ h1 => Q .none h1) Q (fun x _ h1 => E x h1)) :
    callF fns G (n + 1) f vs h Q E := by
  show (match fns f with | none => False | some fn => _)
  rw [hf]; exact ⟨hl, hw⟩

theorem take_snoc {α : Type} {l : List α} {k : Nat} {x : α} (h : l[k]? = some x) : l.take (k + 1) = l.take k ++ [x] := by
  rw [List.take_add_one, h]; rfl
/- heaps -/
theorem hget_last (h : Hp) (o : O) : (h ++ [o])[h.length]? = some o := by simp
theorem hget_left {h : Hp} {i : Nat} {o : O} (e : h[i]? = some o) (t : Hp) : (h ++ t)[i]? = some o := by
  have := (List.getElem?_eq_some_iff.mp e).1
  rw [List.getElem?_append_left this]; exact e
theorem hlt {h : Hp} {i : Nat} {o : O} (e : h[i]? = some o) : i < h.length := (List.getElem?_eq_some_iff.mp e).1
theorem hset_last (h : Hp) (o p : O) : (h ++ [o]).set h.length p = h ++ [p] := by
  rw [List.set_append_right _ _ (Nat.le_refl _)]; simp
section
variable (G : Gm) (h : Hp) (Q : V → Hp → Prop)
theorem kAdd (x y : Int) : kBin .add (.int x) (.int y) h Q = Q (.int (x + y)) h := rfl
theorem kSubI (x y : Int) : kBin .sub (.int x) (.int y) h Q = Q (.int (x - y)) h := rfl
theorem kMul (x y : Int) : kBin .mul (.int x) (.int y) h Q = (IntMulOk x y ∧ Q (.int (x * y)) h) := rfl
theorem kDiv (x y : Int) : kBin .fdiv (.int x) (.int y) h Q = (y ≠ 0 ∧ Q (.int (x.fdiv y)) h) := rfl
theorem kMod (x y : Int) : kBin .mod (.int x) (.int y) h Q = (y ≠ 0 ∧ Q (.int (x.fmod y)) h) := rfl
theorem kPow (x : Int) (y : Nat) {z : Int} (h1 : (y : Int) ≤ 1000000) (h3 : x.natAbs < 2 ^ 64) (hz : x ^ y = z) : kBin .pow (.int x) (.int (y : Int)) h Q = Q (.int z) h := by
  show (0 ≤ (y : Int) ∧ (y : Int) ≤ 1000000 ∧ x.natAbs < 2 ^ 64 ∧ Q (.int (x ^ (y : Int).toNat)) h) = _
  rw [Int.toNat_natCast, hz]
  apply propext; constructor
  · rintro ⟨_, a, b, c⟩; exact c
  · intro c; exact ⟨Int.natCast_nonneg y, h1, h3, c⟩
theorem kP6 : kBin .pow (.int 10) (.int 6) h Q = Q (.int 1000000) h := kPow h Q 10 6 (by decide) (by decide) (by rfl)
theorem kP12 : kBin .pow (.int 10) (.int 12) h Q = Q (.int 1000000000000) h := kPow h Q 10 12 (by decide) (by decide) (by rfl)
theorem kP15 : kBin .pow (.int 10) (.int 15) h Q = Q (.int 1000000000000000) h := kPow h Q 10 15 (by decide) (by decide) (by rfl)
theorem kP29 : kBin .pow (.int 10) (.int 29) h Q = Q (.int 100000000000000000000000000000) h := kPow h Q 10 29 (by decide) (by decide) (by rfl)
theorem kP30 : kBin .pow (.int 10) (.int 30) h Q = Q (.int 1000000000000000000000000000000) h := kPow h Q 10 30 (by decide) (by decide) (by rfl)
theorem kP20 : kBin .pow (.int 10) (.int 20) h Q = Q (.int 100000000000000000000) h := kPow h Q 10 20 (by decide) (by decide) (by rfl)
theorem kQ1000003_5 : kBin .pow (.int 1000003) (.int 5) h Q = Q (.int 1000015000090000270000405000243) h := kPow h Q 1000003 5 (by decide) (by decide) (by rfl)
theorem kQ16807_8 : kBin .pow (.int 16807) (.int 8) h Q = Q (.int 6366805760909027985741435139224001) h := kPow h Q 16807 8 (by decide) (by decide) (by rfl)
theorem kQ40692_8 : kBin .pow (.int 40692) (.int 8) h Q = Q (.int 7517480091002011781899471280647766016) h := kPow h Q 40692 8 (by decide) (by decide) (by rfl)
theorem kQ48271_7 : kBin .pow (.int 48271) (.int 7) h Q = Q (.int 610666465330867800319356957143791) h := kPow h Q 48271 7 (by decide) (by decide) (by rfl)
theorem kQ69621_7 : kBin .pow (.int 69621) (.int 7) h Q = Q (.int 7928331467292760530673834318599741) h := kPow h Q 69621 7 (by decide) (by decide) (by rfl)
theorem kEqI (x y : Int) : kCmp .eq (.int x) (.int y) h Q = Q (.bool (x == y)) h := by
  simp [kCmp, veq]
theorem kNeI (x y : Int) : kCmp .ne (.int x) (.int y) h Q = Q (.bool (!(x == y))) h := by
  simp [kCmp, veq]
theorem kLt (x y : Int) : kCmp .lt (.int x) (.int y) h Q = Q (.bool (decide (x < y))) h := rfl
theorem kLe (x y : Int) : kCmp .le (.int x) (.int y) h Q = Q (.bool (decide (x ≤ y))) h := rfl
theorem kGt (x y : Int) : kCmp .gt (.int x) (.int y) h Q = Q (.bool (decide (x > y))) h := rfl
theorem kGe (x y : Int) : kCmp .ge (.int x) (.int y) h Q = Q (.bool (decide (x ≥ y))) h := rfl
theorem kIsiII (x : Int) : kIsi G (.int x) .int h Q = Q (.bool true) h := rfl
theorem kIsiIB (x : Int) : kIsi G (.int x) .bool h Q = Q (.bool false) h := rfl
theorem kLenS : kBi G .len [.scr] h Q = Q (.int G.scr.length) h := rfl
theorem kSubS (k : Int) : kSub G .scr (.int k) h Q = (0 ≤ k ∧ ∃ n, G.scr[k.toNat]? = some n ∧ Q (.int n) h) := rfl
end
theorem kSubL {G : Gm} {h : Hp} {Q : V → Hp → Prop} {r : Nat} {vs : List V} {k : Int} {v : V} (e : h[r]? = some (.list vs)) (hk : 0 ≤ k) (hv : vs[k.toNat]? = some v) (q : Q v h) :
    kSub G (.ref r) (.int k) h Q := by
  simp only [kSub, e]
  exact ⟨hk, v, hv, q⟩
theorem kLenL {G : Gm} {h : Hp} {Q : V → Hp → Prop} {r : Nat} {vs : List V} (e : h[r]? = some (.list vs)) (q : Q (.int vs.length) h) : kBi G .len [.ref r] h Q := by
  show kRefL (.ref r) h _
  simp only [kRefL, e]; exact q
theorem kListL {G : Gm} {h : Hp} {Q : V → Hp → Prop} {r : Nat} {vs : List V} (e : h[r]? = some (.list vs)) (q : Q (.ref h.length) (h ++ [.list vs])) : kBi G .list [.ref r] h Q := by
  show kRefL (.ref r) h _
  simp only [kRefL, e]; exact q
theorem kIsiL {G : Gm} {h : Hp} {Q : V → Hp → Prop} {r : Nat} {vs : List V} (e : h[r]? = some (.list vs)) (q : Q (.bool true) h) : kIsi G (.ref r) .list h Q := by
  simp only [kIsi, e]; exact q
theorem mkAppend {h : Hp} {r : Nat} {vs : List V} (e : h[r]? = some (.list vs)) : methKind (Str.ofString "append") (.ref r) h = some .append := by
  simp only [methKind, e]; rfl
theorem kAppendL {h : Hp} {Q : V → Hp → Prop} {r : Nat} {vs : List V} {x : V} (e : h[r]? = some (.list vs)) (hl : vs.length < sizeLine) (q : Q .none (h.set r (.list (vs ++ [x])))) :
    kMeth .append (.ref r) [x] h Q := by
  simp only [kMeth, kAppend, e]; exact ⟨hl, q⟩
theorem wpAppendVar {G : Gm} {C : Calls} {i r : Nat} {a : CE} {l : Loc} {h : Hp} {Q : V → Hp → Prop} {E : Nat → Hp → Prop} {vs : List V}
    (hi : lget l i = some (.ref r)) (e : h[r]? = some (.list vs))
    (q : wpE G C a l h (fun v h2 => kMeth .append (.ref r) [v] h2 Q) E) : wpE G C (.meth (.var i) (Str.ofString "append") [a]) l h Q E := by
  simp only [wpE, hi, mkAppend e, wpEs]; exact q
theorem srcL {G : Gm} {h : Hp} {r : Nat} {vs : List V} (e : h[r]? = some (.list vs)) : srcOf G (.ref r) h = some ⟨vs, fun h' => h'[r]? = some (.list vs)⟩ := by
  simp only [srcOf, e]

/- loops -/
theorem wpLoopR {G : Gm} {C : Calls} {e : CE} {body : List CS} {l : Loc} {h h' : Hp} {N : Loc → Hp → Prop} {R : V → Hp → Prop} {E : Nat → Loc → Hp → Prop} {i : Nat} (n : Nat)
    (he : ∀ Q : V → Hp → Prop, Q (.int n) h' → wpE G C e l h Q (fun x h1 => E x l h1)) (hn : n ≤ 1000000) (I : Nat → Loc → Hp → Prop) (h0 : I 0 l h')
    (step : ∀ (k : Nat) l2 h2, k < n → I k l2 h2 → wpSs G C body (lset l2 i (some (.int k))) h2 (fun l4 h4 => I (k + 1) l4 h4) R E)
    (fin : ∀ l2 h2, I n l2 h2 → N l2 h2) : wpS G C (.loop (.name i) (.range e) body) l h N R E := by
  simp only [wpS, wpIt]
  refine he _ ⟨by omega, by omega, I, h0, ?_, ?_⟩
  · intro k l2 h2 v hI hv
    obtain ⟨hk, rfl⟩ : k < n ∧ V.int k = v := by
      have hk := (List.getElem?_eq_some_iff.mp hv).1
      simp at hk
      refine ⟨hk, ?_⟩
      simpa [hk] using hv
    exact ⟨trivial, _, rfl, step k l2 h2 hk hI⟩
  · intro l2 h2 hI
    refine ⟨trivial, fin l2 h2 ?_⟩
    simpa using hI
theorem wpLoopL {G : Gm} {C : Calls} {e : CE} {body : List CS} {l : Loc} {h h' : Hp} {N : Loc → Hp → Prop} {R : V → Hp → Prop} {E : Nat → Loc → Hp → Prop} {t : Tgt} {r : Nat} (vs : List V)
    (he : ∀ Q : V → Hp → Prop, Q (.ref r) h' → wpE G C e l h Q (fun x h1 => E x l h1)) (hr : h'[r]? = some (.list vs)) (I : Nat → Loc → Hp → Prop) (h0 : I 0 l h')
    (step : ∀ (k : Nat) l2 h2 v, vs[k]? = some v → I k l2 h2 → h2[r]? = some (.list vs) ∧ ∃ l3, bindT t v l2 = some l3 ∧ wpSs G C body l3 h2 (fun l4 h4 => I (k + 1) l4 h4) R E)
    (fin : ∀ l2 h2, I vs.length l2 h2 → h2[r]? = some (.list vs) ∧ N l2 h2) : wpS G C (.loop t (.val e) body) l h N R E := by
  simp only [wpS, wpIt]
  refine he _ ⟨_, srcL hr, I, h0, ?_, ?_⟩
  · intro k l2 h2 v hI hv
    exact step k l2 h2 v hv hI
  · intro l2 h2 hI
    exact fin l2 h2 hI
theorem wpCompL {G : Gm} {C : Calls} {elt e : CE} {l : Loc} {h h' : Hp} {Q : V → Hp → Prop} {E : Nat → Hp → Prop} {r : Nat} (vs : List V) (f : V → V)
    (he : ∀ Q : V → Hp → Prop, Q (.ref r) h' → wpE G C e l h Q E) (hr : h'[r]? = some (.list vs))
    (hf : ∀ v ∈ vs, ∀ Q : V → Hp → Prop, Q (f v) h' → wpE G C elt (l ++ [some v]) h' Q E) (q : Q (.ref h'.length) (h' ++ [.list (vs.map f)])) :
    wpE G C (.comp elt 1 (.val e) none) l h Q E := by
  simp only [wpE, wpIt, wpT]
  refine he _ ⟨_, srcL hr, fun k acc h2 => acc = (vs.take k).map f ∧ h2 = h', ⟨rfl, rfl⟩, ?_, ?_⟩
  · rintro k acc h2 v ⟨rfl, rfl⟩ hv
    refine ⟨hr, [v], rfl, ?_⟩
    simp only [if_true]
    refine hf v (List.mem_of_getElem? hv) _ ⟨?_, rfl⟩
    rw [take_snoc hv]; simp
  · rintro acc h2 ⟨rfl, rfl⟩
    refine ⟨hr, ?_⟩
    simpa using q
theorem wpCompT {G : Gm} {C : Calls} {elt e : CE} {l : Loc} {h : Hp} {Q : V → Hp → Prop} {E : Nat → Hp → Prop} (vs : List V) (f : V → V)
    (he : ∀ Q : V → Hp → Prop, Q (.tup vs) h → wpE G C e l h Q E)
    (hf : ∀ v ∈ vs, ∀ Q : V → Hp → Prop, Q (f v) h → wpE G C elt (l ++ [some v]) h Q E) (q : Q (.ref h.length) (h ++ [.list (vs.map f)])) :
    wpE G C (.comp elt 1 (.val e) none) l h Q E := by
  simp only [wpE, wpIt, wpT]
  refine he _ ⟨_, rfl, fun k acc h2 => acc = (vs.take k).map f ∧ h2 = h, ⟨rfl, rfl⟩, ?_, ?_⟩
  · rintro k acc h2 v ⟨rfl, rfl⟩ hv
    refine ⟨trivial, [v], rfl, ?_⟩
    simp only [if_true]
    refine hf v (List.mem_of_getElem? hv) _ ⟨?_, rfl⟩
    rw [take_snoc hv]; simp
  · rintro acc h2 ⟨rfl, rfl⟩
    refine ⟨trivial, ?_⟩
    simpa using q
theorem hget_mid (h : Hp) (o : O) (t : Hp) : (h ++ o :: t)[h.length]? = some o := by simp
theorem hset_mid (h : Hp) (o : O) (t : Hp) (p : O) : (h ++ o :: t).set h.length p = h ++ p :: t := by
  rw [List.set_append_right _ _ (Nat.le_refl _)]; simp
theorem kSubT {G : Gm} {h : Hp} {Q : V → Hp → Prop} {vs : List V} {k : Int} {v : V} (hk : 0 ≤ k) (hv : vs[k.toNat]? = some v) (q : Q v h) :
    kSub G (.tup vs) (.int k) h Q := by
  exact ⟨hk, v, hv, q⟩
theorem kAllL {G : Gm} {h : Hp} {Q : V → Hp → Prop} {r : Nat} {bs : List Bool} (e : h[r]? = some (.list (bs.map V.bool))) (q : Q (.bool (bs.all id)) h) : kBi G .all [.ref r] h Q := by
  show kRefL (.ref r) h _
  simp only [kRefL, e]; exact ⟨bs, rfl, q⟩

/- bits -/
theorem intBits_le {x : Int} {k : Nat} (h : x.natAbs < 2 ^ k) : Builtin.Int.intBits x ≤ k := by
  unfold Builtin.Int.intBits
  split
  · omega
  · rename_i hx
    have hx' : x.natAbs ≠ 0 := by
      intro e; apply hx; simp [Int.natAbs_eq_zero.mp e]
    have := (Nat.log2_lt hx').mpr h
    omega
theorem lt_intBits (x : Int) : x.natAbs < 2 ^ Builtin.Int.intBits x := by
  unfold Builtin.Int.intBits
  split
  · rename_i hx; have : x = 0 := by simpa using hx
    subst this; decide
  · rename_i hx
    have hx' : x.natAbs ≠ 0 := by
      intro e; apply hx; simp [Int.natAbs_eq_zero.mp e]
    exact (Nat.log2_lt hx').mp (by omega)
theorem mulOk {a b : Int} {k : Nat} (hk : k ≤ 2 ^ 20) (ha : a.natAbs < 2 ^ k) (hb : b.natAbs < 2 ^ k) : IntMulOk a b :=
  IntMulOk.of_bits (Nat.le_trans (intBits_le ha) hk) (Nat.le_trans (intBits_le hb) hk)
theorem mulOk_bits {a b : Int} {k j : Nat} (hk : k ≤ 2 ^ 26) (hj : j ≤ 2 ^ 26) (ha : a.natAbs < 2 ^ k) (hb : b.natAbs < 2 ^ j) : IntMulOk a b := by
  have h1 := intBits_le ha
  have h2 := intBits_le hb
  have e : (2 : Nat) ^ 26 = 67108864 := by decide
  have e2 : Builtin.Int.intTooBig (Builtin.Int.intBits a + Builtin.Int.intBits b) = false := by
    unfold Builtin.Int.intTooBig bitsLine
    exact decide_eq_false (by omega)
  unfold IntMulOk
  rw [e2]; simp

theorem fmod_range (a : Int) {b : Int} (hb : 0 < b) : 0 ≤ a.fmod b ∧ a.fmod b < b := by
  rw [Int.fmod_eq_emod_of_nonneg _ (Int.le_of_lt hb)]
  exact ⟨Int.emod_nonneg _ (by omega), Int.emod_lt_of_pos _ hb⟩
noncomputable def cellAt (scr : List Int) (k : Int) : Int := scr.getD k.toNat 0
noncomputable def cAt : CFn := ⟨2, 2, [.ite (.cmp .lt (.var 1) (.bi .len [(.var 0)])) [.ret (.sub (.var 0) (.var 1))] [], .ret (.lit (.int 0))]⟩
theorem cellAt_spec {fns : Nat → Option CFn} {G : Gm} {n f : Nat} {k : Int} {h : Hp} {Q : V → Hp → Prop} {E : Nat → Hp → Prop}
    (hf : fns f = some cAt) (hk : 0 ≤ k) (q : Q (.int (cellAt G.scr k)) h) : callF fns G (n + 1) f [.scr, .int k] h Q E := by
  refine callF_of hf rfl ?_
  simp only [cAt, wpSs, wpS, wpE, wpEs, lget, List.map_cons, List.map_nil, List.cons_append, List.nil_append, kLenS, kLt]
  by_cases c : k < G.scr.length
  · simp only [c, decide_true]
    have hlt : k.toNat < G.scr.length := by omega
    refine ⟨hk, G.scr[k.toNat], by simp [hlt], ?_⟩
    have e : cellAt G.scr k = G.scr[k.toNat] := by simp [cellAt, List.getD, hlt]
    rw [← e]; exact q
  · simp only [c, decide_false]
    have e : cellAt G.scr k = 0 := by
      have : G.scr.length ≤ k.toNat := by omega
      simp [cellAt, List.getD, this]
    rw [← e]; exact q

noncomputable def drawn : Int → List Int → List Int
  | _, [] => []
  | c, s :: r => c.fmod s :: drawn (c.fdiv s) r
noncomputable def drawnRest : Int → List Int → Int
  | c, [] => c
  | c, s :: r => drawnRest (c.fdiv s) r
theorem length_drawn (c : Int) (ss : List Int) : (drawn c ss).length = ss.length := by
  induction ss generalizing c with
  | nil => rfl
  | cons s r ih => simp [drawn, ih]
theorem drawn_snoc (c : Int) (a : List Int) (s : Int) : drawn c (a ++ [s]) = drawn c a ++ [(drawnRest c a).fmod s] := by
  induction a generalizing c with
  | nil => rfl
  | cons x r ih => simp [drawn, drawnRest, ih]
theorem drawnRest_snoc (c : Int) (a : List Int) (s : Int) : drawnRest c (a ++ [s]) = (drawnRest c a).fdiv s := by
  induction a generalizing c with
  | nil => rfl
  | cons x r ih => simp [drawnRest, ih]
noncomputable def cDrawn : CFn := ⟨2, 4, [.assign 2 (.list []), .loop (.name 3) (.val (.var 1)) [.expr (.meth (.var 2) (Str.ofString "append") [(.bin .mod (.var 0) (.var 3))]), .assign 0 (.bin .fdiv (.var 0) (.var 3))], .ret (.var 2)]⟩
theorem drawn_spec {fns : Nat → Option CFn} {G : Gm} {n f j : Nat} {c : Int} {ss : List Int} {h : Hp} {Q : V → Hp → Prop} {E : Nat → Hp → Prop}
    (hf : fns f = some cDrawn) (hj : h[j]? = some (.list (ss.map V.int))) (hs : ∀ s ∈ ss, s ≠ 0) (hl : ss.length < sizeLine)
    (q : Q (.ref h.length) (h ++ [.list ((drawn c ss).map V.int)])) : callF fns G (n + 1) f [.int c, .ref j] h Q E := by
  refine callF_of hf rfl ?_
  simp only [cDrawn, wpSs, wpS, wpE, wpEs, wpIt, lget, lset, List.map_cons, List.map_nil, List.cons_append, List.nil_append, List.replicate, Nat.reduceSub, List.length_nil]
  refine ⟨Nat.zero_le _, _, srcL (hget_left hj _), ?_⟩
  refine ⟨fun k l2 h2 => (∃ x, l2 = [some (.int (drawnRest c (ss.take k))), some (.ref j), some (.ref h.length), x]) ∧ h2 = h ++ [.list ((drawn c (ss.take k)).map V.int)], ⟨⟨_, rfl⟩, rfl⟩, ?_, ?_⟩
  · rintro k l2 h2 v ⟨⟨x, rfl⟩, rfl⟩ hv
    refine ⟨hget_left hj _, _, rfl, ?_⟩
    obtain ⟨s, hs1, rfl⟩ : ∃ s, ss[k]? = some s ∧ V.int s = v := by simpa using hv
    have hs0 : s ≠ 0 := hs s (List.mem_of_getElem? hs1)
    simp only [lset, lget, mkAppend (hget_last _ _), kMod, kDiv]
    refine ⟨hs0, kAppendL (hget_last _ _) ?_ ⟨hs0, ⟨some (.int s), ?_⟩, ?_⟩⟩
    · rw [List.length_map, length_drawn, List.length_take]; omega
    · rw [take_snoc hs1, drawnRest_snoc]
    · rw [hset_last, take_snoc hs1, drawn_snoc]; simp
  · rintro l2 h2 ⟨⟨x, rfl⟩, rfl⟩
    refine ⟨hget_left hj _, ?_⟩
    simp only [lget, List.length_map, List.take_length]
    exact q
end Mine

end

section
namespace Mine
open PySem
set_option linter.unusedSimpArgs false
set_option linter.unusedVariables false
set_option maxRecDepth 10000
noncomputable def glob05 : List (Str × GV) := [(Str.ofString "ShareError", GV.exc 24), (Str.ofString "Uneven", GV.exc 37), (Str.ofString "widened", GV.fn 44), (Str.ofString "narrowed", GV.fn 51), (Str.ofString "_law_whole", GV.fn 58), (Str.ofString "_law_cell_at", GV.fn 65), (Str.ofString "_law_drawn", GV.fn 72), (Str.ofString "_law_mixed", GV.fn 79), (Str.ofString "_law_lots", GV.fn 86), (Str.ofString "_law_tuples", GV.fn 91), (Str.ofString "_law_refused_by_any", GV.fn 98), (Str.ofString "len", GV.bi (Str.ofString "len")), (Str.ofString "all", GV.bi (Str.ofString "all")), (Str.ofString "any", GV.bi (Str.ofString "any")), (Str.ofString "list", GV.bi (Str.ofString "list")), (Str.ofString "int", GV.bi (Str.ofString "int")), (Str.ofString "isinstance", GV.bi (Str.ofString "isinstance")), (Str.ofString "range", GV.bi (Str.ofString "range")), (Str.ofString "bool", GV.bi (Str.ofString "bool")), (Str.ofString "tuple", GV.bi (Str.ofString "tuple")), (Str.ofString "ValueError", GV.bi (Str.ofString "ValueError"))]
noncomputable def c05_1 : CE := .comp (.tup [(.var 2), (.bin .mul (.var 3) (.var 1)), (.var 4)]) 3 (.val (.var 0)) none
noncomputable def s05_widened : List CS := (.ret c05_1) :: []
noncomputable def f05_widened : CFn := ⟨2, 2, s05_widened⟩
noncomputable def s05_narrowed_b1_1 : List CS := (.expr (.meth (.var 2) (Str.ofString "append") [(.tup [(.var 3), (.bin .fdiv (.var 4) (.var 1)), (.var 5)])])) :: []
noncomputable def s05_narrowed_b1 : List CS := (.ite (.cmp .ne (.bin .mod (.var 4) (.var 1)) (.lit (.int 0))) [.raise 37] []) :: s05_narrowed_b1_1
noncomputable def s05_narrowed_2 : List CS := (.ret (.var 2)) :: []
noncomputable def s05_narrowed_1 : List CS := (.loop (.tup [3, 4, 5]) (.val (.var 0)) s05_narrowed_b1) :: s05_narrowed_2
noncomputable def s05_narrowed : List CS := (.assign 2 (.list [])) :: s05_narrowed_1
noncomputable def f05_narrowed : CFn := ⟨2, 6, s05_narrowed⟩
noncomputable def s05__law_whole : List CS := (.ret (.and (.isi (.var 0) .int) (.not (.isi (.var 0) .bool)))) :: []
noncomputable def f05__law_whole : CFn := ⟨1, 1, s05__law_whole⟩
noncomputable def s05__law_cell_at_1 : List CS := (.ret (.lit (.int 0))) :: []
noncomputable def s05__law_cell_at : List CS := (.ite (.cmp .lt (.var 1) (.bi .len [(.var 0)])) [.ret (.sub (.var 0) (.var 1))] []) :: s05__law_cell_at_1
noncomputable def f05__law_cell_at : CFn := ⟨2, 2, s05__law_cell_at⟩
noncomputable def s05__law_drawn_b1_1 : List CS := (.assign 0 (.bin .fdiv (.var 0) (.var 3))) :: []
noncomputable def s05__law_drawn_b1 : List CS := (.expr (.meth (.var 2) (Str.ofString "append") [(.bin .mod (.var 0) (.var 3))])) :: s05__law_drawn_b1_1
noncomputable def s05__law_drawn_2 : List CS := (.ret (.var 2)) :: []
noncomputable def s05__law_drawn_1 : List CS := (.loop (.name 3) (.val (.var 1)) s05__law_drawn_b1) :: s05__law_drawn_2
noncomputable def s05__law_drawn : List CS := (.assign 2 (.list [])) :: s05__law_drawn_1
noncomputable def f05__law_drawn : CFn := ⟨2, 4, s05__law_drawn⟩
noncomputable def s05__law_mixed : List CS := (.ret (.bin .mul (.bin .add (.var 0) (.bin .mul (.lit (.int 61)) (.var 1))) (.bin .pow (.lit (.int 1000003)) (.lit (.int 5))))) :: []
noncomputable def f05__law_mixed : CFn := ⟨2, 2, s05__law_mixed⟩
noncomputable def s05__law_lots_b2_6 : List CS := (.expr (.meth (.var 2) (Str.ofString "append") [(.tup [(.var 3), (.var 8), (.var 9)])])) :: []
noncomputable def s05__law_lots_b2_5 : List CS := (.assign 9 (.sub (.list [(.lit (.int 0)), (.sub (.var 6) (.lit (.int 4))), (.bin .mod (.bin .mul (.var 5) (.bin .pow (.lit (.int 16807)) (.lit (.int 8)))) (.bin .pow (.lit (.int 10)) (.lit (.int 15)))), (.bin .mod (.bin .mul (.var 5) (.bin .pow (.lit (.int 40692)) (.lit (.int 8)))) (.bin .pow (.lit (.int 10)) (.lit (.int 30))))]) (.sub (.var 6) (.lit (.int 3))))) :: s05__law_lots_b2_6
noncomputable def s05__law_lots_b2_4 : List CS := (.assign 8 (.bin .add (.lit (.int 1)) (.sub (.list [(.sub (.var 6) (.lit (.int 2))), (.bin .add (.bin .mul (.lit (.int 12)) (.sub (.var 6) (.lit (.int 2)))) (.lit (.int 11))), (.sub (.var 7) (.lit (.int 0))), (.sub (.var 7) (.lit (.int 1)))]) (.sub (.var 6) (.lit (.int 1)))))) :: s05__law_lots_b2_5
noncomputable def s05__law_lots_b2_3 : List CS := (.assign 7 (.list [(.bin .mod (.bin .mul (.var 5) (.bin .pow (.lit (.int 48271)) (.lit (.int 7)))) (.bin .pow (.lit (.int 10)) (.lit (.int 12)))), (.bin .mod (.bin .mul (.var 5) (.bin .pow (.lit (.int 69621)) (.lit (.int 7)))) (.bin .sub (.bin .pow (.lit (.int 10)) (.lit (.int 30))) (.lit (.int 1))))])) :: s05__law_lots_b2_4
noncomputable def s05__law_lots_b2_2 : List CS := (.assign 3 (.bin .add (.var 3) (.sub (.var 6) (.lit (.int 0))))) :: s05__law_lots_b2_3
noncomputable def s05__law_lots_b2_1 : List CS := (.assign 6 (.call 72 [(.var 5), (.list [(.lit (.int 4)), (.lit (.int 4)), (.lit (.int 10)), (.lit (.int 4)), (.lit (.int 12))])])) :: s05__law_lots_b2_2
noncomputable def s05__law_lots_b2 : List CS := (.assign 5 (.call 79 [(.call 65 [(.var 0), (.bin .add (.lit (.int 2)) (.bin .mod (.var 4) (.lit (.int 6))))]), (.var 4)])) :: s05__law_lots_b2_1
noncomputable def s05__law_lots_3 : List CS := (.ret (.var 2)) :: []
noncomputable def s05__law_lots_2 : List CS := (.loop (.name 4) (.range (.var 1)) s05__law_lots_b2) :: s05__law_lots_3
noncomputable def s05__law_lots_1 : List CS := (.assign 3 (.lit (.int 0))) :: s05__law_lots_2
noncomputable def s05__law_lots : List CS := (.assign 2 (.list [])) :: s05__law_lots_1
noncomputable def f05__law_lots : CFn := ⟨2, 10, s05__law_lots⟩
noncomputable def c05_2 : CE := .comp (.call 58 [(.var 3)]) 1 (.val (.sub (.var 0) (.var 2))) none
noncomputable def s05__law_tuples_b1_1 : List CS := (.ite (.or (.not (.bi .all [c05_2])) (.cmp .ne (.sub (.var 0) (.var 2)) (.sub (.var 1) (.var 2)))) [.ret (.lit (.bool false))] []) :: []
noncomputable def s05__law_tuples_b1 : List CS := (.ite (.or (.not (.isi (.sub (.var 0) (.var 2)) .tuple)) (.cmp .ne (.bi .len [(.sub (.var 0) (.var 2))]) (.bi .len [(.sub (.var 1) (.var 2))]))) [.ret (.lit (.bool false))] []) :: s05__law_tuples_b1_1
noncomputable def s05__law_tuples_2 : List CS := (.ret (.lit (.bool true))) :: []
noncomputable def s05__law_tuples_1 : List CS := (.loop (.name 2) (.range (.bi .len [(.var 1)])) s05__law_tuples_b1) :: s05__law_tuples_2
noncomputable def s05__law_tuples : List CS := (.ite (.or (.not (.isi (.var 0) .list)) (.cmp .ne (.bi .len [(.var 0)]) (.bi .len [(.var 1)]))) [.ret (.lit (.bool false))] []) :: s05__law_tuples_1
noncomputable def f05__law_tuples : CFn := ⟨2, 3, s05__law_tuples⟩
noncomputable def s05__law_refused_by_any_1 : List CS := (.ret (.lit (.bool false))) :: []
noncomputable def s05__law_refused_by_any : List CS := (.tryC none 51 [(.var 0), (.var 1)] [.isi 24 2 .valueError]) :: s05__law_refused_by_any_1
noncomputable def f05__law_refused_by_any : CFn := ⟨2, 3, s05__law_refused_by_any⟩
noncomputable def c05_3 : CE := .comp (.tup [(.sub (.var 11) (.lit (.int 0))), (.bin .fdiv (.sub (.var 11) (.lit (.int 1))) (.var 4)), (.sub (.var 11) (.lit (.int 2)))]) 1 (.val (.var 3)) none
noncomputable def c05_4 : CE := .comp (.cmp .gt (.bin .mod (.sub (.var 11) (.lit (.int 1))) (.var 4)) (.lit (.int 0))) 1 (.val (.var 3)) none
noncomputable def c05_5 : CE := .comp (.tup [(.sub (.var 11) (.lit (.int 0))), (.bin .mul (.sub (.var 11) (.lit (.int 1))) (.var 4)), (.sub (.var 11) (.lit (.int 2)))]) 1 (.val (.var 3)) none
noncomputable def c05_6 : CE := .comp (.tup [(.sub (.var 11) (.lit (.int 0))), (.bin .mul (.bin .add (.lit (.int 1)) (.bin .mod (.sub (.var 11) (.lit (.int 1))) (.var 5))) (.var 4)), (.sub (.var 11) (.lit (.int 2)))]) 1 (.val (.var 3)) none
noncomputable def s05_law_c7t_1 : List CS := (.assign 3 c05_6) :: []
noncomputable def s05_law_c7t : List CS := (.assign 5 (.sub (.list [(.bin .pow (.lit (.int 10)) (.lit (.int 20))), (.lit (.int 9))]) (.bi .int [(.cmp .eq (.sub (.var 1) (.lit (.int 2))) (.lit (.int 2)))]))) :: s05_law_c7t_1
noncomputable def s05_law_17 : List CS := (.ret (.and (.not (.var 8)) (.call 91 [(.var 9), (.var 10)]))) :: []
noncomputable def s05_law_16 : List CS := (.assign 10 c05_3) :: s05_law_17
noncomputable def s05_law_15 : List CS := (.ite (.bi .any [c05_4]) [.ret (.and (.var 8) (.call 98 [(.var 3), (.var 4)]))] []) :: s05_law_16
noncomputable def s05_law_14 : List CS := (.ite (.cmp .ne (.var 6) (.var 3)) [.ret (.lit (.bool false))] []) :: s05_law_15
noncomputable def s05_law_13 : List CS := (.tryC (some 9) 51 [(.var 6), (.var 4)] [.set 37 8 true]) :: s05_law_14
noncomputable def s05_law_12 : List CS := (.assign 9 (.list [])) :: s05_law_13
noncomputable def s05_law_11 : List CS := (.assign 8 (.lit (.bool false))) :: s05_law_12
noncomputable def s05_law_10 : List CS := (.ite (.not (.call 91 [(.call 44 [(.var 6), (.var 4)]), (.var 7)])) [.ret (.lit (.bool false))] []) :: s05_law_11
noncomputable def s05_law_9 : List CS := (.assign 7 c05_5) :: s05_law_10
noncomputable def s05_law_8 : List CS := (.assign 6 (.bi .list [(.var 3)])) :: s05_law_9
noncomputable def s05_law_7 : List CS := (.ite (.cmp .eq (.sub (.var 1) (.lit (.int 1))) (.lit (.int 1))) s05_law_c7t []) :: s05_law_8
noncomputable def s05_law_6 : List CS := (.ite (.cmp .eq (.sub (.var 1) (.lit (.int 2))) (.lit (.int 2))) [.assign 4 (.bin .add (.lit (.int 1)) (.bin .mod (.bin .mul (.call 65 [(.var 0), (.lit (.int 1))]) (.bin .pow (.lit (.int 69621)) (.lit (.int 7)))) (.bin .pow (.lit (.int 10)) (.lit (.int 29)))))] []) :: s05_law_7
noncomputable def s05_law_5 : List CS := (.ite (.cmp .eq (.sub (.var 1) (.lit (.int 2))) (.lit (.int 1))) [.assign 4 (.bin .add (.lit (.int 1)) (.bin .mod (.call 65 [(.var 0), (.lit (.int 1))]) (.bin .pow (.lit (.int 10)) (.lit (.int 6)))))] []) :: s05_law_6
noncomputable def s05_law_4 : List CS := (.assign 4 (.bin .add (.lit (.int 1)) (.bin .mod (.call 65 [(.var 0), (.lit (.int 1))]) (.lit (.int 12))))) :: s05_law_5
noncomputable def s05_law_3 : List CS := (.assign 3 (.call 86 [(.var 0), (.var 2)])) :: s05_law_4
noncomputable def s05_law_2 : List CS := (.ite (.cmp .eq (.sub (.var 1) (.lit (.int 3))) (.lit (.int 1))) [.assign 2 (.lit (.int 60))] []) :: s05_law_3
noncomputable def s05_law_1 : List CS := (.assign 2 (.sub (.var 1) (.lit (.int 0)))) :: s05_law_2
noncomputable def s05_law : List CS := (.assign 1 (.call 72 [(.call 65 [(.var 0), (.lit (.int 0))]), (.list [(.lit (.int 7)), (.lit (.int 2)), (.lit (.int 4)), (.lit (.int 8))])])) :: s05_law_1
noncomputable def f05_law : CFn := ⟨1, 11, s05_law⟩
noncomputable def tab05 : List (Nat × CFn) := [(44, f05_widened), (51, f05_narrowed), (58, f05__law_whole), (65, f05__law_cell_at), (72, f05__law_drawn), (79, f05__law_mixed), (86, f05__law_lots), (91, f05__law_tuples), (98, f05__law_refused_by_any), (103, f05_law)]
noncomputable def subtab05 : List ((Nat × Cls) × Bool) := [((37, Cls.own 24), true), ((37, Cls.own 37), true), ((37, Cls.valueError), true)]
noncomputable def gm05 (scr : List Int) : Gm := ⟨scr, fun _ => none, fun X cl => subtab05.lookup (X, cl), none, 0⟩
noncomputable abbrev Lot := Int × Int × Int
noncomputable def lotV (x : Lot) : V := .tup [.int x.1, .int x.2.1, .int x.2.2]
noncomputable def lotOk (x : Lot) : Prop := 1 ≤ x.2.1 ∧ x.2.1 ≤ 1000000000000000000000000000000 ∧ 0 ≤ x.2.2 ∧ x.2.2 < 1000000000000000000000000000000
noncomputable abbrev C05 (scr : List Int) (n : Nat) : Calls := callF (fnsOf tab05) (gm05 scr) n

theorem natAbs_add_lt {a b : Int} {k j : Nat} (hk : k < j) (ha : a.natAbs < 2 ^ k) (hb : b.natAbs < 2 ^ k) : (a + b).natAbs < 2 ^ j := by
  have h1 := Int.natAbs_add_le a b
  have h2 : 2 ^ (k + 1) ≤ 2 ^ j := Nat.pow_le_pow_right (by omega) hk
  have h3 : 2 ^ (k + 1) = 2 ^ k + 2 ^ k := by rw [Nat.pow_succ]; omega
  omega
theorem natAbs_mul_lt {a b : Int} {k j : Nat} (ha : a.natAbs < 2 ^ k) (hb : b.natAbs < 2 ^ j) : (a * b).natAbs < 2 ^ (k + j) := by
  rw [Int.natAbs_mul, Nat.pow_add]
  exact Nat.mul_lt_mul'' ha hb
theorem pow_le_pow2 {k j : Nat} (h : k ≤ j) : 2 ^ k ≤ 2 ^ j := Nat.pow_le_pow_right (by omega) h
theorem cell_bits {scr : List Int} (hb : ∀ n ∈ scr, Builtin.Int.intBits n ≤ 2 ^ 20) (k : Int) : (cellAt scr k).natAbs < 2 ^ (2 ^ 20) := by
  unfold cellAt List.getD
  cases e : scr[k.toNat]? with
  | none => exact Nat.pos_of_ne_zero (fun h => by simp at h)
  | some n => exact Nat.lt_of_lt_of_le (lt_intBits n) (pow_le_pow2 (hb n (List.mem_of_getElem? e)))

theorem whole05 {scr : List Int} {n : Nat} {c : Int} {h : Hp} {Q : V → Hp → Prop} {E : Nat → Hp → Prop}
    (q : Q (.bool true) h) : C05 scr (n + 1) 58 [.int c] h Q E := by
  refine callF_of (fn := f05__law_whole) rfl rfl ?_
  simp only [f05__law_whole, s05__law_whole, wpSs, wpS, wpH, tset, wpE, wpEs, wpO, wpT, wpIt, lget, lset, bindT, kAdd, kSubI, kMul, kDiv, kMod, kEqI, kNeI, kLt, kLe, kGt, kGe, kIsiII, kIsiIB, kLenS, kSubS, kP6, kP20, kP29, kP12, kP15, kP30, List.map_cons, List.map_nil, List.length_cons, List.length_nil, List.replicate, List.cons_append, List.nil_append, Nat.reduceAdd, Nat.reduceSub, Bool.not_true, Bool.not_false]
  exact q
theorem mixed05 {scr : List Int} {n : Nat} {c : Int} {p : Nat} {h : Hp} {Q : V → Hp → Prop} {E : Nat → Hp → Prop} (hc : c.natAbs < 2 ^ (2 ^ 20)) (hp : p ≤ 100)
    (q : ∀ m : Int, m.natAbs < 2 ^ (2 ^ 20 + 101) → Q (.int m) h) : C05 scr (n + 1) 79 [.int c, .int p] h Q E := by
  refine callF_of (fn := f05__law_mixed) rfl rfl ?_
  simp only [f05__law_mixed, s05__law_mixed, wpSs, wpS, wpH, tset, wpE, wpEs, wpO, wpT, wpIt, lget, lset, bindT, kAdd, kSubI, kMul, kDiv, kMod, kEqI, kNeI, kLt, kLe, kGt, kGe, kIsiII, kIsiIB, kLenS, kSubS, kP6, kP20, kP29, kP12, kP15, kP30, List.map_cons, List.map_nil, List.length_cons, List.length_nil, List.replicate, List.cons_append, List.nil_append, Nat.reduceAdd, Nat.reduceSub, Bool.not_true, Bool.not_false, kQ1000003_5]
  have a1 : (61 * (p : Int)).natAbs < 2 ^ 20 := by omega
  have a2 : (61 * (p : Int)).natAbs < 2 ^ (2 ^ 20) := Nat.lt_of_lt_of_le a1 (pow_le_pow2 (by decide))
  have a3 : (c + 61 * (p : Int)).natAbs < 2 ^ (2 ^ 20 + 1) := natAbs_add_lt (Nat.lt_succ_self _) hc a2
  have a4 : (1000015000090000270000405000243 : Int).natAbs < 2 ^ 100 := by decide
  refine ⟨mulOk (k := 64) (by decide) (by decide) (by omega), mulOk_bits (by decide) (by decide) a3 a4, q _ ?_⟩
  have := natAbs_mul_lt a3 a4
  rw [show 2 ^ 20 + 1 + 100 = 2 ^ 20 + 101 by omega] at this
  exact this
theorem mulBig {m b : Int} (hm : m.natAbs < 2 ^ (2 ^ 20 + 101)) (hb : b.natAbs < 2 ^ 200) : IntMulOk m b := mulOk_bits (by decide) (by decide) hm hb
theorem lt30 {x b : Int} (h : x < b) (hb : b ≤ 1000000000000000000000000000000) : x < 1000000000000000000000000000000 := Int.lt_of_lt_of_le h hb
theorem lt30' {x b : Int} (h : x < b) (hb : b ≤ 1000000000000000000000000000000 - 1) : x < 1000000000000000000000000000000 - 1 := Int.lt_of_lt_of_le h hb
theorem step05a {scr : List Int} {n : Nat} {h : Hp} {a b c d e f g : Option V} {N : Loc → Hp → Prop} {R : V → Hp → Prop} {E : Nat → Loc → Hp → Prop} {cell : Int} {r6 r7 : Nat} {s0 s1 s2 s3 s4 g0 g1 : Int}
    (hm : cell.natAbs < 2 ^ (2 ^ 20 + 101)) (h6 : h[r6]? = some (.list [.int s0, .int s1, .int s2, .int s3, .int s4])) (h7 : h[r7]? = some (.list [.int g0, .int g1]))
    (e1 : 0 ≤ s1 ∧ s1 < 4) (e2 : 0 ≤ s2 ∧ s2 < 10) (e3 : 0 ≤ s3 ∧ s3 < 4) (e4 : 0 ≤ s4 ∧ s4 < 12) (e5 : 0 ≤ g0 ∧ g0 < 1000000000000) (e6 : 0 ≤ g1 ∧ g1 < 1000000000000000000000000000000 - 1)
    (q : ∀ (t : Hp) (y z : Int), 1 ≤ y → y < 1000000000000000000000000000000 → 0 ≤ z → z < 1000000000000000000000000000000 → wpSs (gm05 scr) (C05 scr n) s05__law_lots_b2_6 [a, b, c, d, e, some (.int cell), some (.ref r6), some (.ref r7), some (.int y), some (.int z)] (h ++ t) N R E) :
    wpSs (gm05 scr) (C05 scr n) s05__law_lots_b2_4 [a, b, c, d, e, some (.int cell), some (.ref r6), some (.ref r7), f, g] h N R E := by
  simp only [s05__law_lots_b2_4, wpSs, wpS, wpH, tset, wpE, wpEs, wpO, wpT, wpIt, lget, lset, bindT, kAdd, kSubI, kMul, kDiv, kMod, kEqI, kNeI, kLt, kLe, kGt, kGe, kIsiII, kIsiIB, kLenS, kSubS, kP6, kP20, kP29, kP12, kP15, kP30, List.map_cons, List.map_nil, List.length_cons, List.length_nil, List.replicate, List.cons_append, List.nil_append, Nat.reduceAdd, Nat.reduceSub, Bool.not_true, Bool.not_false]
  refine kSubL h6 (by omega) (v := .int s2) rfl (kSubL h6 (by omega) (v := .int s2) rfl ?_)
  simp only [wpSs, wpS, wpH, tset, wpE, wpEs, wpO, wpT, wpIt, lget, lset, bindT, kAdd, kSubI, kMul, kDiv, kMod, kEqI, kNeI, kLt, kLe, kGt, kGe, kIsiII, kIsiIB, kLenS, kSubS, kP6, kP20, kP29, kP12, kP15, kP30, List.map_cons, List.map_nil, List.length_cons, List.length_nil, List.replicate, List.cons_append, List.nil_append, Nat.reduceAdd, Nat.reduceSub, Bool.not_true, Bool.not_false]
  refine ⟨mulOk (k := 64) (by decide) (by decide) (by omega), kSubL h7 (by omega) (v := .int g0) rfl (kSubL h7 (by omega) (v := .int g1) rfl ⟨by decide, kSubL (hget_left h6 _) (by omega) (v := .int s1) rfl ?_⟩)⟩
  have key : ∀ y : Int, 0 ≤ y → y < 1000000000000000000000000000000 - 1 → [V.int s2, V.int (12 * s2 + 11), V.int g0, V.int g1][s1.toNat]? = some (.int y) → kSub (gm05 scr) (V.ref h.length) (V.int s1) (h ++ [O.list [V.int s2, V.int (12 * s2 + 11), V.int g0, V.int g1]]) (fun vb h2 => kBin BinK.add (V.int 1) vb h2 fun v h1 => wpSs (gm05 scr) (C05 scr n) s05__law_lots_b2_5 [a, b, c, d, e, some (.int cell), some (.ref r6), some (.ref r7), some v, g] h1 N R E) := by
    intro y hy1 hy2 hy
    refine kSubL (hget_last _ _) e1.1 hy ?_
    simp only [wpSs, wpS, wpH, tset, wpE, wpEs, wpO, wpT, wpIt, lget, lset, bindT, kAdd, kSubI, kMul, kDiv, kMod, kEqI, kNeI, kLt, kLe, kGt, kGe, kIsiII, kIsiIB, kLenS, kSubS, kP6, kP20, kP29, kP12, kP15, kP30, List.map_cons, List.map_nil, List.length_cons, List.length_nil, List.replicate, List.cons_append, List.nil_append, Nat.reduceAdd, Nat.reduceSub, Bool.not_true, Bool.not_false]
    have h6' := hget_left h6 [O.list [V.int s2, V.int (12 * s2 + 11), V.int g0, V.int g1]]
    simp only [s05__law_lots_b2_5, wpSs, wpS, wpH, tset, wpE, wpEs, wpO, wpT, wpIt, lget, lset, bindT, kAdd, kSubI, kMul, kDiv, kMod, kEqI, kNeI, kLt, kLe, kGt, kGe, kIsiII, kIsiIB, kLenS, kSubS, kP6, kP20, kP29, kP12, kP15, kP30, List.map_cons, List.map_nil, List.length_cons, List.length_nil, List.replicate, List.cons_append, List.nil_append, Nat.reduceAdd, Nat.reduceSub, Bool.not_true, Bool.not_false, kQ16807_8, kQ40692_8]
    refine kSubL h6' (by omega) (v := .int s4) rfl ?_
    refine ⟨mulBig hm (by decide), by omega, mulBig hm (by decide), by omega, by decide, kSubL (hget_left h6' _) (by omega) (v := .int s3) rfl ?_⟩
    have r1 := fmod_range (cell * 6366805760909027985741435139224001) (b := 1000000000000000) (by omega)
    have r2 := fmod_range (cell * 7517480091002011781899471280647766016) (b := 1000000000000000000000000000000) (by omega)
    generalize (cell * 6366805760909027985741435139224001).fmod 1000000000000000 = w1 at *
    generalize (cell * 7517480091002011781899471280647766016).fmod 1000000000000000000000000000000 = w2 at *
    have key2 : ∀ (hh : Hp) (z : Int), 0 ≤ z → z < 1000000000000000000000000000000 → [V.int 0, V.int s4, V.int w1, V.int w2][s3.toNat]? = some (.int z) → kSub (gm05 scr) (V.ref (h ++ [O.list [V.int s2, V.int (12 * s2 + 11), V.int g0, V.int g1]]).length) (V.int s3) (h ++ [O.list [V.int s2, V.int (12 * s2 + 11), V.int g0, V.int g1]] ++ [O.list [V.int 0, V.int s4, V.int w1, V.int w2]]) (fun v h1 => wpSs (gm05 scr) (C05 scr n) s05__law_lots_b2_6 [a, b, c, d, e, some (.int cell), some (.ref r6), some (.ref r7), some (.int (1 + y)), some v] h1 N R E) := by
      intro hh z hz1 hz2 hz
      refine kSubL (hget_last _ _) e3.1 hz ?_
      rw [List.append_assoc]
      exact q _ _ _ (by omega) (by omega) hz1 hz2
    rcases (by omega : s3 = 0 ∨ s3 = 1 ∨ s3 = 2 ∨ s3 = 3) with e | e | e | e
    · exact key2 [] 0 (by decide) (by decide) (by rw [e]; rfl)
    · exact key2 [] s4 e4.1 (lt30 e4.2 (by decide)) (by rw [e]; rfl)
    · exact key2 [] w1 r1.1 (lt30 r1.2 (by decide)) (by rw [e]; rfl)
    · exact key2 [] w2 r2.1 r2.2 (by rw [e]; rfl)
  rcases (by omega : s1 = 0 ∨ s1 = 1 ∨ s1 = 2 ∨ s1 = 3) with e | e | e | e
  · exact key s2 e2.1 (lt30' e2.2 (by decide)) (by rw [e]; rfl)
  · exact key (12 * s2 + 11) (by omega) (by omega) (by rw [e]; rfl)
  · exact key g0 e5.1 (lt30' e5.2 (by decide)) (by rw [e]; rfl)
  · exact key g1 e6.1 e6.2 (by rw [e]; rfl)
theorem lots05 {scr : List Int} {n m : Nat} {h : Hp} {Q : V → Hp → Prop} {E : Nat → Hp → Prop} (hb : ∀ n ∈ scr, Builtin.Int.intBits n ≤ 2 ^ 20) (hm : m ≤ 60)
    (q : ∀ (lots : List Lot) (t : Hp), lots.length = m → (∀ x ∈ lots, lotOk x) → Q (.ref h.length) (h ++ .list (lots.map lotV) :: t)) : C05 scr (n + 2) 86 [.scr, .int m] h Q E := by
  refine callF_of (fn := f05__law_lots) rfl rfl ?_
  simp only [f05__law_lots, s05__law_lots, wpSs, wpS, wpH, tset, wpE, wpEs, wpO, wpT, wpIt, lget, lset, bindT, kAdd, kSubI, kMul, kDiv, kMod, kEqI, kNeI, kLt, kLe, kGt, kGe, kIsiII, kIsiIB, kLenS, kSubS, kP6, kP20, kP29, kP12, kP15, kP30, List.map_cons, List.map_nil, List.length_cons, List.length_nil, List.replicate, List.cons_append, List.nil_append, Nat.reduceAdd, Nat.reduceSub, Bool.not_true, Bool.not_false]
  refine ⟨by decide, ?_⟩
  simp only [s05__law_lots_1, wpSs, wpS, wpH, tset, wpE, wpEs, wpO, wpT, wpIt, lget, lset, bindT, kAdd, kSubI, kMul, kDiv, kMod, kEqI, kNeI, kLt, kLe, kGt, kGe, kIsiII, kIsiIB, kLenS, kSubS, kP6, kP20, kP29, kP12, kP15, kP30, List.map_cons, List.map_nil, List.length_cons, List.length_nil, List.replicate, List.cons_append, List.nil_append, Nat.reduceAdd, Nat.reduceSub, Bool.not_true, Bool.not_false]
  simp only [s05__law_lots_2, wpSs]
  refine wpLoopR (h' := h ++ [.list []]) m (fun Q q => by simp only [wpE, lget]; exact q) (by omega) (fun k l2 h2 => ∃ day e5 e6 e7 e8 e9 e4 lots t, l2 = [some .scr, some (.int m), some (.ref h.length), some (.int day), e4, e5, e6, e7, e8, e9] ∧ h2 = h ++ .list (lots.map lotV) :: t ∧ lots.length = k ∧ ∀ x ∈ lots, lotOk x) ⟨_, _, _, _, _, _, _, [], [], rfl, rfl, rfl, by simp⟩ ?_ ?_
  · rintro k l2 h2 hk ⟨day, e5, e6, e7, e8, e9, e4, lots, t, rfl, rfl, hl, hok⟩
    simp only [s05__law_lots_b2, wpSs, wpS, wpH, tset, wpE, wpEs, wpO, wpT, wpIt, lget, lset, bindT, kAdd, kSubI, kMul, kDiv, kMod, kEqI, kNeI, kLt, kLe, kGt, kGe, kIsiII, kIsiIB, kLenS, kSubS, kP6, kP20, kP29, kP12, kP15, kP30, List.map_cons, List.map_nil, List.length_cons, List.length_nil, List.replicate, List.cons_append, List.nil_append, Nat.reduceAdd, Nat.reduceSub, Bool.not_true, Bool.not_false]
    have rk := fmod_range (k : Int) (b := 6) (by omega)
    refine ⟨by omega, cellAt_spec (n := n) rfl (by omega) ?_⟩
    refine mixed05 (cell_bits hb _) (by omega) ?_
    intro cell hcell
    simp only [s05__law_lots_b2_1, wpSs, wpS, wpH, tset, wpE, wpEs, wpO, wpT, wpIt, lget, lset, bindT, kAdd, kSubI, kMul, kDiv, kMod, kEqI, kNeI, kLt, kLe, kGt, kGe, kIsiII, kIsiIB, kLenS, kSubS, kP6, kP20, kP29, kP12, kP15, kP30, List.map_cons, List.map_nil, List.length_cons, List.length_nil, List.replicate, List.cons_append, List.nil_append, Nat.reduceAdd, Nat.reduceSub, Bool.not_true, Bool.not_false]
    refine ⟨by decide, drawn_spec (n := n) rfl (ss := [4, 4, 10, 4, 12]) (hget_last _ _) (by simp) (by decide) ?_⟩
    have r0 := fmod_range cell (b := 4) (by omega)
    have r1 := fmod_range (cell.fdiv 4) (b := 4) (by omega)
    have r2 := fmod_range ((cell.fdiv 4).fdiv 4) (b := 10) (by omega)
    have r3 := fmod_range (((cell.fdiv 4).fdiv 4).fdiv 10) (b := 4) (by omega)
    have r4 := fmod_range ((((cell.fdiv 4).fdiv 4).fdiv 10).fdiv 4) (b := 12) (by omega)
    simp only [drawn, s05__law_lots_b2_2, wpSs, wpS, wpH, tset, wpE, wpEs, wpO, wpT, wpIt, lget, lset, bindT, kAdd, kSubI, kMul, kDiv, kMod, kEqI, kNeI, kLt, kLe, kGt, kGe, kIsiII, kIsiIB, kLenS, kSubS, kP6, kP20, kP29, kP12, kP15, kP30, List.map_cons, List.map_nil, List.length_cons, List.length_nil, List.replicate, List.cons_append, List.nil_append, Nat.reduceAdd, Nat.reduceSub, Bool.not_true, Bool.not_false]
    generalize cell.fmod 4 = s0 at *
    generalize (cell.fdiv 4).fmod 4 = s1 at *
    generalize ((cell.fdiv 4).fdiv 4).fmod 10 = s2 at *
    generalize (((cell.fdiv 4).fdiv 4).fdiv 10).fmod 4 = s3 at *
    generalize ((((cell.fdiv 4).fdiv 4).fdiv 10).fdiv 4).fmod 12 = s4 at *
    refine kSubL (hget_last _ _) (by omega) (v := .int s0) rfl ?_
    simp only [s05__law_lots_b2_3, wpSs, wpS, wpH, tset, wpE, wpEs, wpO, wpT, wpIt, lget, lset, bindT, kAdd, kSubI, kMul, kDiv, kMod, kEqI, kNeI, kLt, kLe, kGt, kGe, kIsiII, kIsiIB, kLenS, kSubS, kP6, kP20, kP29, kP12, kP15, kP30, List.map_cons, List.map_nil, List.length_cons, List.length_nil, List.replicate, List.cons_append, List.nil_append, Nat.reduceAdd, Nat.reduceSub, Bool.not_true, Bool.not_false, kQ48271_7, kQ69621_7]
    refine ⟨mulBig hcell (by decide), by omega, mulBig hcell (by decide), by omega, by decide, ?_⟩
    have r5 := fmod_range (cell * 610666465330867800319356957143791) (b := 1000000000000) (by omega)
    have r6 := fmod_range (cell * 7928331467292760530673834318599741) (b := 1000000000000000000000000000000 - 1) (by omega)
    refine step05a hcell (hget_left (hget_last _ _) _) (hget_last _ _) r1 r2 r3 r4 r5 r6 ?_
    intro t' y z hy1 hy2 hz1 hz2
    simp only [s05__law_lots_b2_6, wpSs, wpS]
    have e : h ++ .list (lots.map lotV) :: t ++ [O.list [V.int 4, V.int 4, V.int 10, V.int 4, V.int 12]] ++ [O.list [V.int s0, V.int s1, V.int s2, V.int s3, V.int s4]] ++ [O.list [V.int ((cell * 610666465330867800319356957143791).fmod 1000000000000), V.int ((cell * 7928331467292760530673834318599741).fmod (1000000000000000000000000000000 - 1))]] ++ t' = h ++ .list (lots.map lotV) :: (t ++ [O.list [V.int 4, V.int 4, V.int 10, V.int 4, V.int 12]] ++ [O.list [V.int s0, V.int s1, V.int s2, V.int s3, V.int s4]] ++ [O.list [V.int ((cell * 610666465330867800319356957143791).fmod 1000000000000), V.int ((cell * 7928331467292760530673834318599741).fmod (1000000000000000000000000000000 - 1))]] ++ t') := by simp
    rw [e]
    refine wpAppendVar (r := h.length) rfl (hget_mid _ _ _) ?_
    simp only [wpSs, wpS, wpH, tset, wpE, wpEs, wpO, wpT, wpIt, lget, lset, bindT, kAdd, kSubI, kMul, kDiv, kMod, kEqI, kNeI, kLt, kLe, kGt, kGe, kIsiII, kIsiIB, kLenS, kSubS, kP6, kP20, kP29, kP12, kP15, kP30, List.map_cons, List.map_nil, List.length_cons, List.length_nil, List.replicate, List.cons_append, List.nil_append, Nat.reduceAdd, Nat.reduceSub, Bool.not_true, Bool.not_false]
    refine ⟨by decide, kAppendL (hget_mid _ _ _) (by rw [List.length_map, hl]; unfold sizeLine; omega) ?_⟩
    rw [hset_mid, show lots.map lotV ++ [V.tup [V.int (day + s0), V.int y, V.int z]] = (lots ++ [(day + s0, y, z)]).map lotV by simp [lotV]]
    refine ⟨_, _, _, _, _, _, _, lots ++ [(day + s0, y, z)], _, rfl, rfl, ?_, ?_⟩
    · simp [hl]
    · intro x hx
      rcases List.mem_append.mp hx with hx | hx
      · exact hok x hx
      · simp at hx; subst hx; exact ⟨hy1, Int.le_of_lt hy2, hz1, hz2⟩
  · rintro l2 h2 ⟨day, e5, e6, e7, e8, e9, e4, lots, t, rfl, rfl, hl, hok⟩
    simp only [s05__law_lots_3, wpSs, wpS, wpH, tset, wpE, wpEs, wpO, wpT, wpIt, lget, lset, bindT, kAdd, kSubI, kMul, kDiv, kMod, kEqI, kNeI, kLt, kLe, kGt, kGe, kIsiII, kIsiIB, kLenS, kSubS, kP6, kP20, kP29, kP12, kP15, kP30, List.map_cons, List.map_nil, List.length_cons, List.length_nil, List.replicate, List.cons_append, List.nil_append, Nat.reduceAdd, Nat.reduceSub, Bool.not_true, Bool.not_false]
    exact q lots t hl hok
noncomputable def cs (lots : List Lot) : Int := (lots.map (·.2.1)).sum
theorem kIsiTT {G : Gm} {h : Hp} {Q : V → Hp → Prop} (vs : List V) : kIsi G (.tup vs) .tuple h Q = Q (.bool true) h := rfl
theorem kLenT {G : Gm} {h : Hp} {Q : V → Hp → Prop} (vs : List V) : kBi G .len [.tup vs] h Q = Q (.int vs.length) h := rfl
theorem veqs_self {f : V → V → Option Bool} : ∀ {l : List V}, (∀ x ∈ l, f x x = some true) → veqs f l l = some true
  | [], _ => rfl
  | x :: r, h => by simp [veqs, h x (by simp), veqs_self (l := r) (fun y hy => h y (by simp [hy]))]
theorem veq_lots {h : Hp} {i j : Nat} {lots : List Lot} (hi : h[i]? = some (.list (lots.map lotV))) (hj : h[j]? = some (.list (lots.map lotV))) : veq 10 h (.ref i) (.ref j) = some true := by
  simp only [veq, hi, hj, if_true]
  refine veqs_self ?_
  intro x hx
  obtain ⟨y, hy, rfl⟩ := List.mem_map.mp hx
  simp [lotV, veq, veqs]
theorem lotAt {lots : List Lot} {k : Nat} {v : V} (hv : (lots.map lotV)[k]? = some v) : ∃ s, lots[k]? = some s ∧ lotV s = v := by
  rw [List.getElem?_map] at hv
  cases hz : lots[k]? with
  | none => rw [hz] at hv; cases hv
  | some p => rw [hz] at hv; exact ⟨p, rfl, by injection hv⟩
theorem kNeLots {h : Hp} {Q : V → Hp → Prop} {i j : Nat} {lots : List Lot} (hi : h[i]? = some (.list (lots.map lotV))) (hj : h[j]? = some (.list (lots.map lotV))) (q : Q (.bool false) h) : kCmp .ne (.ref i) (.ref j) h Q :=
  ⟨true, veq_lots hi hj, q⟩
theorem getLot {lots : List Lot} {k : Nat} (hk : k < lots.length) : (lots.map lotV)[(k : Int).toNat]? = some (lotV lots[k]) := by
  rw [Int.toNat_natCast]; simp [hk]
theorem tuples05 {scr : List Int} {n i j : Nat} {h : Hp} {Q : V → Hp → Prop} {E : Nat → Hp → Prop} {lots : List Lot} (hi : h[i]? = some (.list (lots.map lotV))) (hj : h[j]? = some (.list (lots.map lotV))) (hl : lots.length ≤ 100)
    (q : ∀ t, Q (.bool true) (h ++ t)) : C05 scr (n + 2) 91 [.ref i, .ref j] h Q E := by
  refine callF_of (fn := f05__law_tuples) rfl rfl ?_
  simp only [f05__law_tuples, s05__law_tuples, wpSs, wpS, wpH, tset, wpE, wpEs, wpO, wpT, wpIt, lget, lset, bindT, kAdd, kSubI, kMul, kDiv, kMod, kEqI, kNeI, kLt, kLe, kGt, kGe, kIsiII, kIsiIB, kLenS, kSubS, kP6, kP20, kP29, kP12, kP15, kP30, List.map_cons, List.map_nil, List.length_cons, List.length_nil, List.replicate, List.cons_append, List.nil_append, Nat.reduceAdd, Nat.reduceSub, Bool.not_true, Bool.not_false]
  refine kIsiL hi (kLenL hi (kLenL hj ?_))
  simp only [wpSs, wpS, wpH, tset, wpE, wpEs, wpO, wpT, wpIt, lget, lset, bindT, kAdd, kSubI, kMul, kDiv, kMod, kEqI, kNeI, kLt, kLe, kGt, kGe, kIsiII, kIsiIB, kLenS, kSubS, kP6, kP20, kP29, kP12, kP15, kP30, List.map_cons, List.map_nil, List.length_cons, List.length_nil, List.replicate, List.cons_append, List.nil_append, Nat.reduceAdd, Nat.reduceSub, Bool.not_true, Bool.not_false, beq_self_eq_true]
  simp only [s05__law_tuples_1, wpSs]
  refine wpLoopR (h' := h) lots.length (fun Q q => by simp only [wpE, wpEs, lget]; refine kLenL hj ?_; rw [List.length_map]; exact q) (by omega) (fun k l2 h2 => ∃ e t, l2 = [some (.ref i), some (.ref j), e] ∧ h2 = h ++ t) ⟨none, [], rfl, by simp⟩ ?_ ?_
  · rintro k l2 h2 hk ⟨e, t, rfl, rfl⟩
    have hi' := hget_left hi t
    have hj' := hget_left hj t
    have gk := getLot hk
    generalize lots[k] = x at gk
    obtain ⟨d, m, c⟩ := x
    simp only [s05__law_tuples_b1, wpSs, wpS, wpH, tset, wpE, wpEs, wpO, wpT, wpIt, lget, lset, bindT, kAdd, kSubI, kMul, kDiv, kMod, kEqI, kNeI, kLt, kLe, kGt, kGe, kIsiII, kIsiIB, kLenS, kSubS, kP6, kP20, kP29, kP12, kP15, kP30, List.map_cons, List.map_nil, List.length_cons, List.length_nil, List.replicate, List.cons_append, List.nil_append, Nat.reduceAdd, Nat.reduceSub, Bool.not_true, Bool.not_false]
    refine kSubL hi' (by omega) gk ?_
    simp only [lotV, kIsiTT, wpSs, wpS, wpH, tset, wpE, wpEs, wpO, wpT, wpIt, lget, lset, bindT, kAdd, kSubI, kMul, kDiv, kMod, kEqI, kNeI, kLt, kLe, kGt, kGe, kIsiII, kIsiIB, kLenS, kSubS, kP6, kP20, kP29, kP12, kP15, kP30, List.map_cons, List.map_nil, List.length_cons, List.length_nil, List.replicate, List.cons_append, List.nil_append, Nat.reduceAdd, Nat.reduceSub, Bool.not_true, Bool.not_false]
    refine kSubL hi' (by omega) gk ?_
    simp only [lotV, kLenT, wpSs, wpS, wpH, tset, wpE, wpEs, wpO, wpT, wpIt, lget, lset, bindT, kAdd, kSubI, kMul, kDiv, kMod, kEqI, kNeI, kLt, kLe, kGt, kGe, kIsiII, kIsiIB, kLenS, kSubS, kP6, kP20, kP29, kP12, kP15, kP30, List.map_cons, List.map_nil, List.length_cons, List.length_nil, List.replicate, List.cons_append, List.nil_append, Nat.reduceAdd, Nat.reduceSub, Bool.not_true, Bool.not_false]
    refine kSubL hj' (by omega) gk ?_
    simp only [lotV, kLenT, wpSs, wpS, wpH, tset, wpE, wpEs, wpO, wpT, wpIt, lget, lset, bindT, kAdd, kSubI, kMul, kDiv, kMod, kEqI, kNeI, kLt, kLe, kGt, kGe, kIsiII, kIsiIB, kLenS, kSubS, kP6, kP20, kP29, kP12, kP15, kP30, List.map_cons, List.map_nil, List.length_cons, List.length_nil, List.replicate, List.cons_append, List.nil_append, Nat.reduceAdd, Nat.reduceSub, Bool.not_true, Bool.not_false, beq_self_eq_true]
    simp only [s05__law_tuples_b1_1, wpSs, wpS, wpH, tset, wpE, wpEs, wpO, wpT, wpIt, lget, lset, bindT, kAdd, kSubI, kMul, kDiv, kMod, kEqI, kNeI, kLt, kLe, kGt, kGe, kIsiII, kIsiIB, kLenS, kSubS, kP6, kP20, kP29, kP12, kP15, kP30, List.map_cons, List.map_nil, List.length_cons, List.length_nil, List.replicate, List.cons_append, List.nil_append, Nat.reduceAdd, Nat.reduceSub, Bool.not_true, Bool.not_false]
    refine wpCompT [.int d, .int m, .int c] (fun _ => .bool true) (fun Q q => by simp only [wpSs, wpS, wpH, tset, wpE, wpEs, wpO, wpT, wpIt, lget, lset, bindT, kAdd, kSubI, kMul, kDiv, kMod, kEqI, kNeI, kLt, kLe, kGt, kGe, kIsiII, kIsiIB, kLenS, kSubS, kP6, kP20, kP29, kP12, kP15, kP30, List.map_cons, List.map_nil, List.length_cons, List.length_nil, List.replicate, List.cons_append, List.nil_append, Nat.reduceAdd, Nat.reduceSub, Bool.not_true, Bool.not_false]; exact kSubL hi' (by omega) gk q) ?_ ?_
    · intro v hv Q q
      have : ∃ i, v = .int i := by
        simp only [List.mem_cons, List.not_mem_nil, or_false] at hv
        rcases hv with rfl | rfl | rfl <;> exact ⟨_, rfl⟩
      obtain ⟨i, rfl⟩ := this
      simp only [wpSs, wpS, wpH, tset, wpE, wpEs, wpO, wpT, wpIt, lget, lset, bindT, kAdd, kSubI, kMul, kDiv, kMod, kEqI, kNeI, kLt, kLe, kGt, kGe, kIsiII, kIsiIB, kLenS, kSubS, kP6, kP20, kP29, kP12, kP15, kP30, List.map_cons, List.map_nil, List.length_cons, List.length_nil, List.replicate, List.cons_append, List.nil_append, Nat.reduceAdd, Nat.reduceSub, Bool.not_true, Bool.not_false]
      exact whole05 q
    · refine kAllL (bs := [true, true, true]) (hget_last _ _) ?_
      show kSub _ _ _ _ _
      refine kSubL (hget_left hi' _) (by omega) gk (kSubL (hget_left hj' _) (by omega) gk ⟨true, by simp [lotV, veq, veqs], ?_⟩)
      simp only [wpSs, wpS, wpH, tset, wpE, wpEs, wpO, wpT, wpIt, lget, lset, bindT, kAdd, kSubI, kMul, kDiv, kMod, kEqI, kNeI, kLt, kLe, kGt, kGe, kIsiII, kIsiIB, kLenS, kSubS, kP6, kP20, kP29, kP12, kP15, kP30, List.map_cons, List.map_nil, List.length_cons, List.length_nil, List.replicate, List.cons_append, List.nil_append, Nat.reduceAdd, Nat.reduceSub, Bool.not_true, Bool.not_false]
      refine ⟨_, _, rfl, List.append_assoc ..⟩
  · rintro l2 h2 ⟨e, t, rfl, rfl⟩
    simp only [s05__law_tuples_2, wpSs, wpS, wpH, tset, wpE, wpEs, wpO, wpT, wpIt, lget, lset, bindT, kAdd, kSubI, kMul, kDiv, kMod, kEqI, kNeI, kLt, kLe, kGt, kGe, kIsiII, kIsiIB, kLenS, kSubS, kP6, kP20, kP29, kP12, kP15, kP30, List.map_cons, List.map_nil, List.length_cons, List.length_nil, List.replicate, List.cons_append, List.nil_append, Nat.reduceAdd, Nat.reduceSub, Bool.not_true, Bool.not_false]
    exact q t
theorem wpCompG {G : Gm} {C : Calls} {elt e : CE} {l : Loc} {h : Hp} {Q : V → Hp → Prop} {E : Nat → Hp → Prop} {r : Nat} (lots : List Lot) (g : Lot → V)
    (he : ∀ Q : V → Hp → Prop, Q (.ref r) h → wpE G C e l h Q E) (hr : h[r]? = some (.list (lots.map lotV)))
    (hf : ∀ x ∈ lots, ∀ Q : V → Hp → Prop, Q (g x) h → wpE G C elt (l ++ [some (lotV x)]) h Q E) (q : Q (.ref h.length) (h ++ [.list (lots.map g)])) :
    wpE G C (.comp elt 1 (.val e) none) l h Q E := by
  simp only [wpE, wpIt, wpT]
  refine he _ ⟨_, srcL hr, fun k acc h2 => acc = (lots.take k).map g ∧ h2 = h, ⟨rfl, rfl⟩, ?_, ?_⟩
  · rintro k acc h2 v ⟨rfl, rfl⟩ hv
    obtain ⟨x, hx, rfl⟩ := lotAt hv
    refine ⟨hr, [lotV x], rfl, ?_⟩
    simp only [if_true]
    refine hf x (List.mem_of_getElem? hx) _ ⟨?_, rfl⟩
    rw [take_snoc hx]; simp
  · rintro acc h2 ⟨rfl, rfl⟩
    refine ⟨hr, ?_⟩
    simpa using q
theorem wpCompG3 {G : Gm} {C : Calls} {elt e : CE} {l : Loc} {h : Hp} {Q : V → Hp → Prop} {E : Nat → Hp → Prop} {r : Nat} (lots : List Lot) (g : Lot → V)
    (he : ∀ Q : V → Hp → Prop, Q (.ref r) h → wpE G C e l h Q E) (hr : h[r]? = some (.list (lots.map lotV)))
    (hf : ∀ x ∈ lots, ∀ Q : V → Hp → Prop, Q (g x) h → wpE G C elt (l ++ [some (.int x.1), some (.int x.2.1), some (.int x.2.2)]) h Q E) (q : Q (.ref h.length) (h ++ [.list (lots.map g)])) :
    wpE G C (.comp elt 3 (.val e) none) l h Q E := by
  simp only [wpE, wpIt, wpT]
  refine he _ ⟨_, srcL hr, fun k acc h2 => acc = (lots.take k).map g ∧ h2 = h, ⟨rfl, rfl⟩, ?_, ?_⟩
  · rintro k acc h2 v ⟨rfl, rfl⟩ hv
    obtain ⟨x, hx, rfl⟩ := lotAt hv
    refine ⟨hr, [.int x.1, .int x.2.1, .int x.2.2], rfl, ?_⟩
    simp only [if_true]
    refine hf x (List.mem_of_getElem? hx) _ ⟨?_, rfl⟩
    rw [take_snoc hx]; simp
  · rintro acc h2 ⟨rfl, rfl⟩
    refine ⟨hr, ?_⟩
    simpa using q
noncomputable def wid (N : Int) (x : Lot) : Lot := (x.1, x.2.1 * N, x.2.2)
noncomputable def nar (N : Int) (x : Lot) : Lot := (x.1, x.2.1.fdiv N, x.2.2)
theorem mul30' {a b : Int} (a0 : 0 ≤ a) (a1 : a ≤ 1000000000000000000000000000000) (b0 : 0 ≤ b) (b1 : b ≤ 1000000000000000000000000000000) : IntMulOk a b := mulOk (k := 110) (by decide) (by omega) (by omega)
theorem widened05 {scr : List Int} {n j : Nat} {N : Int} {h : Hp} {Q : V → Hp → Prop} {E : Nat → Hp → Prop} {lots : List Lot} (hN : 1 ≤ N ∧ N ≤ 100000000000000000000000000000) (hj : h[j]? = some (.list (lots.map lotV))) (hok : ∀ x ∈ lots, lotOk x)
    (q : Q (.ref h.length) (h ++ [.list ((lots.map (wid N)).map lotV)])) : C05 scr (n + 1) 44 [.ref j, .int N] h Q E := by
  refine callF_of (fn := f05_widened) rfl rfl ?_
  simp only [f05_widened, s05_widened, wpSs, wpS, wpH, tset, wpE, wpEs, wpO, wpT, wpIt, lget, lset, bindT, kAdd, kSubI, kMul, kDiv, kMod, kEqI, kNeI, kLt, kLe, kGt, kGe, kIsiII, kIsiIB, kLenS, kSubS, kP6, kP20, kP29, kP12, kP15, kP30, List.map_cons, List.map_nil, List.length_cons, List.length_nil, List.replicate, List.cons_append, List.nil_append, Nat.reduceAdd, Nat.reduceSub, Bool.not_true, Bool.not_false]
  refine wpCompG3 lots (fun x => lotV (wid N x)) (fun Q q => by simp only [wpSs, wpS, wpH, tset, wpE, wpEs, wpO, wpT, wpIt, lget, lset, bindT, kAdd, kSubI, kMul, kDiv, kMod, kEqI, kNeI, kLt, kLe, kGt, kGe, kIsiII, kIsiIB, kLenS, kSubS, kP6, kP20, kP29, kP12, kP15, kP30, List.map_cons, List.map_nil, List.length_cons, List.length_nil, List.replicate, List.cons_append, List.nil_append, Nat.reduceAdd, Nat.reduceSub, Bool.not_true, Bool.not_false]; exact q) hj ?_ (by rw [List.map_map] at q; exact q)
  intro x hx Q q
  have o := hok x hx
  simp only [wpSs, wpS, wpH, tset, wpE, wpEs, wpO, wpT, wpIt, lget, lset, bindT, kAdd, kSubI, kMul, kDiv, kMod, kEqI, kNeI, kLt, kLe, kGt, kGe, kIsiII, kIsiIB, kLenS, kSubS, kP6, kP20, kP29, kP12, kP15, kP30, List.map_cons, List.map_nil, List.length_cons, List.length_nil, List.replicate, List.cons_append, List.nil_append, Nat.reduceAdd, Nat.reduceSub, Bool.not_true, Bool.not_false]
  exact ⟨mul30' (Int.le_trans (by decide) o.1) o.2.1 (by omega) (by omega), by decide, q⟩
theorem narrowed05 {scr : List Int} {n j : Nat} {N : Int} {h : Hp} {Q : V → Hp → Prop} {E : Nat → Hp → Prop} {lots : List Lot} (hN : 1 ≤ N) (hj : h[j]? = some (.list (lots.map lotV))) (hl : lots.length ≤ 60)
    (q : (∀ x ∈ lots, x.2.1.fmod N = 0) → Q (.ref h.length) (h ++ [.list ((lots.map (nar N)).map lotV)])) (qe : (∃ x ∈ lots, x.2.1.fmod N ≠ 0) → ∀ t, E 37 (h ++ t)) : C05 scr (n + 1) 51 [.ref j, .int N] h Q E := by
  refine callF_of (fn := f05_narrowed) rfl rfl ?_
  simp only [f05_narrowed, s05_narrowed, wpSs, wpS, wpH, tset, wpE, wpEs, wpO, wpT, wpIt, lget, lset, bindT, kAdd, kSubI, kMul, kDiv, kMod, kEqI, kNeI, kLt, kLe, kGt, kGe, kIsiII, kIsiIB, kLenS, kSubS, kP6, kP20, kP29, kP12, kP15, kP30, List.map_cons, List.map_nil, List.length_cons, List.length_nil, List.replicate, List.cons_append, List.nil_append, Nat.reduceAdd, Nat.reduceSub, Bool.not_true, Bool.not_false]
  refine ⟨by decide, ?_⟩
  simp only [s05_narrowed_1, wpSs]
  refine wpLoopL (lots.map lotV) (h' := h ++ [.list []]) (r := j) (fun Q q => by simp only [wpE, lget]; exact q) (hget_left hj _) (fun k l2 h2 => (∃ x y z, l2 = [some (.ref j), some (.int N), some (.ref h.length), x, y, z]) ∧ h2 = h ++ [.list (((lots.take k).map (nar N)).map lotV)] ∧ ∀ x ∈ lots.take k, x.2.1.fmod N = 0) ⟨⟨_, _, _, rfl⟩, rfl, by simp⟩ ?_ ?_
  · rintro k l2 h2 v hv ⟨⟨x, y, z, rfl⟩, rfl, hd⟩
    obtain ⟨⟨d, m, c⟩, hx, rfl⟩ := lotAt hv
    refine ⟨hget_left hj _, _, rfl, ?_⟩
    have hk := (List.getElem?_eq_some_iff.mp hx).1
    simp only [s05_narrowed_b1, wpSs, wpS, wpH, tset, wpE, wpEs, wpO, wpT, wpIt, lget, lset, bindT, kAdd, kSubI, kMul, kDiv, kMod, kEqI, kNeI, kLt, kLe, kGt, kGe, kIsiII, kIsiIB, kLenS, kSubS, kP6, kP20, kP29, kP12, kP15, kP30, List.map_cons, List.map_nil, List.length_cons, List.length_nil, List.replicate, List.cons_append, List.nil_append, Nat.reduceAdd, Nat.reduceSub, Bool.not_true, Bool.not_false]
    refine ⟨by omega, ?_⟩
    by_cases c1 : m.fmod N = 0
    · simp only [show (m.fmod N == 0) = true by simpa using c1, Bool.not_true]
      simp only [s05_narrowed_b1_1, wpSs, wpS]
      refine wpAppendVar (r := h.length) rfl (hget_last _ _) ?_
      simp only [wpSs, wpS, wpH, tset, wpE, wpEs, wpO, wpT, wpIt, lget, lset, bindT, kAdd, kSubI, kMul, kDiv, kMod, kEqI, kNeI, kLt, kLe, kGt, kGe, kIsiII, kIsiIB, kLenS, kSubS, kP6, kP20, kP29, kP12, kP15, kP30, List.map_cons, List.map_nil, List.length_cons, List.length_nil, List.replicate, List.cons_append, List.nil_append, Nat.reduceAdd, Nat.reduceSub, Bool.not_true, Bool.not_false]
      refine ⟨by omega, by decide, kAppendL (hget_last _ _) ?_ ?_⟩
      · simp; unfold sizeLine; omega
      · rw [hset_last, take_snoc hx]
        refine ⟨⟨_, _, _, rfl⟩, by simp [lotV, nar], fun x hx' => ?_⟩
        rcases List.mem_append.mp hx' with hx' | hx'
        · exact hd x hx'
        · simp at hx'; subst hx'; exact c1
    · simp only [show (m.fmod N == 0) = false by simpa using c1, Bool.not_false]
      exact qe ⟨_, List.mem_of_getElem? hx, c1⟩ _
  · rintro l2 h2 ⟨⟨x, y, z, rfl⟩, rfl, hd⟩
    refine ⟨hget_left hj _, ?_⟩
    simp only [s05_narrowed_2, wpSs, wpS, wpH, tset, wpE, wpEs, wpO, wpT, wpIt, lget, lset, bindT, kAdd, kSubI, kMul, kDiv, kMod, kEqI, kNeI, kLt, kLe, kGt, kGe, kIsiII, kIsiIB, kLenS, kSubS, kP6, kP20, kP29, kP12, kP15, kP30, List.map_cons, List.map_nil, List.length_cons, List.length_nil, List.replicate, List.cons_append, List.nil_append, Nat.reduceAdd, Nat.reduceSub, Bool.not_true, Bool.not_false, List.length_map, List.take_length] at hd ⊢
    exact q hd
theorem refused05 {scr : List Int} {n j : Nat} {N : Int} {lots : List Lot} {h : Hp} {Q : V → Hp → Prop} {E : Nat → Hp → Prop} (hN : 1 ≤ N) (hj : h[j]? = some (.list (lots.map lotV))) (hl : lots.length ≤ 60) (hW : ∃ x ∈ lots, x.2.1.fmod N ≠ 0)
    (q : ∀ t, Q (.bool true) (h ++ t)) : C05 scr (n + 2) 98 [.ref j, .int N] h Q E := by
  refine callF_of (fn := f05__law_refused_by_any) rfl rfl ?_
  simp only [f05__law_refused_by_any, s05__law_refused_by_any, wpSs, wpS, wpH, tset, wpE, wpEs, wpO, wpT, wpIt, lget, lset, bindT, kAdd, kSubI, kMul, kDiv, kMod, kEqI, kNeI, kLt, kLe, kGt, kGe, kIsiII, kIsiIB, kLenS, kSubS, kP6, kP20, kP29, kP12, kP15, kP30, List.map_cons, List.map_nil, List.length_cons, List.length_nil, List.replicate, List.cons_append, List.nil_append, Nat.reduceAdd, Nat.reduceSub, Bool.not_true, Bool.not_false]
  refine narrowed05 (n := n) hN hj hl (fun a => ?_) fun _ t => ?_
  · obtain ⟨x, hx, hne⟩ := hW; exact absurd (a x hx) hne
  have e1 : (gm05 scr).isSub 37 (.own 24) = some true := rfl
  simp only [e1]
  exact ⟨rfl, q t⟩
theorem mapMap (lots : List Lot) (g : Lot → Lot) : lots.map (fun x => lotV (g x)) = (lots.map g).map lotV := by rw [List.map_map]; rfl
theorem kAnyL {G : Gm} {h : Hp} {Q : V → Hp → Prop} {r : Nat} {bs : List Bool} (e : h[r]? = some (.list (bs.map V.bool))) (q : Q (.bool (bs.any id)) h) : kBi G .any [.ref r] h Q := by
  show kRefL (.ref r) h _
  simp only [kRefL, e]; exact ⟨bs, rfl, q⟩
theorem rest05 {scr : List Int} {n r3 : Nat} {N : Int} {h : Hp} {a0 a1 a2 a5 : Option V} {lots : List Lot} (hN : 1 ≤ N ∧ N ≤ 100000000000000000000000000000) (hl : lots.length ≤ 60) (hok : ∀ x ∈ lots, lotOk x) (h3 : h[r3]? = some (.list (lots.map lotV))) :
    wpSs (gm05 scr) (C05 scr (n + 2)) s05_law_8 [a0, a1, a2, some (.ref r3), some (.int N), a5, none, none, none, none, none] h (fun x x_1 => V.none = V.bool true) (fun v x => v = V.bool true) (fun x x_1 x => False) := by
  simp only [s05_law_8, wpSs, wpS, wpH, tset, wpE, wpEs, wpO, wpT, wpIt, lget, lset, bindT, kAdd, kSubI, kMul, kDiv, kMod, kEqI, kNeI, kLt, kLe, kGt, kGe, kIsiII, kIsiIB, kLenS, kSubS, kP6, kP20, kP29, kP12, kP15, kP30, List.map_cons, List.map_nil, List.length_cons, List.length_nil, List.replicate, List.cons_append, List.nil_append, Nat.reduceAdd, Nat.reduceSub, Bool.not_true, Bool.not_false]
  refine kListL h3 ?_
  replace h3 := hget_left h3 [O.list (lots.map lotV)]
  have h6 := hget_last h (O.list (lots.map lotV))
  generalize List.length h = r6 at *
  generalize h ++ [O.list (lots.map lotV)] = h1 at *
  simp only [s05_law_9, wpSs, wpS, wpH, tset, wpE, wpEs, wpO, wpT, wpIt, lget, lset, bindT, kAdd, kSubI, kMul, kDiv, kMod, kEqI, kNeI, kLt, kLe, kGt, kGe, kIsiII, kIsiIB, kLenS, kSubS, kP6, kP20, kP29, kP12, kP15, kP30, List.map_cons, List.map_nil, List.length_cons, List.length_nil, List.replicate, List.cons_append, List.nil_append, Nat.reduceAdd, Nat.reduceSub, Bool.not_true, Bool.not_false]
  refine wpCompG lots (fun x => lotV (wid N x)) (r := r3) (fun Q q => by simp only [wpSs, wpS, wpH, tset, wpE, wpEs, wpO, wpT, wpIt, lget, lset, bindT, kAdd, kSubI, kMul, kDiv, kMod, kEqI, kNeI, kLt, kLe, kGt, kGe, kIsiII, kIsiIB, kLenS, kSubS, kP6, kP20, kP29, kP12, kP15, kP30, List.map_cons, List.map_nil, List.length_cons, List.length_nil, List.replicate, List.cons_append, List.nil_append, Nat.reduceAdd, Nat.reduceSub, Bool.not_true, Bool.not_false]; exact q) h3 ?_ ?_
  · intro x hx Q q
    have o := hok x hx
    simp only [wpSs, wpS, wpH, tset, wpE, wpEs, wpO, wpT, wpIt, lget, lset, bindT, kAdd, kSubI, kMul, kDiv, kMod, kEqI, kNeI, kLt, kLe, kGt, kGe, kIsiII, kIsiIB, kLenS, kSubS, kP6, kP20, kP29, kP12, kP15, kP30, List.map_cons, List.map_nil, List.length_cons, List.length_nil, List.replicate, List.cons_append, List.nil_append, Nat.reduceAdd, Nat.reduceSub, Bool.not_true, Bool.not_false]
    refine kSubT (by decide) (v := .int x.1) rfl (kSubT (by decide) (v := .int x.2.1) rfl ?_)
    simp only [wpSs, wpS, wpH, tset, wpE, wpEs, wpO, wpT, wpIt, lget, lset, bindT, kAdd, kSubI, kMul, kDiv, kMod, kEqI, kNeI, kLt, kLe, kGt, kGe, kIsiII, kIsiIB, kLenS, kSubS, kP6, kP20, kP29, kP12, kP15, kP30, List.map_cons, List.map_nil, List.length_cons, List.length_nil, List.replicate, List.cons_append, List.nil_append, Nat.reduceAdd, Nat.reduceSub, Bool.not_true, Bool.not_false]
    exact ⟨mul30' (Int.le_trans (by decide) o.1) o.2.1 (by omega) (by omega), kSubT (by decide) (v := .int x.2.2) rfl ⟨by decide, q⟩⟩
  rw [mapMap]
  have h7 := hget_last h1 (O.list ((lots.map (wid N)).map lotV))
  replace h3 := hget_left h3 [O.list ((lots.map (wid N)).map lotV)]
  replace h6 := hget_left h6 [O.list ((lots.map (wid N)).map lotV)]
  generalize List.length h1 = r7 at *
  generalize h1 ++ [O.list ((lots.map (wid N)).map lotV)] = h2 at *
  simp only [s05_law_10, wpSs, wpS, wpH, tset, wpE, wpEs, wpO, wpT, wpIt, lget, lset, bindT, kAdd, kSubI, kMul, kDiv, kMod, kEqI, kNeI, kLt, kLe, kGt, kGe, kIsiII, kIsiIB, kLenS, kSubS, kP6, kP20, kP29, kP12, kP15, kP30, List.map_cons, List.map_nil, List.length_cons, List.length_nil, List.replicate, List.cons_append, List.nil_append, Nat.reduceAdd, Nat.reduceSub, Bool.not_true, Bool.not_false]
  refine widened05 (n := n + 1) hN h6 hok ?_
  refine tuples05 (n := n) (hget_last _ _) (hget_left h7 _) (by rw [List.length_map]; omega) ?_
  intro t
  simp only [wpSs, wpS, wpH, tset, wpE, wpEs, wpO, wpT, wpIt, lget, lset, bindT, kAdd, kSubI, kMul, kDiv, kMod, kEqI, kNeI, kLt, kLe, kGt, kGe, kIsiII, kIsiIB, kLenS, kSubS, kP6, kP20, kP29, kP12, kP15, kP30, List.map_cons, List.map_nil, List.length_cons, List.length_nil, List.replicate, List.cons_append, List.nil_append, Nat.reduceAdd, Nat.reduceSub, Bool.not_true, Bool.not_false]
  replace h3 := hget_left (hget_left h3 [O.list ((lots.map (wid N)).map lotV)]) t
  replace h6 := hget_left (hget_left h6 [O.list ((lots.map (wid N)).map lotV)]) t
  generalize h2 ++ [O.list ((lots.map (wid N)).map lotV)] ++ t = h4 at *
  clear h7
  simp only [s05_law_11, wpSs, wpS, wpH, tset, wpE, wpEs, wpO, wpT, wpIt, lget, lset, bindT, kAdd, kSubI, kMul, kDiv, kMod, kEqI, kNeI, kLt, kLe, kGt, kGe, kIsiII, kIsiIB, kLenS, kSubS, kP6, kP20, kP29, kP12, kP15, kP30, List.map_cons, List.map_nil, List.length_cons, List.length_nil, List.replicate, List.cons_append, List.nil_append, Nat.reduceAdd, Nat.reduceSub, Bool.not_true, Bool.not_false]
  simp only [s05_law_12, wpSs, wpS, wpH, tset, wpE, wpEs, wpO, wpT, wpIt, lget, lset, bindT, kAdd, kSubI, kMul, kDiv, kMod, kEqI, kNeI, kLt, kLe, kGt, kGe, kIsiII, kIsiIB, kLenS, kSubS, kP6, kP20, kP29, kP12, kP15, kP30, List.map_cons, List.map_nil, List.length_cons, List.length_nil, List.replicate, List.cons_append, List.nil_append, Nat.reduceAdd, Nat.reduceSub, Bool.not_true, Bool.not_false]
  refine ⟨by decide, ?_⟩
  replace h3 := hget_left h3 [O.list []]
  replace h6 := hget_left h6 [O.list []]
  generalize List.length h4 = r9
  generalize h4 ++ [O.list []] = h5 at *
  simp only [s05_law_13, wpSs, wpS, wpH, tset, wpE, wpEs, wpO, wpT, wpIt, lget, lset, bindT, kAdd, kSubI, kMul, kDiv, kMod, kEqI, kNeI, kLt, kLe, kGt, kGe, kIsiII, kIsiIB, kLenS, kSubS, kP6, kP20, kP29, kP12, kP15, kP30, List.map_cons, List.map_nil, List.length_cons, List.length_nil, List.replicate, List.cons_append, List.nil_append, Nat.reduceAdd, Nat.reduceSub, Bool.not_true, Bool.not_false]
  have anyE : ∀ (h : Hp) (l : Loc) (Q : V → Hp → Prop), lget l 3 = some (.ref r3) → lget l 4 = some (.int N) → l.length = 11 → h[r3]? = some (.list (lots.map lotV)) → (∀ b, (b = true ↔ ∃ x ∈ lots, x.2.1.fmod N ≠ 0) → ∀ t, Q (.bool b) (h ++ t)) → wpE (gm05 scr) (C05 scr (n + 2)) (.bi .any [c05_4]) l h Q (fun x h1 => False) := by
    intro h l Q l3 l4 ll hr q
    simp only [wpE, wpEs]
    refine wpCompG lots (fun x => .bool (decide (x.2.1.fmod N > 0))) (r := r3) (fun Q q => by simp only [wpE, l3]; exact q) hr ?_ ?_
    · intro x hx Q q
      have la : ∀ i, lget l i ≠ none → lget (l ++ [some (lotV x)]) i = lget l i := by
        intro i
        have : ∀ (l : Loc) (i : Nat) (v : Option V), lget l i ≠ none → lget (l ++ [v]) i = lget l i := by
          intro l
          induction l with
          | nil => intro i v h; simp [lget] at h
          | cons a l ih => intro i v h; cases i with
            | zero => rfl
            | succ i => exact ih i v h
        exact this l i _
      have lb : lget (l ++ [some (lotV x)]) 11 = some (lotV x) := by
        have : ∀ (l : Loc) (v : Option V), lget (l ++ [v]) l.length = v := by
          intro l
          induction l with
          | nil => intro v; rfl
          | cons a l ih => intro v; exact ih v
        rw [← ll]; exact this l _
      simp only [wpE, lb, la 4 (by rw [l4]; simp), l4]
      refine kSubT (by decide) (v := .int x.2.1) rfl ?_
      simp only [kMod, kGt]
      exact ⟨by omega, q⟩
    · have e : lots.map (fun x => V.bool (decide (x.2.1.fmod N > 0))) = (lots.map (fun x => decide (x.2.1.fmod N > 0))).map V.bool := by rw [List.map_map]; rfl
      rw [e]
      refine kAnyL (hget_last _ _) (q _ ?_ _)
      simp only [List.any_map, List.any_eq_true, Function.comp, id, decide_eq_true_eq]
      constructor
      · rintro ⟨x, hx, h⟩; exact ⟨x, hx, by omega⟩
      · rintro ⟨x, hx, h⟩
        have := fmod_range x.2.1 (b := N) (by omega)
        exact ⟨x, hx, by omega⟩
  refine narrowed05 (n := n + 1) hN.1 h6 hl (fun hall => ?_) fun hex t => ?_
  · replace h3 := hget_left h3 [O.list ((lots.map (nar N)).map lotV)]
    replace h6 := hget_left h6 [O.list ((lots.map (nar N)).map lotV)]
    have h9 := hget_last h5 (O.list ((lots.map (nar N)).map lotV))
    generalize List.length h5 = r9' at *
    generalize h5 ++ [O.list ((lots.map (nar N)).map lotV)] = h6' at *
    simp only [s05_law_14, wpSs, wpS, wpH, tset, wpE, wpEs, wpO, wpT, wpIt, lget, lset, bindT, kAdd, kSubI, kMul, kDiv, kMod, kEqI, kNeI, kLt, kLe, kGt, kGe, kIsiII, kIsiIB, kLenS, kSubS, kP6, kP20, kP29, kP12, kP15, kP30, List.map_cons, List.map_nil, List.length_cons, List.length_nil, List.replicate, List.cons_append, List.nil_append, Nat.reduceAdd, Nat.reduceSub, Bool.not_true, Bool.not_false]
    refine kNeLots h6 h3 ?_
    simp only [wpSs, wpS, wpH, tset, wpE, wpEs, wpO, wpT, wpIt, lget, lset, bindT, kAdd, kSubI, kMul, kDiv, kMod, kEqI, kNeI, kLt, kLe, kGt, kGe, kIsiII, kIsiIB, kLenS, kSubS, kP6, kP20, kP29, kP12, kP15, kP30, List.map_cons, List.map_nil, List.length_cons, List.length_nil, List.replicate, List.cons_append, List.nil_append, Nat.reduceAdd, Nat.reduceSub, Bool.not_true, Bool.not_false]
    simp only [s05_law_15, wpSs, wpS]
    refine anyE _ _ _ rfl rfl rfl h3 fun b hb t => ?_
    have hbf : b = false := by
      cases b with
      | false => rfl
      | true => obtain ⟨x, hx, hne⟩ := hb.mp rfl; exact absurd (hall x hx) hne
    subst hbf
    simp only [wpSs, wpS, wpH, tset, wpE, wpEs, wpO, wpT, wpIt, lget, lset, bindT, kAdd, kSubI, kMul, kDiv, kMod, kEqI, kNeI, kLt, kLe, kGt, kGe, kIsiII, kIsiIB, kLenS, kSubS, kP6, kP20, kP29, kP12, kP15, kP30, List.map_cons, List.map_nil, List.length_cons, List.length_nil, List.replicate, List.cons_append, List.nil_append, Nat.reduceAdd, Nat.reduceSub, Bool.not_true, Bool.not_false]
    simp only [s05_law_16, wpSs, wpS, wpH, tset, wpE, wpEs, wpO, wpT, wpIt, lget, lset, bindT, kAdd, kSubI, kMul, kDiv, kMod, kEqI, kNeI, kLt, kLe, kGt, kGe, kIsiII, kIsiIB, kLenS, kSubS, kP6, kP20, kP29, kP12, kP15, kP30, List.map_cons, List.map_nil, List.length_cons, List.length_nil, List.replicate, List.cons_append, List.nil_append, Nat.reduceAdd, Nat.reduceSub, Bool.not_true, Bool.not_false]
    refine wpCompG lots (fun x => lotV (nar N x)) (r := r3) (fun Q q => by simp only [wpSs, wpS, wpH, tset, wpE, wpEs, wpO, wpT, wpIt, lget, lset, bindT, kAdd, kSubI, kMul, kDiv, kMod, kEqI, kNeI, kLt, kLe, kGt, kGe, kIsiII, kIsiIB, kLenS, kSubS, kP6, kP20, kP29, kP12, kP15, kP30, List.map_cons, List.map_nil, List.length_cons, List.length_nil, List.replicate, List.cons_append, List.nil_append, Nat.reduceAdd, Nat.reduceSub, Bool.not_true, Bool.not_false]; exact q) (hget_left h3 _) ?_ ?_
    · intro x hx Q q
      simp only [wpSs, wpS, wpH, tset, wpE, wpEs, wpO, wpT, wpIt, lget, lset, bindT, kAdd, kSubI, kMul, kDiv, kMod, kEqI, kNeI, kLt, kLe, kGt, kGe, kIsiII, kIsiIB, kLenS, kSubS, kP6, kP20, kP29, kP12, kP15, kP30, List.map_cons, List.map_nil, List.length_cons, List.length_nil, List.replicate, List.cons_append, List.nil_append, Nat.reduceAdd, Nat.reduceSub, Bool.not_true, Bool.not_false]
      refine kSubT (by decide) (v := .int x.1) rfl (kSubT (by decide) (v := .int x.2.1) rfl ?_)
      simp only [wpSs, wpS, wpH, tset, wpE, wpEs, wpO, wpT, wpIt, lget, lset, bindT, kAdd, kSubI, kMul, kDiv, kMod, kEqI, kNeI, kLt, kLe, kGt, kGe, kIsiII, kIsiIB, kLenS, kSubS, kP6, kP20, kP29, kP12, kP15, kP30, List.map_cons, List.map_nil, List.length_cons, List.length_nil, List.replicate, List.cons_append, List.nil_append, Nat.reduceAdd, Nat.reduceSub, Bool.not_true, Bool.not_false]
      exact ⟨by omega, kSubT (by decide) (v := .int x.2.2) rfl ⟨by decide, q⟩⟩
    rw [mapMap]
    simp only [s05_law_17, wpSs, wpS, wpH, tset, wpE, wpEs, wpO, wpT, wpIt, lget, lset, bindT, kAdd, kSubI, kMul, kDiv, kMod, kEqI, kNeI, kLt, kLe, kGt, kGe, kIsiII, kIsiIB, kLenS, kSubS, kP6, kP20, kP29, kP12, kP15, kP30, List.map_cons, List.map_nil, List.length_cons, List.length_nil, List.replicate, List.cons_append, List.nil_append, Nat.reduceAdd, Nat.reduceSub, Bool.not_true, Bool.not_false]
    exact tuples05 (n := n) (hget_left (hget_left h9 _) _) (hget_last _ _) (by rw [List.length_map]; omega) fun t => rfl
  · have e1 : (gm05 scr).isSub 37 (.own 37) = some true := rfl
    simp only [e1, wpSs, wpS, wpH, tset, wpE, wpEs, wpO, wpT, wpIt, lget, lset, bindT, kAdd, kSubI, kMul, kDiv, kMod, kEqI, kNeI, kLt, kLe, kGt, kGe, kIsiII, kIsiIB, kLenS, kSubS, kP6, kP20, kP29, kP12, kP15, kP30, List.map_cons, List.map_nil, List.length_cons, List.length_nil, List.replicate, List.cons_append, List.nil_append, Nat.reduceAdd, Nat.reduceSub, Bool.not_true, Bool.not_false]
    simp only [s05_law_14, wpSs, wpS, wpH, tset, wpE, wpEs, wpO, wpT, wpIt, lget, lset, bindT, kAdd, kSubI, kMul, kDiv, kMod, kEqI, kNeI, kLt, kLe, kGt, kGe, kIsiII, kIsiIB, kLenS, kSubS, kP6, kP20, kP29, kP12, kP15, kP30, List.map_cons, List.map_nil, List.length_cons, List.length_nil, List.replicate, List.cons_append, List.nil_append, Nat.reduceAdd, Nat.reduceSub, Bool.not_true, Bool.not_false]
    refine kNeLots (hget_left h6 _) (hget_left h3 _) ?_
    simp only [wpSs, wpS, wpH, tset, wpE, wpEs, wpO, wpT, wpIt, lget, lset, bindT, kAdd, kSubI, kMul, kDiv, kMod, kEqI, kNeI, kLt, kLe, kGt, kGe, kIsiII, kIsiIB, kLenS, kSubS, kP6, kP20, kP29, kP12, kP15, kP30, List.map_cons, List.map_nil, List.length_cons, List.length_nil, List.replicate, List.cons_append, List.nil_append, Nat.reduceAdd, Nat.reduceSub, Bool.not_true, Bool.not_false]
    simp only [s05_law_15, wpSs, wpS]
    refine anyE _ _ _ rfl rfl rfl (hget_left h3 _) fun b hb t2 => ?_
    have hbt : b = true := hb.mpr hex
    subst hbt
    simp only [wpSs, wpS, wpH, tset, wpE, wpEs, wpO, wpT, wpIt, lget, lset, bindT, kAdd, kSubI, kMul, kDiv, kMod, kEqI, kNeI, kLt, kLe, kGt, kGe, kIsiII, kIsiIB, kLenS, kSubS, kP6, kP20, kP29, kP12, kP15, kP30, List.map_cons, List.map_nil, List.length_cons, List.length_nil, List.replicate, List.cons_append, List.nil_append, Nat.reduceAdd, Nat.reduceSub, Bool.not_true, Bool.not_false]
    exact refused05 (n := n) hN.1 (hget_left (hget_left h3 _) _) hl hex fun t => rfl
noncomputable def mkL (R N : Int) (x : Lot) : Lot := (x.1, (1 + x.2.1.fmod R) * N, x.2.2)
theorem mkL_ok {R N B : Int} {x : Lot} (hR : 0 < R) (hN : 1 ≤ N) (hB : N ≤ B) (hRB : R * B ≤ 1000000000000000000000000000000) (o : lotOk x) : lotOk (mkL R N x) := by
  have f := fmod_range x.2.1 hR
  have a1 : 1 ≤ 1 + x.2.1.fmod R := by omega
  have a2 : 1 + x.2.1.fmod R ≤ R := by omega
  have p1 : 1 * 1 ≤ (1 + x.2.1.fmod R) * N := Int.mul_le_mul a1 hN (by decide) (by omega)
  have p2 : (1 + x.2.1.fmod R) * N ≤ R * B := Int.mul_le_mul a2 hB (by omega) (by omega)
  rw [Int.mul_one] at p1
  exact ⟨p1, Int.le_trans p2 hRB, o.2.2.1, o.2.2.2⟩
theorem split05 {scr : List Int} {n : Nat} {N R B : Int} {h : Hp} {a0 a1 a2 : Option V} {lots : List Lot} (hN : 1 ≤ N ∧ N ≤ 100000000000000000000000000000) (hR : 0 < R) (hR2 : R ≤ 100000000000000000000) (hB : N ≤ B) (hRB : R * B ≤ 1000000000000000000000000000000) (hl : lots.length ≤ 60) (hok : ∀ x ∈ lots, lotOk x) (h3 : h[2]? = some (.list (lots.map lotV))) :
    wpSs (gm05 scr) (C05 scr (n + 2)) s05_law_c7t_1 [a0, a1, a2, some (.ref 2), some (.int N), some (.int R), none, none, none, none, none] h (fun l1 h1 => wpSs (gm05 scr) (C05 scr (n + 2)) s05_law_8 l1 h1 (fun x x_1 => V.none = V.bool true) (fun v x => v = V.bool true) (fun x x_1 x => False)) (fun v x => v = V.bool true) (fun x x_1 x => False) := by
  simp only [s05_law_c7t_1, wpSs, wpS, wpH, tset, wpE, wpEs, wpO, wpT, wpIt, lget, lset, bindT, kAdd, kSubI, kMul, kDiv, kMod, kEqI, kNeI, kLt, kLe, kGt, kGe, kIsiII, kIsiIB, kLenS, kSubS, kP6, kP20, kP29, kP12, kP15, kP30, List.map_cons, List.map_nil, List.length_cons, List.length_nil, List.replicate, List.cons_append, List.nil_append, Nat.reduceAdd, Nat.reduceSub, Bool.not_true, Bool.not_false]
  refine wpCompG lots (fun x => lotV (mkL R N x)) (r := 2) (fun Q q => by simp only [wpSs, wpS, wpH, tset, wpE, wpEs, wpO, wpT, wpIt, lget, lset, bindT, kAdd, kSubI, kMul, kDiv, kMod, kEqI, kNeI, kLt, kLe, kGt, kGe, kIsiII, kIsiIB, kLenS, kSubS, kP6, kP20, kP29, kP12, kP15, kP30, List.map_cons, List.map_nil, List.length_cons, List.length_nil, List.replicate, List.cons_append, List.nil_append, Nat.reduceAdd, Nat.reduceSub, Bool.not_true, Bool.not_false]; exact q) h3 ?_ ?_
  · intro x hx Q q
    have f := fmod_range x.2.1 hR
    simp only [wpSs, wpS, wpH, tset, wpE, wpEs, wpO, wpT, wpIt, lget, lset, bindT, kAdd, kSubI, kMul, kDiv, kMod, kEqI, kNeI, kLt, kLe, kGt, kGe, kIsiII, kIsiIB, kLenS, kSubS, kP6, kP20, kP29, kP12, kP15, kP30, List.map_cons, List.map_nil, List.length_cons, List.length_nil, List.replicate, List.cons_append, List.nil_append, Nat.reduceAdd, Nat.reduceSub, Bool.not_true, Bool.not_false]
    refine kSubT (by decide) (v := .int x.1) rfl (kSubT (by decide) (v := .int x.2.1) rfl ?_)
    simp only [wpSs, wpS, wpH, tset, wpE, wpEs, wpO, wpT, wpIt, lget, lset, bindT, kAdd, kSubI, kMul, kDiv, kMod, kEqI, kNeI, kLt, kLe, kGt, kGe, kIsiII, kIsiIB, kLenS, kSubS, kP6, kP20, kP29, kP12, kP15, kP30, List.map_cons, List.map_nil, List.length_cons, List.length_nil, List.replicate, List.cons_append, List.nil_append, Nat.reduceAdd, Nat.reduceSub, Bool.not_true, Bool.not_false]
    exact ⟨by omega, mul30' (by omega) (by omega) (by omega) (by omega), kSubT (by decide) (v := .int x.2.2) rfl ⟨by decide, q⟩⟩
  rw [mapMap]
  exact rest05 hN (by rw [List.length_map]; exact hl) (fun x hx => by obtain ⟨y, hy, rfl⟩ := List.mem_map.mp hx; exact mkL_ok hR hN.1 hB hRB (hok y hy)) (hget_last _ _)
theorem seven05 {scr : List Int} {n : Nat} {N f0 f1 f2 f3 : Int} {h : Hp} {a0 a2 : Option V} {lots : List Lot} (hN : 1 ≤ N ∧ N ≤ 100000000000000000000000000000) (hN2 : f2 ≠ 2 → N ≤ 1000000) (hl : lots.length ≤ 60) (hok : ∀ x ∈ lots, lotOk x) (e1 : h[1]? = some (.list [.int f0, .int f1, .int f2, .int f3])) (h3 : h[2]? = some (.list (lots.map lotV))) :
    wpSs (gm05 scr) (C05 scr (n + 2)) s05_law_7 [a0, some (.ref 1), a2, some (.ref 2), some (.int N), none, none, none, none, none, none] h (fun x x_1 => V.none = V.bool true) (fun v x => v = V.bool true) (fun x x_1 x => False) := by
  simp only [s05_law_7, wpSs, wpS, wpH, tset, wpE, wpEs, wpO, wpT, wpIt, lget, lset, bindT, kAdd, kSubI, kMul, kDiv, kMod, kEqI, kNeI, kLt, kLe, kGt, kGe, kIsiII, kIsiIB, kLenS, kSubS, kP6, kP20, kP29, kP12, kP15, kP30, List.map_cons, List.map_nil, List.length_cons, List.length_nil, List.replicate, List.cons_append, List.nil_append, Nat.reduceAdd, Nat.reduceSub, Bool.not_true, Bool.not_false]
  refine kSubL e1 (by decide) (v := .int f1) rfl ?_
  simp only [wpSs, wpS, wpH, tset, wpE, wpEs, wpO, wpT, wpIt, lget, lset, bindT, kAdd, kSubI, kMul, kDiv, kMod, kEqI, kNeI, kLt, kLe, kGt, kGe, kIsiII, kIsiIB, kLenS, kSubS, kP6, kP20, kP29, kP12, kP15, kP30, List.map_cons, List.map_nil, List.length_cons, List.length_nil, List.replicate, List.cons_append, List.nil_append, Nat.reduceAdd, Nat.reduceSub, Bool.not_true, Bool.not_false]
  by_cases d : f1 = 1
  · simp only [show (f1 == 1) = true by simpa using d]
    simp only [s05_law_c7t, wpSs, wpS, wpH, tset, wpE, wpEs, wpO, wpT, wpIt, lget, lset, bindT, kAdd, kSubI, kMul, kDiv, kMod, kEqI, kNeI, kLt, kLe, kGt, kGe, kIsiII, kIsiIB, kLenS, kSubS, kP6, kP20, kP29, kP12, kP15, kP30, List.map_cons, List.map_nil, List.length_cons, List.length_nil, List.replicate, List.cons_append, List.nil_append, Nat.reduceAdd, Nat.reduceSub, Bool.not_true, Bool.not_false]
    refine ⟨by decide, kSubL (hget_left e1 _) (by decide) (v := .int f2) rfl ?_⟩
    simp only [wpSs, wpS, wpH, tset, wpE, wpEs, wpO, wpT, wpIt, lget, lset, bindT, kAdd, kSubI, kMul, kDiv, kMod, kEqI, kNeI, kLt, kLe, kGt, kGe, kIsiII, kIsiIB, kLenS, kSubS, kP6, kP20, kP29, kP12, kP15, kP30, List.map_cons, List.map_nil, List.length_cons, List.length_nil, List.replicate, List.cons_append, List.nil_append, Nat.reduceAdd, Nat.reduceSub, Bool.not_true, Bool.not_false]
    have kInt : ∀ (b : Bool) (h : Hp) (Q : V → Hp → Prop), Q (.int (if b = true then 1 else 0)) h → kBi (gm05 scr) .int [.bool b] h Q := fun _ _ _ q => q
    refine kInt _ _ _ ?_
    by_cases c2 : f2 = 2
    · rw [if_pos (by simpa using c2)]
      refine kSubL (hget_last _ _) (by decide) (v := .int 9) rfl ?_
      exact split05 (B := 100000000000000000000000000000) hN (by decide) (by decide) hN.2 (by decide) hl hok (hget_left h3 _)
    · rw [if_neg (by simpa using c2)]
      refine kSubL (hget_last _ _) (by decide) (v := .int 100000000000000000000) rfl ?_
      exact split05 (B := 1000000) hN (by decide) (by decide) (hN2 c2) (by decide) hl hok (hget_left h3 _)
  · simp only [show (f1 == 1) = false by simpa using d]
    exact rest05 hN hl hok h3
set_option maxRecDepth 10000 in
theorem law05 (scr : List Int) (hlen : scr.length ≤ 63) (hb : ∀ n ∈ scr, Builtin.Int.intBits n ≤ 2 ^ 20) : callF (fnsOf tab05) (gm05 scr) 8 103 [.scr] [] (fun v _ => v = .bool true) (fun _ _ => False) := by
  refine callF_of (fn := f05_law) rfl rfl ?_
  simp only [f05_law, s05_law, wpSs, wpS, wpH, tset, wpE, wpEs, wpO, wpT, wpIt, lget, lset, bindT, kAdd, kSubI, kMul, kDiv, kMod, kEqI, kNeI, kLt, kLe, kGt, kGe, kIsiII, kIsiIB, kLenS, kSubS, kP6, kP20, kP29, kP12, kP15, kP30, List.map_cons, List.map_nil, List.length_cons, List.length_nil, List.replicate, List.cons_append, List.nil_append, Nat.reduceAdd, Nat.reduceSub, Bool.not_true, Bool.not_false]
  refine cellAt_spec (n := 6) rfl (by decide) ?_
  refine ⟨by decide, ?_⟩
  generalize cellAt (gm05 scr).scr 0 = c0
  refine drawn_spec (n := 6) rfl (ss := [7, 2, 4, 8]) rfl (by simp) (by decide) ?_
  have r0 := fmod_range c0 (b := 7) (by decide)
  simp only [drawn, s05_law_1, wpSs, wpS, wpH, tset, wpE, wpEs, wpO, wpT, wpIt, lget, lset, bindT, kAdd, kSubI, kMul, kDiv, kMod, kEqI, kNeI, kLt, kLe, kGt, kGe, kIsiII, kIsiIB, kLenS, kSubS, kP6, kP20, kP29, kP12, kP15, kP30, List.map_cons, List.map_nil, List.length_cons, List.length_nil, List.replicate, List.cons_append, List.nil_append, Nat.reduceAdd, Nat.reduceSub, Bool.not_true, Bool.not_false]
  generalize c0.fmod 7 = f0 at *
  generalize (c0.fdiv 7).fmod 2 = f1 at *
  generalize ((c0.fdiv 7).fdiv 2).fmod 4 = f2 at *
  generalize (((c0.fdiv 7).fdiv 2).fdiv 4).fmod 8 = f3 at *
  refine kSubL (vs := [.int f0, .int f1, .int f2, .int f3]) rfl (by decide) (v := .int f0) rfl ?_
  simp only [s05_law_2, wpSs, wpS, wpH, tset, wpE, wpEs, wpO, wpT, wpIt, lget, lset, bindT, kAdd, kSubI, kMul, kDiv, kMod, kEqI, kNeI, kLt, kLe, kGt, kGe, kIsiII, kIsiIB, kLenS, kSubS, kP6, kP20, kP29, kP12, kP15, kP30, List.map_cons, List.map_nil, List.length_cons, List.length_nil, List.replicate, List.cons_append, List.nil_append, Nat.reduceAdd, Nat.reduceSub, Bool.not_true, Bool.not_false]
  refine kSubL (vs := [.int f0, .int f1, .int f2, .int f3]) rfl (by decide) (v := .int f3) rfl ?_
  have key : ∀ m : Nat, m ≤ 60 → wpSs (gm05 scr) (C05 scr 7) s05_law_3 [some .scr, some (.ref 1), some (.int m), none, none, none, none, none, none, none, none]
     [.list [.int 7, .int 2, .int 4, .int 8], .list [.int f0, .int f1, .int f2, .int f3]] (fun x x_1 => V.none = V.bool true) (fun v x => v = V.bool true) (fun x x_1 x => False) := by
    intro m hm2
    simp only [s05_law_3, wpSs, wpS, wpH, tset, wpE, wpEs, wpO, wpT, wpIt, lget, lset, bindT, kAdd, kSubI, kMul, kDiv, kMod, kEqI, kNeI, kLt, kLe, kGt, kGe, kIsiII, kIsiIB, kLenS, kSubS, kP6, kP20, kP29, kP12, kP15, kP30, List.map_cons, List.map_nil, List.length_cons, List.length_nil, List.replicate, List.cons_append, List.nil_append, Nat.reduceAdd, Nat.reduceSub, Bool.not_true, Bool.not_false]
    refine lots05 (n := 5) hb hm2 ?_
    intro lots t hl hok
    have e3 : ([O.list [.int 7, .int 2, .int 4, .int 8], .list [.int f0, .int f1, .int f2, .int f3]] ++ O.list (lots.map lotV) :: t)[2]? = some (.list (lots.map lotV)) := rfl
    have e1 : ([O.list [.int 7, .int 2, .int 4, .int 8], .list [.int f0, .int f1, .int f2, .int f3]] ++ O.list (lots.map lotV) :: t)[1]? = some (.list [.int f0, .int f1, .int f2, .int f3]) := rfl
    show wpSs _ _ _ [some .scr, some (.ref 1), some (.int m), some (.ref 2), none, none, none, none, none, none, none] _ _ _ _
    generalize [O.list [.int 7, .int 2, .int 4, .int 8], .list [.int f0, .int f1, .int f2, .int f3]] ++ O.list (lots.map lotV) :: t = h at *
    have hl' : lots.length ≤ 60 := by omega
    have cb := cell_bits hb 1
    simp only [s05_law_4, wpSs, wpS, wpH, tset, wpE, wpEs, wpO, wpT, wpIt, lget, lset, bindT, kAdd, kSubI, kMul, kDiv, kMod, kEqI, kNeI, kLt, kLe, kGt, kGe, kIsiII, kIsiIB, kLenS, kSubS, kP6, kP20, kP29, kP12, kP15, kP30, List.map_cons, List.map_nil, List.length_cons, List.length_nil, List.replicate, List.cons_append, List.nil_append, Nat.reduceAdd, Nat.reduceSub, Bool.not_true, Bool.not_false]
    refine cellAt_spec (n := 6) rfl (by decide) ?_
    have d1 := fmod_range (cellAt (gm05 scr).scr 1) (b := 12) (by decide)
    simp only [wpSs, wpS, wpH, tset, wpE, wpEs, wpO, wpT, wpIt, lget, lset, bindT, kAdd, kSubI, kMul, kDiv, kMod, kEqI, kNeI, kLt, kLe, kGt, kGe, kIsiII, kIsiIB, kLenS, kSubS, kP6, kP20, kP29, kP12, kP15, kP30, List.map_cons, List.map_nil, List.length_cons, List.length_nil, List.replicate, List.cons_append, List.nil_append, Nat.reduceAdd, Nat.reduceSub, Bool.not_true, Bool.not_false]
    refine ⟨by decide, ?_⟩
    generalize (cellAt (gm05 scr).scr 1).fmod 12 = x1 at *
    have six : ∀ N : Int, 1 ≤ N → N ≤ 1000000 → wpSs (gm05 scr) (C05 scr 7) s05_law_6 [some .scr, some (.ref 1), some (.int m), some (.ref 2), some (.int N), none, none, none, none, none, none] h (fun x x_1 => V.none = V.bool true) (fun v x => v = V.bool true) (fun x x_1 x => False) := by
      intro N n1 n2
      simp only [s05_law_6, wpSs, wpS, wpH, tset, wpE, wpEs, wpO, wpT, wpIt, lget, lset, bindT, kAdd, kSubI, kMul, kDiv, kMod, kEqI, kNeI, kLt, kLe, kGt, kGe, kIsiII, kIsiIB, kLenS, kSubS, kP6, kP20, kP29, kP12, kP15, kP30, List.map_cons, List.map_nil, List.length_cons, List.length_nil, List.replicate, List.cons_append, List.nil_append, Nat.reduceAdd, Nat.reduceSub, Bool.not_true, Bool.not_false]
      refine kSubL e1 (by decide) (v := .int f2) rfl ?_
      simp only [wpSs, wpS, wpH, tset, wpE, wpEs, wpO, wpT, wpIt, lget, lset, bindT, kAdd, kSubI, kMul, kDiv, kMod, kEqI, kNeI, kLt, kLe, kGt, kGe, kIsiII, kIsiIB, kLenS, kSubS, kP6, kP20, kP29, kP12, kP15, kP30, List.map_cons, List.map_nil, List.length_cons, List.length_nil, List.replicate, List.cons_append, List.nil_append, Nat.reduceAdd, Nat.reduceSub, Bool.not_true, Bool.not_false]
      by_cases d : f2 = 2
      · simp only [show (f2 == 2) = true by simpa using d]
        refine cellAt_spec (n := 6) rfl (by decide) ?_
        simp only [kQ69621_7, wpSs, wpS, wpH, tset, wpE, wpEs, wpO, wpT, wpIt, lget, lset, bindT, kAdd, kSubI, kMul, kDiv, kMod, kEqI, kNeI, kLt, kLe, kGt, kGe, kIsiII, kIsiIB, kLenS, kSubS, kP6, kP20, kP29, kP12, kP15, kP30, List.map_cons, List.map_nil, List.length_cons, List.length_nil, List.replicate, List.cons_append, List.nil_append, Nat.reduceAdd, Nat.reduceSub, Bool.not_true, Bool.not_false]
        refine ⟨mulOk_bits (by decide) (by decide) cb (show (7928331467292760530673834318599741 : Int).natAbs < 2 ^ 200 by decide), by decide, ?_⟩
        have d2 := fmod_range (cellAt (gm05 scr).scr 1 * 7928331467292760530673834318599741) (b := 100000000000000000000000000000) (by decide)
        generalize (cellAt (gm05 scr).scr 1 * 7928331467292760530673834318599741).fmod 100000000000000000000000000000 = x2 at *
        exact seven05 (n := 5) ⟨by omega, by omega⟩ (fun q => absurd d q) hl' hok e1 e3
      · simp only [show (f2 == 2) = false by simpa using d]
        exact seven05 (n := 5) ⟨n1, by omega⟩ (fun _ => n2) hl' hok e1 e3
    simp only [s05_law_5, wpSs, wpS, wpH, tset, wpE, wpEs, wpO, wpT, wpIt, lget, lset, bindT, kAdd, kSubI, kMul, kDiv, kMod, kEqI, kNeI, kLt, kLe, kGt, kGe, kIsiII, kIsiIB, kLenS, kSubS, kP6, kP20, kP29, kP12, kP15, kP30, List.map_cons, List.map_nil, List.length_cons, List.length_nil, List.replicate, List.cons_append, List.nil_append, Nat.reduceAdd, Nat.reduceSub, Bool.not_true, Bool.not_false]
    refine kSubL e1 (by decide) (v := .int f2) rfl ?_
    simp only [wpSs, wpS, wpH, tset, wpE, wpEs, wpO, wpT, wpIt, lget, lset, bindT, kAdd, kSubI, kMul, kDiv, kMod, kEqI, kNeI, kLt, kLe, kGt, kGe, kIsiII, kIsiIB, kLenS, kSubS, kP6, kP20, kP29, kP12, kP15, kP30, List.map_cons, List.map_nil, List.length_cons, List.length_nil, List.replicate, List.cons_append, List.nil_append, Nat.reduceAdd, Nat.reduceSub, Bool.not_true, Bool.not_false]
    by_cases d : f2 = 1
    · simp only [show (f2 == 1) = true by simpa using d]
      refine cellAt_spec (n := 6) rfl (by decide) ?_
      simp only [wpSs, wpS, wpH, tset, wpE, wpEs, wpO, wpT, wpIt, lget, lset, bindT, kAdd, kSubI, kMul, kDiv, kMod, kEqI, kNeI, kLt, kLe, kGt, kGe, kIsiII, kIsiIB, kLenS, kSubS, kP6, kP20, kP29, kP12, kP15, kP30, List.map_cons, List.map_nil, List.length_cons, List.length_nil, List.replicate, List.cons_append, List.nil_append, Nat.reduceAdd, Nat.reduceSub, Bool.not_true, Bool.not_false]
      have d2 := fmod_range (cellAt (gm05 scr).scr 1) (b := 1000000) (by decide)
      refine ⟨by decide, ?_⟩
      generalize (cellAt (gm05 scr).scr 1).fmod 1000000 = x2 at *
      exact six _ (by omega) (by omega)
    · simp only [show (f2 == 1) = false by simpa using d]
      exact six _ (by omega) (by omega)
  simp only [wpSs, wpS, wpH, tset, wpE, wpEs, wpO, wpT, wpIt, lget, lset, bindT, kAdd, kSubI, kMul, kDiv, kMod, kEqI, kNeI, kLt, kLe, kGt, kGe, kIsiII, kIsiIB, kLenS, kSubS, kP6, kP20, kP29, kP12, kP15, kP30, List.map_cons, List.map_nil, List.length_cons, List.length_nil, List.replicate, List.cons_append, List.nil_append, Nat.reduceAdd, Nat.reduceSub, Bool.not_true, Bool.not_false]
  by_cases d : f3 = 1
  · simp only [show (f3 == 1) = true by simpa using d]; exact key 60 (by decide)
  · have e : (f3 == 1) = false := by simpa using d
    simp only [e]
    have := key f0.toNat (by omega)
    rwa [show ((f0.toNat : Nat) : Int) = f0 by omega] at this

end Mine

end

section
open PySem PySem.W PyProof.Rows
set_option Elab.async false
set_option maxRecDepth 100000 in
set_option maxHeartbeats 8000000 in
open_top X05 for PySem.Challenge.rw_uf050022_05
namespace Mine
noncomputable abbrev KK := X05.heap_39

noncomputable def wd05 (w : World) (B : Heap) (sa : Addr) (scr : List Int) (K : PySem.W.Frag) : Wd := ⟨PySem.Challenge.rw_uf050022_05.row.prog, w, B, sa, 0, gm05 scr, K, glob05, []⟩

set_option maxRecDepth 100000 in
theorem chk05_widened (P : Params) : FnChk (KK P) glob05 44 [Str.ofString "lots", Str.ofString "number"] f05_widened where
  obj := by kernel_rfl
  data := by kernel_rfl
  co := by kernel_rfl
  gen := by kernel_rfl
  body := by kernel_rfl
  code := by kernel_rfl
  cobj := by kernel_rfl
  cdata := by kernel_rfl
  cqual := by kernel_rfl
  glb := by kernel_rfl
  clo := by kernel_rfl
  blt := by kernel_rfl
  scope := by kernel_rfl
  cmp := by kernel_rfl
  par := by kernel_rfl
  loc := by kernel_rfl
  bind := len_two (P := fun vs => bindArgs (fdAt (KK P) 44) ⟨vs, []⟩ = pure (List.zip [Str.ofString "lots", Str.ofString "number"] vs)) (fun v0 v1 => by kernel_rfl)
set_option maxRecDepth 100000 in
theorem chk05_narrowed (P : Params) : FnChk (KK P) glob05 51 [Str.ofString "lots", Str.ofString "number"] f05_narrowed where
  obj := by kernel_rfl
  data := by kernel_rfl
  co := by kernel_rfl
  gen := by kernel_rfl
  body := by kernel_rfl
  code := by kernel_rfl
  cobj := by kernel_rfl
  cdata := by kernel_rfl
  cqual := by kernel_rfl
  glb := by kernel_rfl
  clo := by kernel_rfl
  blt := by kernel_rfl
  scope := by kernel_rfl
  cmp := by kernel_rfl
  par := by kernel_rfl
  loc := by kernel_rfl
  bind := len_two (P := fun vs => bindArgs (fdAt (KK P) 51) ⟨vs, []⟩ = pure (List.zip [Str.ofString "lots", Str.ofString "number"] vs)) (fun v0 v1 => by kernel_rfl)
set_option maxRecDepth 100000 in
theorem chk05__law_whole (P : Params) : FnChk (KK P) glob05 58 [Str.ofString "_law_found"] f05__law_whole where
  obj := by kernel_rfl
  data := by kernel_rfl
  co := by kernel_rfl
  gen := by kernel_rfl
  body := by kernel_rfl
  code := by kernel_rfl
  cobj := by kernel_rfl
  cdata := by kernel_rfl
  cqual := by kernel_rfl
  glb := by kernel_rfl
  clo := by kernel_rfl
  blt := by kernel_rfl
  scope := by kernel_rfl
  cmp := by kernel_rfl
  par := by kernel_rfl
  loc := by kernel_rfl
  bind := len_one (P := fun vs => bindArgs (fdAt (KK P) 58) ⟨vs, []⟩ = pure (List.zip [Str.ofString "_law_found"] vs)) (fun v0 => by kernel_rfl)
set_option maxRecDepth 100000 in
theorem chk05__law_cell_at (P : Params) : FnChk (KK P) glob05 65 [Str.ofString "_law_script", Str.ofString "_law_k"] f05__law_cell_at where
  obj := by kernel_rfl
  data := by kernel_rfl
  co := by kernel_rfl
  gen := by kernel_rfl
  body := by kernel_rfl
  code := by kernel_rfl
  cobj := by kernel_rfl
  cdata := by kernel_rfl
  cqual := by kernel_rfl
  glb := by kernel_rfl
  clo := by kernel_rfl
  blt := by kernel_rfl
  scope := by kernel_rfl
  cmp := by kernel_rfl
  par := by kernel_rfl
  loc := by kernel_rfl
  bind := len_two (P := fun vs => bindArgs (fdAt (KK P) 65) ⟨vs, []⟩ = pure (List.zip [Str.ofString "_law_script", Str.ofString "_law_k"] vs)) (fun v0 v1 => by kernel_rfl)
set_option maxRecDepth 100000 in
theorem chk05__law_drawn (P : Params) : FnChk (KK P) glob05 72 [Str.ofString "_law_cell", Str.ofString "_law_sizes"] f05__law_drawn where
  obj := by kernel_rfl
  data := by kernel_rfl
  co := by kernel_rfl
  gen := by kernel_rfl
  body := by kernel_rfl
  code := by kernel_rfl
  cobj := by kernel_rfl
  cdata := by kernel_rfl
  cqual := by kernel_rfl
  glb := by kernel_rfl
  clo := by kernel_rfl
  blt := by kernel_rfl
  scope := by kernel_rfl
  cmp := by kernel_rfl
  par := by kernel_rfl
  loc := by kernel_rfl
  bind := len_two (P := fun vs => bindArgs (fdAt (KK P) 72) ⟨vs, []⟩ = pure (List.zip [Str.ofString "_law_cell", Str.ofString "_law_sizes"] vs)) (fun v0 v1 => by kernel_rfl)
set_option maxRecDepth 100000 in
theorem chk05__law_mixed (P : Params) : FnChk (KK P) glob05 79 [Str.ofString "_law_cell", Str.ofString "_law_place"] f05__law_mixed where
  obj := by kernel_rfl
  data := by kernel_rfl
  co := by kernel_rfl
  gen := by kernel_rfl
  body := by kernel_rfl
  code := by kernel_rfl
  cobj := by kernel_rfl
  cdata := by kernel_rfl
  cqual := by kernel_rfl
  glb := by kernel_rfl
  clo := by kernel_rfl
  blt := by kernel_rfl
  scope := by kernel_rfl
  cmp := by kernel_rfl
  par := by kernel_rfl
  loc := by kernel_rfl
  bind := len_two (P := fun vs => bindArgs (fdAt (KK P) 79) ⟨vs, []⟩ = pure (List.zip [Str.ofString "_law_cell", Str.ofString "_law_place"] vs)) (fun v0 v1 => by kernel_rfl)
set_option maxRecDepth 100000 in
theorem chk05__law_lots (P : Params) : FnChk (KK P) glob05 86 [Str.ofString "_law_script", Str.ofString "_law_many"] f05__law_lots where
  obj := by kernel_rfl
  data := by kernel_rfl
  co := by kernel_rfl
  gen := by kernel_rfl
  body := by kernel_rfl
  code := by kernel_rfl
  cobj := by kernel_rfl
  cdata := by kernel_rfl
  cqual := by kernel_rfl
  glb := by kernel_rfl
  clo := by kernel_rfl
  blt := by kernel_rfl
  scope := by kernel_rfl
  cmp := by kernel_rfl
  par := by kernel_rfl
  loc := by kernel_rfl
  bind := len_two (P := fun vs => bindArgs (fdAt (KK P) 86) ⟨vs, []⟩ = pure (List.zip [Str.ofString "_law_script", Str.ofString "_law_many"] vs)) (fun v0 v1 => by kernel_rfl)
set_option maxRecDepth 100000 in
theorem chk05__law_tuples (P : Params) : FnChk (KK P) glob05 91 [Str.ofString "_law_found", Str.ofString "_law_due"] f05__law_tuples where
  obj := by kernel_rfl
  data := by kernel_rfl
  co := by kernel_rfl
  gen := by kernel_rfl
  body := by kernel_rfl
  code := by kernel_rfl
  cobj := by kernel_rfl
  cdata := by kernel_rfl
  cqual := by kernel_rfl
  glb := by kernel_rfl
  clo := by kernel_rfl
  blt := by kernel_rfl
  scope := by kernel_rfl
  cmp := by kernel_rfl
  par := by kernel_rfl
  loc := by kernel_rfl
  bind := len_two (P := fun vs => bindArgs (fdAt (KK P) 91) ⟨vs, []⟩ = pure (List.zip [Str.ofString "_law_found", Str.ofString "_law_due"] vs)) (fun v0 v1 => by kernel_rfl)
set_option maxRecDepth 100000 in
theorem chk05__law_refused_by_any (P : Params) : FnChk (KK P) glob05 98 [Str.ofString "_law_lots_here", Str.ofString "_law_number"] f05__law_refused_by_any where
  obj := by kernel_rfl
  data := by kernel_rfl
  co := by kernel_rfl
  gen := by kernel_rfl
  body := by kernel_rfl
  code := by kernel_rfl
  cobj := by kernel_rfl
  cdata := by kernel_rfl
  cqual := by kernel_rfl
  glb := by kernel_rfl
  clo := by kernel_rfl
  blt := by kernel_rfl
  scope := by kernel_rfl
  cmp := by kernel_rfl
  par := by kernel_rfl
  loc := by kernel_rfl
  bind := len_two (P := fun vs => bindArgs (fdAt (KK P) 98) ⟨vs, []⟩ = pure (List.zip [Str.ofString "_law_lots_here", Str.ofString "_law_number"] vs)) (fun v0 v1 => by kernel_rfl)
set_option maxRecDepth 100000 in
theorem chk05_law (P : Params) : FnChk (KK P) glob05 103 [Str.ofString "_law_script"] f05_law where
  obj := by kernel_rfl
  data := by kernel_rfl
  co := by kernel_rfl
  gen := by kernel_rfl
  body := by kernel_rfl
  code := by kernel_rfl
  cobj := by kernel_rfl
  cdata := by kernel_rfl
  cqual := by kernel_rfl
  glb := by kernel_rfl
  clo := by kernel_rfl
  blt := by kernel_rfl
  scope := by kernel_rfl
  cmp := by kernel_rfl
  par := by kernel_rfl
  loc := by kernel_rfl
  bind := len_one (P := fun vs => bindArgs (fdAt (KK P) 103) ⟨vs, []⟩ = pure (List.zip [Str.ofString "_law_script"] vs)) (fun v0 => by kernel_rfl)

set_option maxRecDepth 100000 in
theorem wdok05 {w : World} {s₁ : Shared} {sa : Addr} {scr : List Int} {vals : List Value} {p : Program} {l : List Str} {me : ExcName → Option Value} {mg mb : Str → Option Value} (T : Top p l me mg mb s₁.heap) (hi : importsNone p = true)
    (KX : (KK w.params).In s₁.heap) (hL : s₁.heap.IsList sa vals.toArray) (hI : IntsAre vals scr) (hlen : scr.length ≤ 63) : WdOk (wd05 w s₁.heap sa scr (KK w.params)) where
  nolim := T.nolimit
  noseer := T.seer hi
  tree := by kernel_rfl
  script := ⟨vals, hL, hI⟩
  scrLen := hlen
  sysmod := by obtain ⟨mm, ⟨o, _, _, e, _⟩, _⟩ := (T.seer hi).mods; exact ⟨o, e⟩
  kin := KX
  excOk := exc_cons ⟨_, _, _, _, mg, PySem.W.own_of_in KX (PySem.W.topRead_of T) (by kernel_rfl) (by kernel_rfl), PySem.F.excBase_ValueError⟩ (exc_cons ⟨_, _, _, _, mg, PySem.W.own_of_in KX (PySem.W.topRead_of T) (by kernel_rfl) (by kernel_rfl), PySem.F.excBase_ValueError⟩ (exc_skip (fun X q => by cases q) (exc_skip (fun X q => by cases q) (exc_skip (fun X q => by cases q) (exc_skip (fun X q => by cases q) (exc_skip (fun X q => by cases q) (exc_skip (fun X q => by cases q) (exc_skip (fun X q => by cases q) (exc_skip (fun X q => by cases q) (exc_skip (fun X q => by cases q) (exc_skip (fun X q => by cases q) (exc_skip (fun X q => by cases q) (exc_skip (fun X q => by cases q) (exc_skip (fun X q => by cases q) (exc_skip (fun X q => by cases q) (exc_skip (fun X q => by cases q) (exc_skip (fun X q => by cases q) (exc_skip (fun X q => by cases q) (exc_skip (fun X q => by cases q) (exc_skip (fun X q => by cases q) (exc_nil)))))))))))))))))))))
  subOk := sub_cons ⟨(fun D q => by cases q; exact ⟨by kernel_rfl, by kernel_rfl, by kernel_rfl, by kernel_rfl⟩), by kernel_rfl⟩ (sub_cons ⟨(fun D q => by cases q; exact ⟨by kernel_rfl, by kernel_rfl, by kernel_rfl, by kernel_rfl⟩), by kernel_rfl⟩ (sub_cons ⟨(fun D q => by cases q), by kernel_rfl⟩ (sub_nil)))
  globs := ⟨mg, mb, T.g, T.b, T.builtins⟩
  globOk := glob_cons (show PySem.W.nsIn (KK w.params) mainGlobals _ = some (some (.ref _)) by kernel_rfl) (glob_cons (show PySem.W.nsIn (KK w.params) mainGlobals _ = some (some (.ref _)) by kernel_rfl) (glob_cons ⟨by kernel_rfl, by kernel_rfl⟩ (glob_cons ⟨by kernel_rfl, by kernel_rfl⟩ (glob_cons ⟨by kernel_rfl, by kernel_rfl⟩ (glob_cons ⟨by kernel_rfl, by kernel_rfl⟩ (glob_cons ⟨by kernel_rfl, by kernel_rfl⟩ (glob_cons ⟨by kernel_rfl, by kernel_rfl⟩ (glob_cons ⟨by kernel_rfl, by kernel_rfl⟩ (glob_cons ⟨by kernel_rfl, by kernel_rfl⟩ (glob_cons ⟨by kernel_rfl, by kernel_rfl⟩ (glob_cons ⟨by kernel_rfl, by kernel_rfl, by decide +kernel⟩ (glob_cons ⟨by kernel_rfl, by kernel_rfl, by decide +kernel⟩ (glob_cons ⟨by kernel_rfl, by kernel_rfl, by decide +kernel⟩ (glob_cons ⟨by kernel_rfl, by kernel_rfl, by decide +kernel⟩ (glob_cons ⟨by kernel_rfl, by kernel_rfl, by decide +kernel⟩ (glob_cons ⟨by kernel_rfl, by kernel_rfl, by decide +kernel⟩ (glob_cons ⟨by kernel_rfl, by kernel_rfl, by decide +kernel⟩ (glob_cons ⟨by kernel_rfl, by kernel_rfl, by decide +kernel⟩ (glob_cons ⟨by kernel_rfl, by kernel_rfl, by decide +kernel⟩ (glob_cons ⟨by kernel_rfl, by kernel_rfl, by decide +kernel⟩ (glob_nil)))))))))))))))))))))
  attrs := fun a h => by have h' : isAttr glob05 a = true := h; rw [noAttr_is (l := glob05) (by kernel_rfl) a] at h'; cases h'
  book := rfl
  meths := fun name f h => by cases h
  initOk := fun f h => by cases h

theorem fin05 {w : World} {s₀ s₁ : Shared} {fa sa : Addr} {scr : List Int} {vals : List Value} {p : Program} {l : List Str} {me : ExcName → Option Value} {mg mb : Str → Option Value} (T : Top p l me mg mb s₁.heap) (hi : importsNone p = true)
    (KX : (KK w.params).In s₁.heap) (hmg : mg (Str.ofString "law") = some (.ref fa)) (hL : s₁.heap.IsList sa vals.toArray) (hI : IntsAre vals scr) (hlen : scr.length ≤ 63) (hlay : (PyData.list (scr.map PyData.int)).layable0 = true) (hg : s₁.gens = #[]) :
    codeAny (model PySem.Challenge.rw_uf050022_05.row.prog w) callerA (.call (.ref fa) ⟨[.ref sa], []⟩) (GoodW PySem.Challenge.rw_uf050022_05.row.claim (classAt s₀.heap) (ExcName.means s₀.heap) [ofPy (.list (scr.map .int))] s₁) s₁ := by
  have hfa : fa = 103 := by
    have := mg_of (n := Str.ofString "law") (v := .ref 103) KX T.g (by kernel_rfl)
    rw [hmg] at this; simpa using this
  subst hfa
  refine codeAny_mono (bridge (W := wd05 w s₁.heap sa scr (KK w.params)) (tab := tab05) (n := 8) (wdok05 T hi KX hL hI hlen) rfl rfl (fns_cons (FnChk.at_ KX (chk05_widened w.params)) (fns_cons (FnChk.at_ KX (chk05_narrowed w.params)) (fns_cons (FnChk.at_ KX (chk05__law_whole w.params)) (fns_cons (FnChk.at_ KX (chk05__law_cell_at w.params)) (fns_cons (FnChk.at_ KX (chk05__law_drawn w.params)) (fns_cons (FnChk.at_ KX (chk05__law_mixed w.params)) (fns_cons (FnChk.at_ KX (chk05__law_lots w.params)) (fns_cons (FnChk.at_ KX (chk05__law_tuples w.params)) (fns_cons (FnChk.at_ KX (chk05__law_refused_by_any w.params)) (fns_cons (FnChk.at_ KX (chk05_law w.params)) (fns_nil))))))))))) (by decide) (law05 scr hlen (bits_of hlay))) fun r s' q => ?_
  obtain ⟨rfl, h1, h2, h3⟩ := q
  refine ⟨.inl ⟨.bool true, ofPy (.bool true), [], rfl, fun cls => rfl, ?_, ?_, fun h => ?_⟩, h1, h2, h3.trans hg⟩
  · exact .bool true
  · kernel_rfl
  · exact ⟨List.nodup_nil, by simp⟩

end Mine
set_option maxRecDepth 100000 in
set_option maxHeartbeats 8000000 in
theorem PySem.Challenge.cw_uf050022_05_holds : PySem.Challenge.rw_uf050022_05.Holds := by
  refine X05 ?_
  intro w s₀ s₁ mg mb G Y fa o pm cd doc dV kV ho hd hcd hD hmg hg args vals as hpre hlay hrd hwl hlo
  have KX := kIn_of Y
  refine Ground.open G ?_
  intro T B D TE TW
  wrow_args hpre hlay hrd hwl hlo
  all_goals (
    first | refine callC_kw (enter_call ?_) | refine enter_call ?_ | refine callC_kw (enter_callW ?_) | refine enter_callW ?_ | w_how
    w_top on
    try refine codeAny_mono ?_ (fun _ _ g => GoodW.toG g)
    refine Mine.fin05 T (by kernel_rfl) KX hmg (by assumption) (by assumption) (by omega) (by assumption) hg)

end
