import PyProof.Rows.All
import Wide.All
import OpenK.AllK
import Wide.FinOn
import HandS.ForMost
import HandS.ForExc
import HandS.Wide
import HandS.WideBits
import HandS.Defaults
import HandS.StrMore
import HandS.TupAny
import HandS.IsInst
import HandS.CallSlots
import HandS.TryMany
import HandS.HotCalls
import HandS.ExcInit
import HandS.ExcIs
import HandS.Conv
import KE.KExcStr
import PyProof.StrBlock2
import KE.KIntText
import KE.IntTextLaws
import PyProof.InstEq
import PyProof.EqKinds
import PyProof.NeKinds
import HandS.ExcField
import KE.KExcIs
import HandS.ExcValue
import HandS.Small
import HandS.Words
import HandS.WordsExc
import HandS.Ends
import HandS.Head0
import HandS.Head1
import HandS.Head2
import HandS.HeadEnd
import HandS.HeadHook1
import HandS.HeadHook2
import HandS.HeadHook3
import HandS.HeadHook4
import KE.KStateDown
import PySem.Challenge.RW_plainspeak_k10_refusals_apart
section
set_option Elab.async false
set_option linter.all false
set_option maxRecDepth 100000
/-! A small interpreter for the Python subset of this program: data, store, core language, its run. -/
namespace Iv
abbrev KD := Sum Int (List Nat)
/-- data: tuples and lists that are never written again are trees; what is written stands in the store -/
inductive D where
  | non
  | bl (b : Bool)
  | int (i : Int)
  | str (l : List Nat)
  | tup (ds : List D)
  | lst (ds : List D)
  | dct (kv : List (KD × D))
  | scr (ns : List Int)
  | ref (n : Nat)
inductive O where
  | lst (ds : List D)
  | dct (kv : List (KD × D))
  | ins (c : Nat) (fs : List (Nat × D))
  | exc (k : Nat) (t : List Nat) (fs : List (Nat × D))
abbrev Store := List O
/-- an exception: its class, its fields -/
structure Exc where
  c : Nat
  fs : List (Nat × D)
inductive Slot where
  | none
  | val (d : D)
  | own (o : O)
  | exc (x : Exc)
abbrev Env := List Slot
inductive Res (α : Type) where
  | ok (a : α) (st : Store)
  | exn (x : Exc) (st : Store)
  | bad
def Res.bind {α β : Type} (r : Res α) (k : α → Store → Res β) : Res β :=
  match r with
  | .ok a st => k a st
  | .exn x st => .exn x st
  | .bad => .bad
@[simp] theorem Res.bind_ok {α β : Type} (a : α) (st : Store) (k : α → Store → Res β) : (Res.ok a st).bind k = k a st := rfl
@[simp] theorem Res.bind_exn {α β : Type} (x : Exc) (st : Store) (k : α → Store → Res β) : (Res.exn x st : Res α).bind k = .exn x st := rfl
@[simp] theorem Res.bind_bad {α β : Type} (k : α → Store → Res β) : (Res.bad : Res α).bind k = .bad := rfl
theorem Res.bind_assoc {α β γ : Type} (r : Res α) (k : α → Store → Res β) (l : β → Store → Res γ) : (r.bind k).bind l = r.bind fun a st => (k a st).bind l := by
  cases r <;> rfl
def Res.opt {α : Type} (o : Option α) (st : Store) : Res α :=
  match o with
  | some a => .ok a st
  | none => .bad
@[simp] theorem Res.opt_some {α : Type} (a : α) (st : Store) : Res.opt (some a) st = .ok a st := rfl
@[simp] theorem Res.opt_none {α : Type} (st : Store) : (Res.opt none st : Res α) = .bad := rfl
/-! ### data -/
mutual
def D.eqv : D → D → Bool
  | .non, .non => true
  | .bl a, .bl b => a == b
  | .bl a, .int j => (if a then 1 else 0) == j
  | .int i, .bl b => i == (if b then 1 else 0)
  | .int i, .int j => i == j
  | .str a, .str b => a == b
  | .tup a, .tup b => D.eqvL a b
  | .lst a, .lst b => D.eqvL a b
  | _, _ => false
def D.eqvL : List D → List D → Bool
  | [], [] => true
  | x :: xs, y :: ys => D.eqv x y && D.eqvL xs ys
  | _, _ => false
end
mutual
def D.plain : D → Bool
  | .non => true
  | .bl _ => true
  | .int _ => true
  | .str l => l.all fun c => decide (c < 1114112)
  | .tup ds => D.plainL ds
  | .lst ds => D.plainL ds
  | _ => false
def D.plainL : List D → Bool
  | [] => true
  | d :: ds => D.plain d && D.plainL ds
end
mutual
def D.depth : D → Nat
  | .tup ds => D.depthL ds + 1
  | .lst ds => D.depthL ds + 1
  | _ => 0
def D.depthL : List D → Nat
  | [] => 0
  | d :: ds => max (D.depth d) (D.depthL ds)
end
def D.flat : D → Bool
  | .non => true
  | .bl _ => true
  | .int _ => true
  | .str _ => true
  | _ => false
def line : Nat := 16777216
/-- == -/
def D.eq? (x y : D) : Option Bool :=
  match x, y with
  | .scr ns, .lst [] => some ns.isEmpty
  | .str a, .str b => some (a == b)
  | x, y => if x.plain && (y.plain && decide (min x.depth y.depth ≤ 600)) then some (x.eqv y) else none
/-- what is read as a list -/
def asL (d : D) (st : Store) : Option (List D) :=
  match d with
  | .lst ds => some ds
  | .ref n => match st[n]? with
    | some (.lst ds) => some ds
    | _ => none
  | _ => none
/-- .. as a sequence -/
def asSeq (d : D) (st : Store) : Option (List D) :=
  match d with
  | .tup ds => some ds
  | .scr ns => some (ns.map .int)
  | _ => asL d st
def asD (d : D) (st : Store) : Option (List (KD × D)) :=
  match d with
  | .dct kv => some kv
  | .ref n => match st[n]? with
    | some (.dct kv) => some kv
    | _ => none
  | _ => none
def keyOf (d : D) : Option KD :=
  match d with
  | .int i => some (.inl i)
  | .str l => some (.inr l)
  | _ => none
def lookK (kv : List (KD × D)) (k : KD) : Option D := (kv.find? fun p => decide (p.1 = k)).map (·.2)
def putKd (kv : List (KD × D)) (k : KD) (d : D) : List (KD × D) :=
  if kv.any fun p => decide (p.1 = k) then kv.map fun p => if p.1 = k then (p.1, d) else p else kv ++ [(k, d)]
def putFd (f : Nat) (d : D) : List (Nat × D) → List (Nat × D)
  | [] => [(f, d)]
  | (g, x) :: r => if g = f then (g, d) :: r else (g, x) :: putFd f d r
def ixN (n : Nat) (i : Int) : Option Nat := if 0 ≤ i then (if i < n then some i.toNat else none) else if -(n : Int) ≤ i then some (i + n).toNat else none
def atI {α : Type} (xs : List α) (i : Int) : Option α := (ixN xs.length i).bind fun j => xs[j]?
/-- a slice's place -/
def sIx (n d : Nat) : Option Int → Nat
  | none => d
  | some v => if v < 0 then (v + (n : Int)).toNat else min v.toNat n
def cut {α : Type} (xs : List α) (lo hi : Option Int) : List α := (xs.drop (sIx xs.length 0 lo)).take (sIx xs.length xs.length hi - sIx xs.length 0 lo)
def digits (n : Nat) : List Nat := (Nat.toDigits 10 n).map Char.toNat
def strInt (i : Int) : List Nat := if i < 0 then 45 :: digits i.natAbs else digits i.natAbs
/-- a text of figures, a minus ahead or none; its number -/
def figs (l : List Nat) (acc : Nat) : Option Nat :=
  match l with
  | [] => some acc
  | c :: r => if 48 ≤ c ∧ c ≤ 57 then figs r (acc * 10 + (c - 48)) else none
def joinS (sep : List Nat) : List (List Nat) → List Nat
  | [] => []
  | [x] => x
  | x :: y :: r => x ++ (sep ++ joinS sep (y :: r))
def strsOf : List D → Option (List (List Nat))
  | [] => some []
  | .str l :: r => (strsOf r).map (l :: ·)
  | _ :: _ => none
def intsOf : List D → Option (List Int)
  | [] => some []
  | .int i :: r => (intsOf r).map (i :: ·)
  | _ :: _ => none
def blsOf : List D → Option (List Bool)
  | [] => some []
  | .bl b :: r => (blsOf r).map (b :: ·)
  | _ :: _ => none
def mkS (l : List Nat) : PySem.Str := ⟨l.toArray⟩
def unS (s : PySem.Str) : List Nat := s.cps.toList
/-! ### the core language -/
inductive BOp where
  | add | sub | mul | fdiv | mod | shl
inductive COp where
  | eq | ne | lt | le | gt | ge | mem | nmem | eqs
inductive IK where
  | seq | str | rng1 | rng2 | rng3 | rev
inductive UK where
  | len | int | str | abs | max | sum | all | tuple | lof | isStr | isTup | isLst | isdigit | pop
inductive BK where
  | min2 | max2 | join | split | part | strip | lstrip | count | index | get
inductive E where
  | var (i : Nat)
  | own (i : Nat)
  | int (n : Int)
  | bl (b : Bool)
  | non
  | str (s : List Nat)
  | glob (g : Nat)
  | neg (a : E)
  | bin (op : BOp) (a b : E)
  | cmp (op : COp) (a b : E)
  | chain (op op' : COp) (a b c : E)
  | isN (a : E)
  | notN (a : E)
  | band (a b : E)
  | bor (a b : E)
  | bnot (a : E)
  | ife (c a b : E)
  | idx (a i : E)
  | slc (lo hi : Bool) (a l h : E)
  | tup (es : List E)
  | lst (es : List E)
  | dct (ks vs : List E)
  | comp (elt : E) (tg : List Nat) (k : IK) (es : List E) (cond : List E)
  | mk (e : E)
  | call (f : Nat) (es : List E)
  | hcall (f : Nat) (i : Nat)
  | meth (o : E) (c f : Nat) (es : List E)
  | make (c f : Nat) (es : List E)
  | fld (o : E) (f : Nat)
  | un (k : UK) (a : E)
  | b2 (k : BK) (a b : E)
  | get2 (d k x : E)
  | isExc (i c : Nat)
  | excFld (i f : Nat)
  | newX (k : Nat) (es : List E)
  | isV (a : E) (k : Nat)
inductive S where
  | set (i : Nat) (e : E)
  | setOwn (i : Nat) (e : E)
  | setT (is : List Nat) (e : E)
  | setFF (o : Nat) (f g : Nat) (e : E)
  | setF (o : E) (f : Nat) (e : E)
  | setI (o i e : E)
  | setIOwn (i : Nat) (k e : E)
  | expr (e : E)
  | app (o e : E)
  | appOwn (i : Nat) (e : E)
  | extOwn (i : Nat) (e : E)
  | clear (o : E)
  | ite (c : E) (a b : List S)
  | whl (c : E) (b : List S)
  | forS (tg : List Nat) (k : IK) (es : List E) (b : List S)
  | ret (e : E)
  | retN
  | brk
  | cnt
  | pass
  | raise (c : Nat) (es : List E)
  | tryS (b : List S) (cs : List Nat) (as_ : List (Option Nat)) (ss : List (List S))
  | frz (i : Nat)
/-- a creation -/
def E.isNew : E → Bool
  | .lst _ => true
  | .dct _ _ => true
  | .comp .. => true
  | .un .lof _ => true
  | _ => false
/-- a value that may be held -/
def E.strong : E → Bool
  | .own _ => false
  | .ife _ a b => a.strong && b.strong
  | _ => true
/-! ### operations -/
def mulOk (i j : Int) : Bool := (decide (-(2 ^ 64) < i) && decide (i < 2 ^ 64)) || ((decide (-(2 ^ 64) < j) && decide (j < 2 ^ 64)) || decide (i.natAbs.log2 + j.natAbs.log2 < 1000000))
def opAdd (x y : D) (st : Store) : Res D :=
  match x, y with
  | .int i, .int j => .ok (.int (i + j)) st
  | .str a, .str b => if a.length + b.length ≤ line then .ok (.str (a ++ b)) st else .bad
  | .tup a, .tup b => if a.length + b.length ≤ line then .ok (.tup (a ++ b)) st else .bad
  | x, y => match asL x st, asL y st with
    | some a, some b => if a.length + b.length ≤ line then .ok (.lst (a ++ b)) st else .bad
    | _, _ => .bad
def opSub (x y : D) (st : Store) : Res D :=
  match x, y with
  | .int i, .int j => .ok (.int (i - j)) st
  | _, _ => .bad
def repOk (n : Nat) (k : Int) : Bool := decide (0 ≤ k) && (decide (n * k.toNat ≤ line) && decide (k < 2 ^ 62))
def opMul (x y : D) (st : Store) : Res D :=
  match x, y with
  | .int i, .int j => if mulOk i j then .ok (.int (i * j)) st else .bad
  | .str a, .int k => if repOk a.length k then .ok (.str (List.replicate k.toNat a).flatten) st else .bad
  | x, .int k => match asL x st with
    | some a => if repOk a.length k then .ok (.lst (List.replicate k.toNat a).flatten) st else .bad
    | none => .bad
  | _, _ => .bad
def opFdiv (x y : D) (st : Store) : Res D :=
  match x, y with
  | .int i, .int j => if decide (j ≠ 0) && decide (j.natAbs.log2 < 9000) then .ok (.int (if 0 < j then i / j else Int.fdiv i j)) st else .bad
  | _, _ => .bad
def opMod (x y : D) (st : Store) : Res D :=
  match x, y with
  | .int i, .int j => if 0 < j then .ok (.int (i % j)) st else .bad
  | _, _ => .bad
def opShl (x y : D) (st : Store) : Res D :=
  match x, y with
  | .int i, .int j => if decide (0 ≤ j) && (decide (j ≤ 1000000) && decide (i.natAbs < 2 ^ 64)) then .ok (.int (i * 2 ^ j.toNat)) st else .bad
  | _, _ => .bad
def opBin (op : BOp) : D → D → Store → Res D :=
  match op with
  | .add => opAdd
  | .sub => opSub
  | .mul => opMul
  | .fdiv => opFdiv
  | .mod => opMod
  | .shl => opShl
def inSeq (x : D) (ys : List D) : Option Bool := if x.flat && ys.all D.flat then some (ys.any fun y => y.eqv x) else none
def memD (x y : D) (st : Store) : Option Bool :=
  match x, y with
  | .str [c], .str z => some (decide (c ∈ z))
  | _, _ => match asSeq y st with
    | some ys => inSeq x ys
    | none => match asD y st, keyOf x with
      | some kv, some k => some (lookK kv k).isSome
      | _, _ => none
/-- a list of the store as a list -/
def deref (d : D) (st : Store) : D :=
  match d with
  | .ref n => match st[n]? with
    | some (.lst ds) => .lst ds
    | _ => .ref n
  | d => d
def cmpD (op : COp) (x y : D) (st : Store) : Option Bool :=
  match op, x, y with
  | .eq, x, y => (deref x st).eq? (deref y st)
  | .ne, x, y => ((deref x st).eq? (deref y st)).map not
  | .lt, .int i, .int j => some (decide (i < j))
  | .le, .int i, .int j => some (decide (i ≤ j))
  | .gt, .int i, .int j => some (decide (j < i))
  | .ge, .int i, .int j => some (decide (j ≤ i))
  | .mem, x, y => memD x y st
  | .nmem, x, y => (memD x y st).map not
  | .eqs, .ref n, .str _ => (match st[n]? with
    | some (.ins _ _) => some false
    | _ => none)
  | .eqs, .str a, .str b => some (a == b)
  | _, _, _ => none
def opCmp (op : COp) (x y : D) (st : Store) : Res D := (Res.opt (cmpD op x y st) st).bind fun b st => .ok (.bl b) st
def opIdx (x y : D) (st : Store) : Res D :=
  match x, y with
  | .str l, .int i => (match atI l i with
    | some c => if l.length ≤ line then .ok (.str [c]) st else .bad
    | none => .bad)
  | x, y => match asD x st, keyOf y with
    | some kv, some k => Res.opt (lookK kv k) st
    | _, _ => match asSeq x st, y with
      | some xs, .int i => Res.opt (atI xs i) st
      | _, _ => .bad
def opCut (x : D) (lo hi : Option Int) (st : Store) : Res D :=
  match x with
  | .str l => if l.length ≤ line then .ok (.str (cut l lo hi)) st else .bad
  | .tup ds => .ok (.tup (cut ds lo hi)) st
  | x => match asL x st with
    | some ds => .ok (.lst (cut ds lo hi)) st
    | none => .bad
def alloc (o : O) (st : Store) : Res D := .ok (.ref st.length) (st ++ [o])
def newO (d : D) : Option O :=
  match d with
  | .lst ds => some (.lst ds)
  | .dct kv => some (.dct kv)
  | _ => none
def maxL : List Int → Option Int
  | [] => none
  | i :: r => match maxL r with
    | none => some i
    | some m => some (if i < m then m else i)
def opLen (x : D) (st : Store) : Res D :=
  match x with
  | .str l => if l.length ≤ line then .ok (.int l.length) st else .bad
  | x => match asSeq x st with
    | some ds => .ok (.int ds.length) st
    | none => .bad
def intOf (l : List Nat) : Option Int :=
  match l with
  | 45 :: c :: r => (figs (c :: r) 0).map fun (n : Nat) => -(n : Int)
  | c :: r => (figs (c :: r) 0).map fun (n : Nat) => (n : Int)
  | [] => none
def opInt (x : D) (st : Store) : Res D :=
  match x with
  | .int i => .ok (.int i) st
  | .bl b => .ok (.int (if b then 1 else 0)) st
  | .str l => if l.length < 600 then (match intOf l with
    | some n => .ok (.int n) st
    | none => .bad) else .bad
  | _ => .bad
def opStr (x : D) (st : Store) : Res D :=
  match x with
  | .int i => if i.natAbs.log2 < 1920 then .ok (.str (strInt i)) st else .bad
  | .ref n => match st[n]? with
    | some (.exc _ t _) => .ok (.str t) st
    | _ => .bad
  | _ => .bad
def opAbs (x : D) (st : Store) : Res D :=
  match x with
  | .int i => .ok (.int (if i < 0 then -i else i)) st
  | _ => .bad
def opMax (x : D) (st : Store) : Res D :=
  match x with
  | .lst ds => (match (intsOf ds).bind maxL with
    | some m => .ok (.int m) st
    | none => .bad)
  | _ => .bad
def opSum (x : D) (st : Store) : Res D :=
  match x with
  | .lst ds => (match intsOf ds with
    | some ns => .ok (.int ns.sum) st
    | none => .bad)
  | _ => .bad
def opAll (x : D) (st : Store) : Res D :=
  match x with
  | .lst ds => (match blsOf ds with
    | some bs => .ok (.bl (bs.all id)) st
    | none => .bad)
  | _ => .bad
def opTuple (x : D) (st : Store) : Res D :=
  match x with
  | .tup ds => .ok (.tup ds) st
  | x => match asL x st with
    | some ds => .ok (.tup ds) st
    | none => .bad
def opLof (x : D) (st : Store) : Res D :=
  match x with
  | .tup ds => .ok (.lst ds) st
  | x => match asL x st with
    | some ds => .ok (.lst ds) st
    | none => .bad
def opIsStr (x : D) (st : Store) : Res D :=
  match x with
  | .str _ => .ok (.bl true) st
  | .tup _ => .ok (.bl false) st
  | _ => .bad
def opIsTup (x : D) (st : Store) : Res D :=
  match x with
  | .tup _ => .ok (.bl true) st
  | .lst _ => .ok (.bl false) st
  | .str _ => .ok (.bl false) st
  | .int _ => .ok (.bl false) st
  | .bl _ => .ok (.bl false) st
  | _ => .bad
def opIsLst (x : D) (st : Store) : Res D :=
  match x with
  | .lst _ => .ok (.bl true) st
  | _ => .bad
def opIsdigit (x : D) (st : Store) : Res D :=
  match x with
  | .str l => .ok (.bl (PySem.Txt.isdigit (mkS l))) st
  | _ => .bad
def opPop (x : D) (st : Store) : Res D :=
  match x with
  | .ref n => (match st[n]? with
    | some (.lst ds) => (match ds.getLast? with
      | some d => .ok d (st.set n (.lst ds.dropLast))
      | none => .bad)
    | _ => .bad)
  | _ => .bad
def opUn (k : UK) : D → Store → Res D :=
  match k with
  | .len => opLen
  | .int => opInt
  | .str => opStr
  | .abs => opAbs
  | .max => opMax
  | .sum => opSum
  | .all => opAll
  | .tuple => opTuple
  | .lof => opLof
  | .isStr => opIsStr
  | .isTup => opIsTup
  | .isLst => opIsLst
  | .isdigit => opIsdigit
  | .pop => opPop
def opMin2 (x y : D) (st : Store) : Res D :=
  match x, y with
  | .int i, .int j => .ok (.int (if j < i then j else i)) st
  | _, _ => .bad
def opMax2 (x y : D) (st : Store) : Res D :=
  match x, y with
  | .int i, .int j => .ok (.int (if j > i then j else i)) st
  | _, _ => .bad
def opJoin (x y : D) (st : Store) : Res D :=
  match x with
  | .str s => (match (asL y st).bind strsOf with
    | some ls => if (ls.map List.length).sum + ls.length * s.length ≤ line then .ok (.str (joinS s ls)) st else .bad
    | none => .bad)
  | _ => .bad
def opSplit (x y : D) (st : Store) : Res D :=
  match x, y with
  | .str l, .str s => if decide (s ≠ []) && decide (l.length + 2 ≤ line) then .ok (.lst ((PySem.Txt.split (mkS l) (mkS s)).map fun z => .str (unS z))) st else .bad
  | _, _ => .bad
def opPart (x y : D) (st : Store) : Res D :=
  match x, y with
  | .str l, .str s => if decide (s ≠ []) && decide (l.length ≤ line) then .ok (.tup [.str (unS (PySem.Txt.partition (mkS l) (mkS s)).1), .str (unS (PySem.Txt.partition (mkS l) (mkS s)).2.1), .str (unS (PySem.Txt.partition (mkS l) (mkS s)).2.2)]) st else .bad
  | _, _ => .bad
def opStrip (x y : D) (st : Store) : Res D :=
  match x, y with
  | .str l, .str s => if l.length ≤ line then .ok (.str (unS (PySem.Txt.stripChars (mkS l) (mkS s)))) st else .bad
  | _, _ => .bad
def opLstrip (x y : D) (st : Store) : Res D :=
  match x, y with
  | .str l, .str s => if l.length ≤ line then .ok (.str (unS (PySem.Txt.lstripChars (mkS l) (mkS s)))) st else .bad
  | _, _ => .bad
def opCount (x y : D) (st : Store) : Res D :=
  match y with
  | .bl true => (match (asL x st).bind blsOf with
    | some bs => .ok (.int (bs.count true : Nat)) st
    | none => .bad)
  | _ => .bad
def opIndex (x y : D) (st : Store) : Res D :=
  match y with
  | .str s => (match (asL x st).bind strsOf with
    | some ls => (match ls.idxOf? s with
      | some j => .ok (.int (j : Nat)) st
      | none => .bad)
    | none => .bad)
  | _ => .bad
def opGet (x y : D) (st : Store) : Res D :=
  match asD x st, keyOf y with
  | some kv, some k => .ok ((lookK kv k).getD .non) st
  | _, _ => .bad
def opB2 (k : BK) : D → D → Store → Res D :=
  match k with
  | .min2 => opMin2
  | .max2 => opMax2
  | .join => opJoin
  | .split => opSplit
  | .part => opPart
  | .strip => opStrip
  | .lstrip => opLstrip
  | .count => opCount
  | .index => opIndex
  | .get => opGet
/-- what a method is called on -/
def recvOk (k : BK) (x : D) (st : Store) : Bool :=
  match k with
  | .min2 => true
  | .max2 => true
  | .count => (asL x st).isSome
  | .index => (asL x st).isSome
  | .get => (asD x st).isSome
  | _ => match x with
    | .str _ => true
    | _ => false
def opGet2 (x y z : D) (st : Store) : Res D :=
  match asD x st, keyOf y with
  | some kv, some k => .ok ((lookK kv k).getD z) st
  | _, _ => .bad
def opFld (x : D) (f : Nat) (st : Store) : Res D :=
  match x with
  | .ref n => match st[n]? with
    | some (.ins _ fs) => Res.opt (fs.lookup f) st
    | some (.exc _ _ fs) => Res.opt (fs.lookup f) st
    | _ => .bad
  | _ => .bad
/-- the object is of that class and has no such attribute -/
def isIns (x : D) (c : Nat) (st : Store) : Bool :=
  match x with
  | .ref n => match st[n]? with
    | some (.ins c' _) => c' == c
    | _ => false
  | _ => false
inductive Src where
  | items (ds : List D)
  | cell (n : Nat)
def Src.get (s : Src) (i : Nat) (st : Store) : Option (Option D) :=
  match s with
  | .items ds => some ds[i]?
  | .cell n => match st[n]? with
    | some (.lst ds) => some ds[i]?
    | _ => none
def srcOf (d : D) : Option Src :=
  match d with
  | .tup ds => some (.items ds)
  | .lst ds => some (.items ds)
  | .scr ns => some (.items (ns.map .int))
  | .ref n => some (.cell n)
  | _ => none
def smallI (i : Int) : Bool := decide (-(2 ^ 62) ≤ i) && decide (i < 2 ^ 62)
def src1 (f : D → Option Src) : List D → Option Src
  | [d] => f d
  | _ => none
def src2 (f : D → D → Option Src) : List D → Option Src
  | [d, e] => f d e
  | _ => none
def src3 (f : D → D → D → Option Src) : List D → Option Src
  | [d, e, g] => f d e g
  | _ => none
def srcStr : D → Option Src
  | .str l => some (.items (l.map fun c => .str [c]))
  | _ => none
def srcR1 : D → Option Src
  | .int j => if smallI j then some (.items ((List.range j.toNat).map fun (i : Nat) => .int (i : Int))) else none
  | _ => none
def srcR2 : D → D → Option Src
  | .int a, .int b => if smallI a && smallI b then some (.items ((List.range (b - a).toNat).map fun (i : Nat) => .int (a + (i : Int)))) else none
  | _, _ => none
def srcR3 : D → D → D → Option Src
  | .int a, .int b, .int c => if smallI a && smallI b then (if c = -1 then some (.items ((List.range (a - b).toNat).map fun (i : Nat) => .int (a - (i : Int))))
      else if c = 2 then some (.items ((List.range ((b - a + 1) / 2).toNat).map fun (i : Nat) => .int (a + (i : Int) * 2))) else none) else none
  | _, _, _ => none
def srcRev : D → Option Src
  | .lst ds => some (.items ds.reverse)
  | _ => none
/-- what is walked -/
def mkSrc (k : IK) (ds : List D) : Option Src :=
  match k with
  | .seq => src1 srcOf ds
  | .str => src1 srcStr ds
  | .rng1 => src1 srcR1 ds
  | .rng2 => src2 srcR2 ds
  | .rng3 => src3 srcR3 ds
  | .rev => src1 srcRev ds
/-- names take an item -/
def bindT (tg : List Nat) (d : D) (env : Env) : Option Env :=
  match tg with
  | [i] => some (env.set i (.val d))
  | is => match d with
    | .tup ds => if ds.length = is.length then some ((is.zip ds).foldl (fun e p => e.set p.1 (.val p.2)) env) else none
    | _ => none
def wipeE (env : Env) (tg : List Nat) : Env := tg.foldr (fun i e => e.set i .none) env
/-! ### tables: what the program's top has bound; they are the same in every law -/
/-- the class tree of the refusals: 0 SpeakError, 1 BadText, 2 NoName, 3 Unfit, 4 TooLong, 5 NotDone, 6 NoRoom, 7 NoMachine, 8 BadRow, 9 ValueError -/
def isSub (c d : Nat) : Bool := decide (c = d) || (decide (d = 0) && decide (c < 9)) || decide (d = 9)
def excFields (c : Nat) (ds : List D) : Option (List (Nat × D)) :=
  match c, ds with
  | 1, [.str _] => some [(0, .int 0)]
  | 1, [.str _, d] => some [(0, d)]
  | 2, [.str _] => some [(1, .str [])]
  | 2, [.str _, d] => some [(1, d)]
  | 1, _ => none
  | 2, _ => none
  | _, [.str _] => some []
  | _, _ => none
def chars (l : List (List Nat)) : D := .tup (l.map .str)
def w_head : List Nat := [104, 101, 97, 100]
/-- the module's constants -/
def gval : Nat → D
  | 0 => .int 2000
  | 1 => .int 30
  | 2 => .int 8
  | 3 => .int 8
  | 4 => .int 19
  | 5 => .int (-9223372036854775808)
  | 6 => .int 9223372036854775807
  | 7 => .str [97, 98, 99, 100, 101, 102, 103, 104, 105, 106, 107, 108, 109, 110, 111, 112, 113, 114, 115, 116, 117, 118, 119, 120, 121, 122]
  | 8 => .str [48, 49, 50, 51, 52, 53, 54, 55, 56, 57]
  | 9 => .tup [.str [104, 101, 97, 100], .str [116, 97, 105, 108], .str [101, 109, 112, 116, 121], .str [102, 105, 114, 115, 116], .str [115, 101, 99, 111, 110, 100], .str [110, 111, 116]]
  | 10 => .tup [.str [99, 111, 110, 115], .str [112, 97, 105, 114], .str [99, 97, 108, 108], .str [112, 108, 117, 115], .str [109, 105, 110, 117, 115], .str [116, 105, 109, 101, 115], .str [111, 118, 101, 114], .str [114, 101, 115, 116], .str [108, 101, 115, 115], .str [115, 97, 109, 101], .str [97, 110, 100], .str [111, 114]]
  | 11 => .tup [.str [105, 110, 116], .str [98, 111, 111, 108], .str [108, 105, 115, 116], .str [102, 117, 110]]
  | 12 => .tup [.str [116, 114, 117, 101], .str [102, 97, 108, 115, 101], .str [110, 105, 108], .str [105, 102], .str [108, 101, 116], .str [102, 110], .str [114, 101, 99]]
  | 13 => .tup [.str [112, 108, 117, 115], .str [109, 105, 110, 117, 115], .str [116, 105, 109, 101, 115], .str [111, 118, 101, 114], .str [114, 101, 115, 116]]
  | 14 => .str [32, 10]
  | 15 => .int 1000
  | 16 => .int 8
  | 17 => .int 400
  | 18 => .int 40
  | 19 => .str [98, 121, 32, 110, 111, 117, 103, 104, 116]
  | 20 => .str [111, 102, 32, 101, 109, 112, 116, 121]
  | 21 => .str [110, 111, 32, 114, 111, 111, 109]
  | 22 => .str [116, 111, 111, 32, 100, 101, 101, 112]
  | 23 => .int 20000
  | _ => .non
/-! ### the run -/
structure Calls where
  fn : Nat → List D → Store → Res D
  mak : Nat → List D → Store → Res D
  hot : Nat → Exc → Store → Res D
def isT (d : D) (st : Store) : Res Bool :=
  match d with
  | .bl b => .ok b st
  | _ => .bad
@[simp] theorem isT_bl (b : Bool) (st : Store) : isT (.bl b) st = .ok b st := rfl
/-- a comprehension's turns -/
def compL (tg : List Nat) (cond : Env → Store → Res Bool) (elt : Env → Store → Res D) (env : Env) (src : Src) : Nat → Nat → Store → List D → Res D
  | 0, _, _, _ => .bad
  | n + 1, i, st, acc => match src.get i st with
    | none => .bad
    | some none => .ok (.lst acc) st
    | some (some d) => match bindT tg d env with
      | none => .bad
      | some env1 => (cond env1 st).bind fun b st1 => match b with
        | true => (elt env1 st1).bind fun x st2 => if acc.length < line then compL tg cond elt env src n (i + 1) st2 (acc ++ [x]) else .bad
        | false => compL tg cond elt env src n (i + 1) st1 acc
/-- more turns than any loop here has -/
def LF : Nat := 1000000
def noexn {α : Type} (r : Res α) : Res α :=
  match r with
  | .exn _ _ => .bad
  | r => r
@[simp] theorem noexn_ok {α : Type} (a : α) (st : Store) : noexn (.ok a st) = .ok a st := rfl
@[simp] theorem noexn_bad {α : Type} : noexn (.bad : Res α) = .bad := rfl
def dictOf : List D → List D → Option (List (KD × D))
  | [], [] => some []
  | k :: ks, v :: vs => match keyOf k, dictOf ks vs with
    | some k, some r => some ((k, v) :: r)
    | _, _ => none
  | _, _ => none
def mergeKd (kv more : List (KD × D)) : List (KD × D) := more.foldl (fun acc p => putKd acc p.1 p.2) kv
def getV (env : Env) (i : Nat) : Option D :=
  match env[i]? with
  | some (.val d) => some d
  | _ => none
def getO (env : Env) (i : Nat) : Option D :=
  match env[i]? with
  | some (.own (.lst ds)) => some (.lst ds)
  | some (.own (.dct kv)) => some (.dct kv)
  | _ => none
def getX (env : Env) (i : Nat) : Option Exc :=
  match env[i]? with
  | some (.exc x) => some x
  | _ => none
def asInt (d : D) (st : Store) : Res Int :=
  match d with
  | .int i => .ok i st
  | _ => .bad
@[simp] theorem asInt_int (i : Int) (st : Store) : asInt (.int i) st = .ok i st := rfl
/-- a refusal made, as a value -/
def mkX (k : Nat) (ds : List D) (st : Store) : Res D :=
  match ds with
  | .str t :: r => match excFields k (.str t :: r) with
    | some fs => .ok (.ref st.length) (st ++ [.exc k t fs])
    | none => .bad
  | _ => .bad
def opIsV (x : D) (k : Nat) (st : Store) : Res D :=
  match x with
  | .ref n => match st[n]? with
    | some (.exc j _ _) => .ok (.bl (isSub j k)) st
    | _ => .bad
  | _ => .bad
mutual
def evalE (cs : Calls) : E → Env → Store → Res D
  | .var i, env, st => Res.opt (getV env i) st
  | .own i, env, st => Res.opt (getO env i) st
  | .int n, _, st => .ok (.int n) st
  | .bl b, _, st => .ok (.bl b) st
  | .non, _, st => .ok .non st
  | .str s, _, st => .ok (.str s) st
  | .glob g, _, st => .ok (gval g) st
  | .neg a, env, st => (evalE cs a env st).bind fun x st => (asInt x st).bind fun i st => .ok (.int (-i)) st
  | .bin op a b, env, st => (evalE cs a env st).bind fun x st => (evalE cs b env st).bind fun y st => opBin op x y st
  | .cmp op a b, env, st => (evalE cs a env st).bind fun x st => (evalE cs b env st).bind fun y st => opCmp op x y st
  | .chain op op' a b c, env, st => (evalE cs a env st).bind fun x st => (evalE cs b env st).bind fun y st => (opCmp op x y st).bind fun r st => (isT r st).bind fun t st => match t with
    | true => (evalE cs c env st).bind fun z st => opCmp op' y z st
    | false => .ok (.bl false) st
  | .isN a, env, st => (evalE cs a env st).bind fun x st => .ok (.bl (match x with
    | .non => true
    | _ => false)) st
  | .notN a, env, st => (evalE cs a env st).bind fun x st => .ok (.bl (match x with
    | .non => false
    | _ => true)) st
  | .band a b, env, st => (evalE cs a env st).bind fun x st => (isT x st).bind fun t st => match t with
    | true => (evalE cs b env st).bind fun y st => (isT y st).bind fun t st => .ok (.bl t) st
    | false => .ok (.bl false) st
  | .bor a b, env, st => (evalE cs a env st).bind fun x st => (isT x st).bind fun t st => match t with
    | true => .ok (.bl true) st
    | false => (evalE cs b env st).bind fun y st => (isT y st).bind fun t st => .ok (.bl t) st
  | .bnot a, env, st => (evalE cs a env st).bind fun x st => (isT x st).bind fun t st => .ok (.bl (!t)) st
  | .ife c a b, env, st => (evalE cs c env st).bind fun x st => (isT x st).bind fun t st => match t with
    | true => evalE cs a env st
    | false => evalE cs b env st
  | .idx a i, env, st => (evalE cs a env st).bind fun x st => (evalE cs i env st).bind fun y st => opIdx x y st
  | .slc lo hi a l h, env, st => (evalE cs a env st).bind fun x st => (match lo with
      | true => (evalE cs l env st).bind fun y st => (asInt y st).bind fun i st => .ok (some i) st
      | false => .ok none st).bind fun l st => (match hi with
      | true => (evalE cs h env st).bind fun y st => (asInt y st).bind fun i st => .ok (some i) st
      | false => .ok none st).bind fun h st => opCut x l h st
  | .tup es, env, st => (evalL cs es env st).bind fun ds st => if ds.length ≤ line then .ok (.tup ds) st else .bad
  | .lst es, env, st => (evalL cs es env st).bind fun ds st => if ds.length ≤ line then .ok (.lst ds) st else .bad
  | .dct ks vs, env, st => (evalL cs ks env st).bind fun ks st => (evalL cs vs env st).bind fun vs st => match dictOf ks vs with
    | some kv => if kv.length ≤ 32 then .ok (.dct (mergeKd [] kv)) st else .bad
    | none => .bad
  | .comp elt tg k es cond, env, st => (evalL cs es env st).bind fun ds st => match mkSrc k ds with
    | none => .bad
    | some src => noexn (compL tg (fun e s => evalC cs cond e s) (fun e s => evalE cs elt e s) (wipeE env tg) src LF 0 st [])
  | .mk e, env, st => (evalE cs e env st).bind fun d st => match newO d with
    | some o => alloc o st
    | none => .bad
  | .call f es, env, st => (evalL cs es env st).bind fun ds st => cs.fn f ds st
  | .hcall f i, env, st => match getX env i with
    | some x => noexn (cs.hot f x st)
    | none => .bad
  | .meth o c f es, env, st => (evalE cs o env st).bind fun x st => if isIns x c st then (evalL cs es env st).bind fun ds st => cs.fn f (x :: ds) st else .bad
  | .make c f es, env, st => (evalL cs es env st).bind fun ds st => (cs.mak f (.ref st.length :: ds) (st ++ [.ins c []])).bind fun r st' => match r with
    | .non => .ok (.ref st.length) st'
    | _ => .bad
  | .fld o f, env, st => (evalE cs o env st).bind fun x st => opFld x f st
  | .un k a, env, st => (evalE cs a env st).bind fun x st => opUn k x st
  | .b2 k a b, env, st => (evalE cs a env st).bind fun x st => if recvOk k x st then (evalE cs b env st).bind fun y st => opB2 k x y st else .bad
  | .get2 a k x, env, st => (evalE cs a env st).bind fun a st => if (asD a st).isSome then (evalE cs k env st).bind fun k st => (evalE cs x env st).bind fun x st => opGet2 a k x st else .bad
  | .isExc i c, env, st => match getX env i with
    | some x => .ok (.bl (isSub x.c c)) st
    | none => .bad
  | .excFld i f, env, st => match getX env i with
    | some x => Res.opt (x.fs.lookup f) st
    | none => .bad
  | .newX k es, env, st => (evalL cs es env st).bind fun ds st => mkX k ds st
  | .isV a k, env, st => (evalE cs a env st).bind fun x st => opIsV x k st
def evalL (cs : Calls) : List E → Env → Store → Res (List D)
  | [], _, st => .ok [] st
  | e :: es, env, st => (evalE cs e env st).bind fun x st => (evalL cs es env st).bind fun xs st => .ok (x :: xs) st
/-- a comprehension's condition: none or one -/
def evalC (cs : Calls) : List E → Env → Store → Res Bool
  | [], _, st => .ok true st
  | [c], env, st => (evalE cs c env st).bind fun x st => isT x st
  | _ :: _ :: _, _, _ => .bad
end
/-- what a statement comes to -/
inductive Out where
  | nx (env : Env) (st : Store)
  | rt (d : D) (st : Store)
  | bk (env : Env) (st : Store)
  | ct (env : Env) (st : Store)
  | exn (x : Exc) (env : Env) (st : Store)
  | bad
def Res.then {α : Type} (r : Res α) (env : Env) (k : α → Store → Out) : Out :=
  match r with
  | .ok a st => k a st
  | .exn x st => .exn x env st
  | .bad => .bad
@[simp] theorem Res.then_ok {α : Type} (a : α) (st : Store) (env : Env) (k : α → Store → Out) : (Res.ok a st).then env k = k a st := rfl
@[simp] theorem Res.then_exn {α : Type} (x : Exc) (st : Store) (env : Env) (k : α → Store → Out) : (Res.exn x st : Res α).then env k = .exn x env st := rfl
@[simp] theorem Res.then_bad {α : Type} (env : Env) (k : α → Store → Out) : (Res.bad : Res α).then env k = .bad := rfl
theorem Res.bind_then {α β : Type} (r : Res α) (k : α → Store → Res β) (env : Env) (l : β → Store → Out) : (r.bind k).then env l = r.then env fun a st => (k a st).then env l := by
  cases r <;> rfl
def Out.andThen (r : Out) (k : Env → Store → Out) : Out :=
  match r with
  | .nx env st => k env st
  | r => r
@[simp] theorem Out.andThen_nx (env : Env) (st : Store) (k : Env → Store → Out) : (Out.nx env st).andThen k = k env st := rfl
@[simp] theorem Out.andThen_rt (d : D) (st : Store) (k : Env → Store → Out) : (Out.rt d st).andThen k = .rt d st := rfl
@[simp] theorem Out.andThen_bk (env : Env) (st : Store) (k : Env → Store → Out) : (Out.bk env st).andThen k = .bk env st := rfl
@[simp] theorem Out.andThen_ct (env : Env) (st : Store) (k : Env → Store → Out) : (Out.ct env st).andThen k = .ct env st := rfl
@[simp] theorem Out.andThen_exn (x : Exc) (env : Env) (st : Store) (k : Env → Store → Out) : (Out.exn x env st).andThen k = .exn x env st := rfl
@[simp] theorem Out.andThen_bad (k : Env → Store → Out) : Out.bad.andThen k = .bad := rfl
def whileL (c : Env → Store → Res Bool) (b : Env → Store → Out) : Nat → Env → Store → Out
  | 0, _, _ => .bad
  | n + 1, env, st => (c env st).then env fun t st1 => match t with
    | true => (match b env st1 with
      | .nx env' st' => whileL c b n env' st'
      | .ct env' st' => whileL c b n env' st'
      | .bk env' st' => .nx env' st'
      | r => r)
    | false => .nx env st1
def forL (tg : List Nat) (src : Src) (b : Env → Store → Out) : Nat → Nat → Env → Store → Out
  | 0, _, _, _ => .bad
  | n + 1, i, env, st => match src.get i st with
    | none => .bad
    | some none => .nx env st
    | some (some d) => match bindT tg d env with
      | none => .bad
      | some env1 => match b env1 st with
        | .nx env' st' => forL tg src b n (i + 1) env' st'
        | .ct env' st' => forL tg src b n (i + 1) env' st'
        | .bk env' st' => .nx env' st'
        | r => r
def setFldO (x : D) (f : Nat) (d : D) (st : Store) : Option Store :=
  match x with
  | .ref n => match st[n]? with
    | some (.ins c fs) => if fs.length < 900 then some (st.set n (.ins c (putFd f d fs))) else none
    | _ => none
  | _ => none
def setIxO (x i d : D) (st : Store) : Option Store :=
  match x with
  | .ref n => match st[n]? with
    | some (.lst ds) => (match i with
      | .int k => (ixN ds.length k).map fun j => st.set n (.lst (ds.set j d))
      | _ => none)
    | some (.dct kv) => (match keyOf i with
      | some k => if kv.length < line then some (st.set n (.dct (putKd kv k d))) else none
      | none => none)
    | _ => none
  | _ => none
def appO (x d : D) (st : Store) : Option Store :=
  match x with
  | .ref n => match st[n]? with
    | some (.lst ds) => if ds.length < line then some (st.set n (.lst (ds ++ [d]))) else none
    | _ => none
  | _ => none
def clearO (x : D) (st : Store) : Option Store :=
  match x with
  | .ref n => match st[n]? with
    | some (.lst _) => some (st.set n (.lst []))
    | _ => none
  | _ => none
def Out.opt (o : Option Store) (env : Env) : Out :=
  match o with
  | some st => .nx env st
  | none => .bad
@[simp] theorem Out.opt_some (st : Store) (env : Env) : Out.opt (some st) env = .nx env st := rfl
@[simp] theorem Out.opt_none (env : Env) : Out.opt none env = .bad := rfl
/-- no exception is held any more -/
def noX (env : Env) : Env := env.map fun s => match s with
  | .exc _ => .none
  | s => s
/-- the first clause that takes it -/
def pickH (x : Exc) : List Nat → List (Option Nat) → List (Env → Store → Out) → Env → Store → Out
  | c :: cs, a :: as_, k :: ks, env, st => match isSub x.c c with
    | true => (match a with
      | some i => (match k (env.set i (.exc x)) st with
        | .nx env' st' => .nx (noX (env'.set i .none)) st'
        | .bk env' st' => .bk (noX (env'.set i .none)) st'
        | .ct env' st' => .ct (noX (env'.set i .none)) st'
        | .exn _ _ _ => .bad
        | r => r)
      | none => (match k env st with
        | .exn _ _ _ => .bad
        | r => r))
    | false => pickH x cs as_ ks env st
  | [], [], [], env, st => .exn x env st
  | _, _, _, _, _ => .bad
mutual
def execS (cs : Calls) : S → Env → Store → Out
  | .set i e, env, st => (evalE cs e env st).then env fun d st => .nx (env.set i (.val d)) st
  | .setOwn i e, env, st => (evalE cs e env st).then env fun d st => match newO d with
    | some o => .nx (env.set i (.own o)) st
    | none => .bad
  | .setT tg e, env, st => (evalE cs e env st).then env fun d st => match tg with
    | _ :: _ :: _ => (match bindT tg d env with
      | some env' => .nx env' st
      | none => .bad)
    | _ => .bad
  | .setFF o f g e, env, st => (evalE cs e env st).then env fun d st => match d with
    | .tup [x, y] => (match getV env o with
      | some ov => (match setFldO ov f x st with
        | some st1 => Out.opt (setFldO ov g y st1) env
        | none => .bad)
      | none => .bad)
    | _ => .bad
  | .setF o f e, env, st => (evalE cs e env st).then env fun d st => (evalE cs o env st).then env fun ov st => Out.opt (setFldO ov f d st) env
  | .setI o i e, env, st => (evalE cs e env st).then env fun d st => (evalE cs o env st).then env fun ov st => (evalE cs i env st).then env fun iv st => Out.opt (setIxO ov iv d st) env
  | .setIOwn j k e, env, st => (evalE cs e env st).then env fun d st => match env[j]? with
    | some (.own (.dct kv)) => (evalE cs k env st).then env fun kd st => (match keyOf kd with
      | some kk => if kv.length < line then .nx (env.set j (.own (.dct (putKd kv kk d)))) st else .bad
      | none => .bad)
    | _ => .bad
  | .expr e, env, st => (evalE cs e env st).then env fun _ st => .nx env st
  | .app o e, env, st => (evalE cs o env st).then env fun ov st => if (asL ov st).isSome then (evalE cs e env st).then env fun d st => Out.opt (appO ov d st) env else .bad
  | .appOwn j e, env, st => match env[j]? with
    | some (.own (.lst ds)) => (evalE cs e env st).then env fun d st => if ds.length < line then .nx (env.set j (.own (.lst (ds ++ [d])))) st else .bad
    | _ => .bad
  | .extOwn j e, env, st => match env[j]? with
    | some (.own (.lst ds)) => (evalE cs e env st).then env fun d st => (match asL d st with
      | some ds' => if ds.length + ds'.length ≤ line then .nx (env.set j (.own (.lst (ds ++ ds')))) st else .bad
      | none => .bad)
    | _ => .bad
  | .clear o, env, st => (evalE cs o env st).then env fun ov st => Out.opt (clearO ov st) env
  | .ite c a b, env, st => ((evalE cs c env st).bind isT).then env fun t st => match t with
    | true => execL cs a env st
    | false => execL cs b env st
  | .whl c b, env, st => whileL (fun env st => (evalE cs c env st).bind isT) (fun env st => execL cs b env st) LF env st
  | .forS tg k es b, env, st => (evalL cs es env st).then env fun ds st => match mkSrc k ds with
    | some src => forL tg src (fun env st => execL cs b env st) LF 0 env st
    | none => .bad
  | .ret e, env, st => (evalE cs e env st).then env fun d st => .rt d st
  | .retN, _, st => .rt .non st
  | .brk, env, st => .bk env st
  | .cnt, env, st => .ct env st
  | .pass, env, st => .nx env st
  | .raise c es, env, st => (evalL cs es env st).then env fun ds st => match excFields c ds with
    | some fs => .exn ⟨c, fs⟩ env st
    | none => .bad
  | .tryS b hc ha hs, env, st => match execL cs b env st with
    | .exn x env' st' => pickH x hc ha (execLL cs hs) env' st'
    | r => r
  | .frz i, env, st => match env[i]? with
    | some (.own (.lst ds)) => .nx (env.set i (.val (.lst ds))) st
    | some (.own (.dct kv)) => .nx (env.set i (.val (.dct kv))) st
    | _ => .bad
def execL (cs : Calls) : List S → Env → Store → Out
  | [], env, st => .nx env st
  | s :: r, env, st => (execS cs s env st).andThen fun env st => execL cs r env st
def execLL (cs : Calls) : List (List S) → List (Env → Store → Out)
  | [] => []
  | b :: r => (fun env st => execL cs b env st) :: execLL cs r
end
/-- a def: how many parameters, how many names, its body; hot: it is called with an exception at hand -/
structure Def where
  np : Nat
  nn : Nat
  body : List S
  hot : Bool := false
def Out.res (o : Out) : Res D :=
  match o with
  | .nx _ st => .ok .non st
  | .rt d st => .ok d st
  | .exn x _ st => .exn x st
  | _ => .bad
def startE (n : Nat) (ss : List Slot) : Env := ss ++ List.replicate (n - ss.length) .none
def noCalls : Calls := ⟨fun _ _ _ => .bad, fun _ _ _ => .bad, fun _ _ _ => .bad⟩
def runHot (defs : Nat → Option Def) (f : Nat) (x : Exc) (st : Store) : Res D :=
  match defs f with
  | some d => if d.hot && d.np == 1 then (execL noCalls d.body (startE d.nn [.exc x]) st).res else .bad
  | none => .bad
/-- a call whose calls are those -/
def runOne (defs : Nat → Option Def) (fn mk : Nat → List D → Store → Res D) (f : Nat) (ds : List D) (st : Store) : Res D :=
  match defs f with
  | some d => if !d.hot && ds.length == d.np then (execL ⟨fn, mk, runHot defs⟩ d.body (startE d.nn (ds.map .val)) st).res else .bad
  | none => .bad
/-- calls, at most n within one another, and at most n - 1 -/
def runs (defs : Nat → Option Def) : Nat → (Nat → List D → Store → Res D) × (Nat → List D → Store → Res D)
  | 0 => (fun _ _ _ => .bad, fun _ _ _ => .bad)
  | n + 1 => let p := runs defs n; (runOne defs p.1 p.2, p.1)
def run (defs : Nat → Option Def) (n : Nat) : Nat → List D → Store → Res D := (runs defs n).1
/-- a making of an instance takes two -/
def runM (defs : Nat → Option Def) (n : Nat) : Nat → List D → Store → Res D := (runs defs n).2
def callsAt (defs : Nat → Option Def) (n : Nat) : Calls := ⟨run defs n, runM defs n, runHot defs⟩
theorem runM_succ (defs : Nat → Option Def) (n : Nat) : runM defs (n + 1) = run defs n := rfl
theorem runM_zero (defs : Nat → Option Def) : runM defs 0 = fun _ _ _ => .bad := rfl
theorem run_zero (defs : Nat → Option Def) : run defs 0 = fun _ _ _ => .bad := rfl
theorem run_succ (defs : Nat → Option Def) (n f : Nat) (ds : List D) (st : Store) : run defs (n + 1) f ds st = match defs f with
  | some d => if !d.hot && ds.length == d.np then (execL (callsAt defs n) d.body (startE d.nn (ds.map .val)) st).res else .bad
  | none => .bad := rfl
end Iv
end
section
set_option Elab.async false
set_option linter.all false
set_option maxRecDepth 100000
set_option maxHeartbeats 1000000
/-! How the interpreter's data and store lie in the layer's abstract heap. -/
namespace Iv
open PySem L2
abbrev AP' := Addr → Prop
/-- the program's part that stands: the written part, the classes, the names of attributes -/
structure Tb where
  K : PySem.W.Frag
  cls : Nat → Addr
  okc : Nat → Prop
  xcls : Nat → Value
  okx : Nat → Prop
/-- the names of attributes -/
def fieldNames : List Str := ["at", "name", "text", "rows", "code", "room", "things", "stack", "names", "calls", "word", "many", "pieces", "total", "machine"]
def fnm (f : Nat) : Str := fieldNames.getD f ""
theorem fnm_inj : ∀ {f g : Nat}, f < 15 → g < 15 → fnm f = fnm g → f = g := by
  have h : ∀ f : Fin 15, ∀ g : Fin 15, fnm f.val = fnm g.val → f.val = g.val := by decide +kernel
  exact fun {f g} hf hg => h ⟨f, hf⟩ ⟨g, hg⟩
/-- a class of refusals that may be asked -/
structure XcD (K : PySem.W.Frag) (D : Addr) : Prop extends L2.ExcC K D where
  no : ∀ f, f < 15 → PySem.W.findIn K (.ref D) (fnm f) = some none
  str : PySem.W.findIn K (.ref D) "__str__" = some (some (.builtin "BaseException.__str__"))
/-- an exception's object: its class, its dict, its arguments -/
abbrev exOb (C : Addr) (d : Option Addr) (t : Addr) : Obj := { cls := .ref C, dict := d, data := .fields #[.ref t, .none, .none, .none, .bool false, .none] }
/-- a known object -/
def obx (a : Addr) (ob : Obj) : HO := .ext fun h => h.get? a = some ob
def kd : KD → Key
  | .inl i => .inl i
  | .inr l => .inr (mkS l)
mutual
/-- v is the datum in the heap; M: what may be written; r: where the store's objects lie -/
inductive Rep (T : Tb) (H : Hp) (M : AP') (r : List Addr) : V → D → Prop
  | non : Rep T H M r .non .non
  | bl (b : Bool) : Rep T H M r (.bl b) (.bl b)
  | int (i : Int) : Rep T H M r (.int i) (.int i)
  | str (l : List Nat) : Rep T H M r (.str (mkS l)) (.str l)
  | tup {a : Addr} {xs : List V} {ds : List D} (h : H a = some (.tup xs)) (n : ¬ M a) (q : RepL T H M r xs ds) : Rep T H M r (.ref a) (.tup ds)
  | tupC {a : Addr} {xs : List V} {ds : List D} (h : ∀ H', SqT T.K H' a xs) (q : RepL T H M r xs ds) : Rep T H M r (.ref a) (.tup ds)
  | lst {a : Addr} {xs : List V} {ds : List D} (h : H a = some (.lst xs)) (n : ¬ M a) (q : RepL T H M r xs ds) : Rep T H M r (.ref a) (.lst ds)
  | dct {a : Addr} {kvs : List (Key × V)} {kv : List (KD × D)} (h : H a = some (.dK kvs)) (n : ¬ M a) (q : RepK T H M r kvs kv) : Rep T H M r (.ref a) (.dct kv)
  | scr {a : Addr} {ns : List Int} (h : Rd H a (.lst (ns.map V.int))) (n : ¬ M a) : Rep T H M r (.ref a) (.scr ns)
  | scrC {a : Addr} {ns : List Int} (h : ∀ H', SqL T.K H' a (ns.map V.int)) : Rep T H M r (.ref a) (.scr ns)
  | ref {a : Addr} {n : Nat} (h : r[n]? = some a) : Rep T H M r (.ref a) (.ref n)
inductive RepL (T : Tb) (H : Hp) (M : AP') (r : List Addr) : List V → List D → Prop
  | nil : RepL T H M r [] []
  | cons {v : V} {d : D} {vs : List V} {ds : List D} (h : Rep T H M r v d) (q : RepL T H M r vs ds) : RepL T H M r (v :: vs) (d :: ds)
inductive RepK (T : Tb) (H : Hp) (M : AP') (r : List Addr) : List (Key × V) → List (KD × D) → Prop
  | nil : RepK T H M r [] []
  | cons {k : KD} {v : V} {d : D} {vs : List (Key × V)} {ds : List (KD × D)} (h : Rep T H M r v d) (q : RepK T H M r vs ds) : RepK T H M r ((kd k, v) :: vs) ((k, d) :: ds)
end
/-- attributes -/
inductive RepF (T : Tb) (H : Hp) (M : AP') (r : List Addr) : List (Str × V) → List (Nat × D) → Prop
  | nil : RepF T H M r [] []
  | cons {f : Nat} {v : V} {d : D} {vs : List (Str × V)} {ds : List (Nat × D)} (hf : f < 15) (h : Rep T H M r v d) (q : RepF T H M r vs ds) : RepF T H M r ((fnm f, v) :: vs) ((f, d) :: ds)
/-- an object of the store, an owned list -/
def ObjR (T : Tb) (H : Hp) (M : AP') (r : List Addr) (a : Addr) : O → Prop
  | .lst ds => ∃ xs, H a = some (.lst xs) ∧ RepL T H M r xs ds
  | .dct kv => ∃ kvs, H a = some (.dK kvs) ∧ RepK T H M r kvs kv
  | .ins c fs => T.okc c ∧ ∃ dx xs, H a = some (.ins (T.cls c) dx xs) ∧ RepF T H M r xs fs
  | .exc k t fs => T.okx k ∧ ∃ D tt d, T.xcls k = .ref D ∧ XcD T.K D ∧ H a = some (obx a (exOb D d tt)) ∧ H tt = some (.tup [.str (mkS t)]) ∧ ¬ M tt ∧
    ((fs = [] ∧ d = none) ∨ ∃ dd xs, d = some dd ∧ H dd = some (.xd xs) ∧ ¬ M dd ∧ RepF T H M r xs fs)
/-- from one heap to another: what is not written is kept, what is written anew was free -/
structure Grow (H : Hp) (M : AP') (r : List Addr) (H' : Hp) (M' : AP') (r' : List Addr) : Prop where
  keep : ∀ a o, H a = some o → ¬ M a → H' a = some o
  wr : ∀ a, M' a → M a ∨ H a = none
  pre : ∀ (n : Nat) (a : Addr), r[n]? = some a → r'[n]? = some a
theorem Grow.same {H : Hp} {M : AP'} {r : List Addr} : Grow H M r H M r := ⟨fun _ _ h _ => h, fun _ h => .inl h, fun _ _ h => h⟩
theorem Grow.no {H H' : Hp} {M M' : AP'} {r r' : List Addr} (m : Grow H M r H' M' r') {a : Addr} {o : HO} (h : H a = some o) (n : ¬ M a) : ¬ M' a := fun z => by
  rcases m.wr a z with q | q
  · exact n q
  · rw [h] at q; cases q
theorem Grow.rd {H H' : Hp} {M M' : AP'} {r r' : List Addr} (m : Grow H M r H' M' r') {a : Addr} {u : HO} (h : Rd H a u) (n : ¬ M a) : Rd H' a u ∧ ¬ M' a := by
  rcases h with h | ⟨o, h⟩
  · exact ⟨.inl (m.keep _ _ h n), m.no h n⟩
  · exact ⟨.inr ⟨o, m.keep _ _ h n⟩, m.no h n⟩
mutual
theorem Rep.mono {T : Tb} {H H' : Hp} {M M' : AP'} {r r' : List Addr} (m : Grow H M r H' M' r') : ∀ {v : V} {d : D}, Rep T H M r v d → Rep T H' M' r' v d
  | _, _, .non => .non
  | _, _, .bl b => .bl b
  | _, _, .int i => .int i
  | _, _, .str l => .str l
  | _, _, .tup h n q => .tup (m.keep _ _ h n) (m.no h n) (RepL.mono m q)
  | _, _, .tupC h q => .tupC h (RepL.mono m q)
  | _, _, .lst h n q => .lst (m.keep _ _ h n) (m.no h n) (RepL.mono m q)
  | _, _, .dct h n q => .dct (m.keep _ _ h n) (m.no h n) (RepK.mono m q)
  | _, _, .scr h n => .scr (m.rd h n).1 (m.rd h n).2
  | _, _, .scrC h => .scrC h
  | _, _, .ref h => .ref (m.pre _ _ h)
theorem RepL.mono {T : Tb} {H H' : Hp} {M M' : AP'} {r r' : List Addr} (m : Grow H M r H' M' r') : ∀ {v : List V} {d : List D}, RepL T H M r v d → RepL T H' M' r' v d
  | _, _, .nil => .nil
  | _, _, .cons h q => .cons (Rep.mono m h) (RepL.mono m q)
theorem RepK.mono {T : Tb} {H H' : Hp} {M M' : AP'} {r r' : List Addr} (m : Grow H M r H' M' r') : ∀ {v : List (Key × V)} {d : List (KD × D)}, RepK T H M r v d → RepK T H' M' r' v d
  | _, _, .nil => .nil
  | _, _, .cons h q => .cons (Rep.mono m h) (RepK.mono m q)
end
theorem RepF.mono {T : Tb} {H H' : Hp} {M M' : AP'} {r r' : List Addr} (m : Grow H M r H' M' r') {v : List (Str × V)} {d : List (Nat × D)} (h : RepF T H M r v d) : RepF T H' M' r' v d := by
  induction h with
  | nil => exact .nil
  | cons hf h _ ih => exact .cons hf (h.mono m) ih
/-- an object stays where its own place is kept -/
theorem ObjR.mono {T : Tb} {H H' : Hp} {M M' : AP'} {r r' : List Addr} (m : Grow H M r H' M' r') {a : Addr} (k : ∀ o, H a = some o → H' a = some o) : ∀ {o : O}, ObjR T H M r a o → ObjR T H' M' r' a o
  | .lst _, ⟨xs, h, q⟩ => ⟨xs, k _ h, q.mono m⟩
  | .dct _, ⟨kvs, h, q⟩ => ⟨kvs, k _ h, q.mono m⟩
  | .ins _ _, ⟨hc, dx, xs, h, q⟩ => ⟨hc, dx, xs, k _ h, q.mono m⟩
  | .exc _ _ _, ⟨h1, D, tt, d, h2, h3, h4, h5, h6, h7⟩ => ⟨h1, D, tt, d, h2, h3, k _ h4, m.keep _ _ h5 h6, m.no h5 h6, h7.imp id fun ⟨dd, xs, e1, e2, e3, e4⟩ => ⟨dd, xs, e1, m.keep _ _ e2 e3, m.no e2 e3, e4.mono m⟩⟩
theorem ObjR.there {T : Tb} {H : Hp} {M : AP'} {r : List Addr} {a : Addr} : ∀ {o : O}, ObjR T H M r a o → ∃ u, H a = some u
  | .lst _, ⟨xs, h, _⟩ => ⟨_, h⟩
  | .dct _, ⟨kvs, h, _⟩ => ⟨_, h⟩
  | .ins _ _, ⟨_, dx, xs, h, _⟩ => ⟨_, h⟩
  | .exc _ _ _, ⟨_, D, tt, d, _, _, h, _⟩ => ⟨_, h⟩
theorem RepF.look {T : Tb} {H : Hp} {M : AP'} {r : List Addr} {f : Nat} (hf : f < 15) {xs : List (Str × V)} {fs : List (Nat × D)} (h : RepF T H M r xs fs) {d : D} (e : fs.lookup f = some d) : ∃ v, xs.lookup (fnm f) = some v ∧ Rep T H M r v d := by
  induction h with
  | nil => cases e
  | @cons g v d' vs ds hg h q ih =>
    rw [List.lookup_cons] at e ⊢
    by_cases z : f = g
    · subst z
      simp only [beq_self_eq_true] at e ⊢
      cases e
      exact ⟨v, rfl, h⟩
    · have h1 : (f == g) = false := beq_eq_false_iff_ne.mpr z
      have h2 : (fnm f == fnm g) = false := beq_eq_false_iff_ne.mpr fun q => z (fnm_inj hf hg q)
      rw [h1] at e
      rw [h2]
      exact ih e
theorem RepF.len {T : Tb} {H : Hp} {M : AP'} {r : List Addr} {xs : List (Str × V)} {fs : List (Nat × D)} (h : RepF T H M r xs fs) : xs.length = fs.length := by
  induction h with
  | nil => rfl
  | cons hf h q ih => simp [ih]
theorem RepF.put {T : Tb} {H : Hp} {M : AP'} {r : List Addr} {f : Nat} (hf : f < 15) {v : V} {d : D} (g : Rep T H M r v d) {xs : List (Str × V)} {fs : List (Nat × D)} (h : RepF T H M r xs fs) : RepF T H M r (putF (fnm f) v xs) (putFd f d fs) := by
  induction h with
  | nil => exact .cons hf g .nil
  | @cons k w e vs ds hk h q ih =>
    unfold putF putFd
    by_cases z : k = f
    · subst z
      rw [if_pos rfl]
      first
        | (rw [if_pos rfl]; exact .cons hk g q)
        | (simp; exact .cons hk g q)
    · rw [if_neg z]
      have z2 : ¬ fnm k = fnm f := fun q => z (fnm_inj hk hf q)
      first
        | (rw [if_neg z2]; exact .cons hk h ih)
        | (simp [z2]; exact .cons hk h ih)
theorem RepF.no {T : Tb} {H : Hp} {M : AP'} {r : List Addr} {m : Str} (hm : fieldNames.contains m = false) {xs : List (Str × V)} {fs : List (Nat × D)} (h : RepF T H M r xs fs) : xs.lookup m = none := by
  induction h with
  | nil => rfl
  | @cons f v d vs ds hf h q ih =>
    rw [List.lookup_cons]
    have h2 : (m == fnm f) = false := by
      rw [beq_eq_false_iff_ne]
      intro z
      have hl : f < fieldNames.length := hf
      have : m ∈ fieldNames := by
        rw [z]
        unfold fnm
        rw [List.getD_eq_getElem?_getD, List.getElem?_eq_getElem hl]
        exact List.getElem_mem hl
      rw [List.contains_iff_mem.mpr this] at hm
      cases hm
    rw [h2]; exact ih
/-! ### lists of data -/
section
variable {T : Tb} {H : Hp} {M : AP'} {r : List Addr}
theorem RepL.len {xs : List V} {ds : List D} (h : RepL T H M r xs ds) : xs.length = ds.length := by
  induction ds generalizing xs with
  | nil => cases h; rfl
  | cons d ds ih =>
    cases h with
    | cons _ q => simp [ih q]
theorem RepL.at {xs : List V} {ds : List D} (h : RepL T H M r xs ds) {i : Nat} {d : D} (e : ds[i]? = some d) : ∃ v, xs[i]? = some v ∧ Rep T H M r v d := by
  induction ds generalizing xs i with
  | nil => simp at e
  | cons x ds ih =>
    cases h with
    | cons h q =>
      cases i with
      | zero => simp at e; subst e; exact ⟨_, rfl, h⟩
      | succ i => exact ih q (by simpa using e)
theorem RepL.atV {xs : List V} {ds : List D} (h : RepL T H M r xs ds) {i : Nat} {v : V} (e : xs[i]? = some v) : ∃ d, ds[i]? = some d ∧ Rep T H M r v d := by
  induction ds generalizing xs i with
  | nil => cases h; simp at e
  | cons x ds ih =>
    cases h with
    | cons h q =>
      cases i with
      | zero => simp at e; subst e; exact ⟨_, rfl, h⟩
      | succ i => exact ih q (by simpa using e)
theorem RepL.app {xs ys : List V} {ds es : List D} (h : RepL T H M r xs ds) (g : RepL T H M r ys es) : RepL T H M r (xs ++ ys) (ds ++ es) := by
  induction ds generalizing xs with
  | nil => cases h; exact g
  | cons d ds ih =>
    cases h with
    | cons h q => exact .cons h (ih q)
theorem RepL.one {v : V} {d : D} (h : Rep T H M r v d) : RepL T H M r [v] [d] := .cons h .nil
theorem RepL.drop {xs : List V} {ds : List D} (h : RepL T H M r xs ds) (n : Nat) : RepL T H M r (xs.drop n) (ds.drop n) := by
  induction n generalizing xs ds with
  | zero => exact h
  | succ n ih =>
    cases h with
    | nil => exact .nil
    | cons _ q => exact ih q
theorem RepL.take {xs : List V} {ds : List D} (h : RepL T H M r xs ds) (n : Nat) : RepL T H M r (xs.take n) (ds.take n) := by
  induction n generalizing xs ds with
  | zero => exact .nil
  | succ n ih =>
    cases h with
    | nil => exact .nil
    | cons h q => exact .cons h (ih q)
theorem RepL.set {xs : List V} {ds : List D} (h : RepL T H M r xs ds) (i : Nat) {v : V} {d : D} (g : Rep T H M r v d) : RepL T H M r (xs.set i v) (ds.set i d) := by
  induction ds generalizing xs i with
  | nil => cases h; exact .nil
  | cons x ds ih =>
    cases h with
    | cons h q =>
      cases i with
      | zero => exact .cons g q
      | succ i => exact .cons h (ih q i)
theorem RepL.dropLast {xs : List V} {ds : List D} (h : RepL T H M r xs ds) : RepL T H M r xs.dropLast ds.dropLast := by
  rw [List.dropLast_eq_take, List.dropLast_eq_take, h.len]
  exact h.take _
theorem RepL.rev {xs : List V} {ds : List D} (h : RepL T H M r xs ds) : RepL T H M r xs.reverse ds.reverse := by
  induction ds generalizing xs with
  | nil => cases h; exact .nil
  | cons d ds ih =>
    cases h with
    | cons h q =>
      rw [List.reverse_cons, List.reverse_cons]
      exact (ih q).app (.one h)
theorem RepL.rep {xs : List V} {ds : List D} (h : RepL T H M r xs ds) (k : Nat) : RepL T H M r (List.replicate k xs).flatten (List.replicate k ds).flatten := by
  induction k with
  | zero => exact .nil
  | succ k ih =>
    rw [List.replicate_succ, List.replicate_succ, List.flatten_cons, List.flatten_cons]
    exact h.app ih
theorem mkS_inj {a b : List Nat} (h : mkS a = mkS b) : a = b := by
  have := congrArg (fun s : Str => s.cps.toList) h
  simpa [mkS] using this
theorem mkS_iff {a b : List Nat} : mkS a = mkS b ↔ a = b := ⟨mkS_inj, fun h => by rw [h]⟩
theorem kd_inj {a b : KD} (h : kd a = kd b) : a = b := by
  cases a <;> cases b <;> simp [kd] at h
  · rw [h]
  · rw [mkS_inj h]
theorem kd_iff {a b : KD} : kd a = kd b ↔ a = b := ⟨kd_inj, fun h => by rw [h]⟩
theorem RepK.len {kvs : List (Key × V)} {kv : List (KD × D)} (h : RepK T H M r kvs kv) : kvs.length = kv.length := by
  induction kv generalizing kvs with
  | nil => cases h; rfl
  | cons d ds ih =>
    cases h with
    | cons _ q => simp [ih q]
theorem RepK.look {kvs : List (Key × V)} {kv : List (KD × D)} (h : RepK T H M r kvs kv) (k : KD) :
    (lookK kv k = none ∧ valV kvs (kd k) = none) ∨ ∃ d v, lookK kv k = some d ∧ valV kvs (kd k) = some v ∧ Rep T H M r v d := by
  induction kv generalizing kvs with
  | nil => cases h; exact .inl ⟨rfl, rfl⟩
  | cons p kv ih =>
    cases h with
    | @cons k' v d vs _ h q =>
      by_cases e : k' = k
      · subst e
        exact .inr ⟨d, v, by simp [lookK], by simp [valV], h⟩
      · have e' : ¬ kd k' = kd k := fun z => e (kd_inj z)
        have h1 : lookK ((k', d) :: kv) k = lookK kv k := by simp [lookK, e]
        have h2 : valV ((kd k', v) :: vs) (kd k) = valV vs (kd k) := by simp [valV, e']
        rw [h1, h2]
        exact ih q
theorem RepK.any {kvs : List (Key × V)} {kv : List (KD × D)} (h : RepK T H M r kvs kv) (k : KD) : (kvs.any fun p => decide (p.1 = kd k)) = kv.any fun p => decide (p.1 = k) := by
  induction kv generalizing kvs with
  | nil => cases h; rfl
  | cons p kv ih =>
    cases h with
    | @cons k' v d vs ds h q => simp only [List.any_cons, ih q, kd_iff]
theorem RepK.mapTo {kvs : List (Key × V)} {kv : List (KD × D)} (h : RepK T H M r kvs kv) (k : KD) {v : V} {d : D} (g : Rep T H M r v d) :
    RepK T H M r (kvs.map fun p => if p.1 = kd k then (p.1, v) else p) (kv.map fun p => if p.1 = k then (p.1, d) else p) := by
  induction kv generalizing kvs with
  | nil => cases h; exact .nil
  | cons p kv ih =>
    cases h with
    | @cons k' v' d' vs _ h q =>
      rw [List.map_cons, List.map_cons]
      by_cases e : k' = k
      · subst e
        simp only [if_true]
        exact .cons g (ih q)
      · have e' : ¬ kd k' = kd k := fun z => e (kd_inj z)
        simp only [if_neg e, if_neg e']
        exact .cons h (ih q)
theorem RepK.snoc {kvs : List (Key × V)} {kv : List (KD × D)} (h : RepK T H M r kvs kv) (k : KD) {v : V} {d : D} (g : Rep T H M r v d) : RepK T H M r (kvs ++ [(kd k, v)]) (kv ++ [(k, d)]) := by
  induction kv generalizing kvs with
  | nil => cases h; exact .cons g .nil
  | cons p kv ih =>
    cases h with
    | cons h q => exact .cons h (ih q)
theorem RepK.put {kvs : List (Key × V)} {kv : List (KD × D)} (h : RepK T H M r kvs kv) (k : KD) {v : V} {d : D} (g : Rep T H M r v d) : RepK T H M r (putK kvs (kd k) v) (putKd kv k d) := by
  unfold putK putKd
  rw [h.any k]
  split
  · exact h.mapTo k g
  · exact h.snoc k g
end
end Iv
end
section
set_option Elab.async false
set_option linter.all false
set_option maxRecDepth 100000
set_option maxHeartbeats 1000000
/-! The interpreter's state and the layer's state. -/
namespace Iv
open PySem L2
/-- the refusals' classes -/
structure Tx extends Tb
abbrev Pe := Option (Addr × Value × Option Addr)
/-- what may be written: by the callers, the store's, the owned ones -/
def Ms (Mb : AP') (r : List Addr) (ow : List (Option Addr)) : AP' := fun a => Mb a ∨ a ∈ r ∨ some a ∈ ow
structure StR (T : Tb) (M : AP') (r : List Addr) (H : Hp) (st : Store) : Prop where
  len : r.length = st.length
  nd : r.Nodup
  obj : ∀ (n : Nat) (a : Addr) (o : O), r[n]? = some a → st[n]? = some o → ObjR T H M r a o
  dom : ∀ a, M a → ∃ u, H a = some u
def ExcR (T : Tx) (H : Hp) (M : AP') (r : List Addr) (x : Exc) (cls : Value) (d : Option Addr) : Prop :=
  (cls = T.xcls x.c ∧ T.okx x.c) ∧ ((x.fs = [] ∧ d = none) ∨ ∃ dd fs, d = some dd ∧ H dd = some (.xd fs) ∧ ¬ M dd ∧ RepF T.toTb H M r fs x.fs)
def SlotR (T : Tx) (pe : Pe) (H : Hp) (M : AP') (r : List Addr) : Slot → Option Addr → Option (Option V) → Prop
  | .none, _, _ => True
  | .val d, _, v => ∃ x, v = some (some x) ∧ Rep T.toTb H M r x d
  | .own ob, o, v => ∃ a, o = some a ∧ v = some (some (.ref a)) ∧ ObjR T.toTb H M r a ob
  | .exc x, _, v => ∃ a cls d, pe = some (a, cls, d) ∧ v = some (some (.ref a)) ∧ ExcR T H M r x cls d
structure Rel (T : Tx) (pe : Pe) (Mb : AP') (r : List Addr) (ow : List (Option Addr)) (H : Hp) (st : Store) (σ : L2.St) (env : Env) : Prop where
  st : StR T.toTb (Ms Mb r ow) r H st
  lo : ow.length = env.length
  ls : σ.length = env.length
  sl : ∀ (i : Nat) (s : Slot), env[i]? = some s → ∃ o, ow[i]? = some o ∧ SlotR T pe H (Ms Mb r ow) r s o σ[i]?
  od : ∀ (i j : Nat) (a : Addr), ow[i]? = some (some a) → ow[j]? = some (some a) → i = j
  ob : ∀ a, some a ∈ ow → a ∉ r ∧ ¬ Mb a
/-- behind an expression: all that isn't the store's is kept, the store's new objects are new -/
structure Nx (r : List Addr) (H : Hp) (r' : List Addr) (H' : Hp) : Prop where
  keep : ∀ a o, H a = some o → a ∉ r → H' a = some o
  ext : ∃ e, r' = r ++ e ∧ ∀ a ∈ e, H a = none
  dom : ∀ a o, H a = some o → ∃ o', H' a = some o'
section
variable {T : Tx} {pe : Pe} {Mb : AP'} {r r' r'' : List Addr} {ow : List (Option Addr)} {H H' H'' : Hp} {st st' : Store} {σ : L2.St} {env : Env}
theorem Nx.same : Nx r H r H := ⟨fun _ _ h _ => h, ⟨[], by simp, by simp⟩, fun _ o h => ⟨o, h⟩⟩
theorem Nx.sub (n : Nx r H r' H') {a : Addr} (h : a ∈ r) : a ∈ r' := by
  obtain ⟨e, he, _⟩ := n.ext
  rw [he]; exact List.mem_append_left _ h
theorem Nx.notin (n : Nx r H r' H') {a : Addr} {o : HO} (h : H a = some o) (q : a ∉ r) : a ∉ r' := fun z => by
  obtain ⟨e, he, hf⟩ := n.ext
  rw [he] at z
  rcases List.mem_append.mp z with z | z
  · exact q z
  · rw [hf a z] at h; cases h
theorem Nx.trans (n : Nx r H r' H') (m : Nx r' H' r'' H'') : Nx r H r'' H'' := by
  refine ⟨fun a o h q => m.keep a o (n.keep a o h q) (n.notin h q), ?_, fun a o h => let ⟨o1, h1⟩ := n.dom a o h; m.dom a o1 h1⟩
  obtain ⟨e, he, hf⟩ := n.ext
  obtain ⟨e', he', hf'⟩ := m.ext
  refine ⟨e ++ e', by rw [he', he, List.append_assoc], fun a ha => ?_⟩
  rcases List.mem_append.mp ha with z | z
  · exact hf a z
  · cases q : H a with
    | none => rfl
    | some o =>
      obtain ⟨o', q'⟩ := n.dom a o q
      rw [hf' a z] at q'; cases q'
theorem Nx.grow (n : Nx r H r' H') : Grow H (Ms Mb r ow) r H' (Ms Mb r' ow) r' := by
  refine ⟨fun a o h q => n.keep a o h fun z => q (.inr (.inl z)), fun a h => ?_, fun k a h => ?_⟩
  · rcases h with h | h | h
    · exact .inl (.inl h)
    · obtain ⟨e, he, hf⟩ := n.ext
      rw [he] at h
      rcases List.mem_append.mp h with z | z
      · exact .inl (.inr (.inl z))
      · exact .inr (hf a z)
    · exact .inl (.inr (.inr h))
  · obtain ⟨e, he, _⟩ := n.ext
    rw [he]
    obtain ⟨hk, _⟩ := List.getElem?_eq_some_iff.mp h
    rw [List.getElem?_append_left hk]; exact h
/-- a new object that isn't the store's -/
theorem Nx.new {p : Addr} {o : HO} (h : H p = none) : Nx r H r (upd H p o) :=
  ⟨fun a u e _ => by rw [upd_ne (ne_of_none e h)]; exact e, ⟨[], by simp, by simp⟩, fun a u e => ⟨u, by rw [upd_ne (ne_of_none e h)]; exact e⟩⟩
/-- an object of the store is written -/
theorem Nx.wr {p : Addr} {o : HO} (h : p ∈ r) : Nx r H r (upd H p o) :=
  ⟨fun a u e q => by rw [upd_ne (fun z => q (by rw [z]; exact h))]; exact e, ⟨[], by simp, by simp⟩, fun a u e => by
    by_cases z : a = p
    · exact ⟨o, by rw [z, upd_same]⟩
    · exact ⟨u, by rw [upd_ne z]; exact e⟩⟩
theorem StR.at (s : StR T.toTb (Ms Mb r ow) r H st) {n : Nat} {o : O} (e : st[n]? = some o) : ∃ a, r[n]? = some a ∧ a ∈ r ∧ ObjR T.toTb H (Ms Mb r ow) r a o := by
  obtain ⟨h, _⟩ := List.getElem?_eq_some_iff.mp e
  have h2 : n < r.length := by rw [s.len]; exact h
  exact ⟨r[n], List.getElem?_eq_getElem h2, List.getElem_mem h2, s.obj n _ o (List.getElem?_eq_getElem h2) e⟩
theorem StR.there (s : StR T.toTb (Ms Mb r ow) r H st) {a : Addr} (h : a ∈ r) : ∃ u, H a = some u := by
  obtain ⟨n, hn, rfl⟩ := List.mem_iff_getElem.mp h
  have h2 : n < st.length := by rw [← s.len]; exact hn
  exact (s.obj n _ _ (List.getElem?_eq_getElem hn) (List.getElem?_eq_getElem h2)).there
/-- a new object that isn't the store's -/
theorem StR.new (s : StR T.toTb (Ms Mb r ow) r H st) {p : Addr} {o : HO} (h : H p = none) : StR T.toTb (Ms Mb r ow) r (upd H p o) st := by
  refine ⟨s.len, s.nd, fun n a ob e1 e2 => ?_, fun a z => let ⟨u, hu⟩ := s.dom a z; ⟨u, by rw [upd_ne (ne_of_none hu h)]; exact hu⟩⟩
  have q := s.obj n a ob e1 e2
  refine q.mono (Nx.new h).grow fun u e => ?_
  rw [upd_ne (ne_of_none e h)]; exact e
theorem StR.free (s : StR T.toTb (Ms Mb r ow) r H st) {p : Addr} (h : H p = none) : ¬ Ms Mb r ow p := fun z => by
  obtain ⟨u, hu⟩ := s.dom p z
  rw [h] at hu; cases hu
theorem SlotR.mono {M M' : AP'} {sl : Slot} {o : Option Addr} {v : Option (Option V)} (g : Grow H M r H' M' r') (k : ∀ a u, o = some a → H a = some u → H' a = some u) (h : SlotR T pe H M r sl o v) : SlotR T pe H' M' r' sl o v := by
  cases sl with
  | none => exact h
  | val d => obtain ⟨x, h2, h3⟩ := h; exact ⟨x, h2, h3.mono g⟩
  | own ob => obtain ⟨a, h1, h2, h3⟩ := h; exact ⟨a, h1, h2, h3.mono g fun u e => k a u h1 e⟩
  | exc x =>
    obtain ⟨a, cls, d, h2, h3, h4, h5⟩ := h
    refine ⟨a, cls, d, h2, h3, h4, ?_⟩
    rcases h5 with h5 | ⟨dd, fs, e1, e2, e3, e4⟩
    · exact .inl h5
    · exact .inr ⟨dd, fs, e1, g.keep _ _ e2 e3, g.no e2 e3, e4.mono g⟩
theorem Rel.next (R : Rel T pe Mb r ow H st σ env) (n : Nx r H r' H') (s : StR T.toTb (Ms Mb r' ow) r' H' st') : Rel T pe Mb r' ow H' st' σ env := by
  have kp : ∀ (i : Nat) (a : Addr) (u : HO), ow[i]? = some (some a) → H a = some u → H' a = some u ∧ a ∉ r' := fun i a u e h => by
    have q := (R.ob a (List.mem_of_getElem? e)).1
    exact ⟨n.keep a u h q, n.notin h q⟩
  refine ⟨s, R.lo, R.ls, fun i sl e => ?_, R.od, fun a h => ?_⟩
  · obtain ⟨o, e1, e2⟩ := R.sl i sl e
    exact ⟨o, e1, e2.mono n.grow fun a u z hu => (kp i a u (by rw [e1, z]) hu).1⟩
  · obtain ⟨i, hi, e⟩ := List.mem_iff_getElem.mp h
    have e1 : ow[i]? = some (some a) := by rw [List.getElem?_eq_getElem hi, e]
    obtain ⟨u, hu⟩ := R.st.dom a (.inr (.inr h))
    exact ⟨(kp i a u e1 hu).2, (R.ob a h).2⟩
/-- a value that may be an owned one -/
def RepP (T : Tb) (H : Hp) (M : AP') (r : List Addr) (v : V) (d : D) : Prop := Rep T H M r v d ∨ ∃ a o, v = .ref a ∧ a ∉ r ∧ newO d = some o ∧ ObjR T H M r a o
def RepW (s : Bool) (T : Tb) (H : Hp) (M : AP') (r : List Addr) (v : V) (d : D) : Prop :=
  match s with
  | true => Rep T H M r v d
  | false => RepP T H M r v d
theorem RepW.weak {s : Bool} {T : Tb} {M : AP'} {v : V} {d : D} (h : RepW s T H M r v d) : RepP T H M r v d := by
  cases s with
  | true => exact .inl h
  | false => exact h
theorem RepP.mono {v : V} {d : D} (n : Nx r H r' H') (h : RepP T.toTb H (Ms Mb r ow) r v d) : RepP T.toTb H' (Ms Mb r' ow) r' v d := by
  rcases h with h | ⟨a, o, h1, h2, h3, h4⟩
  · exact .inl (h.mono n.grow)
  · obtain ⟨u, hu⟩ := h4.there
    exact .inr ⟨a, o, h1, n.notin hu h2, h3, h4.mono n.grow fun u e => n.keep a u e h2⟩
theorem RepP.list {v : V} {d : D} {ds : List D} (s : StR T.toTb (Ms Mb r ow) r H st) (h : RepP T.toTb H (Ms Mb r ow) r v d) (e : asL d st = some ds) : ∃ a xs, v = .ref a ∧ H a = some (.lst xs) ∧ RepL T.toTb H (Ms Mb r ow) r xs ds := by
  cases d with
  | lst ds' =>
    cases e
    rcases h with h | ⟨a, o, h1, h2, h3, h4⟩
    · cases h with
      | lst h n q => exact ⟨_, _, rfl, h, q⟩
    · cases h3
      obtain ⟨xs, h5, h6⟩ := h4
      exact ⟨a, xs, h1, h5, h6⟩
  | ref n =>
    rcases h with h | ⟨a, o, h1, h2, h3, h4⟩
    · cases h with
      | @ref a n h =>
        unfold asL at e
        dsimp only at e
        split at e
        · rename_i es he
          cases e
          obtain ⟨xs, h5, h6⟩ := s.obj n a _ h he
          exact ⟨a, xs, rfl, h5, h6⟩
        · cases e
    · cases h3
  | _ => cases e
theorem RepP.seq {v : V} {d : D} {ds : List D} (s : StR T.toTb (Ms Mb r ow) r H st) (h : RepP T.toTb H (Ms Mb r ow) r v d) (e : asSeq d st = some ds) : ∃ a xs, v = .ref a ∧ (SqL T.K H a xs ∨ SqT T.K H a xs) ∧ RepL T.toTb H (Ms Mb r ow) r xs ds := by
  have viaL : asL d st = some ds → ∃ a xs, v = .ref a ∧ (SqL T.K H a xs ∨ SqT T.K H a xs) ∧ RepL T.toTb H (Ms Mb r ow) r xs ds := fun e => by
    obtain ⟨a, xs, h1, h2, h3⟩ := h.list s e
    exact ⟨a, xs, h1, .inl (SqL.of h2), h3⟩
  have hin : ∀ ns : List Int, RepL T.toTb H (Ms Mb r ow) r (ns.map V.int) (ns.map D.int) := fun ns => by
    induction ns with
    | nil => exact .nil
    | cons n ns ih => exact .cons (.int n) ih
  cases d with
  | tup ds' =>
    cases e
    rcases h with h | ⟨a, o, h1, h2, h3, h4⟩
    · cases h with
      | tup h n q => exact ⟨_, _, rfl, .inr (SqT.of h), q⟩
      | tupC h q => exact ⟨_, _, rfl, .inr (h _), q⟩
    · cases h3
  | scr ns =>
    cases e
    rcases h with h | ⟨a, o, h1, h2, h3, h4⟩
    · cases h with
      | scr h n => exact ⟨_, _, rfl, .inl (.inl h), hin ns⟩
      | scrC h => exact ⟨_, _, rfl, .inl (h _), hin ns⟩
    · cases h3
  | lst ds' => exact viaL e
  | ref n => exact viaL e
  | _ => cases e
theorem RepP.dict {v : V} {d : D} {kv : List (KD × D)} (s : StR T.toTb (Ms Mb r ow) r H st) (h : RepP T.toTb H (Ms Mb r ow) r v d) (e : asD d st = some kv) : ∃ a kvs, v = .ref a ∧ H a = some (.dK kvs) ∧ RepK T.toTb H (Ms Mb r ow) r kvs kv := by
  cases d with
  | dct kv' =>
    cases e
    rcases h with h | ⟨a, o, h1, h2, h3, h4⟩
    · cases h with
      | dct h n q => exact ⟨_, _, rfl, h, q⟩
    · cases h3
      obtain ⟨xs, h5, h6⟩ := h4
      exact ⟨a, xs, h1, h5, h6⟩
  | ref n =>
    rcases h with h | ⟨a, o, h1, h2, h3, h4⟩
    · cases h with
      | @ref a n h =>
        unfold asD at e
        dsimp only at e
        split at e
        · rename_i es he
          cases e
          obtain ⟨xs, h5, h6⟩ := s.obj n a _ h he
          exact ⟨a, xs, rfl, h5, h6⟩
        · cases e
    · cases h3
  | _ => cases e
/-- what an expression comes to, and what is wanted behind it -/
def OK (T : Tx) (Mb : AP') (ow : List (Option Addr)) (W : WX) (σ : L2.St) {α : Type} (r : List Addr) (H : Hp) (x : Res α) (Q : List Addr → Hp → α → Store → Prop) : Prop :=
  match x with
  | .ok a st' => ∀ r' H', Nx r H r' H' → StR T.toTb (Ms Mb r' ow) r' H' st' → Q r' H' a st'
  | .exn x st' => ∀ r' H' cls d, Nx r H r' H' → StR T.toTb (Ms Mb r' ow) r' H' st' → ExcR T H' (Ms Mb r' ow) r' x cls d → W cls d σ H'
  | .bad => False
theorem OK.imp {W : WX} {α : Type} {x : Res α} {Q Q' : List Addr → Hp → α → Store → Prop} (h : OK T Mb ow W σ r H x Q) (f : ∀ r' H' a st', Nx r H r' H' → StR T.toTb (Ms Mb r' ow) r' H' st' → Q r' H' a st' → Q' r' H' a st') : OK T Mb ow W σ r H x Q' := by
  cases x with
  | ok a st' => exact fun r' H' n s => f r' H' a st' n s (h r' H' n s)
  | exn x st' => exact h
  | bad => exact h
theorem OK.bind {W : WX} {α β : Type} {x : Res α} {k : α → Store → Res β} {Q : List Addr → Hp → β → Store → Prop} (h : OK T Mb ow W σ r H (x.bind k) Q) : OK T Mb ow W σ r H x fun r1 H1 a st1 => OK T Mb ow W σ r1 H1 (k a st1) Q := by
  cases x with
  | ok a st1 =>
    intro r1 H1 n s
    have h1 : OK T Mb ow W σ r H (k a st1) Q := h
    revert h1
    generalize k a st1 = y
    cases y with
    | ok b st2 => exact fun h1 r2 H2 n2 s2 => h1 r2 H2 (n.trans n2) s2
    | exn x st2 => exact fun h1 r2 H2 cls d n2 s2 e => h1 r2 H2 cls d (n.trans n2) s2 e
    | bad => exact fun h1 => h1
  | exn x st' => exact h
  | bad => exact h
theorem OK.opt {W : WX} {α : Type} {x : Option α} {Q : List Addr → Hp → α → Store → Prop} (h : OK T Mb ow W σ r H (Res.opt x st) Q) : ∃ a, x = some a ∧ OK T Mb ow W σ r H (.ok a st) Q := by
  cases x with
  | some a => exact ⟨a, rfl, h⟩
  | none => exact h.elim
/-- an answer at once -/
theorem OK.now {W : WX} {α : Type} {a : α} {Q : List Addr → Hp → α → Store → Prop} (h : OK T Mb ow W σ r H (.ok a st) Q) (s : StR T.toTb (Ms Mb r ow) r H st) : Q r H a st := h r H Nx.same s
/-- .. with a new object that is none of the store's -/
theorem OK.new {W : WX} {α : Type} {a : α} {Q : List Addr → Hp → α → Store → Prop} (h : OK T Mb ow W σ r H (.ok a st) Q) (s : StR T.toTb (Ms Mb r ow) r H st) {p : Addr} {o : HO} (hp : H p = none) : Q r (upd H p o) a st := h r _ (Nx.new hp) (s.new hp)
/-- a new list, a new tuple: a datum -/
theorem Rep.newL {p : Addr} {xs : List V} {ds : List D} (s : StR T.toTb (Ms Mb r ow) r H st) (hp : H p = none) (q : RepL T.toTb H (Ms Mb r ow) r xs ds) : Rep T.toTb (upd H p (.lst xs)) (Ms Mb r ow) r (.ref p) (.lst ds) :=
  .lst upd_same (s.free hp) (q.mono (Nx.new hp).grow)
theorem Rep.newT {p : Addr} {xs : List V} {ds : List D} (s : StR T.toTb (Ms Mb r ow) r H st) (hp : H p = none) (q : RepL T.toTb H (Ms Mb r ow) r xs ds) : Rep T.toTb (upd H p (.tup xs)) (Ms Mb r ow) r (.ref p) (.tup ds) :=
  .tup upd_same (s.free hp) (q.mono (Nx.new hp).grow)
theorem Rep.newK {p : Addr} {xs : List (Key × V)} {ds : List (KD × D)} (s : StR T.toTb (Ms Mb r ow) r H st) (hp : H p = none) (q : RepK T.toTb H (Ms Mb r ow) r xs ds) : Rep T.toTb (upd H p (.dK xs)) (Ms Mb r ow) r (.ref p) (.dct ds) :=
  .dct upd_same (s.free hp) (q.mono (Nx.new hp).grow)
end
end Iv
end
section
set_option Elab.async false
set_option linter.all false
set_option maxRecDepth 100000
set_option maxHeartbeats 4000000
/-! Refusals held as values: known objects, str of them. -/
namespace Iv
open PySem PySem.Spec PySem.Calls PyProof.Rows L2
section
variable {P : Program} {w : World} {H : Hp} {h h' : Heap} {a t : Addr} {ob : Obj} {o1 o2 : HO}
theorem obx_ok (e : h.get? a = some ob) : ObjOk P w H h a (obx a ob) := ⟨e, ⟨_, e⟩, fun _ _ q k => k _ q⟩
theorem obx_at (hok : HOk P w H h) (e : H a = some (obx a ob)) : h.get? a = some ob := by
  have x : ObjOk P w H h a (.ext fun h => h.get? a = some ob) := hok a _ e
  exact x.1
theorem tup_ok {xs : List V} {us : List Value} (e : h.get? a = some { cls := .type "tuple", data := .seq us.toArray }) (r : Vals xs us) (hl : xs.length ≤ sizeLine) : ObjOk P w H h a (.tup xs) := ⟨hl, us, r, _, e, rfl, _, rfl⟩
theorem xd_ok {fs : List (Str × V)} {mA : Str → Option Value} (hn : h.Ns1 a mA) (r : ∀ f, RelO (fs.lookup f) (mA f)) : ObjOk P w H h a (.xd fs) := ⟨mA, hn, r⟩
end
/-- str(e) -/
theorem call_str_exc {X : Cx} {pins : List (Addr × Obj)} {s : Shared} {σ : L2.St} {H : Hp} {Q : VK} {a D tt : Addr} {d : Option Addr} {l : List Nat} (I : L2.Inv X pins σ H s) (hu : X.A.units + 2 < cLine) (C : XcD X.K D) (h1 : H a = some (obx a (exOb D d tt))) (h2 : H tt = some (.tup [.str (mkS l)])) (q : Q (.str (mkS l)) H) :
    wpAny (model X.prog X.w) X.A (call (.type "str") [.ref a]) (EP X pins σ Q) X.xe s := by
  obtain ⟨_, its, r, o, n, ho, hc, hd⟩ : ObjOk X.prog X.w H s.heap tt (.tup [.str (mkS l)]) := I.hok tt _ h2
  cases r with
  | @cons _ u _ _ ru rn =>
    cases rn
    obtain ⟨tk, rfl⟩ := ru
    exact PySem.P.str_of_C_one hu ⟨I.kIn, _, _, obx_at I.hok h1, rfl, rfl, rfl⟩ ⟨o, _, n, ho, hd⟩ C.str C.hs ⟨.str (mkS l), H, I, ⟨tk, rfl⟩, q⟩
end Iv
end
section
set_option Elab.async false
set_option linter.all false
set_option maxRecDepth 100000
set_option maxHeartbeats 1000000
/-! The interpreter's operations are the layer's. -/
namespace Iv
open PySem L2
theorem line_eq : (line : Nat) = sizeLine := by rw [sizeLine_eq]; rfl
theorem mkS_len (l : List Nat) : (mkS l).length = l.length := by simp [mkS, Str.length]
theorem mkS_app (a b : List Nat) : mkS a ++ mkS b = mkS (a ++ b) := by
  show Str.append _ _ = _
  simp [mkS, Str.append]
theorem unS_mkS (l : List Nat) : unS (mkS l) = l := by simp [mkS, unS]
theorem mkS_unS (s : Str) : mkS (unS s) = s := by
  cases s; simp [mkS, unS]
section
variable {T : Tx} {pe : Pe} {Mb : AP'} {r r' r'' : List Addr} {ow : List (Option Addr)} {H H' H'' : Hp} {st st' : Store} {σ : L2.St} {env : Env} {M : AP'} {v : V}
theorem RepP.ref {n : Nat} (h : RepP T.toTb H M r v (.ref n)) : ∃ a, v = .ref a ∧ r[n]? = some a := by
  rcases h with h | ⟨a, o, _, _, h3, _⟩
  · cases h with
    | ref h => exact ⟨_, rfl, h⟩
  · cases h3
/-- one more that is written -/
def Mp (Mb : AP') (p : Addr) : AP' := fun a => Mb a ∨ a = p
theorem RepP.int {i : Int} (h : RepP T.toTb H M r v (.int i)) : v = .int i := by
  rcases h with h | ⟨a, o, _, _, h3, _⟩
  · cases h; rfl
  · cases h3
theorem RepP.bl {b : Bool} (h : RepP T.toTb H M r v (.bl b)) : v = .bl b := by
  rcases h with h | ⟨a, o, _, _, h3, _⟩
  · cases h; rfl
  · cases h3
theorem RepP.non (h : RepP T.toTb H M r v .non) : v = .non := by
  rcases h with h | ⟨a, o, _, _, h3, _⟩
  · cases h; rfl
  · cases h3
theorem RepP.str {l : List Nat} (h : RepP T.toTb H M r v (.str l)) : v = .str (mkS l) := by
  rcases h with h | ⟨a, o, _, _, h3, _⟩
  · cases h; rfl
  · cases h3
theorem RepP.tup {ds : List D} (h : RepP T.toTb H M r v (.tup ds)) : ∃ a xs, v = .ref a ∧ SqT T.K H a xs ∧ RepL T.toTb H M r xs ds ∧ Rep T.toTb H M r v (.tup ds) := by
  rcases h with h | ⟨a, o, _, _, h3, _⟩
  · have h' := h
    cases h with
    | tup h n q => exact ⟨_, _, rfl, SqT.of h, q, h'⟩
    | tupC h q => exact ⟨_, _, rfl, h _, q, h'⟩
  · cases h3
/-- what is wanted of a value -/
abbrev Post (T : Tx) (Mb : AP') (ow : List (Option Addr)) (Q : VK) : List Addr → Hp → D → Store → Prop := fun r' H' z _ => ∀ v, Rep T.toTb H' (Ms Mb r' ow) r' v z → Q v H'
def rOp2 (T : Tx) (f : D → D → Store → Res D) : R2 := fun x y H Q => ∃ (Mb : AP') (r : List Addr) (ow : List (Option Addr)) (st : Store) (d e : D) (W : WX) (σ : L2.St),
  StR T.toTb (Ms Mb r ow) r H st ∧ RepP T.toTb H (Ms Mb r ow) r x d ∧ RepP T.toTb H (Ms Mb r ow) r y e ∧ OK T Mb ow W σ r H (f d e st) (Post T Mb ow Q)
def rOp1 (T : Tx) (f : D → Store → Res D) : V → Hp → VK → Prop := fun x H Q => ∃ (Mb : AP') (r : List Addr) (ow : List (Option Addr)) (st : Store) (d : D) (W : WX) (σ : L2.St),
  StR T.toTb (Ms Mb r ow) r H st ∧ RepP T.toTb H (Ms Mb r ow) r x d ∧ OK T Mb ow W σ r H (f d st) (Post T Mb ow Q)
end
section
variable {X : Cx} {T : Tx}
theorem or_add (hK : T.K = X.K) : OpR X (binaryOp .Add) (rOp2 T opAdd) := by
  intro pins s σ H x y v u Q I rx ry h
  obtain ⟨Mb, r, ow, st, d, e, W, σ', S, hx, hy, h⟩ := h
  have seqs : (match asL d st, asL e st with
    | some a, some b => if a.length + b.length ≤ line then Res.ok (D.lst (a ++ b)) st else .bad
    | _, _ => .bad) = opAdd d e st → wpAny (model X.prog X.w) X.A (binaryOp .Add v u) (EP X pins σ Q) X.xe s := fun eq => by
    rw [← eq] at h
    split at h
    · rename_i a b ha hb
      obtain ⟨p, xs, rfl, h1, q1⟩ := hx.list S ha
      obtain ⟨p2, ys, rfl, h2, q2⟩ := hy.list S hb
      split at h
      · rename_i hl
        refine op_cat pins s σ H _ _ v u Q I rx ry ⟨p, p2, xs, ys, rfl, rfl, h1, h2, by rw [q1.len, q2.len, ← line_eq]; exact hl, fun t ht => ?_⟩
        exact h.new S ht _ (Rep.newL S ht (q1.app q2))
      · exact h.elim
    · exact h.elim
  cases d with
  | int i =>
    cases e with
    | int j =>
      cases hx.int; cases hy.int
      exact op_add pins s σ H _ _ v u Q I rx ry ⟨i, j, rfl, rfl, h.now S _ (.int _)⟩
    | _ => exact seqs rfl
  | str a =>
    cases e with
    | str b =>
      cases hx.str; cases hy.str
      unfold opAdd at h
      dsimp only at h
      split at h
      · rename_i hl
        refine op_add_str pins s σ H _ _ v u Q I rx ry ⟨_, _, rfl, rfl, by rw [mkS_len, mkS_len, ← line_eq]; exact hl, ?_⟩
        rw [mkS_app]
        exact h.now S _ (.str _)
      · exact h.elim
    | _ => exact seqs rfl
  | tup a =>
    cases e with
    | tup b =>
      obtain ⟨p, xs, rfl, h1, q1, w1⟩ := hx.tup
      obtain ⟨p2, ys, rfl, h2, q2, w2⟩ := hy.tup
      unfold opAdd at h
      dsimp only at h
      split at h
      · rename_i hl
        refine op_catA pins s σ H _ _ v u Q I rx ry ⟨p, p2, xs, ys, rfl, rfl, hK ▸ h1, hK ▸ h2, by rw [q1.len, q2.len, ← line_eq]; exact hl, fun e => ?_, fun _ e => ?_, fun _ _ t ht => ?_⟩
        · subst e
          cases q1
          exact h.now S _ w2
        · subst e
          cases q2
          rw [List.append_nil] at h
          exact h.now S _ w1
        · exact h.new S ht _ (Rep.newT S ht (q1.app q2))
      · exact h.elim
    | _ => exact seqs rfl
  | _ => exact seqs (by cases e <;> rfl)
theorem or_sub : OpR X (binaryOp .Sub) (rOp2 T opSub) := by
  intro pins s σ H x y v u Q I rx ry h
  obtain ⟨Mb, r, ow, st, d, e, W, σ', S, hx, hy, h⟩ := h
  unfold opSub at h
  split at h
  · rename_i i j
    cases hx.int; cases hy.int
    exact op_sub pins s σ H _ _ v u Q I rx ry ⟨i, j, rfl, rfl, h.now S _ (.int _)⟩
  · exact h.elim
theorem mulOk_ok {i j : Int} (h : mulOk i j = true) : CMul i j ∨ CMulW i j := by
  unfold mulOk at h
  simp only [Bool.or_eq_true, Bool.and_eq_true, decide_eq_true_eq] at h
  rcases h with h | h | h
  · exact .inl (.inl h)
  · exact .inl (.inr h)
  · exact .inr h
theorem rep_flat (k : Nat) (a : List Nat) : (List.replicate k (mkS a).cps).foldl (· ++ ·) #[] = (List.replicate k a).flatten.toArray := by
  have gen : ∀ (k : Nat) (acc : List Nat), (List.replicate k (mkS a).cps).foldl (· ++ ·) acc.toArray = (acc ++ (List.replicate k a).flatten).toArray := by
    intro k
    induction k with
    | zero => intro acc; simp
    | succ k ih =>
      intro acc
      rw [List.replicate_succ, List.foldl_cons]
      have e : acc.toArray ++ (mkS a).cps = (acc ++ a).toArray := by simp [mkS]
      rw [e, ih, List.replicate_succ, List.flatten_cons, List.append_assoc]
  have := gen k []
  simpa using this
theorem txt_mul (a : List Nat) (k : Int) : Txt.mul (mkS a) k = mkS (List.replicate k.toNat a).flatten := by
  unfold Txt.mul
  by_cases h1 : k < 1
  · have e : k.toNat = 0 := by omega
    rw [if_pos h1, e]; rfl
  · rw [if_neg h1]
    split
    · rename_i h
      rw [Bool.or_eq_true] at h
      rcases h with h | h
      · have e : k = 1 := by simpa using h
        subst e
        show mkS a = mkS (List.replicate 1 a).flatten
        simp
      · have e : a = [] := by
          have : (mkS a).length = 0 := by simpa using h
          rw [mkS_len] at this
          exact List.length_eq_zero_iff.mp this
        subst e
        congr 1
        have : ∀ n : Nat, (List.replicate n ([] : List Nat)).flatten = [] := fun n => by induction n with
          | zero => rfl
          | succ n ih => rw [List.replicate_succ, List.flatten_cons, ih]; rfl
        rw [this]
    · rw [rep_flat]; rfl
theorem or_mul (hK : T.K = X.K) : OpR X (binaryOp .Mult) (rOp2 T opMul) := by
  intro pins s σ H x y v u Q I rx ry h
  obtain ⟨Mb, r, ow, st, d, e, W, σ', S, hx, hy, h⟩ := h
  unfold opMul at h
  split at h
  · rename_i i j
    cases hx.int; cases hy.int
    split at h
    · rename_i hm
      rcases mulOk_ok hm with hm | hm
      · exact op_mul pins s σ H _ _ v u Q I rx ry ⟨i, j, rfl, rfl, hm, h.now S _ (.int _)⟩
      · exact op_mulW pins s σ H _ _ v u Q I rx ry ⟨i, j, rfl, rfl, hm, h.now S _ (.int _)⟩
    · exact h.elim
  · rename_i a k
    cases hx.str; cases hy.int
    split at h
    · rename_i hm
      unfold repOk at hm
      simp only [Bool.and_eq_true, decide_eq_true_eq] at hm
      obtain ⟨h0, h1, h2⟩ := hm
      obtain ⟨t, rfl⟩ := rx
      obtain ⟨t', rfl⟩ := ry
      have hl : a.length * k.toNat ≤ 16777216 := h1
      refine SB.mul (x := mkS a) ⟨?_, fun h3 h4 => ?_, fun h3 h4 => ?_⟩ fun t2 tk => ?_
      · rw [Bool.or_eq_false_iff]
        exact ⟨decide_eq_false (by omega), decide_eq_false (by omega)⟩
      · rw [mkS_len]
        have hk : 0 < k := by omega
        have e1 : (a.length : Int) * k ≤ 16777216 := by
          have h5 : ((a.length * k.toNat : Nat) : Int) ≤ ((16777216 : Nat) : Int) := Int.ofNat_le.mpr hl
          rw [Int.natCast_mul, Int.toNat_of_nonneg h0] at h5
          exact h5
        have e2 : (a.length : Int) ≤ (2 ^ 63 - 1) / k := by
          rw [Int.le_ediv_iff_mul_le hk]
          omega
        omega
      · rw [mkS_len]
        unfold PySem.Builtin.Str.tooLong
        have := sizeLine_eq
        first
          | exact decide_eq_false (by omega)
          | (simp only [decide_eq_false_iff_not]; omega)
      · rw [txt_mul]
        exact ⟨.str _, H, I.tok _, ⟨_, rfl⟩, h.now S _ (.str _)⟩
    · exact h.elim
  · rename_i k hno1 hno2
    cases hy.int
    split at h
    · rename_i a ha
      obtain ⟨p, xs, rfl, h1, q1⟩ := hx.list S ha
      split at h
      · rename_i hm
        unfold repOk at hm
        simp only [Bool.and_eq_true, decide_eq_true_eq] at hm
        obtain ⟨h0, h2, h3⟩ := hm
        refine op_rep pins s σ H _ _ v u Q I rx ry ⟨p, k, xs, rfl, rfl, h1, by omega, by omega, by rw [q1.len, ← line_eq]; exact h2, fun t ht => ?_⟩
        exact h.new S ht _ (Rep.newL S ht (q1.rep _))
      · exact h.elim
    · exact h.elim
  · exact h.elim
theorem or_fdiv : OpR X (binaryOp .FloorDiv) (rOp2 T opFdiv) := by
  intro pins s σ H x y v u Q I rx ry h
  obtain ⟨Mb, r, ow, st, d, e, W, σ', S, hx, hy, h⟩ := h
  unfold opFdiv at h
  split at h
  · rename_i i j
    cases hx.int; cases hy.int
    split at h
    · rename_i hm
      simp only [Bool.and_eq_true, decide_eq_true_eq] at hm
      obtain ⟨h0, h1⟩ := hm
      obtain ⟨t, rfl⟩ := rx
      obtain ⟨t', rfl⟩ := ry
      refine PyProof.Rows.floordiv_int h0 ?_ (.inl (PyProof.noPylong_of_log2 h1))
      have e : (if 0 < j then i / j else Int.fdiv i j) = Int.fdiv i j := by
        split
        · rename_i hj
          rw [Int.fdiv_eq_ediv_of_nonneg i (by omega)]
        · rfl
      rw [e] at h
      exact ⟨.int _, H, I.tok _, ⟨_, rfl⟩, h.now S _ (.int _)⟩
    · exact h.elim
  · exact h.elim
theorem or_mod : OpR X (binaryOp .Mod) (rOp2 T opMod) := by
  intro pins s σ H x y v u Q I rx ry h
  obtain ⟨Mb, r, ow, st, d, e, W, σ', S, hx, hy, h⟩ := h
  unfold opMod at h
  split at h
  · rename_i i j
    cases hx.int; cases hy.int
    split at h
    · rename_i hm
      exact op_mod pins s σ H _ _ v u Q I rx ry ⟨i, j, rfl, rfl, hm, h.now S _ (.int _)⟩
    · exact h.elim
  · exact h.elim
theorem or_shl : OpR X (binaryOp .LShift) (rOp2 T opShl) := by
  intro pins s σ H x y v u Q I rx ry h
  obtain ⟨Mb, r, ow, st, d, e, W, σ', S, hx, hy, h⟩ := h
  unfold opShl at h
  split at h
  · rename_i i j
    cases hx.int; cases hy.int
    split at h
    · rename_i hm
      simp only [Bool.and_eq_true, decide_eq_true_eq] at hm
      exact op_shl pins s σ H _ _ v u Q I rx ry ⟨i, j, rfl, rfl, ⟨hm.1, hm.2.1, hm.2.2⟩, h.now S _ (.int _)⟩
    · exact h.elim
  · exact h.elim
def pyOp : BOp → Operator
  | .add => .Add
  | .sub => .Sub
  | .mul => .Mult
  | .fdiv => .FloorDiv
  | .mod => .Mod
  | .shl => .LShift
theorem or_bin (hK : T.K = X.K) : ∀ op : BOp, OpR X (binaryOp (pyOp op)) (rOp2 T (opBin op))
  | .add => or_add hK
  | .sub => or_sub
  | .mul => or_mul hK
  | .fdiv => or_fdiv
  | .mod => or_mod
  | .shl => or_shl
end
end Iv
end
section
set_option Elab.async false
set_option linter.all false
set_option maxRecDepth 100000
set_option maxHeartbeats 1000000
/-! Comparisons. -/
namespace Iv
open PySem L2
mutual
def D.py : D → PyData
  | .non => .none
  | .bl b => .bool b
  | .int i => .int i
  | .str l => .str (mkS l)
  | .tup ds => .tuple (D.pyL ds)
  | .lst ds => .list (D.pyL ds)
  | .dct _ => .none
  | .scr ns => .list (ns.map PyData.int)
  | .ref _ => .none
def D.pyL : List D → List PyData
  | [] => []
  | d :: ds => D.py d :: D.pyL ds
end
mutual
theorem D.lay : ∀ d : D, d.plain = true → d.py.canLay0 = true
  | .non, _ => rfl
  | .bl _, _ => rfl
  | .int _, _ => rfl
  | .str l, h => by
    simp only [D.plain, List.all_eq_true, decide_eq_true_eq] at h
    show (l.toArray.all fun c => decide (c < 0x110000)) = true
    rw [List.all_toArray, List.all_eq_true]
    intro c hc
    exact decide_eq_true (h c hc)
  | .tup ds, h => by
    rw [D.py, PyData.canLay0]
    exact D.layL ds h
  | .lst ds, h => by
    rw [D.py, PyData.canLay0]
    exact D.layL ds h
  | .dct _, h => by cases h
  | .scr _, h => by cases h
  | .ref _, h => by cases h
theorem D.layL : ∀ ds : List D, D.plainL ds = true → PyData.canLayAll0 (D.pyL ds) = true
  | [], _ => rfl
  | d :: ds, h => by
    rw [D.plainL, Bool.and_eq_true] at h
    rw [D.pyL, PyData.canLayAll0, D.lay d h.1, D.layL ds h.2]; rfl
end
mutual
theorem D.dep : ∀ d : D, d.plain = true → d.py.depth = d.depth
  | .non, _ => rfl
  | .bl _, _ => rfl
  | .int _, _ => rfl
  | .str _, _ => rfl
  | .tup ds, h => by
    rw [D.py, PyData.depth, D.depth, D.depL ds h]
  | .lst ds, h => by
    rw [D.py, PyData.depth, D.depth, D.depL ds h]
  | .dct _, h => by cases h
  | .scr _, h => by cases h
  | .ref _, h => by cases h
theorem D.depL : ∀ ds : List D, D.plainL ds = true → PyData.depthAll (D.pyL ds) = D.depthL ds
  | [], _ => rfl
  | d :: ds, h => by
    rw [D.plainL, Bool.and_eq_true] at h
    rw [D.pyL, PyData.depthAll, D.depthL, D.dep d h.1, D.depL ds h.2]
end
theorem beq_mkS (a b : List Nat) : (mkS a == mkS b) = (a == b) := by
  rw [Bool.eq_iff_iff, beq_iff_eq, beq_iff_eq]
  exact mkS_iff
mutual
theorem D.eqvPy : ∀ d e : D, d.plain = true → e.plain = true → PyData.eqv d.py e.py = d.eqv e
  | .non, e, _, h => by cases e <;> first | rfl | cases h
  | .bl a, e, _, h => by cases e <;> first | rfl | cases h
  | .int a, e, _, h => by cases e <;> first | rfl | cases h
  | .str a, e, _, h => by
    cases e <;> first | rfl | cases h | skip
    simp only [D.py, PyData.eqv, D.eqv]
    exact beq_mkS _ _
  | .tup ds, e, h1, h => by
    cases e <;> first | rfl | cases h | skip
    rename_i es
    simp only [D.py, PyData.eqv, D.eqv]
    exact D.eqvPyL ds es h1 h
  | .lst ds, e, h1, h => by
    cases e <;> first | rfl | cases h | skip
    rename_i es
    simp only [D.py, PyData.eqv, D.eqv]
    exact D.eqvPyL ds es h1 h
  | .dct _, _, h, _ => by cases h
  | .scr _, _, h, _ => by cases h
  | .ref _, _, h, _ => by cases h
theorem D.eqvPyL : ∀ ds es : List D, D.plainL ds = true → D.plainL es = true → PyData.eqvAll (D.pyL ds) (D.pyL es) = D.eqvL ds es
  | [], [], _, _ => rfl
  | [], _ :: _, _, _ => rfl
  | _ :: _, [], _, _ => rfl
  | d :: ds, e :: es, h1, h2 => by
    rw [D.plainL, Bool.and_eq_true] at h1 h2
    simp only [D.pyL, PyData.eqvAll, D.eqvL]
    rw [D.eqvPy d e h1.1 h2.1, D.eqvPyL ds es h1.2 h2.2]
end
section
variable {T : Tx} {pe : Pe} {Mb : AP'} {r r' r'' : List Addr} {ow : List (Option Addr)} {H H' H'' : Hp} {st st' : Store} {σ : L2.St} {env : Env} {M : AP'} {v : V}
mutual
theorem dp_of : ∀ (d : D) (v : V), Rep T.toTb H M r v d → d.plain = true → Dp T.K H v d.py
  | .non, _, h, _ => by cases h; exact .non
  | .bl b, _, h, _ => by cases h; exact .bl b
  | .int i, _, h, _ => by cases h; exact .int i
  | .str l, _, h, _ => by cases h; exact .str _
  | .tup ds, _, h, p => by
    rw [D.py]
    cases h with
    | tup h n q => exact .tup (SqT.of h) (dp_ofL ds _ q p)
    | tupC h q => exact .tup (h _) (dp_ofL ds _ q p)
  | .lst ds, _, h, p => by
    rw [D.py]
    cases h with
    | lst h n q => exact .lst (SqL.of h) (dp_ofL ds _ q p)
  | .dct _, _, _, h => by cases h
  | .scr _, _, _, h => by cases h
  | .ref _, _, _, h => by cases h
theorem dp_ofL : ∀ (ds : List D) (vs : List V), RepL T.toTb H M r vs ds → D.plainL ds = true → DpAll T.K H vs (D.pyL ds)
  | [], _, h, _ => by cases h; exact .nil
  | d :: ds, _, h, p => by
    rw [D.plainL, Bool.and_eq_true] at p
    cases h with
    | cons h q => exact .cons (dp_of d _ h p.1) (dp_ofL ds _ q p.2)
end
theorem dp_ref (S : StR T.toTb (Ms Mb r ow) r H st) {d : D} (h : RepP T.toTb H (Ms Mb r ow) r v d) (p : (deref d st).plain = true) : Dp T.K H v (deref d st).py := by
  unfold deref at p ⊢
  split at p
  · rename_i n
    split at p
    · rename_i ds e
      obtain ⟨a, xs, rfl, h1, q⟩ := h.list S (show asL (.ref n) st = some ds by simp only [asL, e])
      exact .lst (SqL.of h1) (dp_ofL ds xs q p)
    · cases p
  · rename_i hd
    rcases h with h | ⟨a, o, rfl, h2, h3, h4⟩
    · exact dp_of d _ h p
    · cases d with
      | lst ds =>
        cases h3
        obtain ⟨xs, h5, h6⟩ := h4
        exact .lst (SqL.of h5) (dp_ofL ds xs h6 p)
      | dct kv => cases p
      | _ => cases h3
theorem scr_rep {ns : List Int} (h : RepP T.toTb H M r v (.scr ns)) : ∃ a, v = .ref a ∧ SqL T.K H a (ns.map V.int) := by
  rcases h with h | ⟨a, o, _, _, h3, _⟩
  · cases h with
    | scr h n => exact ⟨_, rfl, .inl h⟩
    | scrC h => exact ⟨_, rfl, h _⟩
  · cases h3
end
section
variable {X : Cx} {T : Tx}
theorem dpInts {K : PySem.W.Frag} {H : Hp} : ∀ ns : List Int, DpAll K H (ns.map V.int) (ns.map PyData.int)
  | [] => .nil
  | n :: ns => .cons (.int n) (dpInts ns)
theorem layInts : ∀ ns : List Int, PyData.canLayAll0 (ns.map PyData.int) = true
  | [] => rfl
  | n :: ns => by rw [List.map_cons, PyData.canLayAll0, layInts ns]; rfl
/-- == and != by what they tell of data -/
theorem eq_any (hK : T.K = X.K) (hu : X.A.units + 1000 < cLine) {pins : List (Addr × Obj)} {s : Shared} {σ : L2.St} {H : Hp} {x y : V} {v u : Value} (I : Inv X pins σ H s) (rx : RelV x v) (ry : RelV y u)
    {Mb : AP'} {r : List Addr} {ow : List (Option Addr)} {st : Store} {d e : D} (S : StR T.toTb (Ms Mb r ow) r H st) (hx : RepP T.toTb H (Ms Mb r ow) r x d) (hy : RepP T.toTb H (Ms Mb r ow) r y e) {b : Bool}
    (h : (deref d st).eq? (deref e st) = some b) {Q : Value → Shared → Prop} {E : Value → Shared → Prop} :
    (Q (.bool b) s → wpAny (model X.prog X.w) X.A (compareOp .Eq v u) Q E s) ∧ (Q (.bool (!b)) s → wpAny (model X.prog X.w) X.A (compareOp .NotEq v u) Q E s) := by
  unfold D.eq? at h
  split at h
  · rename_i ns e1 e2
    have hb := Option.some.inj h
    have d1 : d = .scr ns := by
      unfold deref at e1
      split at e1
      · split at e1 <;> cases e1
      · exact e1
    subst d1
    obtain ⟨a, rfl, ha⟩ := scr_rep hx
    have dy : Dp T.K H y (deref e st).py := dp_ref S hy (by rw [e2]; rfl)
    rw [e2] at dy
    have dx : Dp T.K H (.ref a) (.list (ns.map PyData.int)) := .lst ha (dpInts ns)
    rw [hK] at dx dy
    obtain ⟨as, r1⟩ := Dp.reads I _ _ _ dx rx
    obtain ⟨bs, r2⟩ := Dp.reads I _ _ _ dy ry
    have l1 : (PyData.list (ns.map PyData.int)).canLay0 = true := layInts ns
    have hd : X.A.units + min (PyData.list (ns.map PyData.int)).depth (D.py (.lst [])).depth < cLine := by
      have : (D.py (.lst [])).depth = 1 := rfl
      rw [this]
      have := Nat.min_le_right (PyData.list (ns.map PyData.int)).depth 1
      omega
    have ev : PyData.eqv (PyData.list (ns.map PyData.int)) (D.py (.lst [])) = b := by
      rw [← hb]
      cases ns <;> rfl
    rw [← ev]
    exact ⟨fun q => SeqAt.compareEq_reads r1 r2 l1 rfl hd q, fun q => SeqAt.compareNe_reads r1 r2 l1 rfl hd q⟩
  · rename_i a b' e1 e2
    have hb := Option.some.inj h
    have d1 : d = .str a := by
      unfold deref at e1
      split at e1
      · split at e1 <;> cases e1
      · exact e1
    have d2 : e = .str b' := by
      unfold deref at e2
      split at e2
      · split at e2 <;> cases e2
      · exact e2
    subst d1; subst d2
    cases hx.str; cases hy.str
    obtain ⟨t, rfl⟩ := rx
    obtain ⟨t', rfl⟩ := ry
    have : (mkS a == mkS b') = b := by rw [beq_mkS]; exact hb
    rw [← this]
    exact ⟨fun q => PyProof.Rows.eq_str q, fun q => PyProof.Rows.ne_str q⟩
  · split at h
    · rename_i hp
      simp only [Bool.and_eq_true, decide_eq_true_eq] at hp
      obtain ⟨p1, p2, p3⟩ := hp
      have dx := dp_ref S hx p1
      have dy := dp_ref S hy p2
      rw [hK] at dx dy
      obtain ⟨as, r1⟩ := Dp.reads I _ _ _ dx rx
      obtain ⟨bs, r2⟩ := Dp.reads I _ _ _ dy ry
      have hd : X.A.units + min (deref d st).py.depth (deref e st).py.depth < cLine := by
        rw [D.dep _ p1, D.dep _ p2]
        omega
      have ev : PyData.eqv (deref d st).py (deref e st).py = b := by
        rw [D.eqvPy _ _ p1 p2]
        exact Option.some.inj h
      rw [← ev]
      exact ⟨fun q => SeqAt.compareEq_reads r1 r2 (D.lay _ p1) (D.lay _ p2) hd q, fun q => SeqAt.compareNe_reads r1 r2 (D.lay _ p1) (D.lay _ p2) hd q⟩
    · cases h
end
end Iv
end
section
set_option Elab.async false
set_option linter.all false
set_option maxRecDepth 100000
/-! an instance of an own class, which has no own ==, beside a text -/
namespace Iv
open PySem PySem.Calls
open Builtin
section
variable {prog : Program} {w : World} {A : Around} {E : Value → Shared → Prop} {h : Heap} {g : Array GenState} {d : Drawn} {t : Nat} {os : OsState}
variable {C x : Addr} {bm : List Value} {B : String} {y : Str} {u : Tok}
theorem oeq_str {M : Model} {s : Shared} {Q : Fin → Shared → Prop} (hq : Q (.done (.ret .notImplemented)) s) : wpAny M A (Builtin.«object.__eq__» ⟨[.ref x, .str y u], []⟩) Q E s := by
  unfold Builtin.«object.__eq__»
  repeat (first | (with_reducible refine wpAny_of_eq (rfl : isSame (.ref x) (.str y u) = pure false) ?_) | wp_step)
  exact hq
/-- no == of its own -/
structure EqO (K : PySem.W.Frag) (C : Addr) : Prop where
  eq : PySem.W.findIn K (.ref C) "__eq__" = some (some (.builtin "object.__eq__"))
  ob : PySem.W.mroIn K C (.type "object") = some true
variable {K : PySem.W.Frag} {s : Shared} {dx : Addr}
theorem special_ins {M : Model} (KX : K.In s.heap) (hx : s.heap.get? x = some (PySem.W.instObj C dx)) (e : EqO K C) {Q : Option Value → Shared → Prop} (hq : Q (some (.builtin "object.__eq__")) s) : wpAny M A (specialOf (.ref x) "__eq__") Q E s := by
  unfold specialOf
  refine wpAny_bind ?_
  simp only [typeOf]
  refine wpAny_bind (wpAny_load hx (wpAny_pure ?_))
  exact (PySem.W.looks_findIn KX e.eq) A Q E s (fun _ _ z => z) hq
theorem check_ins {M : Model} (KX : K.In s.heap) (hx : s.heap.get? x = some (PySem.W.instObj C dx)) (e : EqO K C) {Q : Unit → Shared → Prop} (hq : Q () s) : wpAny M A (checkBuiltinCall "object.__eq__" ⟨[.ref x, .str y u], []⟩) Q E s := by
  simp only [checkBuiltinCall, F.cmpKind_eq, F.cmpSplit_eq]
  refine wpAny_bind ?_
  unfold isInstance
  refine wpAny_bind ?_
  simp only [typeOf]
  refine wpAny_bind (wpAny_load hx (wpAny_pure ?_))
  refine (PySem.W.looks_mroIn KX e.ob) A _ E s (fun _ _ z => z) ?_
  have ha := F.cmpArgs_eq (.ref x) (.str y u)
  cases g : Manifest.signature? "object.__eq__" with
  | none => exact wpAny_pure hq
  | some sg =>
    simp only [argsOk, g] at ha
    have z : Bind.checkArgs "object.__eq__" sg ⟨[.ref x, .str y u], []⟩ = pure () := ha
    show wpAny M A (Bind.checkArgs "object.__eq__" sg ⟨[.ref x, .str y u], []⟩) Q E _
    rw [z]; exact wpAny_pure hq
theorem try_ins (KX : K.In s.heap) (hx : s.heap.get? x = some (PySem.W.instObj C dx)) (e : EqO K C) {Q : Option Value → Shared → Prop} (hq : Q none s) : wpAny (model prog w) A (tryCompare (.ref x) "__eq__" (.str y u)) Q E s := by
  have hc : ∀ Q' : Value → Shared → Prop, Q' .notImplemented s → wpAny (model prog w) A (call (.builtin "object.__eq__") [.ref x, .str y u]) Q' E s := fun Q' q =>
    wpAny_call (codeAny_call_builtin F.cmp_object.eq.plain F.cmpEntry_eq (check_ins KX hx e (oeq_str q)))
  simp only [tryCompare]
  refine wpAny_bind ?_
  simp only [callSpecialIfBound?, bindSpecialIfBound?]
  refine wpAny_holding (wpAny_bind (wpAny_bind (special_ins KX hx e ?_)))
  simp only [F.cmp_object.eq.bind]
  refine wpAny_bind (wpAny_askSetting (wpAny_ite ?_))
  have z : wpAny (model prog w) A (call (.builtin "object.__eq__") ([.ref x] ++ [.str y u]) >>= fun v => pure (some v)) (fun a s' => wpAny (model prog w) A (match a with
      | some .notImplemented | none => pure none
      | some v => pure (some v)) Q E s') E s := wpAny_bind (hc _ (wpAny_pure (wpAny_pure hq)))
  split
  · exact wpAny_bind (wpAny_pure (wpAny_pure z))
  · exact wpAny_tryCatch (wpAny_bind (wpAny_pure (wpAny_pure z)))
theorem str_eq_ins : Meets (Builtin.«str.__eq__» ⟨[.str y u, .ref x], []⟩) (fun _ R s => s.heap.get? x = some (PySem.W.instObj C dx) ∧ R (.ok (.ret .notImplemented)) s) :=
  .of_wp fun prog w A R s h => by
    obtain ⟨hp, g, d, tk, os⟩ := s
    obtain ⟨hl, h⟩ := h
    unfold PySem.W.instObj at hl
    wp_walk using AutoSeq1.wpAny_loadPart' hl, wpAny_load hl
    exact ⟨_, rfl, h⟩
theorem rich_ins (KX : K.In s.heap) (hx : s.heap.get? x = some (PySem.W.instObj C dx)) (e : EqO K C) (hu : A.units < cLine) {Q : Value → Shared → Prop} (hq : Q (.bool false) s) : wpAny (model prog w) A (richCompare .Eq (.ref x) (.str y u)) Q E s := by
  have hsub : isSubtype (.type "str") (.ref C) = pure false := by
    rw [isSubtype_type]
    have z : fastBuiltinMro "str" = some [.type "str", .type "object"] := by kernel_rfl
    rw [z]
    rfl
  simp only [richCompare, cmpInfo_Eq, oneThing_ref]
  refine wpAny_holding (wpAny_bind (wpAny_cRoomFor hu ?_))
  simp only [typeOf]
  refine wpAny_bind (wpAny_bind (wpAny_load hx (wpAny_pure ?_)))
  refine wpAny_bind (wpAny_pure ?_)
  rw [if_pos (show (Value.ref C != Value.type "str") = true from rfl)]
  refine wpAny_bind (wpAny_of_eq hsub ?_)
  rw [if_neg (by decide)]
  refine wpAny_bind (try_ins KX hx e ?_)
  dsimp only
  rw [if_pos (by decide)]
  refine wpAny_bind (wpAny_tryCompare_declines (typeIs_str s y u) F.slot_str_eq_refl (call_meets F.slot_str_eq_refl (typeIs_str s y u) F.entry_str_eq (F.args_str_eq_2 _ _) str_eq_ins ⟨hx, ⟨rfl, ?_⟩⟩))
  exact wpAny_bind (wpAny_rule (wpAny_bind (wpAny_of_eq (rfl : isSame (.ref x) (.str y u) = pure false) (wpAny_pure hq))))
end
end Iv
end
section
set_option Elab.async false
set_option linter.all false
set_option maxRecDepth 100000
set_option maxHeartbeats 1000000
/-! Comparisons, subscripts, built-ins by their rules. -/
namespace Iv
open PySem L2
def pyCmp : COp → CmpOp
  | .eq => .Eq
  | .ne => .NotEq
  | .lt => .Lt
  | .le => .LtE
  | .gt => .Gt
  | .ge => .GtE
  | .mem => .In
  | .nmem => .NotIn
  | .eqs => .Eq
section
variable {T : Tx} {pe : Pe} {Mb : AP'} {r r' r'' : List Addr} {ow : List (Option Addr)} {H H' H'' : Hp} {st st' : Store} {σ : L2.St} {env : Env} {M : AP'} {v : V}
theorem flat_rep {d : D} (h : Rep T.toTb H M r v d) (f : d.flat = true) : flatV v = true := by
  cases h <;> first | rfl | cases f
theorem eqv_flat {d e : D} {w : V} (h : Rep T.toTb H M r v d) (g : Rep T.toTb H M r w e) (f : d.flat = true) (f' : e.flat = true) : eqV v w = d.eqv e := by
  cases h <;> (try (cases f; done)) <;> cases g <;> (try (cases f'; done)) <;> first | rfl | exact beq_mkS _ _
theorem flat_all {xs : List V} {ds : List D} (h : RepL T.toTb H M r xs ds) (f : ds.all D.flat = true) : xs.all flatV = true := by
  induction ds generalizing xs with
  | nil => cases h; rfl
  | cons d ds ih =>
    rw [List.all_cons, Bool.and_eq_true] at f
    cases h with
    | cons h q => rw [List.all_cons, flat_rep h f.1, ih q f.2]; rfl
theorem in_all {xs : List V} {ds : List D} {d : D} (h : RepL T.toTb H M r xs ds) (f : ds.all D.flat = true) (g : Rep T.toTb H M r v d) (f' : d.flat = true) : inV v xs = ds.any fun y => y.eqv d := by
  induction ds generalizing xs with
  | nil => cases h; rfl
  | cons e ds ih =>
    rw [List.all_cons, Bool.and_eq_true] at f
    cases h with
    | cons h q =>
      show (eqV _ v || inV v _) = _
      rw [List.any_cons, eqv_flat h g f.1 f', ih q f.2]
theorem RepP.flat {d : D} (h : RepP T.toTb H M r v d) (f : d.flat = true) : Rep T.toTb H M r v d := by
  rcases h with h | ⟨a, o, _, _, h3, _⟩
  · exact h
  · cases d <;> first | (cases f; done) | (cases h3; done)
theorem RepP.key {d : D} {k : KD} (h : RepP T.toTb H M r v d) (e : keyOf d = some k) : v = kV (kd k) := by
  cases d <;> first | cases e | skip
  · exact h.int
  · exact h.str
end
section
variable {X : Cx} {T : Tx}
/-- in, not in -/
theorem mem_any (hK : T.K = X.K) (hu : X.A.units + 1000 < cLine) {pins : List (Addr × Obj)} {s : Shared} {σ : L2.St} {H : Hp} {x y : V} {v u : Value} (I : Inv X pins σ H s) (rx : RelV x v) (ry : RelV y u)
    {Mb : AP'} {r : List Addr} {ow : List (Option Addr)} {st : Store} {d e : D} (S : StR T.toTb (Ms Mb r ow) r H st) (hx : RepP T.toTb H (Ms Mb r ow) r x d) (hy : RepP T.toTb H (Ms Mb r ow) r y e) {b : Bool}
    (h : memD d e st = some b) {Q : VK} :
    (Q (.bl b) H → wpAny (model X.prog X.w) X.A (compareOp .In v u) (EP X pins σ Q) X.xe s) ∧ (Q (.bl (!b)) H → wpAny (model X.prog X.w) X.A (compareOp .NotIn v u) (EP X pins σ Q) X.xe s) := by
  unfold memD at h
  split at h
  · rename_i c z
    cases hx.str; cases hy.str
    have hb := Option.some.inj h
    subst hb
    have e1 : (mkS z).cps.toList = z := by simp [mkS]
    refine ⟨fun q => op_in_sign pins s σ H _ _ v u Q I rx ry ⟨c, mkS z, rfl, rfl, ?_⟩, fun q => op_notIn_sign pins s σ H _ _ v u Q I rx ry ⟨c, mkS z, rfl, rfl, ?_⟩⟩
    · rw [e1]; exact q
    · rw [e1]; exact q
  · split at h
    · rename_i ys hs
      unfold inSeq at h
      split at h
      · rename_i hf
        rw [Bool.and_eq_true] at hf
        have hb := Option.some.inj h
        subst hb
        obtain ⟨a, xs, rfl, h1, q1⟩ := hy.seq S hs
        have rd := hx.flat hf.1
        have e1 := in_all q1 hf.2 rd hf.1
        rw [hK] at h1
        refine ⟨fun q => op_in_seq pins s σ H _ _ v u Q I rx ry ⟨a, xs, rfl, h1, flat_rep rd hf.1, flat_all q1 hf.2, ?_⟩, fun q => op_notIn_seq pins s σ H _ _ v u Q I rx ry ⟨a, xs, rfl, h1, flat_rep rd hf.1, flat_all q1 hf.2, ?_⟩⟩
        · show Q (.bl (if false = true then _ else inV x xs)) H
          rw [if_neg Bool.false_ne_true, e1]; exact q
        · show Q (.bl (if true = true then !inV x xs else _)) H
          rw [if_pos rfl, e1]; exact q
      · cases h
    · split at h
      · rename_i kv k ha hk
        have hb := Option.some.inj h
        subst hb
        obtain ⟨a, kvs, rfl, h1, q1⟩ := hy.dict S ha
        have ex := hx.key hk
        subst ex
        obtain rfl : u = Value.ref a := ry
        have g : DGet H a (kV (kd k)) (valV kvs (kd k)) := DGet.k h1
        have e1 : (valV kvs (kd k)).isSome = (lookK kv k).isSome := by
          rcases q1.look k with ⟨e1, e2⟩ | ⟨d', v', e1, e2, _⟩
          · rw [e1, e2]; rfl
          · rw [e1, e2]; rfl
        refine ⟨fun q => d_in (by omega) I g rx fun s3 I3 => ⟨.bl _, H, I3, rfl, ?_⟩, fun q => d_notIn (by omega) I g rx fun s3 I3 => ⟨.bl _, H, I3, rfl, ?_⟩⟩
        · rw [e1]; exact q
        · rw [e1]; exact q
      · cases h
theorem or_cmp (hK : T.K = X.K) (hu : X.A.units + 1000 < cLine) (oe : ∀ c, T.okc c → EqO X.K (T.cls c)) (op : COp) : OpR X (compareOp (pyCmp op)) (rOp2 T (opCmp op)) := by
  intro pins s σ H x y v u Q I rx ry h
  obtain ⟨Mb, r, ow, st, d, e, W, σ', S, hx, hy, h⟩ := h
  unfold opCmp at h
  cases hb : cmpD op d e st with
  | none => rw [hb] at h; exact h.elim
  | some b =>
    rw [hb] at h
    have q : Q (.bl b) H := h.now S _ (.bl _)
    unfold cmpD at hb
    split at hb
    · exact (eq_any hK hu I rx ry S hx hy hb).1 ⟨.bl _, H, I, rfl, q⟩
    · cases e1 : (deref d st).eq? (deref e st) with
      | none => rw [e1] at hb; cases hb
      | some k =>
        rw [e1] at hb
        have : (!k) = b := Option.some.inj hb
        exact (eq_any hK hu I rx ry S hx hy e1).2 ⟨.bl _, H, I, rfl, by rw [this]; exact q⟩
    · cases hx.int; cases hy.int; cases hb
      exact op_lt pins s σ H _ _ v u Q I rx ry ⟨_, _, rfl, rfl, q⟩
    · cases hx.int; cases hy.int; cases hb
      exact op_le pins s σ H _ _ v u Q I rx ry ⟨_, _, rfl, rfl, q⟩
    · cases hx.int; cases hy.int; cases hb
      exact op_gt pins s σ H _ _ v u Q I rx ry ⟨_, _, rfl, rfl, q⟩
    · cases hx.int; cases hy.int; cases hb
      exact op_ge pins s σ H _ _ v u Q I rx ry ⟨_, _, rfl, rfl, q⟩
    · exact (mem_any hK hu I rx ry S hx hy hb).1 q
    · cases e1 : memD d e st with
      | none => rw [e1] at hb; cases hb
      | some k =>
        rw [e1] at hb
        have : (!k) = b := Option.some.inj hb
        exact (mem_any hK hu I rx ry S hx hy e1).2 (by rw [this]; exact q)
    · rename_i n l
      split at hb
      · rename_i c fs e1
        cases hb
        obtain ⟨a, e2, _, oc, dx, xs, e3, _⟩ := S.at e1
        have ex : x = .ref a := by
          rcases hx with z | ⟨_, _, _, _, z, _⟩
          · cases z with
            | ref z => rw [e2] at z; cases z; rfl
          · cases z
        subst ex
        cases hy.str
        obtain rfl : v = Value.ref a := rx
        obtain ⟨t, rfl⟩ := ry
        obtain ⟨_, _, _, ho, _⟩ := I.hok a _ e3
        exact rich_ins I.kIn ho (oe _ oc) (by omega) ⟨.bl _, H, I, rfl, q⟩
      · cases hb
    · rename_i a b'
      cases hb
      cases hx.str; cases hy.str
      obtain ⟨t, rfl⟩ := rx
      obtain ⟨t', rfl⟩ := ry
      refine PyProof.Rows.eq_str ⟨.bl _, H, I, rfl, ?_⟩
      rw [beq_mkS]
      exact q
    · cases hb
theorem at_same {α : Type} (xs : List α) (i : Int) : Iv.atI xs i = L2.atI xs i := rfl
theorem atI_rep {T : Tx} {H : Hp} {M : AP'} {r : List Addr} {xs : List V} {ds : List D} (h : RepL T.toTb H M r xs ds) {i : Int} {d : D} (e : Iv.atI ds i = some d) : ∃ v, L2.atI xs i = some v ∧ Rep T.toTb H M r v d := by
  unfold Iv.atI at e
  unfold L2.atI
  rw [h.len]
  have e0 : Iv.ixN ds.length i = L2.ixN ds.length i := rfl
  rw [e0] at e
  cases q : L2.ixN ds.length i with
  | none => rw [q] at e; cases e
  | some j =>
    rw [q] at e
    exact h.at e
theorem ix_any (hK : T.K = X.K) (hu : X.A.units + 1000 < cLine) : IxR X (rOp2 T opIdx) := by
  intro value slice pins s σ H x y v u Q I rx ry h hs
  obtain ⟨Mb, r, ow, st, d, e, W, σ', S, hx, hy, h⟩ := h
  unfold opIdx at h
  split at h
  · rename_i l i
    cases hx.str; cases hy.int
    split at h
    · rename_i c hc
      split at h
      · rename_i hl
        refine ix_str value slice pins s σ H _ _ v u Q I rx ry ⟨mkS l, i, c, rfl, rfl, by rw [mkS_len, ← line_eq]; exact hl, ?_, h.now S _ (.str [c])⟩ hs
        have : (mkS l).cps.toList = l := by simp [mkS]
        rw [this]; exact hc
      · exact h.elim
    · exact h.elim
  · split at h
    · rename_i kv k ha hk
      obtain ⟨d', e1, h⟩ := h.opt
      obtain ⟨a, kvs, rfl, h1, q1⟩ := hx.dict S ha
      have ey := hy.key hk
      subst ey
      obtain rfl : v = Value.ref a := rx
      rcases q1.look k with ⟨e2, e3⟩ | ⟨d2, v2, e2, e3, rd⟩
      · rw [e1] at e2; cases e2
      · rw [e1] at e2; cases e2
        have g : DGet H a (kV (kd k)) (some v2) := by rw [← e3]; exact DGet.k h1
        exact PyProof.Rows.tail_any (dict_typeIs I g) PySem.F.slot_dict_getitem.lookup (d_getItem (by omega) I g ry fun w' s3 I3 rw' => ⟨v2, H, I3, rw', h.now S _ rd⟩) hs
    · split at h
      · rename_i ds i hsq hn1 hn2
        cases hy.int
        obtain ⟨d', e1, h⟩ := h.opt
        obtain ⟨a, xs, rfl, h1, q1⟩ := hx.seq S hsq
        obtain ⟨v2, e2, rd⟩ := atI_rep q1 e1
        rw [hK] at h1
        rcases h1 with h1 | h1
        · exact ix_list value slice pins s σ H _ _ v u Q I rx ry ⟨a, xs, i, v2, rfl, rfl, h1, e2, h.now S _ rd⟩ hs
        · exact ix_tup value slice pins s σ H _ _ v u Q I rx ry ⟨a, xs, i, v2, rfl, rfl, h1, e2, h.now S _ rd⟩ hs
      · exact h.elim
theorem sIx_same (n d : Nat) (o : Option Int) : Iv.sIx n d o = HT.sIx n d o := by
  cases o <;> rfl
theorem cut_rep {T : Tx} {H : Hp} {M : AP'} {r : List Addr} {xs : List V} {ds : List D} (h : RepL T.toTb H M r xs ds) (lo hi : Option Int) : RepL T.toTb H M r (cutV xs lo hi) (cut ds lo hi) := by
  unfold cutV cut
  rw [h.len, sIx_same, sIx_same]
  exact (h.drop _).take _
def rCut (T : Tx) : V → Option Int → Option Int → Hp → VK → Prop := fun x lo hi H Q => ∃ (Mb : AP') (r : List Addr) (ow : List (Option Addr)) (st : Store) (d : D) (W : WX) (σ : L2.St),
  StR T.toTb (Ms Mb r ow) r H st ∧ RepP T.toTb H (Ms Mb r ow) r x d ∧ OK T Mb ow W σ r H (opCut d lo hi st) (Post T Mb ow Q)
theorem sl_any (hK : T.K = X.K) : SlR X (rCut T) := by
  intro pins s σ H x v vl vu lo hi sl Q I rx hs pl pu h
  obtain ⟨Mb, r, ow, st, d, W, σ', S, hx, h⟩ := h
  unfold opCut at h
  split at h
  · rename_i l
    cases hx.str
    split at h
    · rename_i hl
      refine sl_str pins s σ H _ v vl vu lo hi sl Q I rx hs pl pu ⟨mkS l, rfl, by rw [mkS_len, ← line_eq]; exact hl, ?_⟩
      have e : cutS (mkS l) lo hi = mkS (cut l lo hi) := by
        unfold cut
        rw [sIx_same, sIx_same]
        simp [cutS, mkS, Str.length]
      rw [e]
      exact h.now S _ (.str _)
    · exact h.elim
  · rename_i ds
    obtain ⟨a, xs, rfl, h1, q1, w1⟩ := hx.tup
    rw [hK] at h1
    refine sl_tupA pins s σ H _ v vl vu lo hi sl Q I rx hs pl pu ⟨a, xs, rfl, h1, fun e => ?_, fun _ p hp => h.new S hp _ (Rep.newT S hp (cut_rep q1 lo hi))⟩
    have e2 : cut ds lo hi = ds := by
      unfold cut
      rw [sIx_same, sIx_same, ← q1.len, e.1, e.2, q1.len]
      simp
    rw [e2] at h
    exact h.now S _ w1
  · split at h
    · rename_i ds hl
      obtain ⟨a, xs, rfl, h1, q1⟩ := hx.list S hl
      exact sl_list pins s σ H _ v vl vu lo hi sl Q I rx hs pl pu ⟨a, xs, rfl, SqL.of h1, fun p hp => h.new S hp _ (Rep.newL S hp (cut_rep q1 lo hi))⟩
    · exact h.elim
end
end Iv
end
section
set_option Elab.async false
set_option linter.all false
set_option maxRecDepth 100000
set_option maxHeartbeats 1000000
/-! Built-ins: calls and methods. -/
namespace Iv
open PySem L2
section
variable {T : Tx} {pe : Pe} {Mb : AP'} {r r' r'' : List Addr} {ow : List (Option Addr)} {H H' H'' : Hp} {st st' : Store} {σ : L2.St} {env : Env} {M : AP'} {v : V}
theorem ints_rep {ds : List D} {xs : List V} {ns : List Int} (h : RepL T.toTb H M r xs ds) (e : intsOf ds = some ns) : xs = ns.map V.int := by
  induction ds generalizing xs ns with
  | nil => cases h; cases e; rfl
  | cons d ds ih =>
    cases h with
    | cons h q =>
      cases d <;> try (cases e; done)
      rename_i i
      cases h
      cases e1 : intsOf ds with
      | none => rw [intsOf, e1] at e; cases e
      | some ms =>
        rw [intsOf, e1] at e
        cases e
        rw [ih q e1]; rfl
theorem bls_rep {ds : List D} {xs : List V} {ns : List Bool} (h : RepL T.toTb H M r xs ds) (e : blsOf ds = some ns) : xs = ns.map V.bl := by
  induction ds generalizing xs ns with
  | nil => cases h; cases e; rfl
  | cons d ds ih =>
    cases h with
    | cons h q =>
      cases d <;> try (cases e; done)
      rename_i i
      cases h
      cases e1 : blsOf ds with
      | none => rw [blsOf, e1] at e; cases e
      | some ms =>
        rw [blsOf, e1] at e
        cases e
        rw [ih q e1]; rfl
theorem strs_rep {ds : List D} {xs : List V} {ns : List (List Nat)} (h : RepL T.toTb H M r xs ds) (e : strsOf ds = some ns) : xs = (ns.map mkS).map V.str := by
  induction ds generalizing xs ns with
  | nil => cases h; cases e; rfl
  | cons d ds ih =>
    cases h with
    | cons h q =>
      cases d <;> try (cases e; done)
      rename_i i
      cases h
      cases e1 : strsOf ds with
      | none => rw [strsOf, e1] at e; cases e
      | some ms =>
        rw [strsOf, e1] at e
        cases e
        rw [ih q e1]; rfl
end
theorem maxL_is : ∀ {ns : List Int} {m : Int}, maxL ns = some m → m ∈ ns ∧ ∀ y ∈ ns, y ≤ m
  | [], m, h => by cases h
  | i :: rest, m, h => by
    unfold maxL at h
    cases e : maxL rest with
    | none =>
      rw [e] at h
      cases h
      have : rest = [] := by
        cases rest with
        | nil => rfl
        | cons a b =>
          unfold maxL at e
          cases e2 : maxL b <;> rw [e2] at e <;> cases e
      subst this
      simp
    | some k =>
      rw [e] at h
      obtain ⟨h1, h2⟩ := maxL_is e
      have hm := Option.some.inj h
      split at hm
      · subst hm
        rename_i hlt
        refine ⟨List.mem_cons_of_mem _ h1, fun y hy => ?_⟩
        rcases List.mem_cons.mp hy with rfl | hy
        · omega
        · exact h2 y hy
      · subst hm
        rename_i hlt
        refine ⟨List.mem_cons_self, fun y hy => ?_⟩
        rcases List.mem_cons.mp hy with rfl | hy
        · omega
        · have := h2 y hy; omega
theorem strInt_ok (i : Int) : (PySem.Str.ofString (toString i)) = mkS (strInt i) := by
  have key : (PySem.Str.ofString (toString i)).cps.toList = strInt i := by
    rcases Int.lt_or_le i 0 with h | h
    · obtain ⟨m, rfl⟩ : ∃ m : Nat, i = Int.negSucc m := ⟨(-i - 1).toNat, by omega⟩
      have e2 : strInt (Int.negSucc m) = 45 :: (Nat.toDigits 10 (m + 1)).map Char.toNat := by
        unfold strInt digits
        rw [if_pos (Int.negSucc_lt_zero m)]
        rfl
      rw [e2, Str.ofString_eq_toList]
      show ((String.append "-" (Nat.repr (m + 1))).toList.map Char.toNat) = _
      have e3 : (String.append "-" (Nat.repr (m + 1))).toList = '-' :: Nat.toDigits 10 (m + 1) := by
        show ("-" ++ Nat.repr (m + 1)).toList = _
        rw [String.toList_append, Nat.toList_repr]
        rfl
      rw [e3]
      rfl
    · obtain ⟨m, rfl⟩ := Int.eq_ofNat_of_zero_le h
      rw [PySem.W.KIN.signs_num]
      unfold strInt digits
      rw [if_neg (by omega)]
      rfl
  cases e : PySem.Str.ofString (toString i) with
  | mk a =>
    rw [e] at key
    rw [← key]
    simp [mkS]
theorem figs_ok : ∀ {l : List Nat} {a n : Nat}, figs l a = some n → PySem.NumText.AllDigits l ∧ l.foldl (fun acc c => acc * 10 + (c - 48)) a = n
  | [], a, n, h => by cases h; exact ⟨(fun c hc => by cases hc), rfl⟩
  | c :: rest, a, n, h => by
    unfold figs at h
    split at h
    · rename_i hc
      obtain ⟨h1, h2⟩ := figs_ok h
      refine ⟨fun d hd => ?_, h2⟩
      rcases List.mem_cons.mp hd with rfl | hd
      · exact hc
      · exact h1 d hd
    · cases h
theorem intOf_ok {l : List Nat} {n : Int} (h : intOf l = some n) (hl : l.length < 600) : PySem.intText? (mkS l) = some n := by
  have e0 : ∀ l : List Nat, (mkS l).cps.toList = l := fun l => by simp [mkS]
  unfold intOf at h
  split at h
  · rename_i c rest
    cases e : figs (c :: rest) 0 with
    | none => rw [e] at h; cases h
    | some m =>
      rw [e] at h
      cases h
      obtain ⟨h1, h2⟩ := figs_ok e
      have := PySem.intText_neg (x := mkS (45 :: c :: rest)) (cs := c :: rest) (e0 _) h1 (by simp) (by rw [mkS_len]; omega)
      rw [this, ← h2]
      rfl
  · rename_i c rest hno
    cases e : figs (c :: rest) 0 with
    | none => rw [e] at h; cases h
    | some m =>
      rw [e] at h
      cases h
      obtain ⟨h1, h2⟩ := figs_ok e
      have := PySem.intText_digits (x := mkS (c :: rest)) (by rw [e0]; exact h1) (by rw [e0]; simp) (by rw [mkS_len]; omega)
      rw [this, e0, ← h2]
      rfl
  · cases h
def rC1 (T : Tx) (f : D → Store → Res D) : List V → Hp → VK → Prop := fun xs H Q => ∃ x, xs = [x] ∧ rOp1 T f x H Q
def rC2 (T : Tx) (f : D → D → Store → Res D) : List V → Hp → VK → Prop := fun xs H Q => ∃ x y, xs = [x, y] ∧ rOp2 T f x y H Q
def rM1 (T : Tx) (f : D → D → Store → Res D) : V → List V → Hp → VK → Prop := fun x xs H Q => ∃ y, xs = [y] ∧ rOp2 T f x y H Q
section
variable {X : Cx} {T : Tx}
theorem cu_len (hK : T.K = X.K) : CallR X (.builtin "len") (rC1 T opLen) := by
  intro pins s σ H xs us Q I rs h
  obtain ⟨x, rfl, Mb, r, ow, st, d, W, σ', S, hx, h⟩ := h
  unfold opLen at h
  split at h
  · rename_i l
    cases hx.str
    split at h
    · rename_i hl
      refine call_len_str pins s σ H _ us Q I rs ⟨mkS l, rfl, by rw [mkS_len, ← line_eq]; exact hl, ?_⟩
      rw [mkS_len]
      exact h.now S _ (.int _)
    · exact h.elim
  · split at h
    · rename_i ds hd
      obtain ⟨a, ys, rfl, h1, q1⟩ := hx.seq S hd
      rw [hK] at h1
      refine call_len_seq pins s σ H _ us Q I rs ⟨a, ys, rfl, h1, ?_⟩
      rw [q1.len]
      exact h.now S _ (.int _)
    · exact h.elim
theorem cu_int : CallR X (.type "int") (rC1 T opInt) := by
  intro pins s σ H xs us Q I rs h
  obtain ⟨x, rfl, Mb, r, ow, st, d, W, σ', S, hx, h⟩ := h
  unfold opInt at h
  split at h
  · rename_i i
    cases hx.int
    exact call_int1 pins s σ H _ us Q I rs (.inl ⟨i, rfl, h.now S _ (.int _)⟩)
  · rename_i b
    cases hx.bl
    exact call_int1 pins s σ H _ us Q I rs (.inr ⟨b, rfl, h.now S _ (.int _)⟩)
  · rename_i l
    cases hx.str
    split at h
    · rename_i hl
      split at h
      · rename_i n hn
        exact call_int_str pins s σ H _ us Q I rs ⟨mkS l, n, rfl, intOf_ok hn hl, by rw [mkS_len]; omega, h.now S _ (.int _)⟩
      · exact h.elim
    · exact h.elim
  · exact h.elim
theorem cu_str (hK : T.K = X.K) (hu : X.A.units + 2 < cLine) : CallR X (.type "str") (rC1 T opStr) := by
  intro pins s σ H xs us Q I rs h
  obtain ⟨x, rfl, Mb, r, ow, st, d, W, σ', S, hx, h⟩ := h
  unfold opStr at h
  split at h
  · rename_i i
    cases hx.int
    split at h
    · rename_i hl
      refine call_str_int pins s σ H _ us Q I rs ⟨i, rfl, hl, ?_⟩
      rw [strInt_ok]
      exact h.now S _ (.str _)
    · exact h.elim
  · rename_i n
    split at h
    · rename_i k t fs e
      obtain ⟨a, rfl, hr⟩ := hx.ref
      obtain ⟨_, D, tt, d, _, h2, h3, h4, _, _⟩ := S.obj n a _ hr e
      rw [hK] at h2
      cases rs with
      | cons ra rn =>
        cases rn
        obtain rfl := ra
        exact call_str_exc I hu h2 h3 h4 (h.now S _ (.str _))
    · exact h.elim
  · exact h.elim
theorem cu_abs : CallR X (.builtin "abs") (rC1 T opAbs) := by
  intro pins s σ H xs us Q I rs h
  obtain ⟨x, rfl, Mb, r, ow, st, d, W, σ', S, hx, h⟩ := h
  unfold opAbs at h
  split at h
  · rename_i i
    cases hx.int
    exact call_abs pins s σ H _ us Q I rs ⟨i, rfl, h.now S _ (.int _)⟩
  · exact h.elim
theorem cu_max (hc : X.calm = true) : CallR X (.builtin "max") (rC1 T opMax) := by
  intro pins s σ H xs us Q I rs h
  obtain ⟨x, rfl, Mb, r, ow, st, d, W, σ', S, hx, h⟩ := h
  unfold opMax at h
  split at h
  · rename_i ds
    split at h
    · rename_i m hm
      obtain ⟨a, ys, rfl, h1, q1⟩ := hx.list S rfl
      cases e : intsOf ds with
      | none => rw [e] at hm; cases hm
      | some ns =>
        rw [e] at hm
        have e2 := ints_rep q1 e
        subst e2
        obtain ⟨m1, m2⟩ := maxL_is hm
        refine cr_max hc pins s σ H _ us Q I rs ⟨a, ns, rfl, SqL.of h1, List.length_pos_of_mem m1, fun k hk hle => ?_⟩
        have : k = m := Int.le_antisymm (m2 k hk) (hle m m1)
        rw [this]
        exact h.now S _ (.int _)
    · exact h.elim
  · exact h.elim
theorem cu_sum (hc : X.calm = true) : CallR X (.builtin "sum") (rC1 T opSum) := by
  intro pins s σ H xs us Q I rs h
  obtain ⟨x, rfl, Mb, r, ow, st, d, W, σ', S, hx, h⟩ := h
  unfold opSum at h
  split at h
  · rename_i ds
    split at h
    · rename_i ns e
      obtain ⟨a, ys, rfl, h1, q1⟩ := hx.list S rfl
      have e2 := ints_rep q1 e
      subst e2
      exact cr_sum hc pins s σ H _ us Q I rs ⟨a, ns, rfl, SqL.of h1, h.now S _ (.int _)⟩
    · exact h.elim
  · exact h.elim
theorem cu_all (hc : X.calm = true) : CallR X (.builtin "all") (rC1 T opAll) := by
  intro pins s σ H xs us Q I rs h
  obtain ⟨x, rfl, Mb, r, ow, st, d, W, σ', S, hx, h⟩ := h
  unfold opAll at h
  split at h
  · rename_i ds
    split at h
    · rename_i bs e
      obtain ⟨a, ys, rfl, h1, q1⟩ := hx.list S rfl
      have e2 := bls_rep q1 e
      subst e2
      exact cr_all hc pins s σ H _ us Q I rs ⟨a, bs, rfl, SqL.of h1, h.now S _ (.bl _)⟩
    · exact h.elim
  · exact h.elim
theorem cu_tuple (hK : T.K = X.K) : CallR X (.type "tuple") (rC1 T opTuple) := by
  intro pins s σ H xs us Q I rs h
  obtain ⟨x, rfl, Mb, r, ow, st, d, W, σ', S, hx, h⟩ := h
  unfold opTuple at h
  split at h
  · rename_i ds
    obtain ⟨a, ys, rfl, h1, q1, w1⟩ := hx.tup
    rw [hK] at h1
    exact call_tuple_of pins s σ H _ us Q I rs ⟨a, ys, rfl, .inr ⟨h1, h.now S _ w1⟩⟩
  · split at h
    · rename_i ds hd
      obtain ⟨a, ys, rfl, h1, q1⟩ := hx.list S hd
      exact call_tuple_of pins s σ H _ us Q I rs ⟨a, ys, rfl, .inl ⟨SqL.of h1, fun l hl => h.new S hl _ (Rep.newT S hl q1)⟩⟩
    · exact h.elim
theorem tyx_tup (hK : T.K = X.K) {H : Hp} {M : AP'} {r : List Addr} {x : V} {ds : List D} (h : RepP T.toTb H M r x (.tup ds)) : TyX X.K H x (.type "tuple") := by
  obtain ⟨a, ys, rfl, h1, q1, w1⟩ := h.tup
  cases w1 with
  | tup h n q => exact .base (.tup h)
  | tupC h q =>
    rcases h (fun _ => none) with h | ⟨o, its, n, h2, h3, _⟩
    · rcases h with h | ⟨o, h⟩ <;> cases h
    · rw [hK] at h2
      exact .kTuple h2 h3
theorem tyx_lst {H : Hp} {M : AP'} {r : List Addr} {x : V} {ds : List D} (h : RepP T.toTb H M r x (.lst ds)) : TyX X.K H x (.type "list") := by
  rcases h with h | ⟨a, o, rfl, h2, h3, h4⟩
  · cases h with
    | lst h n q => exact .base (.lst h)
  · cases h3
    obtain ⟨xs, h5, _⟩ := h4
    exact .base (.lst h5)
theorem kit_same (K : PySem.W.Frag) (t : String) : PySem.W.kitOne K (.type t) (.type t) = some true := if_pos (beq_self_eq_true _)
theorem kit_diff {K : PySem.W.Frag} {t u : String} (h : (Value.type t == Value.type u) = false) (m : PySem.W.kitMeta u = true) (e : (fastBuiltinMro t).map (·.contains (.type u)) = some false) : PySem.W.kitOne K (.type t) (.type u) = some false := by
  unfold PySem.W.kitOne
  rw [if_neg (by rw [h]; exact Bool.false_ne_true)]
  unfold PySem.W.kitCls
  dsimp only
  rw [if_pos m]
  exact e
def isiOf (T : Tx) (t : String) (f : D → Store → Res D) : List V → Hp → VK → Prop := fun xs H Q => ∃ x, xs = [x, .ty t] ∧ rOp1 T f x H Q
theorem cu_isStr (hK : T.K = X.K) : CallR X (.builtin "isinstance") (isiOf T "str" opIsStr) := by
  intro pins s σ H xs us Q I rs h
  obtain ⟨x, rfl, Mb, r, ow, st, d, W, σ', S, hx, h⟩ := h
  unfold opIsStr at h
  split at h
  · rename_i l
    cases hx.str
    exact call_isi pins s σ H _ us Q I rs ⟨_, _, _, _, true, rfl, .ty "str", .base (.str _), kit_same _ _, h.now S _ (.bl _)⟩
  · exact call_isi pins s σ H _ us Q I rs ⟨_, _, _, _, false, rfl, .ty "str", tyx_tup hK hx, kit_diff (by decide +kernel) (by decide +kernel) (by decide +kernel), h.now S _ (.bl _)⟩
  · exact h.elim
theorem cu_isTup (hK : T.K = X.K) : CallR X (.builtin "isinstance") (isiOf T "tuple" opIsTup) := by
  intro pins s σ H xs us Q I rs h
  obtain ⟨x, rfl, Mb, r, ow, st, d, W, σ', S, hx, h⟩ := h
  unfold opIsTup at h
  split at h
  · exact call_isi pins s σ H _ us Q I rs ⟨_, _, _, _, true, rfl, .ty "tuple", tyx_tup hK hx, kit_same _ _, h.now S _ (.bl _)⟩
  · exact call_isi pins s σ H _ us Q I rs ⟨_, _, _, _, false, rfl, .ty "tuple", tyx_lst hx, kit_diff (by decide +kernel) (by decide +kernel) (by decide +kernel), h.now S _ (.bl _)⟩
  · cases hx.str
    exact call_isi pins s σ H _ us Q I rs ⟨_, _, _, _, false, rfl, .ty "tuple", .base (.str _), kit_diff (by decide +kernel) (by decide +kernel) (by decide +kernel), h.now S _ (.bl _)⟩
  · cases hx.int
    exact call_isi pins s σ H _ us Q I rs ⟨_, _, _, _, false, rfl, .ty "tuple", .base (.int _), kit_diff (by decide +kernel) (by decide +kernel) (by decide +kernel), h.now S _ (.bl _)⟩
  · cases hx.bl
    exact call_isi pins s σ H _ us Q I rs ⟨_, _, _, _, false, rfl, .ty "tuple", .base (.bl _), kit_diff (by decide +kernel) (by decide +kernel) (by decide +kernel), h.now S _ (.bl _)⟩
  · exact h.elim
theorem cu_isLst : CallR X (.builtin "isinstance") (isiOf T "list" opIsLst) := by
  intro pins s σ H xs us Q I rs h
  obtain ⟨x, rfl, Mb, r, ow, st, d, W, σ', S, hx, h⟩ := h
  unfold opIsLst at h
  split at h
  · exact call_isi pins s σ H _ us Q I rs ⟨_, _, _, _, true, rfl, .ty "list", tyx_lst hx, kit_same _ _, h.now S _ (.bl _)⟩
  · exact h.elim
theorem cu_min2 (hc : X.calm = true) : CallR X (.builtin "min") (rC2 T opMin2) := by
  intro pins s σ H xs us Q I rs h
  obtain ⟨x, y, rfl, Mb, r, ow, st, d, e, W, σ', S, hx, hy, h⟩ := h
  unfold opMin2 at h
  split at h
  · cases hx.int; cases hy.int
    exact call_min2 hc pins s σ H _ us Q I rs ⟨_, _, rfl, h.now S _ (.int _)⟩
  · exact h.elim
theorem cu_max2 (hc : X.calm = true) : CallR X (.builtin "max") (rC2 T opMax2) := by
  intro pins s σ H xs us Q I rs h
  obtain ⟨x, y, rfl, Mb, r, ow, st, d, e, W, σ', S, hx, hy, h⟩ := h
  unfold opMax2 at h
  split at h
  · cases hx.int; cases hy.int
    exact call_max2 hc pins s σ H _ us Q I rs ⟨_, _, rfl, h.now S _ (.int _)⟩
  · exact h.elim
theorem join_eq (s : List Nat) : ∀ ls : List (List Nat), joinS s ls = TL.joinL s ls
  | [] => rfl
  | [x] => rfl
  | x :: y :: rest => by
    rw [joinS, TL.joinL, join_eq s (y :: rest)]
theorem join_ok (s : List Nat) (ls : List (List Nat)) : Txt.join (mkS s) (ls.map mkS) = mkS (joinS s ls) := by
  have e := TL.tl_join (mkS s) (ls.map mkS)
  have e1 : ∀ l : List Nat, TL.tl (mkS l) = l := fun l => by simp [mkS, TL.tl]
  have e2 : (ls.map mkS).map TL.tl = ls := by
    rw [List.map_map]
    exact (List.map_congr_left fun a _ => e1 a).trans (List.map_id ls)
  rw [e2, e1] at e
  refine TL.ext_tl ?_
  rw [TL.join_eq, e, e1, join_eq]
theorem mu_join : MtR X "str.join" (rM1 T opJoin) := by
  intro pins s σ H x xs v us Q I rx rs h
  obtain ⟨y, rfl, Mb, r, ow, st, d, e, W, σ', S, hx, hy, h⟩ := h
  unfold opJoin at h
  split at h
  · rename_i sep
    cases hx.str
    split at h
    · rename_i ls hls
      split at h
      · rename_i hz
        cases e1 : asL e st with
        | none => rw [e1] at hls; cases hls
        | some ds =>
          rw [e1] at hls
          obtain ⟨a, ys, rfl, h1, q1⟩ := hy.list S e1
          have e2 := strs_rep q1 hls
          subst e2
          refine mt_join pins s σ H _ _ v us Q I rx rs ⟨mkS sep, a, ls.map mkS, rfl, rfl, .inl (SqL.of h1), ?_, ?_⟩
          · rw [List.length_map, mkS_len, List.map_map]
            have : (Str.length ∘ mkS) = List.length := funext fun l => mkS_len l
            rw [this]
            exact hz
          · rw [join_ok]
            exact h.now S _ (.str _)
      · exact h.elim
    · exact h.elim
  · exact h.elim
theorem mkS_nil {l : List Nat} (h : l ≠ []) : ((mkS l).length == 0) = false := by
  rw [mkS_len]
  cases l with
  | nil => exact absurd rfl h
  | cons a b => rfl
theorem strs_mk {T : Tx} {H : Hp} {M : AP'} {r : List Addr} : ∀ ls : List Str, RepL T.toTb H M r (ls.map V.str) (ls.map fun z => D.str (unS z))
  | [] => .nil
  | z :: ls => .cons (by
      have : Rep T.toTb H M r (.str (mkS (unS z))) (.str (unS z)) := .str _
      rw [mkS_unS] at this; exact this) (strs_mk ls)
theorem mu_split : MtR X "str.split" (rM1 T opSplit) := by
  intro pins s σ H x xs v us Q I rx rs h
  obtain ⟨y, rfl, Mb, r, ow, st, d, e, W, σ', S, hx, hy, h⟩ := h
  unfold opSplit at h
  split at h
  · rename_i l z
    cases hx.str; cases hy.str
    split at h
    · rename_i hc
      rw [Bool.and_eq_true, decide_eq_true_eq, decide_eq_true_eq] at hc
      exact mt_split pins s σ H _ _ v us Q I rx rs ⟨mkS l, mkS z, rfl, rfl, mkS_nil hc.1, by rw [mkS_len, ← line_eq]; exact hc.2, fun p hp => h.new S hp _ (Rep.newL S hp (strs_mk _))⟩
    · exact h.elim
  · exact h.elim
theorem str_un {T : Tx} {H : Hp} {M : AP'} {r : List Addr} (z : Str) : Rep T.toTb H M r (.str z) (.str (unS z)) := by
  have : Rep T.toTb H M r (.str (mkS (unS z))) (.str (unS z)) := .str _
  rw [mkS_unS] at this; exact this
theorem mu_part : MtR X "str.partition" (rM1 T opPart) := by
  intro pins s σ H x xs v us Q I rx rs h
  obtain ⟨y, rfl, Mb, r, ow, st, d, e, W, σ', S, hx, hy, h⟩ := h
  unfold opPart at h
  split at h
  · rename_i l z
    cases hx.str; cases hy.str
    split at h
    · rename_i hc
      rw [Bool.and_eq_true, decide_eq_true_eq, decide_eq_true_eq] at hc
      exact mt_partition pins s σ H _ _ v us Q I rx rs ⟨mkS l, mkS z, rfl, rfl, mkS_nil hc.1, by rw [mkS_len, ← line_eq]; exact hc.2, fun p hp => h.new S hp _ (Rep.newT S hp (.cons (str_un _) (.cons (str_un _) (.cons (str_un _) .nil))))⟩
    · exact h.elim
  · exact h.elim
theorem mu_strip : MtR X "str.strip" (rM1 T opStrip) := by
  intro pins s σ H x xs v us Q I rx rs h
  obtain ⟨y, rfl, Mb, r, ow, st, d, e, W, σ', S, hx, hy, h⟩ := h
  unfold opStrip at h
  split at h
  · rename_i l z
    cases hx.str; cases hy.str
    split at h
    · rename_i hc
      exact mt_stripChars pins s σ H _ _ v us Q I rx rs ⟨mkS l, mkS z, rfl, rfl, by rw [mkS_len, ← line_eq]; exact hc, h.now S _ (str_un _)⟩
    · exact h.elim
  · exact h.elim
theorem mu_lstrip : MtR X "str.lstrip" (rM1 T opLstrip) := by
  intro pins s σ H x xs v us Q I rx rs h
  obtain ⟨y, rfl, Mb, r, ow, st, d, e, W, σ', S, hx, hy, h⟩ := h
  unfold opLstrip at h
  split at h
  · rename_i l z
    cases hx.str; cases hy.str
    split at h
    · rename_i hc
      exact mt_lstripChars pins s σ H _ _ v us Q I rx rs ⟨mkS l, mkS z, rfl, rfl, by rw [mkS_len, ← line_eq]; exact hc, h.now S _ (str_un _)⟩
    · exact h.elim
  · exact h.elim
theorem mu_isdigit : MtR X "str.isdigit" (fun x xs H Q => xs = [] ∧ rOp1 T opIsdigit x H Q) := by
  intro pins s σ H x xs v us Q I rx rs h
  obtain ⟨rfl, Mb, r, ow, st, d, W, σ', S, hx, h⟩ := h
  unfold opIsdigit at h
  split at h
  · rename_i l
    cases hx.str
    exact mt_isdigit pins s σ H _ _ v us Q I rx rs ⟨mkS l, rfl, rfl, trivial, h.now S _ (.bl _)⟩
  · exact h.elim
end
end Iv
end
section
set_option Elab.async false
set_option linter.all false
set_option maxRecDepth 100000
set_option maxHeartbeats 1000000
/-! Writes and creations. -/
namespace Iv
open PySem L2
section
variable {T : Tx} {pe : Pe} {Mb : AP'} {r r' r'' : List Addr} {ow : List (Option Addr)} {H H' H'' : Hp} {st st' : Store} {σ : L2.St} {env : Env} {M : AP'} {v : V}
/-- an object of the store is written -/
theorem StR.set (s : StR T.toTb (Ms Mb r ow) r H st) {n : Nat} {p : Addr} {ho : HO} {o : O} (e : r[n]? = some p) (h : ObjR T.toTb (upd H p ho) (Ms Mb r ow) r p o) : StR T.toTb (Ms Mb r ow) r (upd H p ho) (st.set n o) := by
  have hp : p ∈ r := List.mem_of_getElem? e
  refine ⟨by rw [List.length_set]; exact s.len, s.nd, fun m a ob e1 e2 => ?_, fun a z => ?_⟩
  · by_cases hm : n = m
    · subst hm
      rw [e] at e1; cases e1
      rw [List.getElem?_set] at e2
      simp only [if_true] at e2
      split at e2
      · cases e2; exact h
      · cases e2
    · rw [List.getElem?_set_ne hm] at e2
      have hne : a ≠ p := fun z => by
        subst z
        obtain ⟨hn, e3⟩ := List.getElem?_eq_some_iff.mp e
        obtain ⟨hn', e4⟩ := List.getElem?_eq_some_iff.mp e1
        have pw := List.pairwise_iff_getElem.mp s.nd
        rcases Nat.lt_or_gt_of_ne hm with hlt | hlt
        · exact pw n m hn hn' hlt (e3.trans e4.symm)
        · exact pw m n hn' hn hlt (e4.trans e3.symm)
      exact (s.obj m a ob e1 e2).mono (Nx.wr hp).grow fun u q => by rw [upd_ne hne]; exact q
  · obtain ⟨u, hu⟩ := s.dom a z
    by_cases hz : a = p
    · exact ⟨ho, by rw [hz, upd_same]⟩
    · exact ⟨u, by rw [upd_ne hz]; exact hu⟩
/-- data through an object's writing -/
theorem Rep.wr {v : V} {d : D} (h : Rep T.toTb H (Ms Mb r ow) r v d) {p : Addr} {ho : HO} (hp : p ∈ r) : Rep T.toTb (upd H p ho) (Ms Mb r ow) r v d := h.mono (Nx.wr hp).grow
/-- the object of the store behind a value -/
theorem grow_p {p : Addr} (h : H p = none) : Grow H (Ms Mb r ow) r H (Ms (Mp Mb p) r ow) r := by
  refine ⟨fun _ _ e _ => e, fun a q => ?_, fun _ _ e => e⟩
  rcases q with (q | q) | q | q
  · exact .inl (.inl q)
  · exact .inr (by rw [q]; exact h)
  · exact .inl (.inr (.inl q))
  · exact .inl (.inr (.inr q))
theorem shrink_p {p : Addr} : Grow H (Ms (Mp Mb p) r ow) r H (Ms Mb r ow) r := by
  refine ⟨fun _ _ e _ => e, fun a q => .inl ?_, fun _ _ e => e⟩
  rcases q with q | q | q
  · exact .inl (.inl q)
  · exact .inr (.inl q)
  · exact .inr (.inr q)
theorem StR.shrink {p : Addr} (s : StR T.toTb (Ms (Mp Mb p) r ow) r H st) : StR T.toTb (Ms Mb r ow) r H st :=
  ⟨s.len, s.nd, fun n a o e1 e2 => (s.obj n a o e1 e2).mono shrink_p fun _ q => q, fun a z => s.dom a (by
    rcases z with q | q | q
    · exact .inl (.inl q)
    · exact .inr (.inl q)
    · exact .inr (.inr q))⟩
theorem grow_pn {p : Addr} {ho : HO} (h : H p = none) : Grow H (Ms Mb r ow) r (upd H p ho) (Ms (Mp Mb p) r ow) r := by
  have a := grow_p (Mb := Mb) (r := r) (ow := ow) h
  exact ⟨fun b o e _ => by rw [upd_ne (ne_of_none e h)]; exact e, a.wr, a.pre⟩
theorem StR.newP (s : StR T.toTb (Ms Mb r ow) r H st) {p : Addr} {ho : HO} (h : H p = none) : StR T.toTb (Ms (Mp Mb p) r ow) r (upd H p ho) st := by
  refine ⟨s.len, s.nd, fun n a o e1 e2 => (s.obj n a o e1 e2).mono (grow_pn h) fun u q => by rw [upd_ne (ne_of_none q h)]; exact q, fun a z => ?_⟩
  by_cases hz : a = p
  · exact ⟨ho, by rw [hz, upd_same]⟩
  · obtain ⟨u, hu⟩ := s.dom a (by
      rcases z with (q | q) | q | q
      · exact .inl q
      · exact absurd q hz
      · exact .inr (.inl q)
      · exact .inr (.inr q))
    exact ⟨u, by rw [upd_ne hz]; exact hu⟩
theorem Rel.newP (R : Rel T pe Mb r ow H st σ env) {p : Addr} {ho : HO} (h : H p = none) : Rel T pe (Mp Mb p) r ow (upd H p ho) st σ env := by
  refine ⟨R.st.newP h, R.lo, R.ls, fun i sl e => ?_, R.od, fun a ha => ⟨(R.ob a ha).1, fun z => ?_⟩⟩
  · obtain ⟨o, e1, e2⟩ := R.sl i sl e
    refine ⟨o, e1, ?_⟩
    cases sl with
    | none => exact e2
    | val d => obtain ⟨x, h2, h3⟩ := e2; exact ⟨x, h2, h3.mono (grow_pn h)⟩
    | own ob => obtain ⟨a, h1, h2, h3⟩ := e2; exact ⟨a, h1, h2, h3.mono (grow_pn h) fun u e => by rw [upd_ne (ne_of_none e h)]; exact e⟩
    | exc x =>
      obtain ⟨a, cls, d, h2, h3, h4, h5⟩ := e2
      refine ⟨a, cls, d, h2, h3, h4, ?_⟩
      rcases h5 with h5 | ⟨dd, fs, e1, e2, e3, e4⟩
      · exact .inl h5
      · have g := grow_pn (Mb := Mb) (r := r) (ow := ow) (ho := ho) h
        exact .inr ⟨dd, fs, e1, g.keep _ _ e2 e3, g.no e2 e3, e4.mono g⟩
  · rcases z with z | z
    · exact (R.ob a ha).2 z
    · obtain ⟨u, hu⟩ := R.st.dom a (.inr (.inr ha))
      rw [z, h] at hu; cases hu
/-- what a creation comes to -/
def OKN (T : Tx) (Mb : AP') (ow : List (Option Addr)) (W : WX) (σ : L2.St) (r : List Addr) (H : Hp) (x : Res D) (Q : VK) : Prop :=
  match x with
  | .ok d st' => ∃ o, newO d = some o ∧ ∀ r' H' p, H p = none → p ∉ r' → Nx r H r' H' → StR T.toTb (Ms (Mp Mb p) r' ow) r' H' st' → ObjR T.toTb H' (Ms (Mp Mb p) r' ow) r' p o → Q (.ref p) H'
  | .exn x st' => ∀ r' H' cls d, Nx r H r' H' → StR T.toTb (Ms Mb r' ow) r' H' st' → ExcR T H' (Ms Mb r' ow) r' x cls d → W cls d σ H'
  | .bad => False
/-- a creation that is only read -/
theorem OKN.frz {W : WX} {x : Res D} {Q : VK} (s : StR T.toTb (Ms Mb r ow) r H st) (h : OK T Mb ow W σ r H x (Post T Mb ow Q)) (hn : ∀ d st', x = .ok d st' → ∃ o, newO d = some o) : OKN T Mb ow W σ r H x Q := by
  cases x with
  | ok d st' =>
    obtain ⟨o, ho⟩ := hn d st' rfl
    refine ⟨o, ho, fun r' H' p hp hr n s' ob => h r' H' n s'.shrink _ ?_⟩
    have nm : ¬ Ms Mb r' ow p := fun z => by
      rcases z with z | z | z
      · obtain ⟨u, hu⟩ := s.dom p (.inl z)
        rw [hp] at hu; cases hu
      · exact hr z
      · obtain ⟨u, hu⟩ := s.dom p (.inr (.inr z))
        rw [hp] at hu; cases hu
    cases d with
    | lst ds =>
      cases ho
      obtain ⟨xs, h1, h2⟩ := ob
      exact .lst h1 nm (h2.mono shrink_p)
    | dct kv =>
      cases ho
      obtain ⟨xs, h1, h2⟩ := ob
      exact .dct h1 nm (h2.mono shrink_p)
    | _ => cases ho
  | exn x st' => exact h
  | bad => exact h
/-- .. a creation in one step -/
theorem OKN.at {W : WX} {o : HO} {d : D} {Q : VK} (s : StR T.toTb (Ms Mb r ow) r H st) (h : OKN T Mb ow W σ r H (.ok d st) Q) {p : Addr} (hp : H p = none) {ob : O} (hn : newO d = some ob)
    (q : ObjR T.toTb (upd H p o) (Ms (Mp Mb p) r ow) r p ob) : Q (.ref p) (upd H p o) := by
  obtain ⟨ob', e, h⟩ := h
  rw [hn] at e; cases e
  exact h r _ p hp (fun z => s.free hp (.inr (.inl z))) (Nx.new hp) (s.newP hp) q
theorem OKN.list {W : WX} {xs : List V} {ds : List D} {Q : VK} (s : StR T.toTb (Ms Mb r ow) r H st) (h : OKN T Mb ow W σ r H (.ok (.lst ds) st) Q) {p : Addr} (hp : H p = none) (q : RepL T.toTb H (Ms Mb r ow) r xs ds) : Q (.ref p) (upd H p (.lst xs)) :=
  OKN.at s h hp rfl ⟨xs, upd_same, q.mono (grow_pn hp)⟩
theorem OKN.dict {W : WX} {xs : List (Key × V)} {ds : List (KD × D)} {Q : VK} (s : StR T.toTb (Ms Mb r ow) r H st) (h : OKN T Mb ow W σ r H (.ok (.dct ds) st) Q) {p : Addr} (hp : H p = none) (q : RepK T.toTb H (Ms Mb r ow) r xs ds) : Q (.ref p) (upd H p (.dK xs)) :=
  OKN.at s h hp rfl ⟨xs, upd_same, q.mono (grow_pn hp)⟩
/-- it becomes the store's -/
theorem StR.push {p : Addr} {o : O} (s : StR T.toTb (Ms (Mp Mb p) r ow) r H st) (hr : p ∉ r) (q : ObjR T.toTb H (Ms (Mp Mb p) r ow) r p o) : StR T.toTb (Ms Mb (r ++ [p]) ow) (r ++ [p]) H (st ++ [o]) := by
  have g : Grow H (Ms (Mp Mb p) r ow) r H (Ms Mb (r ++ [p]) ow) (r ++ [p]) := by
    refine ⟨fun _ _ e _ => e, fun a z => .inl ?_, fun n a e => ?_⟩
    · rcases z with z | z | z
      · exact .inl (.inl z)
      · rcases List.mem_append.mp z with z | z
        · exact .inr (.inl z)
        · exact .inl (.inr (by simpa using z))
      · exact .inr (.inr z)
    · obtain ⟨hk, _⟩ := List.getElem?_eq_some_iff.mp e
      rw [List.getElem?_append_left hk]; exact e
  refine ⟨by rw [List.length_append, List.length_append, s.len]; rfl, ?_, fun n a ob e1 e2 => ?_, fun a z => ?_⟩
  · rw [List.nodup_append]
    exact ⟨s.nd, by simp, fun a ha b hb => by
      have : b = p := by simpa using hb
      subst this
      exact fun z => hr (z ▸ ha)⟩
  · by_cases hn : n < r.length
    · rw [List.getElem?_append_left hn] at e1
      rw [List.getElem?_append_left (by rw [← s.len]; exact hn)] at e2
      exact (s.obj n a ob e1 e2).mono g fun _ q => q
    · have hn2 : n = r.length := by
        obtain ⟨h3, _⟩ := List.getElem?_eq_some_iff.mp e1
        rw [List.length_append, List.length_singleton] at h3
        omega
      subst hn2
      rw [List.getElem?_append_right (Nat.le_refl _), Nat.sub_self] at e1
      rw [s.len, List.getElem?_append_right (Nat.le_refl _), Nat.sub_self] at e2
      cases e1; cases e2
      exact q.mono g fun _ q => q
  · rcases z with z | z | z
    · exact s.dom a (.inl (.inl z))
    · rcases List.mem_append.mp z with z | z
      · exact s.dom a (.inr (.inl z))
      · have : a = p := by simpa using z
        exact s.dom a (.inl (.inr this))
    · exact s.dom a (.inr (.inr z))
theorem Nx.push {p : Addr} (n : Nx r H r' H') (hp : H p = none) : Nx r H (r' ++ [p]) H' := by
  obtain ⟨e, he, hf⟩ := n.ext
  refine ⟨n.keep, ⟨e ++ [p], by rw [he, List.append_assoc], fun a ha => ?_⟩, n.dom⟩
  rcases List.mem_append.mp ha with z | z
  · exact hf a z
  · have : a = p := by simpa using z
    rw [this]; exact hp
end
section
variable {X : Cx} {T : Tx}
theorem mu_pop : MtM X "list.pop" (fun x xs H Q => xs = [] ∧ rOp1 T opPop x H Q) := by
  intro pins s σ H x xs v us Q I rx rs h
  obtain ⟨rfl, Mb, r, ow, st, d, W, σ', S, hx, h⟩ := h
  unfold opPop at h
  split at h
  · rename_i n
    obtain ⟨a, rfl, hr⟩ := hx.ref
    split at h
    · rename_i ds hds
      split at h
      · rename_i d' hd'
        obtain ⟨xs, h1, h2⟩ := S.obj n a _ hr hds
        rw [List.getLast?_eq_getElem?] at hd'
        have hl := h2.len
        rw [← hl] at hd'
        obtain ⟨y, hy, rd⟩ := h2.at hd'
        have hm : a ∈ r := List.mem_of_getElem? hr
        refine mt_pop pins s σ H _ _ v us Q I rx rs ⟨a, xs, y, rfl, rfl, h1, hy, ?_⟩
        exact h r _ (Nx.wr hm) (S.set hr ⟨xs.dropLast, upd_same, h2.dropLast.mono (Nx.wr hm).grow⟩) y (rd.wr hm)
      · exact h.elim
    · exact h.elim
  · exact h.elim
theorem mu_count (hK : T.K = X.K) : MtR X "list.count" (rM1 T opCount) := by
  intro pins s σ H x xs v us Q I rx rs h
  obtain ⟨y, rfl, Mb, r, ow, st, d, e, W, σ', S, hx, hy, h⟩ := h
  unfold opCount at h
  split at h
  · split at h
    · rename_i bs hbs
      cases hy.bl
      cases e1 : asL d st with
      | none => rw [e1] at hbs; cases hbs
      | some ds =>
        rw [e1] at hbs
        obtain ⟨p, ys, rfl, h1, q1⟩ := hx.list S e1
        have e2 := bls_rep q1 hbs
        subst e2
        cases rx
        obtain ⟨u, rfl, ru⟩ := rs.one
        have hq : SqL X.K H p (bs.map V.bl) := .of h1
        obtain ⟨its, rv, ⟨⟨cls, dd, data, sl⟩, n, ho, hc, hdn, hd⟩, hlen⟩ := I.list hq
        simp only at hc hd
        subst hc hd
        have fl : (bs.map V.bl).all flatV = true := by
          rw [List.all_map]
          exact List.all_eq_true.mpr fun _ _ => rfl
        refine call_meets PySem.F.slot_list_count ⟨_, ho, rfl⟩ PySem.F.entry_list_count (PySem.F.args_list_count_2 _ _)
          (SeqAt.list_countAt p its.toArray n dd sl u (eqU (.bl true))) ⟨ho, fun y hy => mem_eqAt ru rfl rv fl y (by simpa using hy), ?_⟩
        have ec : its.toArray.toList.countP (eqU (.bl true)) = bs.count true := by
          rw [List.toList_toArray]
          clear hlen ho hbs q1 h1 hq fl h hdn
          induction bs generalizing its with
          | nil => cases rv; rfl
          | cons b bs ih =>
            cases rv with
            | @cons _ u' _ us' r1 rv =>
              cases r1
              rw [List.countP_cons, List.count_cons, ih us' rv]
              rfl
        refine ⟨.int (bs.count true : Nat), H, I.tok _, ⟨s.toks, ?_⟩, h.now S _ (.int _)⟩
        show Value.int ((its.toArray.toList.countP (eqU (.bl true)) : Nat) : Int) s.toks = Value.int ((bs.count true : Nat) : Int) s.toks
        rw [ec]
    · exact h.elim
  · exact h.elim
theorem mu_index (hK : T.K = X.K) : MtR X "list.index" (rM1 T opIndex) := by
  intro pins s σ H x xs v us Q I rx rs h
  obtain ⟨y, rfl, Mb, r, ow, st, d, e, W, σ', S, hx, hy, h⟩ := h
  unfold opIndex at h
  split at h
  · rename_i z
    split at h
    · rename_i ls hls
      split at h
      · rename_i j hj
        cases hy.str
        cases e1 : asL d st with
        | none => rw [e1] at hls; cases hls
        | some ds =>
          rw [e1] at hls
          obtain ⟨p, ys, rfl, h1, q1⟩ := hx.list S e1
          have e2 := strs_rep q1 hls
          subst e2
          have hz := List.findIdx?_eq_some_iff_getElem.mp hj
          obtain ⟨hlt, hz1, hz2⟩ := hz
          refine mt_index pins s σ H _ _ v us Q I rx rs ⟨p, _, .str (mkS z), j, .str (mkS ls[j]), rfl, rfl, .of h1, rfl, ?_, ?_, ?_, fun m z' hm hz' => ?_, h.now S _ (.int _)⟩
          · rw [List.all_map, List.all_map]
            exact List.all_eq_true.mpr fun _ _ => rfl
          · simp [hlt]
          · show (mkS ls[j] == mkS z) = true
            rw [beq_mkS]; exact hz1
          · have hm2 : m < ls.length := by omega
            simp [hm2] at hz'
            subst hz'
            show (mkS ls[m] == mkS z) = false
            rw [beq_mkS]
            simpa using hz2 m hm
      · exact h.elim
    · exact h.elim
  · exact h.elim
end
end Iv
end
section
set_option Elab.async false
set_option linter.all false
set_option maxRecDepth 100000
set_option maxHeartbeats 1000000
/-! Readings of the core language; calls with a room that counts each frame once. -/
namespace Iv
open PySem PySem.Spec PySem.Calls PyProof.Rows L2
/-! ### syntax: what the rules ask -/
def notStar : Expr → Bool
  | .Starred .. => false
  | _ => true
def plainBase : Expr → Bool
  | .Call (.Name id _) [] [] _ => id != "super"
  | _ => true
def plainIx : Expr → Bool
  | .Slice .. => false
  | _ => true
def plainTest : Expr → Bool
  | .UnaryOp .. => false
  | .BoolOp .. => false
  | .IfExp .. => false
  | .Compare .. => false
  | _ => true
def notComp : Expr → Bool
  | .ListComp .. => false
  | .SetComp .. => false
  | .DictComp .. => false
  | _ => true
def notSet : Expr → Bool
  | .Set .. => false
  | _ => true
theorem star_cons {e : Expr} {es : List Expr} {env : PySem.Env} (h : notStar e = true) : starEach (e :: es) env = (false, eval e env) :: starEach es env := by
  cases e <;> first | rfl | cases h
theorem star_all {es : List Expr} {env : PySem.Env} {pos : Pos} (h : es.all notStar = true) : (backTo pos (starEach es env)).any (·.1) = false := by
  induction es with
  | nil => rfl
  | cons e es ih =>
    rw [List.all_cons, Bool.and_eq_true] at h
    rw [star_cons h.1]
    show (false || (backTo pos (starEach es env)).any (·.1)) = false
    rw [ih h.2]; rfl
theorem star_none {es : List Expr} {env : PySem.Env} {pos : Pos} (h : es.all notStar = true) : (backTo pos (starEach es env)).all (fun x => !x.1) = true := by
  induction es with
  | nil => rfl
  | cons e es ih =>
    rw [List.all_cons, Bool.and_eq_true] at h
    rw [star_cons h.1]
    show (true && (backTo pos (starEach es env)).all (fun x => !x.1)) = true
    rw [ih h.2]; rfl
theorem base_plain {o : Expr} {m : Str} {env : PySem.Env} {w : Sem Value} (h : plainBase o = true) : attributeBase o m env w = w := by
  unfold attributeBase
  split
  · rename_i id p q
    have h1 : (id != "super") = true := h
    rw [h1]
    rfl
  · rfl
theorem ix_plain {b : Expr} (h : plainIx b = true) : PlainIx b := by
  intro o i
  cases b <;> first | rfl | cases h
theorem marks_no {op : CmpOp} {b : Expr} (h : notSet b = true) : behindInMarks op b = false := by
  cases b <;> first | rfl | cases h
theorem marks2_no {op op' : CmpOp} {b c : Expr} (h : notSet c = true) : lastMarks [op, op'] [b, c] = false := by
  show behindInMarks op' c = false
  exact marks_no h
theorem swaps_no {e : Expr} {t : Option Expr} {l : Nat} {env : PySem.Env} (h : notComp e = true) : swapsWith e t l env = pure false := by
  cases e <;> first | rfl | cases h
theorem folded_no {e : Expr} {env : PySem.Env} (h : notSet e = true) (x : Value) : foldedSetIterable e env x = pure x := by
  cases e <;> first | rfl | cases h
theorem few_ok {es : List Expr} {env : PySem.Env} {pos : Pos} (h : es.all notStar = true) (hl : es.length < 30) : ((backTo pos (starEach es env)).all (fun x => !x.1) && (backToKw pos (keywordEach [] env)).all (fun x => x.1.isSome)
      && decide (es.length + ([] : List Keyword).length + (if ([] : List Keyword).isEmpty then 0 else 1) < 30)) = true := by
  rw [star_none h]
  have e : (decide (es.length + ([] : List Keyword).length + (if ([] : List Keyword).isEmpty then 0 else 1) < 30)) = true := decide_eq_true (by simpa using hl)
  rw [e]; rfl
theorem meth_eq {o : Expr} {m : Str} {apos pos : Pos} {es : List Expr} {env : PySem.Env} (hb : plainBase o = true) (hs : es.all notStar = true) (hn : es.length < 30) (hl : (apos.endLine == pos.line) = true) :
    eval (.Call (.Attribute o m apos) es [] pos) env = (do
      let ov ← eval o env
      standAt apos.atName
      let (f, first) ← holding [ov] (getMethod ov m (do return (← importBound o env).getD true))
      callWith pos f first (backTo pos (starEach es env)) (backToKw pos (keywordEach [] env))) := by
  have e1 : eval (.Call (.Attribute o m apos) es [] pos) env = (do
      let ov ← attributeBase o m env (eval o env)
      standAt apos.atName
      methodCall o m apos pos env ov (es.length + ([] : List Keyword).length) (backTo pos (starEach es env)) (backToKw pos (keywordEach [] env))) := by rw [eval]
  have hf : methodCallForm (es.length + ([] : List Keyword).length) (backTo pos (starEach es env)) (backToKw pos (keywordEach [] env)) = true := by
    unfold methodCallForm
    have := few_ok (env := env) (pos := pos) hs hn
    exact this
  rw [e1, base_plain hb]
  refine congrArg (fun k => eval o env >>= k) (funext fun ov => ?_)
  refine congrArg (fun k => standAt apos.atName >>= k) (funext fun _ => ?_)
  unfold methodCall
  rw [hf]
  have hp : methodCallPos true o env apos pos = pure pos := by
    unfold methodCallPos
    rw [hl]; rfl
  rw [hp]
  rfl
/-! ### room: one for each frame -/
structure RoomP (n : Nat) (A : Around) : Prop where
  hd : A.handled = none
  dp : A.depth + n + 8 < recursionLimit
  un : A.units + 4 * n + 1100 < cLine
theorem RoomP.mono {j k : Nat} {A : Around} (r : RoomP k A) (h : j ≤ k) : RoomP j A := ⟨r.hd, by have := r.dp; omega, by have := r.un; omega⟩
theorem RoomP.deeper {k : Nat} {A : Around} (r : RoomP (k + 1) A) (env : PySem.Env) : RoomP k (A.deeper env) :=
  ⟨r.hd, by have := r.dp; show A.depth + 1 + k + 8 < _; omega, by have := r.un; show A.units + 3 + 4 * k + 1100 < _; omega⟩
theorem RoomP.make {k : Nat} {A : Around} (r : RoomP (k + 1) A) (C : Addr) (us : List Value) (kw : List (Str × Value)) : RoomP k (A.under (.builtin "type.__call__" ⟨.ref C :: us, kw⟩)) :=
  ⟨r.hd, by have := r.dp; rw [make_depth]; omega, by have := r.un; rw [make_units]; omega⟩
structure FnP (P : Program) (w : World) (K : PySem.W.Frag) (mg : Str → Option Value) (base : Heap) (k : Nat) (f : Addr) (fd : FuncData) (ps : List Str) (sp : Sp) : Prop where
  len : ∀ vs H Q E, sp vs H Q E → vs.length = ps.length
  run : ∀ (A : Around) (outer : List PySem.Env) (s : Shared) (H : Hp) (args : Args) (us : List Value) (vs : List V) (Q : VK) (E : XK), RoomP k A → Env0 P w K mg base A outer s H → BindsTo s fd args (ps.zip us) → Vals vs us → sp vs H Q E →
    codeAny (model P w) A (.call (.ref f) args) (CR (L2N.CX P w) outer P w H s Q E) s
theorem fn_ofP {P : Program} {w : World} {K : PySem.W.Frag} {mg : Str → Option Value} {base : Heap} {k : Nat} {f : Addr} {name qual : Str} {params : Arguments} {body : List Stmt} {scope : Scope} {dV kV doc pm cdv ct oc : Value} {an od : Option Addr}
    {osl : Array (Option Value)} {N ps : List Str} {sp : Sp} (lk : K.lookup f = some ⟨oc, od, .func (PySem.W.fnOf name qual params body scope dV kV doc pm an cdv ct), osl⟩) (hcd : PySem.W.codeIn K cdv qual = true) (S : FnScope N ps scope)
    (len : ∀ vs H Q E, sp vs H Q E → vs.length = ps.length)
    (hbody : ∀ (A : Around) (outer : List PySem.Env) (s : Shared) (H : Hp) (vs : List V) (Q : VK) (E : XK), RoomP k (A.deeper (envOfC qual scope s.heap.objs.size f cdv)) → sp vs H Q E →
      ∃ t, PSs (cxOf (L2N.CX P w) P w K mg base N qual scope f cdv A outer s H E) body t ∧ t { nx := fun _ H' => Q .non H', rt := Q } (start N vs) H) :
    FnP P w K mg base (k + 1) f (PySem.W.fnOf name qual params body scope dV kV doc pm an cdv ct) ps sp := by
  refine ⟨len, fun A outer s H args us vs Q E hr e0 hb r hsp => ?_⟩
  have hl := len _ _ _ _ hsp
  have KX : K.In s.heap := e0.mod.kin.keeps fun b o e => (e0.bs b o e).1
  have lim : s.heap.NoLimit := e0.mod.nolimit.keeps fun b o e => (e0.bs b o e).1
  have hkind : ∀ y ∈ ps.zip us, scope.names.lookup y.1 = some .local ∨ (scope.names.lookup y.1 = some .cell ∧ ((cellsFrom (s.heap.objs.size + 1) scope.names []).lookup y.1).isSome = true) := fun ⟨n, v⟩ hy => by
    rcases S.par n (List.of_mem_zip hy).1 with q | q
    · exact .inl q
    · exact .inr ⟨q, PySem.W.cellsFrom_some _ _ _ (.inl q)⟩
  refine codeAny_call_function (by have := hr.dp; omega) (KX _ _ lk) rfl S.co S.gen rfl (PySem.W.codeRec_of KX hcd) (hb _ _ _ _ ?_)
  refine wpAny_newFunctionEnv_cells S.kind hkind fun env he s1 x => ?_
  subst he
  refine ⟨lim.keeps x.toInCall.keep, codeAny_func ?_⟩
  obtain ⟨t, ht, hq⟩ := hbody A outer s H vs Q E (hr.deeper _) hsp
  have I : L2.Inv (cxOf (L2N.CX P w) P w K mg base N qual scope f cdv A outer s H E) [] (start N vs) H s1 := inv_start S hr.hd e0 hl r x
  refine wpAny_mono (ht.run [] s1 (start N vs) H _ I hq) (fun fl s' hs => ?_) fun e s' hs => hs
  have fin : ∀ {σ' : L2.St} {H' : Hp} {v : V} {u : Value}, L2.Inv (cxOf (L2N.CX P w) P w K mg base N qual scope f cdv A outer s H E) [] σ' H' s' → RelV v u → Q v H' → CE outer P w H s Q u s' :=
    fun {σ' H' v u} J rv q => ⟨v, H', J.os, J.bare, J.base, J.hok, rv, q⟩
  cases fl with
  | ret u =>
    obtain ⟨v, σ', H', J, rv, q⟩ := hs
    exact fin J rv q
  | next =>
    obtain ⟨σ', H', J, q⟩ := hs
    exact fin (v := V.non) (u := Value.none) J rfl q
  | brk =>
    obtain ⟨_, _, _, q⟩ := hs
    exact False.elim q
  | cont =>
    obtain ⟨_, _, _, q⟩ := hs
    exact False.elim q
section
variable {X : Cx} {W : WX} {k : Nat} {f C : Addr} {fd : FuncData} {ps : List Str} {sp : Sp} {x m : Str} {p pos apos : Pos} {o : Expr} {es : List Expr} {ta : TE} {t : TA}
theorem run_fnP {pins : List (Addr × Obj)} {σ : L2.St} {H : Hp} {s : Shared} {Q : VK} {us : List Value} {vs : List V} (F : FnP X.prog X.w X.K X.mg X.base k f fd ps sp) (hr : RoomP k X.A) (hb : Binds X.K fd ps []) (tk : L2N.Takes X W)
    (I : L2.Inv X pins σ H s) (r : Vals vs us) (h : sp vs H Q (fun cls d H' => W cls d σ H')) : wpAny (model X.prog X.w) X.A (call (.ref f) us) (EP X pins σ Q) X.xe s := by
  have hl : us.length = ps.length := by rw [← r.length]; exact F.len _ _ _ _ h
  have hb' := hb s us I.kIn (by rw [List.append_nil]; exact hl)
  rw [List.append_nil] at hb'
  refine wpAny_call (codeAny_mono (F.run X.A X.stack s H ⟨us, []⟩ us vs Q _ hr I.env0 hb' r h) fun r s' hq => ?_)
  cases r with
  | error e => exact tk _ _ (L2N.XE.of_call I (fun _ _ _ q => q) hq)
  | ok fl =>
    cases fl with
    | ret u => exact I.after hq
    | next => exact False.elim hq
    | brk => exact False.elim hq
    | cont => exact False.elim hq
theorem pe_callP {e : Expr} (F : FnP X.prog X.w X.K X.mg X.base k f fd ps sp) (hr : RoomP k X.A) (hg : Gl X x) (hm : X.mg x = some (.ref f)) (hk : PySem.W.keepIn X.K (.ref f) = true) (hb : Binds X.K fd ps []) (tk : L2N.Takes X W)
    (ha : PA X (e :: es) t) (hs : (e :: es).all notStar = true) (hdb : (x == ("__debug__" : Str)) = false) :
    PE X (.Call (.Name x p) (e :: es) [] pos) (fun σ H Q => t σ H fun vs H1 => sp vs H1 Q (fun cls d H' => W cls d σ H')) := by
  refine ⟨fun pins s σ H Q I h => ?_⟩
  rw [List.all_cons, Bool.and_eq_true] at hs
  refine wpAny_Call_Name_kw (ld_glob I hg hm ?_ hdb)
  refine PySem.W.callWith_K (h₀ := X.base) I.ok.mod.kin hk (thn (ha.run pos pins s σ H _ I h) fun us s1 ⟨vs, H1, I1, r, q⟩ => ⟨I1.kIn, ?_⟩) (star_cons hs.1) (star_all hs.2)
  exact run_fnP F hr hb tk I1 r q
theorem pe_callP0 (F : FnP X.prog X.w X.K X.mg X.base k f fd ps sp) (hr : RoomP k X.A) (hg : Gl X x) (hm : X.mg x = some (.ref f)) (hk : PySem.W.keepIn X.K (.ref f) = true) (hb : Binds X.K fd ps []) (tk : L2N.Takes X W)
    (hdb : (x == ("__debug__" : Str)) = false) : PE X (.Call (.Name x p) [] [] pos) (fun σ H Q => sp [] H Q (fun cls d H' => W cls d σ H')) := by
  refine ⟨fun pins s σ H Q I h => ?_⟩
  refine wpAny_Call_Name_kw (ld_glob I hg hm ?_ hdb)
  exact PySem.W.callWith_K0 I.kIn hk (run_fnP (us := []) F hr hb tk I .nil h)
/-- o.m(..): the receiver stands while the arguments are evaluated -/
theorem pe_methP {e : Expr} (he : PE X o ta) (c : Cls X.K C) (hm : Meth X.K C m f) (F : FnP X.prog X.w X.K X.mg X.base k f fd ps sp) (hr : RoomP k X.A) (hb : Binds X.K fd ps []) (tk : L2N.Takes X W) (ha : PA X (e :: es) t)
    (hbase : plainBase o = true) (hs : (e :: es).all notStar = true) (hn : (e :: es).length < 30) (hl : (apos.endLine == pos.line) = true) :
    PE X (.Call (.Attribute o m apos) (e :: es) [] pos) (fun σ H Q => ta σ H fun y H1 => ∃ a dx fs, y = .ref a ∧ H1 a = some (.ins C dx fs) ∧ fs.lookup m = none ∧ t σ H1 fun vs H2 => sp (y :: vs) H2 Q (fun cls d H' => W cls d σ H')) := by
  refine ⟨fun pins s σ H Q I h => ?_⟩
  refine PySem.W.methodCall_KW (pl := do return (← importBound o X.env).getD true) (thn (he.run pins s σ H _ I h) fun u s1 ⟨y, H1, I1, rx, a, dx, fs, ex, ea, l, q⟩ => ?_) (meth_eq hbase hs hn hl)
  subst ex
  obtain rfl : u = Value.ref a := rx
  rw [List.all_cons, Bool.and_eq_true] at hs
  refine getmeth_ok I1 ea c hm l ?_
  refine PySem.W.callWith_K (first := [.ref a]) (h₀ := X.base) I.ok.mod.kin hm.kp (thn (ha.run pos pins s1 σ H1 _ I1 q) fun us s2 ⟨vs, H2, I2, r, q2⟩ => ⟨I2.kIn, ?_⟩) (star_cons hs.1) (star_all hs.2)
  exact run_fnP (us := .ref a :: us) (vs := .ref a :: vs) F hr hb tk I2 (.cons rfl r) q2
theorem pe_methP0 (he : PE X o ta) (c : Cls X.K C) (hm : Meth X.K C m f) (F : FnP X.prog X.w X.K X.mg X.base k f fd ps sp) (hr : RoomP k X.A) (hb : Binds X.K fd ps []) (tk : L2N.Takes X W)
    (hbase : plainBase o = true) (hl : (apos.endLine == pos.line) = true) :
    PE X (.Call (.Attribute o m apos) [] [] pos) (fun σ H Q => ta σ H fun y H1 => ∃ a dx fs, y = .ref a ∧ H1 a = some (.ins C dx fs) ∧ fs.lookup m = none ∧ sp [y] H1 Q (fun cls d H' => W cls d σ H')) := by
  refine ⟨fun pins s σ H Q I h => ?_⟩
  refine PySem.W.methodCall_KW (pl := do return (← importBound o X.env).getD true) (thn (he.run pins s σ H _ I h) fun u s1 ⟨y, H1, I1, rx, a, dx, fs, ex, ea, l, q⟩ => ?_) (meth_eq hbase rfl (by decide) hl)
  subst ex
  obtain rfl : u = Value.ref a := rx
  refine getmeth_ok I1 ea c hm l ?_
  exact PySem.W.callWith_K0 (first := [.ref a]) I1.kIn hm.kp (run_fnP (us := [.ref a]) (vs := [.ref a]) F hr hb tk I1 (.cons rfl .nil) q)
/-- C(..) -/
def tMk (W : WX) (C : Addr) (sp : Sp) (vs : List V) (σ : L2.St) (H : Hp) (Q : VK) : Prop := ∀ x dx, H x = none → H dx = none → dx ≠ x →
  sp (.ref x :: vs) (upd (upd H dx (.own x)) x (.ins C dx [])) (fun v H2 => v = .non ∧ Q (.ref x) H2) (fun cls d H' => W cls d σ H')
theorem run_makeP {pins : List (Addr × Obj)} {σ : L2.St} {H : Hp} {s : Shared} {Q : VK} {us : List Value} {vs : List V} (M : Mk X.K C f) (F : FnP X.prog X.w X.K X.mg X.base k f fd ps sp) (hr : RoomP (k + 1) X.A) (hb : Binds X.K fd ps []) (tk : L2N.Takes X W)
    (I : L2.Inv X pins σ H s) (r : Vals vs us) (h : tMk W C sp vs σ H Q) : wpAny (model X.prog X.w) X.A (call (.ref C) us) (EP X pins σ Q) X.xe s := by
  have hq := h (s.heap.objs.size + 1) s.heap.objs.size (I.hok.fresh (Nat.le_succ _)) (I.hok.fresh (Nat.le_refl _)) (Nat.ne_of_lt (Nat.lt_succ_self _))
  have I2 := Inv.made (C := C) I
  have r2 : Vals (V.ref (s.heap.objs.size + 1) :: vs) (Value.ref (s.heap.objs.size + 1) :: us) := .cons rfl r
  have hl : (Value.ref (s.heap.objs.size + 1) :: us).length = ps.length := by
    have e := r2.length
    rw [F.len _ _ _ _ hq] at e
    exact e.symm
  have hb' := hb _ (Value.ref (s.heap.objs.size + 1) :: us) I2.kIn (by rw [List.append_nil]; exact hl)
  rw [List.append_nil] at hb'
  refine wpAny_call (make_map (f := f) I.kIn M.makes M.init (beq_iff_eq.mp M.fn) (codeAny_mono (F.run _ X.stack _ _ ⟨Value.ref (s.heap.objs.size + 1) :: us, []⟩ (Value.ref (s.heap.objs.size + 1) :: us) _ _ _ (hr.make C us [])
    (I2.env0.make C us []) hb' r2 hq) fun r s' hq' => ?_))
  cases r with
  | error e => exact tk _ _ (L2N.XE.of_call I2 (fun _ _ _ q => q) hq')
  | ok fl =>
    cases fl with
    | ret u =>
      obtain ⟨v, H', I3, rv, ev, q3⟩ := I2.after hq'
      subst ev
      exact ⟨rv, ⟨V.ref (s.heap.objs.size + 1), H', I3, rfl, q3⟩⟩
    | next => exact False.elim hq'
    | brk => exact False.elim hq'
    | cont => exact False.elim hq'
theorem pe_makeP {e : Expr} (M : Mk X.K C f) (F : FnP X.prog X.w X.K X.mg X.base k f fd ps sp) (hr : RoomP (k + 1) X.A) (hg : Gl X x) (hm : X.mg x = some (.ref C)) (hb : Binds X.K fd ps []) (tk : L2N.Takes X W)
    (ha : PA X (e :: es) t) (hs : (e :: es).all notStar = true) (hdb : (x == ("__debug__" : Str)) = false) :
    PE X (.Call (.Name x p) (e :: es) [] pos) (fun σ H Q => t σ H fun vs H1 => tMk W C sp vs σ H1 Q) := by
  refine ⟨fun pins s σ H Q I h => ?_⟩
  rw [List.all_cons, Bool.and_eq_true] at hs
  refine wpAny_Call_Name_kw (ld_glob I hg hm ?_ hdb)
  refine PySem.W.callWith_K (h₀ := X.base) I.ok.mod.kin M.kp (thn (ha.run pos pins s σ H _ I h) fun us s1 ⟨vs, H1, I1, r, q⟩ => ⟨I1.kIn, ?_⟩) (star_cons hs.1) (star_all hs.2)
  exact run_makeP M F hr hb tk I1 r q
theorem pe_makeP0 (M : Mk X.K C f) (F : FnP X.prog X.w X.K X.mg X.base k f fd ps sp) (hr : RoomP (k + 1) X.A) (hg : Gl X x) (hm : X.mg x = some (.ref C)) (hb : Binds X.K fd ps []) (tk : L2N.Takes X W)
    (hdb : (x == ("__debug__" : Str)) = false) : PE X (.Call (.Name x p) [] [] pos) (fun σ H Q => tMk W C sp [] σ H Q) := by
  refine ⟨fun pins s σ H Q I h => ?_⟩
  refine wpAny_Call_Name_kw (ld_glob I hg hm ?_ hdb)
  exact PySem.W.callWith_K0 I.kIn M.kp (run_makeP (us := []) M F hr hb tk I .nil h)
end
end Iv
end
section
set_option Elab.async false
set_option linter.all false
set_option maxRecDepth 100000
set_option maxHeartbeats 1000000
/-! Readings of the core language's expressions. -/
namespace Iv
open PySem PySem.Spec PySem.Calls PyProof.Rows L2
abbrev SEnv := Iv.Env
section
variable (T : Tx) (pe : Pe) (W : WX) (cs : Iv.Calls)
def tE (e : E) : TE := fun σ H Q => ∃ (Mb : AP') (r : List Addr) (ow : List (Option Addr)) (st : Store) (env : SEnv), Rel T pe Mb r ow H st σ env ∧
  OK T Mb ow W σ r H (evalE cs e env st) (fun r' H' d _ => ∀ v, RepW e.strong T.toTb H' (Ms Mb r' ow) r' v d → Q v H')
def tN (e : E) : TE := fun σ H Q => ∃ (Mb : AP') (r : List Addr) (ow : List (Option Addr)) (st : Store) (env : SEnv), Rel T pe Mb r ow H st σ env ∧ OKN T Mb ow W σ r H (evalE cs e env st) Q
def tL (es : List E) : TA := fun σ H Q => ∃ (Mb : AP') (r : List Addr) (ow : List (Option Addr)) (st : Store) (env : SEnv), Rel T pe Mb r ow H st σ env ∧
  OK T Mb ow W σ r H (evalL cs es env st) (fun r' H' ds _ => ∀ vs, RepL T.toTb H' (Ms Mb r' ow) r' vs ds → Q vs H')
def tT (e : E) : TT := fun σ H Q => ∃ (Mb : AP') (r : List Addr) (ow : List (Option Addr)) (st : Store) (env : SEnv), Rel T pe Mb r ow H st σ env ∧
  OK T Mb ow W σ r H ((evalE cs e env st).bind isT) (fun r' H' b _ => Q b H')
end
theorem peI {X : Cx} {x : Expr} {t t' : TE} (h : PE X x t) (f : ∀ σ H Q, t' σ H Q → t σ H Q) : PE X x t' := ⟨fun pins s σ H Q I q => h.run pins s σ H Q I (f _ _ _ q)⟩
theorem paI {X : Cx} {x : List Expr} {t t' : TA} (h : PA X x t) (f : ∀ σ H Q, t' σ H Q → t σ H Q) : PA X x t' := ⟨fun pos pins s σ H Q I q => h.run pos pins s σ H Q I (f _ _ _ q)⟩
theorem ptI {X : Cx} {x : Expr} {t t' : TT} (h : PT X x t) (f : ∀ σ H Q, t' σ H Q → t σ H Q) : PT X x t' := ⟨fun pins s σ H Q I q => h.run pins s σ H Q I (f _ _ _ q)⟩
theorem pwI {X : Cx} {x : Expr} {t t' : TT} (h : PW X x t) (f : ∀ σ H Q, t' σ H Q → t σ H Q) : PW X x t' := ⟨fun w pins s σ H Q I q => h.run w pins s σ H Q I (f _ _ _ q)⟩
theorem psI {X : Cx} {x : Stmt} {t t' : TS} (h : PS X x t) (f : ∀ D σ H, t' D σ H → t D σ H) : PS X x t' := ⟨fun pins s σ H D I q => h.run pins s σ H D I (f _ _ _ q)⟩
theorem pssI {X : Cx} {x : List Stmt} {t t' : TS} (h : PSs X x t) (f : ∀ D σ H, t' D σ H → t D σ H) : PSs X x t' := ⟨fun pins s σ H D I q => h.run pins s σ H D I (f _ _ _ q)⟩
section
variable {T : Tx} {pe : Pe} {W : WX} {cs : Iv.Calls} {Mb : AP'} {r : List Addr} {ow : List (Option Addr)} {H : Hp} {st : Store} {σ : L2.St} {env : SEnv} {X : Cx}
/-- the first part of an evaluation -/
theorem tE_go {a : E} {β : Type} {k : D → Store → Res β} {Qb : List Addr → Hp → β → Store → Prop} (R : Rel T pe Mb r ow H st σ env) (h : OK T Mb ow W σ r H ((evalE cs a env st).bind k) Qb) {P : VK}
    (f : ∀ r1 H1 st1 d x, Nx r H r1 H1 → Rel T pe Mb r1 ow H1 st1 σ env → RepW a.strong T.toTb H1 (Ms Mb r1 ow) r1 x d → OK T Mb ow W σ r1 H1 (k d st1) Qb → P x H1) : tE T pe W cs a σ H P :=
  ⟨Mb, r, ow, st, env, R, h.bind.imp fun r1 H1 d st1 n s q v hv => f r1 H1 st1 d v n (R.next n s) hv q⟩
theorem tL_go {a : List E} {β : Type} {k : List D → Store → Res β} {Qb : List Addr → Hp → β → Store → Prop} (R : Rel T pe Mb r ow H st σ env) (h : OK T Mb ow W σ r H ((evalL cs a env st).bind k) Qb) {P : List V → Hp → Prop}
    (f : ∀ r1 H1 st1 ds xs, Nx r H r1 H1 → Rel T pe Mb r1 ow H1 st1 σ env → RepL T.toTb H1 (Ms Mb r1 ow) r1 xs ds → OK T Mb ow W σ r1 H1 (k ds st1) Qb → P xs H1) : tL T pe W cs a σ H P :=
  ⟨Mb, r, ow, st, env, R, h.bind.imp fun r1 H1 d st1 n s q v hv => f r1 H1 st1 d v n (R.next n s) hv q⟩
theorem tT_go {a : E} {β : Type} {k : Bool → Store → Res β} {Qb : List Addr → Hp → β → Store → Prop} (R : Rel T pe Mb r ow H st σ env) (h : OK T Mb ow W σ r H (((evalE cs a env st).bind isT).bind k) Qb) {P : Bool → Hp → Prop}
    (f : ∀ r1 H1 st1 b, Nx r H r1 H1 → Rel T pe Mb r1 ow H1 st1 σ env → OK T Mb ow W σ r1 H1 (k b st1) Qb → P b H1) : tT T pe W cs a σ H P :=
  ⟨Mb, r, ow, st, env, R, h.bind.imp fun r1 H1 d st1 n s q => f r1 H1 st1 d n (R.next n s) q⟩
theorem isT_ok {d : D} {Q : List Addr → Hp → Bool → Store → Prop} (h : OK T Mb ow W σ r H (isT d st) Q) : ∃ b, d = .bl b ∧ OK T Mb ow W σ r H (.ok b st) Q := by
  cases d <;> first | exact ⟨_, rfl, h⟩ | exact h.elim
theorem isT_bind {d : D} {β : Type} {k : Bool → Store → Res β} {Q : List Addr → Hp → β → Store → Prop} (h : OK T Mb ow W σ r H ((isT d st).bind k) Q) : ∃ b, d = .bl b ∧ OK T Mb ow W σ r H (k b st) Q := by
  cases d <;> first | exact ⟨_, rfl, h⟩ | exact h.elim
theorem asInt_bind {d : D} {β : Type} {k : Int → Store → Res β} {Q : List Addr → Hp → β → Store → Prop} (h : OK T Mb ow W σ r H ((asInt d st).bind k) Q) : ∃ i, d = .int i ∧ OK T Mb ow W σ r H (k i st) Q := by
  cases d <;> first | exact ⟨_, rfl, h⟩ | exact h.elim
theorem repW_bl {s : Bool} {M : AP'} {v : V} {b : Bool} (h : RepW s T.toTb H M r v (.bl b)) : v = .bl b := h.weak.bl
/-- a plain test -/
theorem pt_of {x : Expr} {e : E} (h : PE X x (tE T pe W cs e)) (hp : plainTest x = true) : PT X x (tT T pe W cs e) := by
  refine ptI (pt_val h fun whole => by cases x <;> first | rfl | cases hp) fun σ H Q ⟨Mb, r, ow, st, env, R, h⟩ => ?_
  refine ⟨Mb, r, ow, st, env, R, h.bind.imp fun r1 H1 d st1 n s q v hv => ?_⟩
  obtain ⟨b, rfl, q⟩ := isT_ok q
  exact ⟨b, repW_bl hv, q.now s⟩
/-- .. a comparison's: from its reading as a test -/
theorem tT_of {t : TE} {e : E} {x : Expr} (h : PT X x (tTest t)) (f : ∀ σ H Q, tE T pe W cs e σ H Q → t σ H Q) : PT X x (tT T pe W cs e) := by
  refine ptI h fun σ H Q ⟨Mb, r, ow, st, env, R, h⟩ => f _ _ _ ?_
  refine ⟨Mb, r, ow, st, env, R, h.bind.imp fun r1 H1 d st1 n s q v hv => ?_⟩
  obtain ⟨b, rfl, q⟩ := isT_ok q
  exact ⟨b, repW_bl hv, q.now s⟩
/-! ### the readings' steps -/
theorem s_bin (op : BOp) (a b : E) (σ : L2.St) (H : Hp) (Q : VK) (h : tE T pe W cs (.bin op a b) σ H Q) : tOp (rOp2 T (opBin op)) (tE T pe W cs a) (tE T pe W cs b) σ H Q := by
  obtain ⟨Mb, r, ow, st, env, R, h⟩ := h
  rw [evalE] at h
  exact tE_go R h fun r1 H1 st1 d x n1 R1 hx h1 => tE_go R1 h1 fun r2 H2 st2 e y n2 R2 hy h2 => ⟨Mb, r2, ow, st2, d, e, W, σ, R2.st, hx.weak.mono n2, hy.weak, h2⟩
theorem s_cmp (op : COp) (a b : E) (σ : L2.St) (H : Hp) (Q : VK) (h : tE T pe W cs (.cmp op a b) σ H Q) : tOp (rOp2 T (opCmp op)) (tE T pe W cs a) (tE T pe W cs b) σ H Q := by
  obtain ⟨Mb, r, ow, st, env, R, h⟩ := h
  rw [evalE] at h
  exact tE_go R h fun r1 H1 st1 d x n1 R1 hx h1 => tE_go R1 h1 fun r2 H2 st2 e y n2 R2 hy h2 => ⟨Mb, r2, ow, st2, d, e, W, σ, R2.st, hx.weak.mono n2, hy.weak, h2⟩
theorem s_idx (a b : E) (σ : L2.St) (H : Hp) (Q : VK) (h : tE T pe W cs (.idx a b) σ H Q) : tOp (rOp2 T opIdx) (tE T pe W cs a) (tE T pe W cs b) σ H Q := by
  obtain ⟨Mb, r, ow, st, env, R, h⟩ := h
  rw [evalE] at h
  exact tE_go R h fun r1 H1 st1 d x n1 R1 hx h1 => tE_go R1 h1 fun r2 H2 st2 e y n2 R2 hy h2 => ⟨Mb, r2, ow, st2, d, e, W, σ, R2.st, hx.weak.mono n2, hy.weak, h2⟩
theorem s_chain (op op' : COp) (a b c : E) (hb : b.strong = true) (σ : L2.St) (H : Hp) (Q : VK) (h : tE T pe W cs (.chain op op' a b c) σ H Q) : tChain (rOp2 T (opCmp op)) (rOp2 T (opCmp op')) (tE T pe W cs a) (tE T pe W cs b) (tE T pe W cs c) σ H Q := by
  obtain ⟨Mb, r, ow, st, env, R, h⟩ := h
  rw [evalE] at h
  refine tE_go R h fun r1 H1 st1 d x n1 R1 hx h1 => tE_go R1 h1 fun r2 H2 st2 e y n2 R2 hy h2 => ⟨Mb, r2, ow, st2, d, e, W, σ, R2.st, hx.weak.mono n2, hy.weak, ?_⟩
  refine h2.bind.imp fun r3 H3 z st3 n3 s3 h3 v hv => ?_
  obtain ⟨b, rfl, h3⟩ := isT_bind h3
  cases hv
  refine ⟨b, rfl, ?_⟩
  cases b with
  | true => exact tE_go (R2.next n3 s3) h3 fun r4 H4 st4 f w n4 R4 hw h4 => ⟨Mb, r4, ow, st4, e, f, W, σ, R4.st, (hy.weak.mono n3).mono n4, hw.weak, h4⟩
  | false => exact h3.now s3 _ (.bl _)
theorem s_isN (a : E) (σ : L2.St) (H : Hp) (Q : VK) (h : tE T pe W cs (.isN a) σ H Q) : tIsN (tE T pe W cs a) σ H Q := by
  obtain ⟨Mb, r, ow, st, env, R, h⟩ := h
  rw [evalE] at h
  refine tE_go R h fun r1 H1 st1 d x n1 R1 hx h1 => ?_
  have q := h1.now R1.st
  have hx := hx.weak
  cases d with
  | non =>
    cases hx.non
    exact q _ (.bl _)
  | _ =>
    have hn : x ≠ .non := by
      rintro rfl
      rcases hx with hx | ⟨a, o, hx, _⟩
      · cases hx
      · cases hx
    rw [decide_eq_false hn]
    exact q _ (.bl _)
theorem s_notN (a : E) (σ : L2.St) (H : Hp) (Q : VK) (h : tE T pe W cs (.notN a) σ H Q) : tNotN (tE T pe W cs a) σ H Q := by
  obtain ⟨Mb, r, ow, st, env, R, h⟩ := h
  rw [evalE] at h
  refine tE_go R h fun r1 H1 st1 d x n1 R1 hx h1 => ?_
  have q := h1.now R1.st
  have hx := hx.weak
  cases d with
  | non =>
    cases hx.non
    exact q _ (.bl _)
  | _ =>
    have hn : x ≠ .non := by
      rintro rfl
      rcases hx with hx | ⟨a, o, hx, _⟩
      · cases hx
      · cases hx
    rw [decide_eq_false hn]
    exact q _ (.bl _)
theorem s_band (a b : E) (σ : L2.St) (H : Hp) (Q : VK) (h : tE T pe W cs (.band a b) σ H Q) : tAndV (tE T pe W cs a) (fun σ H Q => tE T pe W cs b σ H fun x H1 => ∃ c, x = .bl c ∧ Q (.bl c) H1) σ H Q := by
  obtain ⟨Mb, r, ow, st, env, R, h⟩ := h
  rw [evalE] at h
  refine tE_go R h fun r1 H1 st1 d x n1 R1 hx h1 => ?_
  obtain ⟨c, rfl, h1⟩ := isT_bind h1
  refine ⟨c, repW_bl hx, ?_⟩
  cases c with
  | true =>
    refine tE_go R1 h1 fun r2 H2 st2 e y n2 R2 hy h2 => ?_
    obtain ⟨c, rfl, h2⟩ := isT_bind h2
    exact ⟨c, repW_bl hy, h2.now R2.st _ (.bl _)⟩
  | false => exact h1.now R1.st _ (.bl _)
theorem s_bor (a b : E) (σ : L2.St) (H : Hp) (Q : VK) (h : tE T pe W cs (.bor a b) σ H Q) : tOrV (tE T pe W cs a) (fun σ H Q => tE T pe W cs b σ H fun x H1 => ∃ c, x = .bl c ∧ Q (.bl c) H1) σ H Q := by
  obtain ⟨Mb, r, ow, st, env, R, h⟩ := h
  rw [evalE] at h
  refine tE_go R h fun r1 H1 st1 d x n1 R1 hx h1 => ?_
  obtain ⟨c, rfl, h1⟩ := isT_bind h1
  refine ⟨c, repW_bl hx, ?_⟩
  cases c with
  | false =>
    refine tE_go R1 h1 fun r2 H2 st2 e y n2 R2 hy h2 => ?_
    obtain ⟨c, rfl, h2⟩ := isT_bind h2
    exact ⟨c, repW_bl hy, h2.now R2.st _ (.bl _)⟩
  | true => exact h1.now R1.st _ (.bl _)
/-- the last part's value is a bool -/
theorem pe_bool {x : Expr} {e : E} (h : PE X x (tE T pe W cs e)) : PE X x (fun σ H Q => tE T pe W cs e σ H fun x H1 => ∃ c, x = .bl c ∧ Q (.bl c) H1) := by
  refine ⟨fun pins s σ H Q I q => ?_⟩
  refine thn (h.run pins s σ H _ I q) fun v s1 ⟨x, H1, I1, rx, c, ex, q1⟩ => ?_
  subst ex
  exact ⟨.bl c, H1, I1, rx, q1⟩
theorem s_bnot (a : E) (σ : L2.St) (H : Hp) (Q : VK) (h : tE T pe W cs (.bnot a) σ H Q) : tNotV (tE T pe W cs a) σ H Q := by
  obtain ⟨Mb, r, ow, st, env, R, h⟩ := h
  rw [evalE] at h
  refine tE_go R h fun r1 H1 st1 d x n1 R1 hx h1 => ?_
  obtain ⟨c, rfl, h1⟩ := isT_bind h1
  exact ⟨c, repW_bl hx, h1.now R1.st _ (.bl _)⟩
theorem t_band (a b : E) (σ : L2.St) (H : Hp) (Q : Bool → Hp → Prop) (h : tT T pe W cs (.band a b) σ H Q) : tAnd (tT T pe W cs a) (tT T pe W cs b) σ H Q := by
  obtain ⟨Mb, r, ow, st, env, R, h⟩ := h
  rw [evalE, Res.bind_assoc] at h
  refine ⟨Mb, r, ow, st, env, R, ?_⟩
  refine OK.imp (x := (evalE cs a env st).bind isT) (Q := fun r1 H1 c st1 => (if c = true then tT T pe W cs b σ H1 Q else Q false H1)) ?_ fun r1 H1 c st1 n s q => q
  cases hx : evalE cs a env st with
  | bad => rw [hx] at h; exact h.elim
  | exn x st' => rw [hx] at h; exact h
  | ok d st1 =>
    rw [hx] at h
    show OK T Mb ow W σ r H (isT d st1) _
    cases d with
    | bl c =>
      intro r1 H1 n s
      have R1 := R.next n s
      cases c with
      | true =>
        refine ⟨Mb, r1, ow, st1, env, R1, ?_⟩
        have h2 : OK T Mb ow W σ r H (Res.bind (Res.ok () st1) fun _ st1 => (evalE cs b env st1).bind isT) (fun _ H' b _ => Q b H') := by
          have e : (Res.bind (Res.ok () st1) fun _ st1 => (evalE cs b env st1).bind isT) = (evalE cs b env st1).bind isT := rfl
          rw [e]
          have e2 : ((evalE cs b env st1).bind fun y st => (isT y st).bind fun t st => (.ok (.bl t) st : Res D)).bind isT = (evalE cs b env st1).bind isT := by
            cases evalE cs b env st1 with
            | ok y st2 => cases y <;> rfl
            | exn x st2 => rfl
            | bad => rfl
          rw [← e2]
          exact h
        exact h2.bind r1 H1 n s
      | false =>
        have h2 : OK T Mb ow W σ r H (Res.ok false st1) (fun _ H' b _ => Q b H') := h
        exact h2 r1 H1 n s
    | _ => exact h.elim
theorem t_bor (a b : E) (σ : L2.St) (H : Hp) (Q : Bool → Hp → Prop) (h : tT T pe W cs (.bor a b) σ H Q) : tOr (tT T pe W cs a) (tT T pe W cs b) σ H Q := by
  obtain ⟨Mb, r, ow, st, env, R, h⟩ := h
  rw [evalE, Res.bind_assoc] at h
  refine ⟨Mb, r, ow, st, env, R, ?_⟩
  refine OK.imp (x := (evalE cs a env st).bind isT) (Q := fun r1 H1 c st1 => (if c = true then Q true H1 else tT T pe W cs b σ H1 Q)) ?_ fun r1 H1 c st1 n s q => q
  cases hx : evalE cs a env st with
  | bad => rw [hx] at h; exact h.elim
  | exn x st' => rw [hx] at h; exact h
  | ok d st1 =>
    rw [hx] at h
    show OK T Mb ow W σ r H (isT d st1) _
    cases d with
    | bl c =>
      intro r1 H1 n s
      have R1 := R.next n s
      cases c with
      | false =>
        refine ⟨Mb, r1, ow, st1, env, R1, ?_⟩
        have h2 : OK T Mb ow W σ r H (Res.bind (Res.ok () st1) fun _ st1 => (evalE cs b env st1).bind isT) (fun _ H' b _ => Q b H') := by
          have e : (Res.bind (Res.ok () st1) fun _ st1 => (evalE cs b env st1).bind isT) = (evalE cs b env st1).bind isT := rfl
          rw [e]
          have e2 : ((evalE cs b env st1).bind fun y st => (isT y st).bind fun t st => (.ok (.bl t) st : Res D)).bind isT = (evalE cs b env st1).bind isT := by
            cases evalE cs b env st1 with
            | ok y st2 => cases y <;> rfl
            | exn x st2 => rfl
            | bad => rfl
          rw [← e2]
          exact h
        exact h2.bind r1 H1 n s
      | true =>
        have h2 : OK T Mb ow W σ r H (Res.ok true st1) (fun _ H' b _ => Q b H') := h
        exact h2 r1 H1 n s
    | _ => exact h.elim
theorem t_bnot (a : E) (σ : L2.St) (H : Hp) (Q : Bool → Hp → Prop) (h : tT T pe W cs (.bnot a) σ H Q) : tNot (tT T pe W cs a) σ H Q := by
  obtain ⟨Mb, r, ow, st, env, R, h⟩ := h
  rw [evalE, Res.bind_assoc] at h
  refine ⟨Mb, r, ow, st, env, R, ?_⟩
  cases hx : evalE cs a env st with
  | bad => rw [hx] at h; exact h.elim
  | exn x st' => rw [hx] at h; exact h
  | ok d st1 =>
    rw [hx] at h
    cases d with
    | bl c => exact h
    | _ => exact h.elim
/-- a if c else b -/
theorem s_ife (c a b : E) (σ : L2.St) (H : Hp) (Q : VK) (h : tE T pe W cs (.ife c a b) σ H Q) : tIf (tT T pe W cs c) (tE T pe W cs a) (tE T pe W cs b) σ H Q := by
  obtain ⟨Mb, r, ow, st, env, R, h⟩ := h
  rw [evalE, ← Res.bind_assoc] at h
  refine tT_go R h fun r1 H1 st1 d n1 R1 h1 => ?_
  cases d with
  | true =>
    refine ⟨Mb, r1, ow, st1, env, R1, h1.imp fun r2 H2 d st2 n2 s2 q v hv => q v ?_⟩
    show RepW (a.strong && b.strong) _ _ _ _ _ _
    cases ea : a.strong with
    | true =>
      rw [ea] at hv
      cases b.strong with
      | true => exact hv
      | false => exact hv.weak
    | false => exact hv.weak
  | false =>
    refine ⟨Mb, r1, ow, st1, env, R1, h1.imp fun r2 H2 d st2 n2 s2 q v hv => q v ?_⟩
    show RepW (a.strong && b.strong) _ _ _ _ _ _
    cases eb : b.strong with
    | true =>
      rw [eb] at hv
      cases a.strong with
      | true => exact hv
      | false => exact hv.weak
    | false =>
      rw [Bool.and_false]
      exact hv.weak
theorem t_ife (c a b : E) (σ : L2.St) (H : Hp) (Q : Bool → Hp → Prop) (h : tT T pe W cs (.ife c a b) σ H Q) : tT T pe W cs c σ H fun d H1 => if d = true then tT T pe W cs a σ H1 Q else tT T pe W cs b σ H1 Q := by
  obtain ⟨Mb, r, ow, st, env, R, h⟩ := h
  rw [evalE, Res.bind_assoc] at h
  have h : OK T Mb ow W σ r H (((evalE cs c env st).bind isT).bind fun t st => ((match t with
    | true => evalE cs a env st
    | false => evalE cs b env st : Res D)).bind isT) (fun r' H' b _ => Q b H') := by
    rw [Res.bind_assoc]
    have e : (fun (x : D) st => ((isT x st).bind fun t st => match t with
      | true => evalE cs a env st
      | false => evalE cs b env st).bind isT) = fun x st => (isT x st).bind fun t st => (match t with
      | true => evalE cs a env st
      | false => evalE cs b env st : Res D).bind isT := by
      funext x st
      rw [Res.bind_assoc]
    rw [← e]
    exact h
  refine tT_go R h fun r1 H1 st1 d n1 R1 h1 => ?_
  cases d with
  | true => exact ⟨Mb, r1, ow, st1, env, R1, h1⟩
  | false => exact ⟨Mb, r1, ow, st1, env, R1, h1⟩
theorem pt_ifexp {c a b : Expr} {pos : Pos} {tc ta tb : TT} (hc : PT X c tc) (ha : PT X a ta) (hb : PT X b tb) : PT X (.IfExp c a b pos) (fun σ H Q => tc σ H fun d H1 => if d = true then ta σ H1 Q else tb σ H1 Q) := by
  refine ⟨fun pins s σ H Q I h => ?_⟩
  refine isTrue_IfExp (thn (hc.run pins s σ H _ I h) fun d s1 ⟨H1, I1, q1⟩ => ?_)
  cases d with
  | true => exact ha.run pins s1 σ H1 Q I1 q1
  | false => exact hb.run pins s1 σ H1 Q I1 q1
theorem s_neg (a : E) (σ : L2.St) (H : Hp) (Q : VK) (h : tE T pe W cs (.neg a) σ H Q) : tUn (rU fun i => .int (-i)) (tE T pe W cs a) σ H Q := by
  obtain ⟨Mb, r, ow, st, env, R, h⟩ := h
  rw [evalE] at h
  refine tE_go R h fun r1 H1 st1 d x n1 R1 hx h1 => ?_
  obtain ⟨i, rfl, h1⟩ := asInt_bind h1
  exact ⟨i, hx.weak.int, h1.now R1.st _ (.int _)⟩
theorem s_un (k : UK) (a : E) (hk : (E.un k a).isNew = false ∨ True) (σ : L2.St) (H : Hp) (Q : VK) (h : tE T pe W cs (.un k a) σ H Q) : tE T pe W cs a σ H fun x H1 => rOp1 T (opUn k) x H1 Q := by
  obtain ⟨Mb, r, ow, st, env, R, h⟩ := h
  rw [evalE] at h
  exact tE_go R h fun r1 H1 st1 d x n1 R1 hx h1 => ⟨Mb, r1, ow, st1, d, W, σ, R1.st, hx.weak, h1⟩
theorem s_var (i : Nat) (σ : L2.St) (H : Hp) (Q : VK) (h : tE T pe W cs (.var i) σ H Q) : tVar i σ H Q := by
  obtain ⟨Mb, r, ow, st, env, R, h⟩ := h
  rw [evalE] at h
  obtain ⟨d, e, h⟩ := h.opt
  unfold getV at e
  split at e
  · rename_i d' e'
    cases e
    obtain ⟨o, e1, x, e3, e4⟩ := R.sl i _ e'
    exact ⟨x, e3, h.now R.st _ e4⟩
  · cases e
theorem s_own (i : Nat) (σ : L2.St) (H : Hp) (Q : VK) (h : tE T pe W cs (.own i) σ H Q) : tVar i σ H Q := by
  obtain ⟨Mb, r, ow, st, env, R, h⟩ := h
  rw [evalE] at h
  obtain ⟨d, e, h⟩ := h.opt
  unfold getO at e
  split at e
  · rename_i ds e'
    cases e
    obtain ⟨o, e1, a, e2, e3, e4⟩ := R.sl i _ e'
    subst e2
    exact ⟨_, e3, h.now R.st _ (.inr ⟨a, _, rfl, (R.ob a (List.mem_of_getElem? e1)).1, rfl, e4⟩)⟩
  · rename_i ds e'
    cases e
    obtain ⟨o, e1, a, e2, e3, e4⟩ := R.sl i _ e'
    subst e2
    exact ⟨_, e3, h.now R.st _ (.inr ⟨a, _, rfl, (R.ob a (List.mem_of_getElem? e1)).1, rfl, e4⟩)⟩
  · cases e
/-- lists -/
theorem s_nil (σ : L2.St) (H : Hp) (Q : List V → Hp → Prop) (h : tL T pe W cs [] σ H Q) : tNil σ H Q := by
  obtain ⟨Mb, r, ow, st, env, R, h⟩ := h
  rw [evalL] at h
  exact h.now R.st _ .nil
theorem s_cons (e : E) (es : List E) (he : e.strong = true) (σ : L2.St) (H : Hp) (Q : List V → Hp → Prop) (h : tL T pe W cs (e :: es) σ H Q) : tCons (tE T pe W cs e) (tL T pe W cs es) σ H Q := by
  obtain ⟨Mb, r, ow, st, env, R, h⟩ := h
  rw [evalL] at h
  refine tE_go R h fun r1 H1 st1 d x n1 R1 hx h1 => tL_go R1 h1 fun r2 H2 st2 ds xs n2 R2 hxs h2 => ?_
  rw [he] at hx
  exact h2.now R2.st _ (.cons (hx.mono n2.grow) hxs)
theorem s_tup (es : List E) (σ : L2.St) (H : Hp) (Q : VK) (h : tE T pe W cs (.tup es) σ H Q) : tTup (tL T pe W cs es) σ H Q := by
  obtain ⟨Mb, r, ow, st, env, R, h⟩ := h
  rw [evalE] at h
  refine tL_go R h fun r1 H1 st1 ds xs n1 R1 hx h1 => ?_
  split at h1
  · rename_i hl
    exact ⟨by rw [hx.len, ← line_eq]; exact hl, fun p hp => h1.new R1.st hp _ (Rep.newT R1.st hp hx)⟩
  · exact h1.elim
/-! ### creations -/
theorem tN_of {e : E} (hn : ∀ env st d st', evalE cs e env st = .ok d st' → ∃ o, newO d = some o) (hs : e.strong = true) (σ : L2.St) (H : Hp) (Q : VK) (h : tE T pe W cs e σ H Q) : tN T pe W cs e σ H Q := by
  obtain ⟨Mb, r, ow, st, env, R, h⟩ := h
  refine ⟨Mb, r, ow, st, env, R, OKN.frz R.st (h.imp fun r' H' a st' n s q v hv => q v ?_) fun d st' e => hn env st d st' e⟩
  rw [hs]; exact hv
/-- the first parts of a creation -/
theorem OKN.bind {α : Type} {x : Res α} {k : α → Store → Res D} {Q : VK} (s : StR T.toTb (Ms Mb r ow) r H st) (h : OKN T Mb ow W σ r H (x.bind k) Q) : OK T Mb ow W σ r H x fun r1 H1 a st1 => OKN T Mb ow W σ r1 H1 (k a st1) Q := by
  cases x with
  | ok a st1 =>
    intro r1 H1 n s1
    have h1 : OKN T Mb ow W σ r H (k a st1) Q := h
    revert h1
    generalize k a st1 = y
    cases y with
    | ok b st2 =>
      rintro ⟨o, ho, h1⟩
      refine ⟨o, ho, fun r2 H2 p hp hr n2 s2 q => h1 r2 H2 p ?_ hr (n.trans n2) s2 q⟩
      cases e : H p with
      | none => rfl
      | some u =>
        obtain ⟨u', e'⟩ := n.dom p u e
        rw [hp] at e'; cases e'
    | exn x st2 => exact fun h1 r2 H2 cls d n2 s2 e => h1 r2 H2 cls d (n.trans n2) s2 e
    | bad => exact fun h1 => h1
  | exn x st' => exact h
  | bad => exact h
theorem n_lst (es : List E) (σ : L2.St) (H : Hp) (Q : VK) (h : tN T pe W cs (.lst es) σ H Q) : tLst (tL T pe W cs es) σ H Q := by
  obtain ⟨Mb, r, ow, st, env, R, h⟩ := h
  rw [evalE] at h
  refine ⟨Mb, r, ow, st, env, R, (OKN.bind R.st h).imp fun r1 H1 ds st1 n s q xs hx => ?_⟩
  have R1 := R.next n s
  split at q
  · rename_i hl
    exact ⟨by rw [hx.len, ← line_eq]; exact hl, fun p hp => q.list R1.st hp hx⟩
  · exact q.elim
theorem lst_new (es : List E) : ∀ env st d st', evalE cs (.lst es) env st = .ok d st' → ∃ o, newO d = some o := by
  intro env st d st' h
  rw [evalE] at h
  cases q : evalL cs es env st with
  | ok ds st1 =>
    rw [q] at h
    simp only [Res.bind_ok] at h
    split at h
    · cases h; exact ⟨_, rfl⟩
    · cases h
  | exn x st1 => rw [q] at h; cases h
  | bad => rw [q] at h; cases h
theorem lof_new (a : E) : ∀ env st d st', evalE cs (.un .lof a) env st = .ok d st' → ∃ o, newO d = some o := by
  intro env st d st' h
  rw [evalE] at h
  cases q : evalE cs a env st with
  | ok x st1 =>
    rw [q] at h
    simp only [Res.bind_ok] at h
    have h : opLof x st1 = .ok d st' := h
    unfold opLof at h
    split at h
    · cases h; exact ⟨_, rfl⟩
    · split at h
      · cases h; exact ⟨_, rfl⟩
      · cases h
  | exn x st1 => rw [q] at h; cases h
  | bad => rw [q] at h; cases h
theorem n_lof (hK : T.K = X.K) (a : E) (σ : L2.St) (H : Hp) (Q : VK) (h : tN T pe W cs (.un .lof a) σ H Q) :
    tE T pe W cs a σ H fun x H1 => ∃ p ys, [x] = [V.ref p] ∧ (SqL X.K H1 p ys ∨ SqT X.K H1 p ys) ∧ ∀ l, H1 l = none → Q (.ref l) (upd H1 l (.lst ys)) := by
  obtain ⟨Mb, r, ow, st, env, R, h⟩ := h
  rw [evalE] at h
  refine ⟨Mb, r, ow, st, env, R, (OKN.bind R.st h).imp fun r1 H1 d st1 n s q v hv => ?_⟩
  have R1 := R.next n s
  have q : OKN T Mb ow W σ r1 H1 (opLof d st1) Q := q
  unfold opLof at q
  split at q
  · obtain ⟨p, ys, rfl, h1, h2, _⟩ := hv.weak.tup
    rw [hK] at h1
    exact ⟨p, ys, rfl, .inr h1, fun l hl => q.list R1.st hl h2⟩
  · split at q
    · rename_i ds hds
      obtain ⟨p, ys, rfl, h1, h2⟩ := hv.weak.list R1.st hds
      exact ⟨p, ys, rfl, .inl (.of h1), fun l hl => q.list R1.st hl h2⟩
    · exact q.elim
theorem tE_of_tN {e : E} (hn : ∀ env st d st', evalE cs e env st = .ok d st' → ∃ o, newO d = some o) (hs : e.strong = true) {x : Expr} (h : PE X x (tN T pe W cs e)) : PE X x (tE T pe W cs e) := peI h (tN_of hn hs)
/-- a creation that the store takes -/
theorem mk_ok {e : E} (σ : L2.St) (H : Hp) (Q : VK) (h : tE T pe W cs (.mk e) σ H Q) : tN T pe W cs e σ H Q := by
  obtain ⟨Mb, r, ow, st, env, R, h⟩ := h
  rw [evalE] at h
  refine ⟨Mb, r, ow, st, env, R, ?_⟩
  cases hx : evalE cs e env st with
  | bad => rw [hx] at h; exact h.elim
  | exn x st1 => rw [hx] at h; exact h
  | ok d st1 =>
    rw [hx] at h
    simp only [Res.bind_ok] at h
    cases ho : newO d with
    | none => rw [ho] at h; exact h.elim
    | some o =>
      rw [ho] at h
      have h : OK T Mb ow W σ r H (Res.ok (D.ref st1.length) (st1 ++ [o])) (fun r' H' d _ => ∀ v, Rep T.toTb H' (Ms Mb r' ow) r' v d → Q v H') := h
      refine ⟨o, ho, fun r' H' p hp hr n s q => ?_⟩
      refine h (r' ++ [p]) H' (n.push hp) (s.push hr q) _ (.ref ?_)
      rw [← s.len, List.getElem?_append_right (Nat.le_refl _), Nat.sub_self]
      rfl
end
end Iv
end
section
set_option Elab.async false
set_option linter.all false
set_option maxRecDepth 100000
set_option maxHeartbeats 1000000
/-! Readings: slices, methods, calls, attributes. -/
namespace Iv
open PySem PySem.Spec PySem.Calls PyProof.Rows L2
/-- what a def promises: what the interpreter comes to -/
def spOf (T : Tx) (g : List D → Store → Res D) : Sp := fun vs H Q E => ∃ (Mb : AP') (r : List Addr) (st : Store) (ds : List D), StR T.toTb (Ms Mb r []) r H st ∧ RepL T.toTb H (Ms Mb r []) r vs ds ∧
  OK T Mb [] (fun cls d _ H' => E cls d H') [] r H (g ds st) (Post T Mb [] Q)
def Mc (Mb : AP') (ow : List (Option Addr)) : AP' := fun a => Mb a ∨ some a ∈ ow
theorem msc {Mb : AP'} {r : List Addr} {ow : List (Option Addr)} : Ms (Mc Mb ow) r [] = Ms Mb r ow := by
  funext a
  refine propext ⟨fun h => ?_, fun h => ?_⟩
  · rcases h with (h | h) | h | h
    · exact .inl h
    · exact .inr (.inr h)
    · exact .inr (.inl h)
    · cases h
  · rcases h with h | h | h
    · exact .inl (.inl h)
    · exact .inr (.inl h)
    · exact .inl (.inr h)
section
variable {T : Tx} {pe : Pe} {W : WX} {cs : Iv.Calls} {Mb : AP'} {r r1 : List Addr} {ow : List (Option Addr)} {H H1 : Hp} {st : Store} {σ : L2.St} {env : SEnv} {X : Cx}
theorem OK.shift {α : Type} {x : Res α} {Q : List Addr → Hp → α → Store → Prop} (h : OK T Mb ow W σ r H x Q) (n : Nx r H r1 H1) : OK T Mb ow W σ r1 H1 x Q := by
  cases x with
  | ok a st => exact fun r2 H2 n2 s2 => h r2 H2 (n.trans n2) s2
  | exn x st => exact fun r2 H2 cls d n2 s2 e => h r2 H2 cls d (n.trans n2) s2 e
  | bad => exact h
/-- a call from here -/
theorem spOf_of {g : List D → Store → Res D} {vs : List V} {ds : List D} {Q : VK} (s : StR T.toTb (Ms Mb r ow) r H st) (hv : RepL T.toTb H (Ms Mb r ow) r vs ds) (h : OK T Mb ow W σ r H (g ds st) (Post T Mb ow Q)) :
    spOf T g vs H Q (fun cls d H' => W cls d σ H') := by
  refine ⟨Mc Mb ow, r, st, ds, by rw [msc]; exact s, by rw [msc]; exact hv, ?_⟩
  revert h
  generalize g ds st = x
  cases x with
  | ok d st1 =>
    intro h r1 H1 n s1 v hv
    rw [msc] at s1 hv
    exact h r1 H1 n s1 v hv
  | exn x st1 =>
    intro h r1 H1 cls d n s1 e
    rw [msc] at s1 e
    exact h r1 H1 cls d n s1 e
  | bad => exact fun h => h
theorem s_call (f : Nat) (es : List E) (σ : L2.St) (H : Hp) (Q : VK) (h : tE T pe W cs (.call f es) σ H Q) : tL T pe W cs es σ H fun vs H1 => spOf T (cs.fn f) vs H1 Q (fun cls d H' => W cls d σ H') := by
  obtain ⟨Mb, r, ow, st, env, R, h⟩ := h
  rw [evalE] at h
  exact tL_go R h fun r1 H1 st1 ds xs n1 R1 hx h1 => spOf_of R1.st hx h1
/-- an instance of the store -/
theorem ins_rep {x : V} {d : D} {c : Nat} (s : StR T.toTb (Ms Mb r ow) r H st) (hx : RepP T.toTb H (Ms Mb r ow) r x d) (h : isIns d c st = true) :
    ∃ a dx fs ds, x = .ref a ∧ T.okc c ∧ H a = some (.ins (T.cls c) dx fs) ∧ RepF T.toTb H (Ms Mb r ow) r fs ds := by
  unfold isIns at h
  split at h
  · rename_i n
    split at h
    · rename_i c' ds e
      have hc : c' = c := beq_iff_eq.mp h
      subst hc
      obtain ⟨a, rfl, hr⟩ := hx.ref
      obtain ⟨ok, dx, fs, h1, h2⟩ := s.obj n a _ hr e
      exact ⟨a, dx, fs, ds, rfl, ok, h1, h2⟩
    · cases h
  · cases h
theorem s_meth (o : E) (c f : Nat) (es : List E) (m : Str) (ho : o.strong = true) (hm : fieldNames.contains m = false) (σ : L2.St) (H : Hp) (Q : VK) (h : tE T pe W cs (.meth o c f es) σ H Q) :
    tE T pe W cs o σ H fun y H1 => ∃ a dx fs, y = .ref a ∧ H1 a = some (.ins (T.cls c) dx fs) ∧ fs.lookup m = none ∧ tL T pe W cs es σ H1 fun vs H2 => spOf T (cs.fn f) (y :: vs) H2 Q (fun cls d H' => W cls d σ H') := by
  obtain ⟨Mb, r, ow, st, env, R, h⟩ := h
  rw [evalE] at h
  refine tE_go R h fun r1 H1 st1 d x n1 R1 hx h1 => ?_
  split at h1
  · rename_i hi
    obtain ⟨a, dx, fs, ds, rfl, ok, e1, e2⟩ := ins_rep R1.st hx.weak hi
    refine ⟨a, dx, fs, rfl, e1, e2.no hm, tL_go R1 h1 fun r2 H2 st2 ds xs n2 R2 hxs h2 => ?_⟩
    rw [ho] at hx
    exact spOf_of R2.st (.cons (hx.mono n2.grow) hxs) h2
  · exact h1.elim
theorem s_make (c f : Nat) (es : List E) (ok : T.okc c) (σ : L2.St) (H : Hp) (Q : VK) (h : tE T pe W cs (.make c f es) σ H Q) : tL T pe W cs es σ H fun vs H1 => tMk W (T.cls c) (spOf T (cs.mak f)) vs σ H1 Q := by
  obtain ⟨Mb, r, ow, st, env, R, h⟩ := h
  rw [evalE] at h
  refine tL_go R h fun r1 H1 st1 ds xs n1 R1 hxs h1 x dx hx hdx hne => ?_
  have s1 := R1.st.new (o := .own x) hdx
  have hx1 : upd H1 dx (.own x) x = none := by rw [upd_ne (Ne.symm hne)]; exact hx
  have s2 := s1.newP (ho := .ins (T.cls c) dx []) hx1
  have hxr : x ∉ r1 := fun z => by
    obtain ⟨u, hu⟩ := R1.st.there z
    rw [hx] at hu; cases hu
  have s3 := s2.push hxr (o := .ins c []) ⟨ok, dx, [], upd_same, .nil⟩
  have na : Nx r1 H1 r1 (upd (upd H1 dx (.own x)) x (.ins (T.cls c) dx [])) := (Nx.new (r := r1) hdx).trans (Nx.new hx1)
  have nb : Nx r1 H1 (r1 ++ [x]) (upd (upd H1 dx (.own x)) x (.ins (T.cls c) dx [])) := na.push hx
  have h2 := (h1.shift nb).bind
  refine spOf_of s3 (.cons (.ref ?_) (hxs.mono nb.grow)) (h2.imp fun r2 H2 d st2 n2 s4 q v hv => ?_)
  · rw [← R1.st.len, List.getElem?_append_right (Nat.le_refl _), Nat.sub_self]; rfl
  · cases d with
    | non =>
      cases hv
      refine ⟨rfl, q.now s4 _ (.ref ?_)⟩
      obtain ⟨e, he, _⟩ := n2.ext
      rw [he, List.append_assoc, ← R1.st.len, List.getElem?_append_right (Nat.le_refl _), Nat.sub_self]
      rfl
    | _ => exact q.elim
/-- methods of the built-ins, one argument -/
theorem s_m1 (k : BK) (a b : E) (T' : String) (hty : ∀ (Mb : AP') (r : List Addr) (ow : List (Option Addr)) (H : Hp) (st : Store) (x : V) (d : D), StR T.toTb (Ms Mb r ow) r H st → RepP T.toTb H (Ms Mb r ow) r x d → recvOk k d st = true → tyV X.K T' x H)
    (hb : b.strong = true ∨ True) (σ : L2.St) (H : Hp) (Q : VK) (h : tE T pe W cs (.b2 k a b) σ H Q) :
    tE T pe W cs a σ H fun x H1 => tyV X.K T' x H1 ∧ tE T pe W cs b σ H1 fun y H2 => rOp2 T (opB2 k) x y H2 Q := by
  obtain ⟨Mb, r, ow, st, env, R, h⟩ := h
  rw [evalE] at h
  refine tE_go R h fun r1 H1 st1 d x n1 R1 hx h1 => ?_
  split at h1
  · rename_i hr
    refine ⟨hty Mb r1 ow H1 st1 x d R1.st hx.weak hr, ?_⟩
    exact tE_go R1 h1 fun r2 H2 st2 e y n2 R2 hy h2 => ⟨Mb, r2, ow, st2, d, e, W, σ, R2.st, hx.weak.mono n2, hy.weak, h2⟩
  · exact h1.elim
theorem ty_str (k : BK) (hk : k = .join ∨ k = .split ∨ k = .part ∨ k = .strip ∨ k = .lstrip) (Mb : AP') (r : List Addr) (ow : List (Option Addr)) (H : Hp) (st : Store) (x : V) (d : D) (s : StR T.toTb (Ms Mb r ow) r H st) (hx : RepP T.toTb H (Ms Mb r ow) r x d) (h : recvOk k d st = true) : ∃ l, x = .str (mkS l) := by
  cases d with
  | str l => exact ⟨l, hx.str⟩
  | _ => rcases hk with rfl | rfl | rfl | rfl | rfl <;> cases h
theorem ty_list (k : BK) (hk : k = .count ∨ k = .index) (Mb : AP') (r : List Addr) (ow : List (Option Addr)) (H : Hp) (st : Store) (x : V) (d : D) (s : StR T.toTb (Ms Mb r ow) r H st) (hx : RepP T.toTb H (Ms Mb r ow) r x d) (h : recvOk k d st = true) : tyV X.K "list" x H := by
  have h2 : (asL d st).isSome = true := by
    rcases hk with rfl | rfl <;> exact h
  obtain ⟨ds, e⟩ := Option.isSome_iff_exists.mp h2
  obtain ⟨a, xs, rfl, h3, _⟩ := hx.list s e
  exact .inl ⟨rfl, xs, .of h3⟩
/-- two values for a built-in -/
theorem s_b2 (k : BK) (a b : E) (hk : k = .min2 ∨ k = .max2) (ha : a.strong = true) (hb : b.strong = true) (σ : L2.St) (H : Hp) (Q : VK) (h : tE T pe W cs (.b2 k a b) σ H Q) : tL T pe W cs [a, b] σ H fun vs H1 => rC2 T (opB2 k) vs H1 Q := by
  obtain ⟨Mb, r, ow, st, env, R, h⟩ := h
  rw [evalE] at h
  have hr : ∀ d st, recvOk k d st = true := fun d st => by rcases hk with rfl | rfl <;> rfl
  have h : OK T Mb ow W σ r H ((evalL cs [a, b] env st).bind fun ds st => match ds with
    | [x, y] => opB2 k x y st
    | _ => .bad) (Post T Mb ow Q) := by
    simp only [evalL, Res.bind_assoc, Res.bind_ok]
    simp only [hr, if_true] at h
    exact h
  refine tL_go R h fun r1 H1 st1 ds xs n1 R1 hx h1 => ?_
  split at h1
  · cases hx with
    | cons hx q =>
      cases q with
      | cons hy q =>
        cases q
        exact ⟨_, _, rfl, Mb, r1, ow, st1, _, _, W, σ, R1.st, .inl hx, .inl hy, h1⟩
  · exact h1.elim
/-- d.get -/
theorem s_get (a b : E) (σ : L2.St) (H : Hp) (Q : VK) (h : tE T pe W cs (.b2 .get a b) σ H Q) : tDGet1 (tE T pe W cs a) (tE T pe W cs b) σ H Q := by
  obtain ⟨Mb, r, ow, st, env, R, h⟩ := h
  rw [evalE] at h
  refine tE_go R h fun r1 H1 st1 d x n1 R1 hx h1 => ?_
  split at h1
  · rename_i hr
    obtain ⟨kv, e⟩ := Option.isSome_iff_exists.mp hr
    obtain ⟨p, kvs, rfl, h3, _⟩ := hx.weak.dict R1.st e
    refine ⟨p, rfl, .inl ⟨kvs, .inl h3⟩, tE_go R1 h1 fun r2 H2 st2 k y n2 R2 hy h2 => ?_⟩
    have h2 : OK T Mb ow W σ r2 H2 (opGet d k st2) (Post T Mb ow Q) := h2
    unfold opGet at h2
    split at h2
    · rename_i kv' k' e1 e2
      obtain ⟨p', kvs', ep, h5, h6⟩ := (hx.weak.mono n2).dict R2.st e1
      cases ep
      have ey := hy.weak.key e2
      subst ey
      refine ⟨_, DGet.k h5, ?_⟩
      rcases h6.look k' with ⟨e3, e4⟩ | ⟨d', v', e3, e4, e5⟩
      · rw [e4]
        rw [e3] at h2
        exact h2.now R2.st _ .non
      · rw [e4]
        rw [e3] at h2
        exact h2.now R2.st _ e5
    · exact h2.elim
  · exact h1.elim
theorem s_get2 (a b c : E) (hc : c.strong = true) (σ : L2.St) (H : Hp) (Q : VK) (h : tE T pe W cs (.get2 a b c) σ H Q) : tDGet2 (tE T pe W cs a) (tE T pe W cs b) (tE T pe W cs c) σ H Q := by
  obtain ⟨Mb, r, ow, st, env, R, h⟩ := h
  rw [evalE] at h
  refine tE_go R h fun r1 H1 st1 d x n1 R1 hx h1 => ?_
  split at h1
  · rename_i hr
    obtain ⟨kv, e⟩ := Option.isSome_iff_exists.mp hr
    obtain ⟨p, kvs, rfl, h3, _⟩ := hx.weak.dict R1.st e
    refine ⟨p, rfl, .inl ⟨kvs, .inl h3⟩, tE_go R1 h1 fun r2 H2 st2 k y n2 R2 hy h2 => tE_go R2 h2 fun r3 H3 st3 z w n3 R3 hw h3 => ?_⟩
    unfold opGet2 at h3
    split at h3
    · rename_i kv' k' e1 e2
      obtain ⟨p', kvs', ep, h5, h6⟩ := ((hx.weak.mono n2).mono n3).dict R3.st e1
      cases ep
      have ey := hy.weak.key e2
      subst ey
      refine ⟨_, DGet.k h5, ?_⟩
      rcases h6.look k' with ⟨e3, e4⟩ | ⟨d', v', e3, e4, e5⟩
      · rw [e4]
        rw [e3] at h3
        rw [hc] at hw
        exact h3.now R3.st _ hw
      · rw [e4]
        rw [e3] at h3
        exact h3.now R3.st _ e5
    · exact h3.elim
  · exact h1.elim
/-- a slice's parts -/
def tP (T : Tx) (pe : Pe) (W : WX) (cs : Iv.Calls) (b : Bool) (e : E) : TO :=
  match b with
  | true => tPart (tE T pe W cs e)
  | false => tNoPart
theorem tP_go {b : Bool} {a : E} {β : Type} {k : Option Int → Store → Res β} {Qb : List Addr → Hp → β → Store → Prop} (R : Rel T pe Mb r ow H st σ env) (h : OK T Mb ow W σ r H ((match b with
      | true => (evalE cs a env st).bind fun y st => (asInt y st).bind fun i st => .ok (some i) st
      | false => .ok none st : Res (Option Int)).bind k) Qb) {P : Option Int → Hp → Prop}
    (f : ∀ r1 H1 st1 o, Nx r H r1 H1 → Rel T pe Mb r1 ow H1 st1 σ env → OK T Mb ow W σ r1 H1 (k o st1) Qb → P o H1) : tP T pe W cs b a σ H P := by
  cases b with
  | true =>
    have h : OK T Mb ow W σ r H ((evalE cs a env st).bind fun y st => ((asInt y st).bind fun i st => .ok (some i) st).bind k) Qb := by
      rw [← Res.bind_assoc]; exact h
    refine tE_go R h fun r1 H1 st1 d x n1 R1 hx h1 => ?_
    rw [Res.bind_assoc] at h1
    obtain ⟨i, rfl, h1⟩ := asInt_bind h1
    exact ⟨i, hx.weak.int, f r1 H1 st1 _ n1 R1 h1⟩
  | false => exact f r H st none Nx.same R h
theorem s_slc (lo hi : Bool) (a l u : E) (σ : L2.St) (H : Hp) (Q : VK) (h : tE T pe W cs (.slc lo hi a l u) σ H Q) : tSl (rCut T) (tE T pe W cs a) (tP T pe W cs lo l) (tP T pe W cs hi u) σ H Q := by
  obtain ⟨Mb, r, ow, st, env, R, h⟩ := h
  rw [evalE] at h
  refine tE_go R h fun r1 H1 st1 d x n1 R1 hx h1 => tP_go R1 h1 fun r2 H2 st2 o n2 R2 h2 => tP_go R2 h2 fun r3 H3 st3 o2 n3 R3 h3 => ?_
  exact ⟨Mb, r3, ow, st3, d, W, σ, R3.st, (hx.weak.mono n2).mono n3, h3⟩
end
end Iv
end
section
set_option Elab.async false
set_option linter.all false
set_option maxRecDepth 100000
set_option maxHeartbeats 1000000
/-! What is walked; comprehensions; displays of dicts. -/
namespace Iv
open PySem PySem.Spec PySem.Calls PyProof.Rows L2
/-- the layer's walk is the interpreter's, at whatever state comes -/
def SrcR (T : Tx) (Mb : AP') (ow : List (Option Addr)) (r : List Addr) (H : Hp) (J : It) (src : Src) : Prop :=
  ∀ (Mb' : AP') (r' : List Addr) (ow' : List (Option Addr)) (H' : Hp) (st' : Store), Grow H (Ms Mb r ow) r H' (Ms Mb' r' ow') r' → StR T.toTb (Ms Mb' r' ow') r' H' st' → ∀ i : Nat,
    (src.get i st' = some none → J.stop i H') ∧ ∀ d, src.get i st' = some (some d) → J.go i H' ∧ ∀ x H'', J.yld i H' x H'' → H'' = H' ∧ Rep T.toTb H' (Ms Mb' r' ow') r' x d
section
variable {T : Tx} {pe : Pe} {W : WX} {cs : Iv.Calls} {Mb : AP'} {r r1 : List Addr} {ow : List (Option Addr)} {H H1 : Hp} {st : Store} {σ : L2.St} {env : SEnv} {X : Cx}
theorem src_list (hK : T.K = X.K) {a : Addr} {xs : List V} {ds : List D} (h : ∀ (H' : Hp) (M' : AP') (r' : List Addr), Grow H (Ms Mb r ow) r H' M' r' → SqL T.K H' a xs ∧ RepL T.toTb H' M' r' xs ds) : SrcR T Mb ow r H (Itl X.K a) (.items ds) := by
  intro Mb' r' ow' H' st' g s i
  obtain ⟨h1, h2⟩ := h H' _ r' g
  rw [hK] at h1
  refine ⟨fun e => ?_, fun d e => ?_⟩
  · have e : ds[i]? = none := Option.some.inj e
    refine ⟨xs, h1, ?_⟩
    rw [h2.len]
    exact List.getElem?_eq_none_iff.mp e
  · have e : ds[i]? = some d := Option.some.inj e
    obtain ⟨v, e2, rv⟩ := h2.at e
    refine ⟨⟨xs, v, h1, e2⟩, fun x H'' y => ⟨y.1, ?_⟩⟩
    have e3 := y.2 xs h1
    rw [e2] at e3; cases e3
    exact rv
theorem src_tup (hK : T.K = X.K) {a : Addr} {xs : List V} {ds : List D} (h : ∀ (H' : Hp) (M' : AP') (r' : List Addr), Grow H (Ms Mb r ow) r H' M' r' → SqT T.K H' a xs ∧ RepL T.toTb H' M' r' xs ds) : SrcR T Mb ow r H (Itt X.K a) (.items ds) := by
  intro Mb' r' ow' H' st' g s i
  obtain ⟨h1, h2⟩ := h H' _ r' g
  rw [hK] at h1
  refine ⟨fun e => ?_, fun d e => ?_⟩
  · have e : ds[i]? = none := Option.some.inj e
    refine ⟨xs, h1, ?_⟩
    rw [h2.len]
    exact List.getElem?_eq_none_iff.mp e
  · have e : ds[i]? = some d := Option.some.inj e
    obtain ⟨v, e2, rv⟩ := h2.at e
    refine ⟨⟨xs, v, h1, e2⟩, fun x H'' y => ⟨y.1, ?_⟩⟩
    have e3 := y.2 xs h1
    rw [e2] at e3; cases e3
    exact rv
theorem src_cell (hK : T.K = X.K) {a : Addr} {n : Nat} (e : r[n]? = some a) : SrcR T Mb ow r H (Itl X.K a) (.cell n) := by
  intro Mb' r' ow' H' st' g s i
  have e' := g.pre _ _ e
  have at_ : ∀ ds, st'[n]? = some (.lst ds) → ∃ xs, SqL X.K H' a xs ∧ RepL T.toTb H' (Ms Mb' r' ow') r' xs ds := fun ds h => by
    obtain ⟨xs, h1, h2⟩ := s.obj n a _ e' h
    exact ⟨xs, .of h1, h2⟩
  refine ⟨fun h => ?_, fun d h => ?_⟩
  · unfold Src.get at h
    dsimp only at h
    split at h
    · rename_i ds hd
      have h : ds[i]? = none := Option.some.inj h
      obtain ⟨xs, h1, h2⟩ := at_ ds hd
      refine ⟨xs, h1, ?_⟩
      rw [h2.len]
      exact List.getElem?_eq_none_iff.mp h
    · cases h
  · unfold Src.get at h
    dsimp only at h
    split at h
    · rename_i ds hd
      have h : ds[i]? = some d := Option.some.inj h
      obtain ⟨xs, h1, h2⟩ := at_ ds hd
      obtain ⟨v, e2, rv⟩ := h2.at h
      refine ⟨⟨xs, v, h1, e2⟩, fun x H'' y => ⟨y.1, ?_⟩⟩
      have e3 := y.2 xs h1
      rw [e2] at e3; cases e3
      exact rv
    · cases h
theorem src_rev (hK : T.K = X.K) {a : Addr} {xs : List V} {ds : List D} (h : ∀ (H' : Hp) (M' : AP') (r' : List Addr), Grow H (Ms Mb r ow) r H' M' r' → SqL T.K H' a xs ∧ RepL T.toTb H' M' r' xs ds) : SrcR T Mb ow r H (Itv X.K a xs.length) (.items ds.reverse) := by
  intro Mb' r' ow' H' st' g s i
  obtain ⟨h1, h2⟩ := h H' _ r' g
  rw [hK] at h1
  refine ⟨fun e => ?_, fun d e => ?_⟩
  · have e : ds.reverse[i]? = none := Option.some.inj e
    have := List.getElem?_eq_none_iff.mp e
    rw [List.length_reverse, ← h2.len] at this
    exact this
  · have e : ds.reverse[i]? = some d := Option.some.inj e
    obtain ⟨hi, _⟩ := List.getElem?_eq_some_iff.mp e
    rw [List.length_reverse] at hi
    rw [List.getElem?_reverse hi] at e
    rw [← h2.len] at e hi
    obtain ⟨v, e2, rv⟩ := h2.at e
    refine ⟨⟨hi, xs, v, h1, e2⟩, fun x H'' y => ⟨y.1, ?_⟩⟩
    have e3 := y.2 xs h1
    rw [e2] at e3; cases e3
    exact rv
theorem src_fn {J : It} {n : Nat} {f : Nat → V} {g : Nat → D} (hs : ∀ i H, n ≤ i → J.stop i H) (hg : ∀ i H, i < n → J.go i H) (hy : ∀ i H x H', i < n → J.yld i H x H' → H' = H ∧ x = f i) (hr : ∀ i H M r, Rep T.toTb H M r (f i) (g i)) :
    SrcR T Mb ow r H J (.items ((List.range n).map g)) := by
  intro Mb' r' ow' H' st' gr s i
  refine ⟨fun e => ?_, fun d e => ?_⟩
  · have e : ((List.range n).map g)[i]? = none := Option.some.inj e
    have := List.getElem?_eq_none_iff.mp e
    exact hs i H' (by simpa using this)
  · have e : ((List.range n).map g)[i]? = some d := Option.some.inj e
    obtain ⟨hi, e2⟩ := List.getElem?_eq_some_iff.mp e
    have hi : i < n := by simpa using hi
    refine ⟨hg i H' hi, fun x H'' y => ?_⟩
    obtain ⟨y1, y2⟩ := hy i H' x H'' hi y
    refine ⟨y1, ?_⟩
    rw [y2]
    have : d = g i := by rw [← e2]; simp
    rw [this]
    exact hr i _ _ _
theorem src_str (l : List Nat) : SrcR T Mb ow r H (Its (mkS l)) (.items (l.map fun c => .str [c])) := by
  intro Mb' r' ow' H' st' g s i
  have hl : (mkS l).cps.size = l.length := by simp [mkS]
  refine ⟨fun e => ?_, fun d e => ?_⟩
  · have e : (l.map fun c => D.str [c])[i]? = none := Option.some.inj e
    have := List.getElem?_eq_none_iff.mp e
    rw [List.length_map] at this
    show (mkS l).cps.size ≤ i
    rw [hl]; exact this
  · have e : (l.map fun c => D.str [c])[i]? = some d := Option.some.inj e
    obtain ⟨hi, e2⟩ := List.getElem?_eq_some_iff.mp e
    rw [List.length_map] at hi
    refine ⟨by show i < (mkS l).cps.size; rw [hl]; exact hi, fun x H'' y => ⟨y.1, ?_⟩⟩
    obtain ⟨c, e3, rfl⟩ := y.2
    have e4 : l[i]? = some c := by
      have : (mkS l).cps[i]? = l[i]? := by simp [mkS]
      rw [← this]; exact e3
    obtain ⟨_, e5⟩ := List.getElem?_eq_some_iff.mp e4
    have : d = .str [c] := by rw [← e2]; simp [e5]
    rw [this]
    exact .str [c]
/-- a list or a tuple, walked -/
theorem pi_seq {tg l : Expr} {tl : TE} (hl : PE X l tl) : PI X tg l (fun σ H R => tl σ H fun x H1 => ∃ a xs, x = .ref a ∧ ((SqL X.K H1 a xs ∧ R (Itl X.K a) H1) ∨ (SqT X.K H1 a xs ∧ R (Itt X.K a) H1))) := by
  refine ⟨fun pins s σ H R I h => thn (hl.run pins s σ H _ I h) fun v s1 ⟨x, H1, I1, r1, a, xs, e, q⟩ => ?_⟩
  subst e
  cases r1
  rcases q with ⟨hq, q⟩ | ⟨hq, q⟩
  · obtain ⟨its, rv, p, hz⟩ := I1.list hq
    exact wpAny_pyIter_list p.isList (pi_one (tk := s1.toks) I1 _ (turn_list a _) ⟨_, Heap.get?_push_size _ rfl, rfl, rfl⟩ q)
  · obtain ⟨its, rv, p, hz⟩ := I1.tuple hq
    exact wpAny_pyIter_tuple (show s1.heap.IsTuple a its.toArray from p) (pi_one (tk := s1.toks) I1 _ (turn_tuple a _) ⟨_, Heap.get?_push_size _ rfl, rfl, rfl⟩ q)
variable (T pe W cs) in
def tI (k : IK) (es : List E) : TI := fun σ H R => ∃ (Mb : AP') (r : List Addr) (ow : List (Option Addr)) (st : Store) (env : SEnv), Rel T pe Mb r ow H st σ env ∧
  OK T Mb ow W σ r H (evalL cs es env st) (fun r' H' ds st' => match mkSrc k ds with
    | none => False
    | some src => (src.get 0 st').isSome = true ∧ ∀ J, SrcR T Mb ow r' H' J src → R J H')
theorem piI {tg x : Expr} {t t' : TI} (h : PI X tg x t) (f : ∀ σ H R, t' σ H R → t σ H R) : PI X tg x t' := ⟨fun pins s σ H R I q => h.run pins s σ H R I (f _ _ _ q)⟩
theorem one_go {e : E} {Q : List Addr → Hp → List D → Store → Prop} (R : Rel T pe Mb r ow H st σ env) (h : OK T Mb ow W σ r H (evalL cs [e] env st) Q) {P : VK}
    (f : ∀ r1 H1 st1 d x, Nx r H r1 H1 → Rel T pe Mb r1 ow H1 st1 σ env → RepW e.strong T.toTb H1 (Ms Mb r1 ow) r1 x d → Q r1 H1 [d] st1 → P x H1) : tE T pe W cs e σ H P := by
  simp only [evalL, Res.bind_ok] at h
  exact tE_go R h fun r1 H1 st1 d x n1 R1 hx h1 => f r1 H1 st1 d x n1 R1 hx (h1.now R1.st)
theorem i_seq (hK : T.K = X.K) (e : E) (he : e.strong = true) (σ : L2.St) (H : Hp) (R : It → Hp → Prop) (h : tI T pe W cs .seq [e] σ H R) :
    tE T pe W cs e σ H fun x H1 => ∃ a xs, x = .ref a ∧ ((SqL X.K H1 a xs ∧ R (Itl X.K a) H1) ∨ (SqT X.K H1 a xs ∧ R (Itt X.K a) H1)) := by
  obtain ⟨Mb, r, ow, st, env, RR, h⟩ := h
  refine one_go RR h fun r1 H1 st1 d x n1 R1 hx q => ?_
  rw [he] at hx
  have hx : Rep T.toTb H1 (Ms Mb r1 ow) r1 x d := hx
  cases d with
  | tup ds =>
    cases hx with
    | @tup a xs ds hh n qq => exact ⟨a, xs, rfl, .inr ⟨.of hh, q.2 _ (src_tup hK fun H' M' r' g => ⟨.of (g.keep _ _ hh n), qq.mono g⟩)⟩⟩
    | @tupC a xs ds hh qq => exact ⟨a, xs, rfl, .inr ⟨hK ▸ hh H1, q.2 _ (src_tup hK fun H' M' r' g => ⟨hh H', qq.mono g⟩)⟩⟩
  | lst ds =>
    cases hx with
    | @lst a xs ds hh n qq => exact ⟨a, xs, rfl, .inl ⟨.of hh, q.2 _ (src_list hK fun H' M' r' g => ⟨.of (g.keep _ _ hh n), qq.mono g⟩)⟩⟩
  | scr ns =>
    have hin : ∀ (ns : List Int) (H' : Hp) (M' : AP') (r' : List Addr), RepL T.toTb H' M' r' (ns.map V.int) (ns.map D.int) := fun ns H' M' r' => by
      induction ns with
      | nil => exact .nil
      | cons n ns ih => exact .cons (.int n) ih
    cases hx with
    | @scr a ns hh n => exact ⟨a, _, rfl, .inl ⟨.inl hh, q.2 _ (src_list hK fun H' M' r' g => ⟨.inl (g.rd hh n).1, hin ns H' M' r'⟩)⟩⟩
    | @scrC a ns hh => exact ⟨a, _, rfl, .inl ⟨hK ▸ hh H1, q.2 _ (src_list hK fun H' M' r' g => ⟨hh H', hin ns H' M' r'⟩)⟩⟩
  | ref n =>
    cases hx with
    | @ref a n hh =>
      obtain ⟨q0, q⟩ := q
      have hq : ∃ xs, SqL X.K H1 a xs := by
        unfold Src.get at q0
        dsimp only at q0
        split at q0
        · rename_i ds hd
          obtain ⟨xs, h1, _⟩ := R1.st.obj n a _ hh hd
          exact ⟨xs, .of h1⟩
        · cases q0
      obtain ⟨xs, hq⟩ := hq
      exact ⟨a, xs, rfl, .inl ⟨hq, q _ (src_cell hK hh)⟩⟩
  | _ => exact q.elim
theorem i_str (e : E) (σ : L2.St) (H : Hp) (R : It → Hp → Prop) (h : tI T pe W cs .str [e] σ H R) : iStr (tE T pe W cs e) σ H R := by
  obtain ⟨Mb, r, ow, st, env, RR, h⟩ := h
  refine one_go RR h fun r1 H1 st1 d x n1 R1 hx q => ?_
  cases d with
  | str l => exact ⟨mkS l, hx.weak.str, q.2 _ (src_str l)⟩
  | _ => exact q.elim
theorem src1_is {f : D → Option Src} {ds : List D} {src : Src} (h : src1 f ds = some src) : ∃ d, ds = [d] ∧ f d = some src := by
  unfold src1 at h
  split at h
  · exact ⟨_, rfl, h⟩
  · cases h
theorem src2_is {f : D → D → Option Src} {ds : List D} {src : Src} (h : src2 f ds = some src) : ∃ d e, ds = [d, e] ∧ f d e = some src := by
  unfold src2 at h
  split at h
  · exact ⟨_, _, rfl, h⟩
  · cases h
theorem src3_is {f : D → D → D → Option Src} {ds : List D} {src : Src} (h : src3 f ds = some src) : ∃ d e g, ds = [d, e, g] ∧ f d e g = some src := by
  unfold src3 at h
  split at h
  · exact ⟨_, _, _, rfl, h⟩
  · cases h
theorem i_rev (hK : T.K = X.K) (e : E) (he : e.strong = true) (σ : L2.St) (H : Hp) (R : It → Hp → Prop) (h : tI T pe W cs .rev [e] σ H R) : iRev X.K (tL T pe W cs [e]) σ H R := by
  obtain ⟨Mb, r, ow, st, env, RR, h⟩ := h
  refine ⟨Mb, r, ow, st, env, RR, h.imp fun r1 H1 ds st1 n s q vs hv => ?_⟩
  split at q
  · exact q.elim
  · rename_i src hs
    obtain ⟨d, rfl, hs⟩ := src1_is hs
    cases hv with
    | cons hx hn =>
      cases hn
      cases d with
      | lst es =>
        cases hs
        cases hx with
        | @lst a xs ds hh n qq => exact ⟨a, xs, rfl, .of hh, q.2 _ (src_rev hK fun H' M' r' g => ⟨.of (g.keep _ _ hh n), qq.mono g⟩)⟩
      | _ => cases hs
theorem smallI_ok {i : Int} (h : smallI i = true) : -(2 ^ 62) ≤ i ∧ i < 2 ^ 62 := by
  unfold smallI at h
  simpa [Bool.and_eq_true] using h
theorem rgc_two {i j : Int} (ha : -(2 ^ 62) ≤ i) (ha' : i < 2 ^ 62) (hb : -(2 ^ 62) ≤ j) (hb' : j < 2 ^ 62) : RgC i j 2 ((j - i + 1) / 2).toNat := by
  have e : Builtin.Range.rangeSize i j 2 = ((((j - i + 1) / 2).toNat : Nat) : Int) := by
    unfold Builtin.Range.rangeSize
    rw [if_pos (by decide)]
    split <;> omega
  refine ⟨by decide, by decide, ?_, e⟩
  unfold Builtin.Range.small
  rw [e, if_pos (show (2 : Int) > 0 by decide)]
  simp only [Builtin.Range.rangeFitsLong, Bool.and_eq_true, Bool.or_eq_true, decide_eq_true_eq, beq_iff_eq]
  omega
theorem rng1_is {ds : List D} {src : Src} (h : mkSrc .rng1 ds = some src) : ∃ j, ds = [.int j] ∧ smallI j = true ∧ src = .items ((List.range j.toNat).map fun (i : Nat) => .int (i : Int)) := by
  obtain ⟨d, rfl, h⟩ := src1_is h
  have h : srcR1 d = some src := h
  unfold srcR1 at h
  split at h
  · split at h
    · exact ⟨_, rfl, by assumption, (Option.some.inj h).symm⟩
    · cases h
  · cases h
theorem rng2_is {ds : List D} {src : Src} (h : mkSrc .rng2 ds = some src) : ∃ a b, ds = [.int a, .int b] ∧ smallI a = true ∧ smallI b = true ∧ src = .items ((List.range (b - a).toNat).map fun (i : Nat) => .int (a + (i : Int))) := by
  obtain ⟨d, e, rfl, h⟩ := src2_is h
  have h : srcR2 d e = some src := h
  unfold srcR2 at h
  split at h
  · split at h
    · rename_i hs
      rw [Bool.and_eq_true] at hs
      exact ⟨_, _, rfl, hs.1, hs.2, (Option.some.inj h).symm⟩
    · cases h
  · cases h
theorem rng3_is {ds : List D} {src : Src} (h : mkSrc .rng3 ds = some src) : ∃ a b c, ds = [.int a, .int b, .int c] ∧ smallI a = true ∧ smallI b = true ∧ ((c = -1 ∧ src = .items ((List.range (a - b).toNat).map fun (i : Nat) => .int (a - (i : Int)))) ∨
    (c = 2 ∧ src = .items ((List.range ((b - a + 1) / 2).toNat).map fun (i : Nat) => .int (a + (i : Int) * 2)))) := by
  obtain ⟨d, e, g, rfl, h⟩ := src3_is h
  have h : srcR3 d e g = some src := h
  unfold srcR3 at h
  split at h
  · split at h
    · rename_i hs
      rw [Bool.and_eq_true] at hs
      refine ⟨_, _, _, rfl, hs.1, hs.2, ?_⟩
      split at h
      · exact .inl ⟨by assumption, (Option.some.inj h).symm⟩
      · split at h
        · exact .inr ⟨by assumption, (Option.some.inj h).symm⟩
        · cases h
    · cases h
  · cases h
theorem i_rng1 (es : List E) (σ : L2.St) (H : Hp) (R : It → Hp → Prop) (h : tI T pe W cs .rng1 es σ H R) : iRng1 (tL T pe W cs es) σ H R := by
  obtain ⟨Mb, r, ow, st, env, RR, h⟩ := h
  refine ⟨Mb, r, ow, st, env, RR, h.imp fun r1 H1 ds st1 n s q vs hv => ?_⟩
  split at q
  · exact q.elim
  · rename_i src hs
    obtain ⟨j, rfl, hsm, rfl⟩ := rng1_is hs
    obtain ⟨h1, h2⟩ := smallI_ok hsm
    cases hv with
    | cons hx hn =>
      cases hn
      cases hx
      refine ⟨j, rfl, h1, h2, q.2 _ (src_fn (f := fun i => .int (0 + (i : Nat))) (fun _ _ h => h) (fun _ _ h => h) (fun i H x H' hi y => y) (fun i H M r => ?_))⟩
      rw [Int.zero_add]
      exact .int _
theorem i_rng2 (es : List E) (σ : L2.St) (H : Hp) (R : It → Hp → Prop) (h : tI T pe W cs .rng2 es σ H R) : iRng2 (tL T pe W cs es) σ H R := by
  obtain ⟨Mb, r, ow, st, env, RR, h⟩ := h
  refine ⟨Mb, r, ow, st, env, RR, h.imp fun r1 H1 ds st1 n s q vs hv => ?_⟩
  split at q
  · exact q.elim
  · rename_i src hs
    obtain ⟨a, b, rfl, hsm, hsm2, rfl⟩ := rng2_is hs
    obtain ⟨h1, h2⟩ := smallI_ok hsm
    obtain ⟨h3, h4⟩ := smallI_ok hsm2
    cases hv with
    | cons hx hn =>
      cases hn with
      | cons hy hn =>
        cases hn
        cases hx; cases hy
        exact ⟨a, b, rfl, ⟨h1, h2, h3, h4⟩, q.2 _ (src_fn (f := fun i => .int (a + (i : Nat))) (fun _ _ h => h) (fun _ _ h => h) (fun i H x H' hi y => y) (fun i H M r => .int _))⟩
theorem i_rng3 (es : List E) (σ : L2.St) (H : Hp) (R : It → Hp → Prop) (h : tI T pe W cs .rng3 es σ H R) : iRng3 (tL T pe W cs es) σ H R := by
  obtain ⟨Mb, r, ow, st, env, RR, h⟩ := h
  refine ⟨Mb, r, ow, st, env, RR, h.imp fun r1 H1 ds st1 n s q vs hv => ?_⟩
  split at q
  · exact q.elim
  · rename_i src hs
    obtain ⟨a, b, c, rfl, hsm, hsm2, hc⟩ := rng3_is hs
    obtain ⟨h1, h2⟩ := smallI_ok hsm
    obtain ⟨h3, h4⟩ := smallI_ok hsm2
    cases hv with
    | cons hx hn =>
      cases hn with
      | cons hy hn =>
        cases hn with
        | cons hz hn =>
          cases hn
          cases hx; cases hy; cases hz
          rcases hc with ⟨rfl, rfl⟩ | ⟨rfl, rfl⟩
          · refine ⟨a, b, -1, _, rfl, RgC.neg h1 h2 h3 h4, q.2 _ (src_fn (f := fun i => .int (a + (i : Nat) * (-1))) (fun _ _ h => h) (fun _ _ h => h) (fun i H x H' hi y => y) (fun i H M r => ?_))⟩
            have : a + ((i : Nat) : Int) * (-1) = a - (i : Nat) := by omega
            rw [this]
            exact .int _
          · exact ⟨a, b, 2, _, rfl, rgc_two h1 h2 h3 h4, q.2 _ (src_fn (f := fun i => .int (a + (i : Nat) * 2)) (fun _ _ h => h) (fun _ _ h => h) (fun i H x H' hi y => y) (fun i H M r => .int _))⟩
end
end Iv
end
section
set_option Elab.async false
set_option linter.all false
set_option maxRecDepth 100000
set_option maxHeartbeats 1000000
/-! Targets; comprehensions. -/
namespace Iv
open PySem PySem.Spec PySem.Calls PyProof.Rows L2
theorem wipe_get (σ : L2.St) (j : Nat) : ∀ vs : List Nat, (wipe σ vs)[j]? = if j ∈ vs ∧ j < σ.length then some none else σ[j]?
  | [] => by simp [wipe]
  | v :: vs => by
    have ih := wipe_get σ j vs
    show ((wipe σ vs).set v none)[j]? = _
    rw [List.getElem?_set, wipe_length, ih]
    by_cases h1 : v = j
    · subst h1
      by_cases h2 : v < σ.length
      · simp [h2]
      · simp [h2]
    · have h3 : j ≠ v := fun z => h1 z.symm
      simp [h1, h3]
theorem wipe_wipe (σ : L2.St) (vs : List Nat) : wipe (wipe σ vs) vs = wipe σ vs := by
  apply List.ext_getElem?
  intro j
  rw [wipe_get, wipe_length, wipe_get]
  split <;> rfl
theorem wipe_put (σ : L2.St) (vs : List Nat) {i : Nat} (h : i ∈ vs) (x : Option V) : wipe (σ.set i x) vs = wipe σ vs := by
  apply List.ext_getElem?
  intro j
  rw [wipe_get, wipe_get, List.length_set, List.getElem?_set]
  by_cases h1 : i = j
  · subst h1
    simp only [h, true_and, if_true]
    by_cases h2 : i < σ.length
    · simp [h2]
    · simp [h2]
  · simp [h1]
section
variable {T : Tx} {pe : Pe} {W : WX} {cs : Iv.Calls} {Mb : AP'} {r r1 : List Addr} {ow : List (Option Addr)} {H H1 : Hp} {st : Store} {σ : L2.St} {env : SEnv} {X : Cx}
theorem Rel.put (R : Rel T pe Mb r ow H st σ env) (i : Nat) {v : V} {d : D} (h : Rep T.toTb H (Ms Mb r ow) r v d) : Rel T pe Mb r ow H st (σ.set i (some v)) (env.set i (.val d)) := by
  refine ⟨R.st, by rw [List.length_set]; exact R.lo, by rw [List.length_set, List.length_set]; exact R.ls, fun j s e => ?_, R.od, R.ob⟩
  rw [List.getElem?_set] at e ⊢
  by_cases h1 : i = j
  · subst h1
    simp only [if_true] at e ⊢
    split at e
    · rename_i hl
      cases e
      have h2 : i < ow.length := by rw [R.lo]; exact hl
      have h3 : i < σ.length := by rw [R.ls]; exact hl
      exact ⟨_, List.getElem?_eq_getElem h2, v, by rw [if_pos h3], h⟩
    · cases e
  · rw [if_neg h1] at e ⊢
    exact R.sl j s e
theorem Rel.forget (R : Rel T pe Mb r ow H st σ env) (i : Nat) : Rel T pe Mb r ow H st (σ.set i none) (env.set i .none) := by
  refine ⟨R.st, by rw [List.length_set]; exact R.lo, by rw [List.length_set, List.length_set]; exact R.ls, fun j s e => ?_, R.od, R.ob⟩
  rw [List.getElem?_set] at e ⊢
  by_cases h1 : i = j
  · subst h1
    simp only [if_true] at e ⊢
    split at e
    · rename_i hl
      cases e
      have h2 : i < ow.length := by rw [R.lo]; exact hl
      exact ⟨_, List.getElem?_eq_getElem h2, trivial⟩
    · cases e
  · rw [if_neg h1] at e ⊢
    exact R.sl j s e
theorem Rel.wipes (R : Rel T pe Mb r ow H st σ env) : ∀ tg : List Nat, Rel T pe Mb r ow H st (wipe σ tg) (wipeE env tg)
  | [] => R
  | i :: tg => (R.wipes tg).forget i
def gNs : List Nat → TGs
  | [] => gNil
  | i :: is => gCons (gName i) (gNs is)
def gT (K : PySem.W.Frag) (tg : List Nat) : TG :=
  match tg with
  | [i] => gName i
  | is => gTup K is.length (gNs is)
/-- names take items -/
theorem gNs_ok {P : L2.St → Hp → Prop} : ∀ (is : List Nat) (vs : List V) (ds : List D) (σ : L2.St) (env : SEnv), Rel T pe Mb r ow H st σ env → RepL T.toTb H (Ms Mb r ow) r vs ds → ds.length = is.length →
    (∀ σ1, Rel T pe Mb r ow H st σ1 ((is.zip ds).foldl (fun e p => e.set p.1 (.val p.2)) env) → (∀ vs' : List Nat, (∀ i ∈ is, i ∈ vs') → wipe σ1 vs' = wipe σ vs') → P σ1 H) → gNs is vs σ H P
  | [], vs, ds, σ, env, R, hv, hl, k => by
    have : ds = [] := List.length_eq_zero_iff.mp hl
    subst this
    cases hv
    exact ⟨rfl, k σ R fun _ _ => rfl⟩
  | i :: is, vs, ds, σ, env, R, hv, hl, k => by
    cases ds with
    | nil => cases hl
    | cons d ds =>
      cases hv with
      | @cons v _ vs _ h q =>
        refine ⟨v, vs, rfl, ?_⟩
        have R1 := R.put i h
        refine gNs_ok is vs ds _ _ R1 q (by simpa using hl) fun σ1 R2 w => k σ1 R2 fun vs' hs => ?_
        rw [w vs' fun j hj => hs j (List.mem_cons_of_mem _ hj)]
        exact wipe_put σ vs' (hs i List.mem_cons_self) _
theorem gT_ok {P : L2.St → Hp → Prop} {tg : List Nat} {x : V} {d : D} {env1 : SEnv} (R : Rel T pe Mb r ow H st σ env) (h : Rep T.toTb H (Ms Mb r ow) r x d) (e : bindT tg d env = some env1)
    (k : ∀ σ1, Rel T pe Mb r ow H st σ1 env1 → (∀ vs' : List Nat, (∀ i ∈ tg, i ∈ vs') → wipe σ1 vs' = wipe σ vs') → P σ1 H) : gT T.K tg x σ H P := by
  unfold bindT at e
  split at e
  · rename_i i
    cases e
    exact k _ (R.put i h) fun vs' hs => wipe_put σ vs' (hs i List.mem_cons_self) _
  · rename_i hn
    split at e
    · rename_i ds
      split at e
      · rename_i hl
        cases e
        obtain ⟨a, xs, rfl, h1, h2, _⟩ := RepP.tup (.inl h)
        have g : gTup T.K tg.length (gNs tg) (.ref a) σ H P := ⟨a, xs, rfl, h1, by rw [h2.len]; exact hl, gNs_ok tg xs ds σ env R h2 hl k⟩
        unfold gT
        split
        · rename_i i
          exact absurd rfl (hn i)
        · exact g
      · cases e
    · cases e
/-- an object that the callers write is written -/
theorem grow_w {p : Addr} {o : HO} : Grow H (Ms (Mp Mb p) r ow) r (upd H p o) (Ms (Mp Mb p) r ow) r :=
  ⟨fun a u e n => by rw [upd_ne fun z => n (.inl (.inr z))]; exact e, fun _ z => .inl z, fun _ _ e => e⟩
theorem Rel.wrP {p : Addr} {o u : HO} (R : Rel T pe (Mp Mb p) r ow H st σ env) (hp : H p = some u) (hr : p ∉ r) : Rel T pe (Mp Mb p) r ow (upd H p o) st σ env := by
  have g : Grow H (Ms (Mp Mb p) r ow) r (upd H p o) (Ms (Mp Mb p) r ow) r := grow_w
  have hu : ∀ a u, H a = some u → a ≠ p → upd H p o a = some u := fun a u e n => by rw [upd_ne n]; exact e
  refine ⟨⟨R.st.len, R.st.nd, fun n a ob e1 e2 => (R.st.obj n a ob e1 e2).mono g fun u q => hu a u q fun z => hr (z ▸ List.mem_of_getElem? e1), fun a z => ?_⟩, R.lo, R.ls, fun i sl e => ?_, R.od, R.ob⟩
  · obtain ⟨u, hh⟩ := R.st.dom a z
    by_cases hz : a = p
    · exact ⟨o, by rw [hz, upd_same]⟩
    · exact ⟨u, hu a u hh hz⟩
  · obtain ⟨oo, e1, e2⟩ := R.sl i sl e
    refine ⟨oo, e1, e2.mono g fun a u z hh => hu a u hh fun z2 => ?_⟩
    subst z
    exact (R.ob a (List.mem_of_getElem? e1)).2 (.inr z2)
/-- no exception in a block -/
abbrev WF : WX := fun _ _ _ _ => False
/-- what a comprehension's loop is to end in -/
def Fin (T : Tx) (Mb : AP') (ow : List (Option Addr)) (r : List Addr) (H : Hp) (p : Addr) (x : Res D) (Q : VK) : Prop :=
  match x with
  | .ok d st => ∃ o, newO d = some o ∧ ∀ r' H', p ∉ r' → Nx r H r' H' → StR T.toTb (Ms (Mp Mb p) r' ow) r' H' st → ObjR T.toTb H' (Ms (Mp Mb p) r' ow) r' p o → Q (.ref p) H'
  | _ => False
theorem Fin.of {Q : VK} {x : Res D} (h : OKN T Mb ow W σ r H (noexn x) Q) {p : Addr} (hp : H p = none) : Fin T Mb ow r H p (noexn x) Q := by
  cases x with
  | ok d st =>
    obtain ⟨o, ho, h⟩ := h
    exact ⟨o, ho, fun r' H' hr n s q => h r' H' p hp hr n s q⟩
  | exn x st => exact h
  | bad => exact h
theorem Fin.step {α : Type} {p : Addr} {Q : VK} {x : Res α} {k : α → Store → Res D} {Mb' : AP'} {ow' : List (Option Addr)} {r' : List Addr} {H' : Hp} {σ' : L2.St} (h : Fin T Mb ow r H p (noexn (x.bind k)) Q) :
    OK T Mb' ow' WF σ' r' H' x (fun _ _ a st => Fin T Mb ow r H p (noexn (k a st)) Q) := by
  cases x with
  | ok a st => exact fun _ _ _ _ => h
  | exn x st => exact h.elim
  | bad => exact h.elim
variable (T pe cs) in
def tCs (cond : List E) : TT :=
  match cond with
  | [] => tYes
  | [c] => tT T pe WF cs c
  | _ => fun _ _ _ => False
variable (T Mb ow pe) in
/-- a turn of a comprehension's loop -/
structure Turning (cs : Iv.Calls) (elt : E) (tg : List Nat) (cond : List E) (src : Src) (σ : L2.St) (env : SEnv) (r1 : List Addr) (H1 : Hp) (p : Addr) (Q : VK) (i m : Nat) (H : Hp) (r : List Addr) (st : Store) (acc : List D) (accV : List V) : Prop where
  nx : Nx r1 H1 r H
  pr : p ∉ r
  rel : Rel T pe (Mp Mb p) r ow H st (wipe σ tg) (wipeE env tg)
  at_ : H p = some (.lst accV)
  rep : RepL T.toTb H (Ms (Mp Mb p) r ow) r accV acc
  fin : Fin T Mb ow r1 H1 p (noexn (compL tg (fun e s => evalC cs cond e s) (fun e s => evalE cs elt e s) (wipeE env tg) src m i st acc)) Q
theorem s_comp (elt : E) (tg : List Nat) (k : IK) (es : List E) (cond : List E) (he : elt.strong = true) (σ : L2.St) (H : Hp) (Q : VK) (h : tN T pe W cs (.comp elt tg k es cond) σ H Q) :
    tLc (tI T pe W cs k es) (gT T.K tg) (tCs T pe cs cond) (tE T pe WF cs elt) tg σ H Q := by
  obtain ⟨Mb, r, ow, st, env, R, h⟩ := h
  rw [evalE] at h
  refine ⟨Mb, r, ow, st, env, R, (OKN.bind R.st h).imp fun r1 H1 ds st1 n1 s1 q => ?_⟩
  have R1 := R.next n1 s1
  cases hs : mkSrc k ds with
  | none => rw [hs] at q; exact q.elim
  | some src =>
    rw [hs] at q
    refine ⟨?_, fun J hJ p hp => ?_⟩
    · have e : LF = 999999 + 1 := rfl
      dsimp only at q
      rw [e, compL] at q
      cases hg : src.get 0 st1 with
      | none => rw [hg] at q; exact q.elim
      | some _ => rfl
    · have q0 := Fin.of q hp
      have hpr : p ∉ r1 := fun z => s1.free hp (.inr (.inl z))
      refine ⟨fun i m H => ∃ r st acc accV, Turning T pe Mb ow cs elt tg cond src σ env r1 H1 p Q i m H r st acc accV, ⟨LF, r1, st1, [], [], ?_⟩, ?_⟩
      · exact ⟨Nx.new hp, hpr, (R1.newP hp).wipes tg, upd_same, .nil, q0⟩
      · rintro i m H2 ⟨r2, st2, acc, accV, U⟩
        have g2 : Grow H1 (Ms Mb r1 ow) r1 H2 (Ms (Mp Mb p) r2 ow) r2 := by
          have a := U.nx.grow (Mb := Mb) (ow := ow)
          refine ⟨a.keep, fun b z => ?_, a.pre⟩
          rcases z with (z | z) | z | z
          · exact a.wr b (.inl z)
          · exact .inr (z ▸ hp)
          · exact a.wr b (.inr (.inl z))
          · exact a.wr b (.inr (.inr z))
        obtain ⟨j1, j2⟩ := hJ _ r2 ow H2 st2 g2 U.rel.st i
        have fin := U.fin
        cases m with
        | zero => rw [compL] at fin; exact fin.elim
        | succ m =>
          rw [compL] at fin
          cases hg : src.get i st2 with
          | none => rw [hg] at fin; exact fin.elim
          | some od =>
            rw [hg] at fin
            cases od with
            | none =>
              obtain ⟨o, ho, f⟩ := fin
              cases ho
              exact .inl ⟨j1 hg, f r2 H2 U.pr U.nx U.rel.st ⟨accV, U.at_, U.rep⟩⟩
            | some d =>
              obtain ⟨jg, jy⟩ := j2 d hg
              refine .inr ⟨jg, fun H => ∃ r st acc accV, Turning T pe Mb ow cs elt tg cond src σ env r1 H1 p Q (i + 1) m H r st acc accV, fun H' hh => ⟨m, Nat.lt_succ_self m, hh⟩, fun x H3 y => ?_⟩
              obtain ⟨rfl, rx⟩ := jy x H3 y
              dsimp only at fin
              cases hb : bindT tg d (wipeE env tg) with
              | none => rw [hb] at fin; exact fin.elim
              | some env1 =>
                rw [hb] at fin
                dsimp only at fin
                refine gT_ok U.rel rx hb fun σ2 R2 w2 => ⟨?_, ?_⟩
                · rw [w2 tg fun _ z => z]
                  exact wipe_wipe σ tg
                · -- the condition
                  have after : ∀ b r3 H4 st3, Nx r2 H3 r3 H4 → StR T.toTb (Ms (Mp Mb p) r3 ow) r3 H4 st3 → Fin T Mb ow r1 H1 p (noexn (match b with
                    | true => (evalE cs elt env1 st3).bind fun x st2 => if acc.length < line then compL tg (fun e s => evalC cs cond e s) (fun e s => evalE cs elt e s) (wipeE env tg) src m (i + 1) st2 (acc ++ [x]) else .bad
                    | false => compL tg (fun e s => evalC cs cond e s) (fun e s => evalE cs elt e s) (wipeE env tg) src m (i + 1) st3 acc)) Q →
                    (if b = true then tE T pe WF cs elt σ2 H4 fun y H5 => ∃ acc, H5 p = some (.lst acc) ∧ acc.length < sizeLine ∧ (fun H => ∃ r st acc accV, Turning T pe Mb ow cs elt tg cond src σ env r1 H1 p Q (i + 1) m H r st acc accV) (upd H5 p (.lst (acc ++ [y])))
                      else (fun H => ∃ r st acc accV, Turning T pe Mb ow cs elt tg cond src σ env r1 H1 p Q (i + 1) m H r st acc accV) H4) := by
                    intro b r3 H4 st3 n3 s3 fin3
                    cases b with
                    | false =>
                      rw [if_neg Bool.false_ne_true]
                      exact ⟨r3, st3, acc, accV, U.nx.trans n3, n3.notin U.at_ U.pr, U.rel.next n3 s3, n3.keep _ _ U.at_ U.pr, U.rep.mono n3.grow, fin3⟩
                    | true =>
                      rw [if_pos rfl]
                      refine ⟨Mp Mb p, r3, ow, st3, env1, R2.next n3 s3, (Fin.step fin3).imp fun r5 H5 z st5 n5 s5 fin5 v hv => ?_⟩
                      rw [he] at hv
                      have hv : Rep T.toTb H5 (Ms (Mp Mb p) r5 ow) r5 v z := hv
                      have n35 := n3.trans n5
                      split at fin5
                      · rename_i hl
                        have at5 := n35.keep _ _ U.at_ U.pr
                        have pr5 := n35.notin U.at_ U.pr
                        have g5 : Grow H5 (Ms (Mp Mb p) r5 ow) r5 (upd H5 p (.lst (accV ++ [v]))) (Ms (Mp Mb p) r5 ow) r5 := grow_w
                        refine ⟨accV, at5, by rw [U.rep.len, ← line_eq]; exact hl, r5, st5, acc ++ [z], accV ++ [v], ?_, pr5, (U.rel.next n35 s5).wrP at5 pr5, upd_same, ?_, fin5⟩
                        · have n15 := U.nx.trans n35
                          refine ⟨fun a u e ne => ?_, n15.ext, fun a u e => ?_⟩
                          · rw [upd_ne (ne_of_none e hp)]
                            exact n15.keep a u e ne
                          · obtain ⟨u', e'⟩ := n15.dom a u e
                            exact ⟨u', by rw [upd_ne (ne_of_none e hp)]; exact e'⟩
                        · exact ((U.rep.mono n35.grow).mono g5).app (.one (hv.mono g5))
                      · exact fin5.elim
                  match cond, after, fin with
                  | [], after, fin =>
                    exact after true r2 H3 st2 Nx.same U.rel.st fin
                  | [c], after, fin =>
                    refine ⟨Mp Mb p, r2, ow, st2, env1, R2, ?_⟩
                    have f2 := Fin.step (Mb' := Mp Mb p) (ow' := ow) (r' := r2) (H' := H3) (σ' := σ2) fin
                    exact f2.imp fun r3 H4 b st3 n3 s3 q3 => after b r3 H4 st3 n3 s3 q3
                  | _ :: _ :: _, after, fin => exact fin.elim
theorem comp_new (elt : E) (tg : List Nat) (k : IK) (es : List E) (cond : List E) : ∀ env st d st', evalE cs (.comp elt tg k es cond) env st = .ok d st' → ∃ o, newO d = some o := by
  have loop : ∀ (m i : Nat) (st : Store) (acc : List D) (env : SEnv) (src : Src) (d : D) (st' : Store), noexn (compL tg (fun e s => evalC cs cond e s) (fun e s => evalE cs elt e s) env src m i st acc) = .ok d st' → ∃ o, newO d = some o := by
    intro m
    induction m with
    | zero => intro i st acc env src d st' h; cases h
    | succ m ih =>
      intro i st acc env src d st' h
      rw [compL] at h
      cases hg : src.get i st with
      | none => rw [hg] at h; cases h
      | some od =>
        rw [hg] at h
        cases od with
        | none => cases h; exact ⟨_, rfl⟩
        | some x =>
          dsimp only at h
          cases hb : bindT tg x env with
          | none => rw [hb] at h; cases h
          | some env1 =>
            rw [hb] at h
            dsimp only at h
            cases hc : evalC cs cond env1 st with
            | bad => rw [hc] at h; cases h
            | exn y st1 => rw [hc] at h; cases h
            | ok b st1 =>
              rw [hc] at h
              cases b with
              | false => exact ih _ _ _ _ _ _ _ h
              | true =>
                simp only [Res.bind_ok] at h
                cases hx : evalE cs elt env1 st1 with
                | bad => rw [hx] at h; cases h
                | exn y st2 => rw [hx] at h; cases h
                | ok y st2 =>
                  rw [hx] at h
                  simp only [Res.bind_ok] at h
                  split at h
                  · exact ih _ _ _ _ _ _ _ h
                  · cases h
  intro env st d st' h
  rw [evalE] at h
  cases q : evalL cs es env st with
  | bad => rw [q] at h; cases h
  | exn x st1 => rw [q] at h; cases h
  | ok ds st1 =>
    rw [q] at h
    simp only [Res.bind_ok] at h
    cases hs : mkSrc k ds with
    | none => rw [hs] at h; cases h
    | some src => rw [hs] at h; exact loop _ _ _ _ _ _ _ _ h
end
end Iv
end
section
set_option Elab.async false
set_option linter.all false
set_option maxRecDepth 100000
set_option maxHeartbeats 1000000
/-! Displays of dicts, the keys written out. -/
namespace Iv
open PySem PySem.Spec PySem.Calls PyProof.Rows L2
def cKey : E → Option KD
  | .str l => some (.inr l)
  | .int i => some (.inl i)
  | _ => none
section
variable {T : Tx} {pe : Pe} {W : WX} {cs : Iv.Calls} {Mb : AP'} {r r1 : List Addr} {ow : List (Option Addr)} {H H1 : Hp} {st : Store} {σ : L2.St} {env : SEnv} {X : Cx}
theorem key_eval {e : E} {k : KD} (h : cKey e = some k) : ∃ d, keyOf d = some k ∧ (∀ env st, evalE cs e env st = .ok d st) ∧ ∀ H M r, Rep T.toTb H M r (kV (kd k)) d := by
  cases e <;> first | (cases h; done) | skip
  · cases h
    exact ⟨.int _, rfl, fun env st => by rw [evalE], fun H M r => .int _⟩
  · cases h
    exact ⟨.str _, rfl, fun env st => by rw [evalE], fun H M r => .str _⟩
theorem key_eval0 {e : E} {k : KD} (h : cKey e = some k) : ∃ d, keyOf d = some k ∧ ∀ env st, evalE cs e env st = .ok d st := by
  cases e <;> first | (cases h; done) | skip
  · cases h
    exact ⟨.int _, rfl, fun env st => by rw [evalE]⟩
  · cases h
    exact ⟨.str _, rfl, fun env st => by rw [evalE]⟩
theorem keys_eval : ∀ {ks : List E} {kds : List KD}, ks.map cKey = kds.map some → ∃ ds, (∀ env st, evalL cs ks env st = .ok ds st) ∧ ds.map keyOf = kds.map some
  | [], kds, h => by
    have : kds = [] := by
      cases kds with
      | nil => rfl
      | cons a b => cases h
    subst this
    exact ⟨[], fun env st => by rw [evalL], rfl⟩
  | e :: ks, kds, h => by
    cases kds with
    | nil => cases h
    | cons k kds =>
      have h1 : cKey e = some k := (List.cons.inj h).1
      obtain ⟨d, e1, e2⟩ := key_eval0 (cs := cs) h1
      obtain ⟨ds, e3, e4⟩ := keys_eval (ks := ks) (kds := kds) (List.cons.inj h).2
      refine ⟨d :: ds, fun env st => ?_, by rw [List.map_cons, List.map_cons, e1, e4]⟩
      rw [evalL, e2]
      simp only [Res.bind_ok, e3]
theorem dictOf_is : ∀ {ks : List D} {kds : List KD} {vs : List D}, ks.map keyOf = kds.map some → ks.length = vs.length → dictOf ks vs = some (kds.zip vs)
  | [], kds, vs, h, hl => by
    have : kds = [] := by
      cases kds with
      | nil => rfl
      | cons a b => cases h
    subst this
    have : vs = [] := List.length_eq_zero_iff.mp hl.symm
    subst this
    rfl
  | k :: ks, kds, vs, h, hl => by
    cases kds with
    | nil => cases h
    | cons kk kds =>
      cases vs with
      | nil => cases hl
      | cons v vs =>
        have h1 : keyOf k = some kk := (List.cons.inj h).1
        rw [dictOf, h1, dictOf_is (List.cons.inj h).2 (by simpa using hl)]
        rfl
variable (T pe W cs) in
def tKs (ks vs : List E) : List (TE × TE) := (ks.zip vs).map fun p => (tE T pe W cs p.1, tE T pe W cs p.2)
theorem pairs_ok : ∀ (ks vs : List E) (kds : List KD) (r : List Addr) (H : Hp) (st : Store) (P : List (V × V) → Hp → Prop), ks.map cKey = kds.map some → ks.length = vs.length → vs.all E.strong = true → Rel T pe Mb r ow H st σ env →
    OK T Mb ow W σ r H (evalL cs vs env st) (fun r' H' ds st' => ∀ xs, RepL T.toTb H' (Ms Mb r' ow) r' xs ds → P ((kds.zip xs).map fun p => (kV (kd p.1), p.2)) H') → tPairs (tKs T pe W cs ks vs) σ H P
  | [], vs, kds, r, H, st, P, h, hl, hs, R, q => by
    have : kds = [] := by
      cases kds with
      | nil => rfl
      | cons a b => cases h
    subst this
    have : vs = [] := List.length_eq_zero_iff.mp hl.symm
    subst this
    rw [evalL] at q
    exact q.now R.st _ .nil
  | e :: ks, vs, kds, r, H, st, P, h, hl, hs, R, q => by
    cases kds with
    | nil => cases h
    | cons k kds =>
      cases vs with
      | nil => cases hl
      | cons v vs =>
        have h1 : cKey e = some k := (List.cons.inj h).1
        obtain ⟨d, e1, e2, e3⟩ := key_eval (cs := cs) (T := T) h1
        rw [List.all_cons, Bool.and_eq_true] at hs
        show tE T pe W cs e σ H _
        refine ⟨Mb, r, ow, st, env, R, ?_⟩
        rw [e2]
        intro r0 H0 n0 s0 x hx
        have ex : x = kV (kd k) := hx.weak.key e1
        subst ex
        have R0 := R.next n0 s0
        rw [evalL] at q
        refine tE_go R0 (q.shift n0) fun r1 H1 st1 d1 y n1 R1 hy q1 => ?_
        rw [hs.1] at hy
        refine pairs_ok ks vs kds r1 H1 st1 _ (List.cons.inj h).2 (by simpa using hl) hs.2 R1 (q1.bind.imp fun r2 H2 ds st2 n2 s2 q2 xs hxs => ?_)
        exact q2.now s2 (y :: xs) (.cons (hy.mono n2.grow) hxs)
theorem merge_rep {M : AP'} : ∀ {more : List (Key × V)} {md : List (KD × D)} {kvs : List (Key × V)} {kv : List (KD × D)}, RepK T.toTb H M r more md → RepK T.toTb H M r kvs kv → RepK T.toTb H M r (mergeK kvs more) (mergeKd kv md) := by
  intro more md
  induction md generalizing more with
  | nil => intro kvs kv h g; cases h; exact g
  | cons p md ih =>
    intro kvs kv h g
    cases h with
    | @cons k v d vs ds h q =>
      have := ih (more := vs) q (g.put k h)
      exact this
theorem zip_rep {M : AP'} : ∀ {kds : List KD} {xs : List V} {ds : List D}, RepL T.toTb H M r xs ds → RepK T.toTb H M r (kds.zip xs |>.map fun p => (kd p.1, p.2)) (kds.zip ds)
  | [], _, _, _ => .nil
  | k :: kds, _, _, h => by
    cases h with
    | nil => exact .nil
    | cons h q => exact .cons h (zip_rep q)
theorem n_dct (ks vs : List E) (kds : List KD) (hk : ks.map cKey = kds.map some) (hl : ks.length = vs.length) (hs : vs.all E.strong = true) (k15 : ks.length ≤ 15) (σ : L2.St) (H : Hp) (Q : VK) (h : tN T pe W cs (.dct ks vs) σ H Q) : tDisp (tKs T pe W cs ks vs) σ H Q := by
  obtain ⟨Mb, r, ow, st, env, R, h⟩ := h
  intro p hp
  obtain ⟨kds', e1, e2⟩ := keys_eval (cs := cs) hk
  rw [evalE, e1] at h
  simp only [Res.bind_ok] at h
  have n0 : Nx r H r (upd H p (.dK [])) := Nx.new hp
  have hpr : p ∉ r := fun z => R.st.free hp (.inr (.inl z))
  refine pairs_ok ks vs kds r (upd H p (.dK [])) st _ hk hl hs (R.newP hp) ?_
  cases hx : evalL cs vs env st with
  | bad => rw [hx] at h; exact h.elim
  | exn x st1 =>
    rw [hx] at h
    intro r' H' cls d n s e
    refine h r' H' cls d (n0.trans n) s.shrink ?_
    obtain ⟨e3, e4⟩ := e
    refine ⟨e3, ?_⟩
    rcases e4 with e4 | ⟨dd, fs, q1, q2, q3, q4⟩
    · exact .inl e4
    · exact .inr ⟨dd, fs, q1, q2, shrink_p.no q2 q3, q4.mono shrink_p⟩
  | ok ds st1 =>
    rw [hx] at h
    simp only [Res.bind_ok] at h
    intro r' H' n s xs hxs
    cases e5 : dictOf kds' ds with
    | none => rw [e5] at h; exact h.elim
    | some kv =>
      rw [e5] at h
      dsimp only at h
      split at h
      · have h15 : (kds.zip ds).length ≤ 15 := by
          have := congrArg List.length hk
          rw [List.length_map, List.length_map] at this
          rw [List.length_zip]
          omega
        have hlen : kds'.length = ds.length := by
          have : ∀ {ks vs : List D} {kv : List (KD × D)}, dictOf ks vs = some kv → ks.length = vs.length := by
            intro ks
            induction ks with
            | nil =>
              intro vs kv h
              cases vs with
              | nil => rfl
              | cons a b => cases h
            | cons k ks ih =>
              intro vs kv h
              cases vs with
              | nil => cases h
              | cons v vs =>
                rw [dictOf] at h
                split at h
                · rename_i h2
                  rw [List.length_cons, List.length_cons, ih h2]
                · cases h
          exact this e5
        rw [dictOf_is e2 hlen] at e5
        cases e5
        have at0 : H' p = some (.dK []) := n.keep _ _ upd_same hpr
        have pr' : p ∉ r' := n.notin (H := upd H p (.dK [])) upd_same hpr
        refine ⟨at0, (kds.zip xs).map fun p => (kd p.1, p.2), by rw [List.map_map]; rfl, ?_, ?_⟩
        · have := hxs.len
          rw [List.length_map, List.length_zip, this, ← List.length_zip]
          exact h15
        · obtain ⟨o, ho, f⟩ := h
          cases ho
          have R2 := (R.newP (ho := .dK []) hp).next n s
          have R3 := R2.wrP (o := .dK (mergeK [] ((kds.zip xs).map fun p => (kd p.1, p.2)))) at0 pr'
          have n1 := n0.trans n
          refine f r' _ p hp pr' ⟨fun a u e ne => ?_, n1.ext, fun a u e => ?_⟩ R3.st ⟨_, upd_same, merge_rep (zip_rep (hxs.mono grow_w)) .nil⟩
          · rw [upd_ne (ne_of_none e hp)]
            exact n1.keep a u e ne
          · obtain ⟨u', e'⟩ := n1.dom a u e
            exact ⟨u', by rw [upd_ne (ne_of_none e hp)]; exact e'⟩
      · exact h.elim
theorem n_dct0 (σ : L2.St) (H : Hp) (Q : VK) (h : tN T pe W cs (.dct [] []) σ H Q) : tDNewK σ H Q := by
  obtain ⟨Mb, r, ow, st, env, R, h⟩ := h
  simp only [evalE, evalL, Res.bind_ok, dictOf, List.length_nil, Nat.zero_le, if_true] at h
  intro p hp
  exact h.dict R.st hp .nil
theorem dct_new (ks vs : List E) : ∀ env st d st', evalE cs (.dct ks vs) env st = .ok d st' → ∃ o, newO d = some o := by
  intro env st d st' h
  rw [evalE] at h
  cases q : evalL cs ks env st with
  | bad => rw [q] at h; cases h
  | exn x st1 => rw [q] at h; cases h
  | ok ds st1 =>
    rw [q] at h
    simp only [Res.bind_ok] at h
    cases q2 : evalL cs vs env st1 with
    | bad => rw [q2] at h; cases h
    | exn x st2 => rw [q2] at h; cases h
    | ok es st2 =>
      rw [q2] at h
      simp only [Res.bind_ok] at h
      split at h
      · split at h
        · cases h; exact ⟨_, rfl⟩
        · cases h
      · cases h
end
end Iv
end
section
set_option Elab.async false
set_option linter.all false
set_option maxRecDepth 100000
set_option maxHeartbeats 1000000
/-! A display of more than 17 pairs of constants: stored one by one, then a second dict is merged. -/
namespace Iv
open PySem PySem.Spec PySem.Calls PyProof.Rows L2
abbrev TR := Sem Value × Sem Value
abbrev it (p : TR) : Option (Sem Value) × Sem Value := (some p.1, p.2)
theorem forIn_more (f : (Option (Sem Value) × Sem Value) → (Option Addr × List TR) → Sem (ForInStep (Option Addr × List TR))) (m : Option Addr) (rest : List (Option (Sem Value) × Sem Value))
    (hf : ∀ (p : TR) (run : List TR), run.length + 1 < 17 → f (some p.1, p.2) (m, run) = pure (.yield (m, run ++ [p]))) :
    ∀ (items run : List TR), run.length + items.length < 17 → forIn (items.map it ++ rest) (m, run) f = forIn rest (m, run ++ items) f
  | [], run, _ => by simp
  | p :: r, run, h => by
    rw [List.map_cons, List.cons_append, List.forIn_cons, hf p run (by simp at h; omega), pure_bind]
    have := forIn_more f m rest hf r (run ++ [p]) (by simp at h ⊢; omega)
    simpa using this
def merged17 (d sub : Addr) : Sem Unit := (holding [.ref d, .ref sub] (mergeMapping d (.ref sub) false)).onRaise fun x => do let _ ← holding [.ref d, x] (runValue (.builtin "proto.let_go" {}))
theorem display_two (ps qs : List TR) (p : TR) (hp : ps.length = 16) (h0 : qs ≠ []) (hq : qs.length < 17) :
    dictDisplay ((ps.map it) ++ it p :: qs.map it) = (do let d ← subDict (ps ++ [p]); let sub ← holding [.ref d] (subDict qs); merged17 d sub; pure (.ref d)) := by
  unfold dictDisplay
  dsimp only
  rw [forIn_more _ none _ (fun p run h => by
    have hne : ((run ++ [(p.1, p.2)]).length == 17) = false := by simp; omega
    simp only [hne, Bool.false_eq_true, if_false]) ps [] (by simp; omega)]
  rw [List.forIn_cons]
  have hl : ((ps ++ [(p.1, p.2)]).length == 17) = true := by simp [hp]
  have hne : (ps ++ [(p.1, p.2)]).isEmpty = false := by simp
  simp only [List.nil_append, hl, if_true, hne, Bool.false_eq_true, if_false, bind_assoc, pure_bind]
  congr 1
  funext d
  rw [← List.append_nil (qs.map it)]
  rw [forIn_more _ (some d) _ (fun p run h => by
    have hne : ((run ++ [(p.1, p.2)]).length == 17) = false := by simp; omega
    simp only [hne, Bool.false_eq_true, if_false]) qs [] (by simpa using hq)]
  have hqe : qs.isEmpty = false := by
    cases qs with
    | nil => exact absurd rfl h0
    | cons a b => rfl
  simp only [List.forIn_nil, List.nil_append, pure_bind, hqe, Bool.false_eq_true, if_false, bind_assoc]
  rfl
section
variable {prog : Program} {w : World} {K : Type} [DecidableEq K] {kk : KeyKind prog w K} {A : Around} {E : Value → Shared → Prop} {s : Shared}
theorem put_one {d : Addr} {l : List (K × Value)} {k : K} {kv v : Value} {Q : Unit → Shared → Prop} (hk : kk.is k kv = true) (D : s.heap.DictOf kk d l) (hz : l.length ≤ 1000)
    (h : ∀ g, g.DictOf kk d (stored l k v) → Heap.SameBut d s.heap g → Q () { s with heap := g }) : wpAny (model prog w) A (dictPut d (kk.hash k) kv v) Q E s := by
  obtain ⟨ob, arr, n, h1, h2, h3, h4, h5, h6⟩ := D
  have z : arr.size ≤ sizeLine := by
    have e1 := h5.length
    rw [Array.length_toList] at e1
    rw [sizeLine_eq]; omega
  have ix : (arr.findIdx? fun z => kk.is k z.key) = l.findIdx? fun z => decide (z.1 = k) := by
    rw [← h5.findIdx k]
    obtain ⟨m⟩ := arr
    simp
  refine wpAny_bind (wpAny_dictFind_of hk h1 h3 h4 ?_)
  cases fi : arr.findIdx? fun z => kk.is k z.key with
  | none =>
    have n1 : k ∉ l.map (·.1) := not_mem_of_findIdx_none (ix ▸ fi)
    have n2 : ¬ (l.any fun z => decide (z.1 = k)) = true := fun q => by
      obtain ⟨z, hz, e⟩ := List.any_eq_true.mp q
      exact n1 (List.mem_map.mpr ⟨z, hz, of_decide_eq_true e⟩)
    refine wpAny_updateDictKeys (hz := z) h1 h3 (h _ ⟨_, _, n + 1, Heap.get?_update_self _ h1 (Obj.isFreed_of_dict (Obj.data_mapDictKeys h3 _)), h2.mapDictKeys _, Obj.data_mapDictKeys h3 _, h4.push hk _, ?_, ?_⟩ (Heap.SameBut.update ..))
    · rw [stored, if_neg n2]
      have q := h5.append hk (kk.hash k) v
      obtain ⟨m⟩ := arr
      simpa using q
    · rw [stored, if_neg n2, List.map_append, List.nodup_append]
      refine ⟨h6, by simp, fun a ha b hb e => ?_⟩
      rw [List.map_cons, List.map_nil, List.mem_singleton] at hb
      rw [e, hb] at ha
      exact n1 ha
  | some j =>
    refine wpAny_updateDict h1 h3 (h _ ⟨_, _, n, Heap.get?_update_self _ h1 (Obj.isFreed_of_dict (Obj.data_mapDict h3 _)), h2.mapDict _, Obj.data_mapDict h3 _, h4.modify _ _, ?_, ?_⟩ (Heap.SameBut.update ..))
    · rw [stored, if_pos (any_of_findIdx_some (ix ▸ fi))]
      have fl : (arr.toList.findIdx? fun z => kk.is k z.key) = some j := by
        rw [← fi]
        obtain ⟨m⟩ := arr
        simp
      have q := h5.modify h6 fl v
      obtain ⟨m⟩ := arr
      simpa using q
    · rw [stored, if_pos (any_of_findIdx_some (ix ▸ fi)), keys_map_store]
      exact h6
theorem merge_two {d sub : Addr} {l more : List (K × Value)} {Q : Unit → Shared → Prop} (ne : d ≠ sub) (nS : (sub == sysModules) = false) (D : s.heap.DictOf kk d l) (M : s.heap.DictOf kk sub more) (h0 : l ≠ []) (hz : l.length + more.length ≤ 1000)
    (h : ∀ g, g.DictOf kk d (merged l more) → Heap.SameBut d s.heap g → Q () { s with heap := g }) : wpAny (model prog w) A (mergeMapping d (.ref sub) false) Q E s := by
  obtain ⟨ob, arr, n, h1, h2, h3, h4, h5, h6⟩ := id D
  obtain ⟨om, am, nm, m1, m2, m3, m4, m5, m6⟩ := id M
  have hl : more.length = am.size := by rw [← m5.length, Array.length_toList]
  have he : arr.isEmpty = false := by
    have e1 := h5.length
    rw [Array.length_toList] at e1
    cases q : arr.isEmpty with
    | false => rfl
    | true =>
      rw [Array.isEmpty_iff] at q
      rw [q] at e1
      exact absurd (List.length_eq_zero_iff.mp e1.symm) h0
  unfold mergeMapping
  refine wpAny_bind (wpAny_isInstance M.typeIs isSubtype_dict_dict ?_)
  simp only [if_true]
  refine wpAny_bind (wpAny_specialOf M.typeIs F.slot_dict_iter.lookup (wpAny_bind (wpAny_pure ?_)))
  simp only [beq_self_eq_true, nS, Bool.false_eq_true, if_false]
  refine wpAny_bind (wpAny_dictEntries h1 h3 ?_)
  simp only [he, Bool.false_eq_true, if_false]
  refine wpAny_bind (wpAny_dictEntries m1 m3 (wpAny_bind (wpAny_dictEpoch m1 m3 (wpAny_bind ?_))))
  rw [List.range_eq_range']
  refine wpAny_forIn_list _ (fun rest _ z => ∃ g i, z = { s with heap := g } ∧ rest = List.range' i (am.size - i) ∧ i ≤ am.size ∧ g.DictOf kk d (merged l (more.take i)) ∧ g.get? sub = some om ∧ Heap.SameBut d s.heap g) _ ?_ ?_ _ _
    ⟨s.heap, 0, rfl, by simp, Nat.zero_le _, by simpa [merged] using D, m1, Heap.SameBut.refl _ _⟩
  · rintro x rest b z ⟨g, i, rfl, hr, hi, Dg, mg, sg⟩
    have hlt : i < am.size := by
      refine Nat.lt_of_not_le fun q => ?_
      rw [Nat.sub_eq_zero_of_le q] at hr
      cases hr
    have q : am.size - i = (am.size - (i + 1)) + 1 := by omega
    rw [q, List.range'_succ] at hr
    obtain ⟨rfl, hrest⟩ := List.cons.inj hr
    refine wpAny_bind (wpAny_dictEntries mg m3 ?_)
    rw [Array.getElem?_eq_getElem hlt]
    have hxl : x < more.length := by rw [hl]; exact hlt
    have hkv : more[x]? = some more[x] := List.getElem?_eq_getElem hxl
    obtain ⟨hkey, hval⟩ := m5.get? (e := am[x]) (k := more[x].1) (v := more[x].2) (by simp [hlt]) hkv
    obtain ⟨k2, hk2, hh⟩ := m4 am[x] (Array.getElem_mem hlt)
    have ek : k2 = more[x].1 := kk.inj _ _ _ hk2 hkey
    subst ek
    dsimp only
    have hm : (merged l (more.take x)).length ≤ 1000 := by
      have e1 := merged_length_le l (more.take x)
      rw [List.length_take] at e1
      omega
    rw [hh, hval]
    refine wpAny_bind (wpAny_holding ?_)
    refine put_one hkey Dg hm fun g2 D2 s2 => ?_
    have mg2 : g2.get? sub = some om := (s2.2 sub (Ne.symm ne)).trans mg
    refine wpAny_bind (wpAny_dictEpoch mg2 m3 ?_)
    rw [if_neg (by simp)]
    exact wpAny_pure ⟨g2, x + 1, rfl, hrest, hlt, by rw [merged_take_succ l more x more[x] hkv]; exact D2, mg2, sg.trans s2⟩
  · rintro b z ⟨g, i, rfl, hr, hi, Dg, mg, sg⟩
    have hin : i = am.size := by
      refine Nat.le_antisymm hi (Nat.le_of_not_lt fun q => ?_)
      have q2 : am.size - i = (am.size - (i + 1)) + 1 := by omega
      rw [q2, List.range'_succ] at hr
      cases hr
    rw [hin, ← hl, List.take_length] at Dg
    exact wpAny_pure (h g Dg sg)
end
/-- keys and values that are constants -/
inductive Consts (X : Cx) : List (Option Expr) → List Expr → List (Key × V) → Prop
  | nil : Consts X [] [] []
  | cons {k v : Expr} {ks : List (Option Expr)} {vs : List Expr} {key : Key} {x : V} {kvs : List (Key × V)} (hk : PE X k (tC (kV key))) (hv : PE X v (tC x)) (r : Consts X ks vs kvs) : Consts X (some k :: ks) (v :: vs) ((key, x) :: kvs)
section
variable {X : Cx} {pins : List (Addr × Obj)} {σ : L2.St} {H : Hp} {s : Shared} {pos : Pos}
theorem long_loop {d : Addr} {ks : List (Option Expr)} {vs : List Expr} {kvs : List (Key × V)} (C : Consts X ks vs kvs) : ∀ {s : Shared} {acc : List (Key × V)} {Q : PUnit → Shared → Prop}, Inv X pins σ (upd H d (.dK acc)) s → acc.length + kvs.length ≤ 1000 →
    (∀ s', Inv X pins σ (upd H d (.dK (mergeK acc kvs))) s' → Q PUnit.unit s') →
    wpAny (model X.prog X.w) X.A (forIn (pairTrees ks vs X.env pos) PUnit.unit fun (x : TR) (_ : PUnit) => (do
      let kv ← x.1
      let vv ← holding [kv] x.2
      holding [kv, vv] (dictSet d kv vv)
      pure (ForInStep.yield PUnit.unit) : Sem (ForInStep PUnit))) Q X.xe s := by
  induction C with
  | nil =>
    intro s acc Q I _ h
    show wpAny _ _ (forIn ([] : List TR) PUnit.unit _) _ _ _
    rw [List.forIn_nil]
    exact wpAny_pure (h s I)
  | @cons k v ks vs key x kvs hk hv C ih =>
    intro s acc Q I hz h
    rw [List.length_cons] at hz
    show wpAny _ _ (forIn (((eval k X.env, do let x ← eval v X.env; standAt pos; pure x) : TR) :: pairTrees ks vs X.env pos) PUnit.unit _) _ _ _
    rw [List.forIn_cons]
    refine wpAny_bind (wpAny_bind (thn (hk.run pins s σ _ (fun u H1 => u = kV key ∧ H1 = upd H d (.dK acc)) I ⟨rfl, rfl⟩) fun u s1 ⟨y, H1, I1, ry, e1⟩ => ?_))
    obtain ⟨rfl, rfl⟩ := e1
    refine wpAny_bind (wpAny_holding (wpAny_bind (thn (hv.run pins s1 σ _ (fun u H1 => u = x ∧ H1 = upd H d (.dK acc)) I1 ⟨rfl, rfl⟩) fun w1 s2 ⟨y2, H2, I2, rv, e2⟩ => wpAny_bind (wpAny_standAt (wpAny_pure ?_)))))
    obtain ⟨rfl, rfl⟩ := e2
    obtain ⟨z, hd, xs, rel, dd⟩ := dk_of I2.hok (kvs := acc) upd_same
    have hl := rel.length
    refine wpAny_bind (wpAny_holding (wpAny_dictSet_pairs (hsz := by rw [sizeLine_eq]; omega) (kV_is ry) dd fun g dg sg => wpAny_pure ?_))
    have l2 := length_putK acc key y2
    have J := d_write (t' := s2.toks + 1) (ob := .dK (putK acc key y2)) I2 (by rw [upd_same]; exact True.intro) sg (let ⟨q, _, _, hq, _⟩ := dg; ⟨q, hq⟩) (dk_new (by rw [sizeLine_eq]; omega) hd (rel.put key rv) dg)
    rw [upd_upd] at J
    exact ih J (by omega) h
theorem Consts.len {ks : List (Option Expr)} {vs : List Expr} {kvs : List (Key × V)} (C : Consts X ks vs kvs) : ks.length = kvs.length ∧ vs.length = kvs.length ∧ ks.all (·.isSome) = true ∧ (pairTrees ks vs X.env pos).length = kvs.length := by
  induction C with
  | nil => exact ⟨rfl, rfl, rfl, rfl⟩
  | cons _ _ _ ih =>
    obtain ⟨h1, h2, h3, h4⟩ := ih
    refine ⟨by rw [List.length_cons, List.length_cons, h1], by rw [List.length_cons, List.length_cons, h2], by rw [List.all_cons, h3]; rfl, ?_⟩
    show _ + 1 = _ + 1
    rw [h4]
theorem Consts.pps {ks : List (Option Expr)} {vs : List Expr} {kvs : List (Key × V)} (C : Consts X ks vs kvs) : PPs X pos ks vs (kvs.map fun z => (tC (kV z.1), tC z.2)) := by
  induction C with
  | nil => exact pps_nil
  | cons hk hv _ ih => exact pps_cons hk hv ih
theorem pairs_consts {σ : L2.St} {H : Hp} : ∀ {kvs : List (Key × V)} {Q : List (V × V) → Hp → Prop}, Q (kvs.map fun z => (kV z.1, z.2)) H → tPairs (kvs.map fun z => (tC (kV z.1), tC z.2)) σ H Q
  | [], _, h => h
  | _ :: r, Q, h => pairs_consts (kvs := r) (Q := fun ps H3 => Q (_ :: ps) H3) h
theorem trees_app : ∀ {a b : List (Option Expr)} {c d : List Expr} {env : PySem.Env}, a.length = c.length → a.all (·.isSome) = true → pairTrees (a ++ b) (c ++ d) env pos = pairTrees a c env pos ++ pairTrees b d env pos
  | [], _, [], _, _, _, _ => rfl
  | some k :: a, b, v :: c, d, env, h, h2 => by
    show _ :: pairTrees (a ++ b) (c ++ d) env pos = _ :: (pairTrees a c env pos ++ pairTrees b d env pos)
    rw [trees_app (by simpa using h) (by simpa using h2)]
  | none :: _, _, _, _, _, _, h => by cases h
  | _ :: _, _, [], _, _, h, _ => by cases h
  | [], _, _ :: _, _, _, h, _ => by cases h
theorem length_mergeK_pos : ∀ (more kvs : List (Key × V)) (a : Key × V), 0 < (mergeK kvs (a :: more)).length
  | [], kvs, a => by
    show 0 < (putK kvs a.1 a.2).length
    unfold putK
    split
    · rename_i h
      cases kvs with
      | nil => cases h
      | cons b r => simp
    · simp
  | b :: r, kvs, a => length_mergeK_pos r (putK kvs a.1 a.2) b
def tBig (A B : List (Key × V)) : TE := fun _ H Q => ∀ p q, H p = none → H q = none → q ≠ p → Q (.ref p) (upd (upd H p (.dK (mergeK (mergeK [] A) (mergeK [] B)))) q (.dK (mergeK [] B)))
theorem pe_big {k1 k2 : List (Option Expr)} {v1 v2 : List Expr} {A B : List (Key × V)} (C1 : Consts X k1 v1 A) (C2 : Consts X k2 v2 B) (h1 : A.length = 17) (h2 : B ≠ []) (h3 : B.length ≤ 15) : PE X (.Dict (k1 ++ k2) (v1 ++ v2) pos) (tBig A B) := by
  refine ⟨fun pins s σ H Q I q => ?_⟩
  obtain ⟨a1, a2, a3, a4⟩ := C1.len (pos := pos)
  obtain ⟨b1, b2, b3, b4⟩ := C2.len (pos := pos)
  have tl := trees_app (b := k2) (d := v2) (env := X.env) (pos := pos) (a1.trans a2.symm) a3
  obtain ⟨ps, p, e1⟩ : ∃ ps p, pairTrees k1 v1 X.env pos = ps ++ [p] := by
    refine ⟨_, _, (List.dropLast_concat_getLast (l := pairTrees k1 v1 X.env pos) ?_).symm⟩
    intro z
    rw [z, List.length_nil, h1] at a4
    cases a4
  have e2 : ps.length = 16 := by
    have := congrArg List.length e1
    rw [a4, List.length_append, List.length_singleton, h1] at this
    omega
  have e3 : pairTrees k2 v2 X.env pos ≠ [] := fun z => by
    rw [z, List.length_nil] at b4
    exact h2 (List.length_eq_zero_iff.mp b4.symm)
  rw [arm_eval_Dict, zip_pairTrees (k1 ++ k2) (v1 ++ v2) X.env pos (by rw [List.all_append, a3, b3]; rfl) (by rw [List.length_append, List.length_append, a1, a2, b1, b2]), tl, e1]
  have e4 : ((ps ++ [p]) ++ pairTrees k2 v2 X.env pos).map (fun p => (some p.1, p.2)) = ps.map it ++ it p :: (pairTrees k2 v2 X.env pos).map it := by simp
  rw [e4, display_two ps _ p e2 e3 (by omega), ← e1]
  have hn := I.hok.fresh (Nat.le_refl s.heap.objs.size)
  have I1 := I.laid (a := s.heap.objs.size) (o := .dK []) (h' := s.heap.push { cls := .type "dict", data := .dict #[] }) (t' := s.toks) (fun _ _ q => Heap.get?_push_of_some _ q) (Nat.le_refl _) (dk_empty s.heap I.big)
  refine wpAny_bind (wpAny_standAt (wpAny_bind ?_))
  unfold subDict
  refine wpAny_bind (wpAny_alloc (wpAny_bind (wpAny_holding ?_)))
  rw [if_neg (by rw [a4, h1]; decide)]
  refine wpAny_bind (wpAny_rule ?_)
  refine wpAny_bind (long_loop C1 (acc := []) I1 (by rw [List.length_nil]; omega) fun s2 I2 => wpAny_pure (wpAny_pure ?_))
  have d0 : (upd H s.heap.objs.size (.dK (mergeK [] A))) s2.heap.objs.size = none := I2.hok.fresh (Nat.le_refl _)
  have nq : s2.heap.objs.size ≠ s.heap.objs.size := fun z => by
    rw [z, upd_same] at d0
    cases d0
  have hq : H s2.heap.objs.size = none := by rw [upd_ne nq] at d0; exact d0
  have I3 := I2.laid (a := s2.heap.objs.size) (o := .dK []) (h' := s2.heap.push { cls := .type "dict", data := .dict #[] }) (t' := s2.toks) (fun _ _ q => Heap.get?_push_of_some _ q) (Nat.le_refl _) (dk_empty s2.heap I2.big)
  refine wpAny_bind (wpAny_holding (wpAny_subDict (knd := mixKind X.prog X.w) (by rw [b4]; exact h3) ?_))
  refine thn ((C2.pps (pos := pos)).run pins _ σ _ (fun l H1 => l = B.map (fun z => (kV z.1, z.2)) ∧ H1 = upd (upd H s.heap.objs.size (.dK (mergeK [] A))) s2.heap.objs.size (.dK [])) I3 (pairs_consts ⟨rfl, rfl⟩)) fun ws s3 ⟨l, H1, I4, rel, e5⟩ => ?_
  obtain ⟨rfl, rfl⟩ := e5
  obtain ⟨rs, c, rk⟩ := carries_of (P := X.prog) (w := X.w) rel
  obtain ⟨z, hd, vs0, r0, dd⟩ := dk_of I4.hok (kvs := []) upd_same
  cases r0
  refine ⟨rs, c, dd, fun g dg sg => ?_⟩
  have lB := length_mergeK B []
  have lA := length_mergeK A []
  have lAB := length_mergeK (mergeK [] B) (mergeK [] A)
  rw [List.length_nil] at lA lB
  have I5 := d_write (t' := s3.toks + ws.length) (ob := .dK (mergeK [] B)) I4 (by rw [upd_same]; exact True.intro) sg (let ⟨q, _, _, hq, _⟩ := dg; ⟨q, hq⟩) (dk_new (by rw [sizeLine_eq]; omega) hd (rk.merge .nil) dg)
  rw [upd_upd] at I5
  obtain ⟨z1, hd1, vs1, r1, dd1⟩ := dk_of I5.hok (kvs := mergeK [] A) (by rw [upd_ne (Ne.symm nq), upd_same])
  obtain ⟨z2, hd2, vs2, r2, dd2⟩ := dk_of I5.hok (kvs := mergeK [] B) upd_same
  have q1 := r1.length
  have q2 := r2.length
  unfold merged17
  refine wpAny_bind (wpAny_onRaise (wpAny_holding (merge_two (Ne.symm nq) hd2 dd1 dd2 ?_ (by omega) fun g2 dg2 sg2 => wpAny_pure ?_)))
  · intro z
    rw [z, List.length_nil] at q1
    cases A with
    | nil => cases h1
    | cons a A =>
      have := length_mergeK_pos A [] a
      omega
  have I6 := d_write (t' := s3.toks + ws.length) (ob := .dK (mergeK (mergeK [] A) (mergeK [] B))) I5 (by rw [upd_ne (Ne.symm nq), upd_same]; exact True.intro) sg2 (let ⟨q, _, _, hq, _⟩ := dg2; ⟨q, hq⟩) (dk_new (by rw [sizeLine_eq]; omega) hd1 (r2.merge r1) dg2)
  refine ⟨.ref s.heap.objs.size, _, ?_, rfl, q _ _ hn hq nq⟩
  have e6 : upd (upd (upd H s.heap.objs.size (.dK (mergeK [] A))) s2.heap.objs.size (.dK (mergeK [] B))) s.heap.objs.size (.dK (mergeK (mergeK [] A) (mergeK [] B))) = upd (upd H s.heap.objs.size (.dK (mergeK (mergeK [] A) (mergeK [] B)))) s2.heap.objs.size (.dK (mergeK [] B)) := by
    funext b
    by_cases h1 : b = s.heap.objs.size
    · subst h1
      rw [upd_same, upd_ne (Ne.symm nq), upd_same]
    · rw [upd_ne h1]
      by_cases h2 : b = s2.heap.objs.size
      · subst h2
        rw [upd_same, upd_same]
      · rw [upd_ne h2, upd_ne h1, upd_ne h2, upd_ne h1]
  rw [← e6]
  exact I6
end
end Iv
end
section
set_option Elab.async false
set_option linter.all false
set_option maxRecDepth 100000
set_option maxHeartbeats 1000000
/-! Displays of more than 17 constants, over the interpreter. -/
namespace Iv
open PySem PySem.Spec PySem.Calls PyProof.Rows L2
def bigC (ks vs : List E) : Bool := (decide (17 < ks.length) && decide (ks.length ≤ 32)) && (vs.all (fun v => (cKey v).isSome) && decide ((ks.map cKey).Nodup))
theorem merge_new : ∀ (more acc : List (KD × D)), ((acc ++ more).map (·.1)).Nodup → mergeKd acc more = acc ++ more
  | [], acc, _ => by rw [List.append_nil]; rfl
  | p :: r, acc, h => by
    have e : putKd acc p.1 p.2 = acc ++ [p] := by
      unfold putKd
      rw [if_neg]
      intro z
      obtain ⟨x, hx, e⟩ := List.any_eq_true.mp z
      rw [List.map_append, List.map_cons, List.nodup_append] at h
      exact h.2.2 x.1 (List.mem_map.mpr ⟨x, hx, rfl⟩) p.1 List.mem_cons_self (of_decide_eq_true e)
    show mergeKd (putKd acc p.1 p.2) r = _
    rw [e, merge_new r (acc ++ [p]) (by simpa using h)]
    simp
theorem merge_halves {a b : List (KD × D)} (h : ((a ++ b).map (·.1)).Nodup) : mergeKd (mergeKd [] a) (mergeKd [] b) = mergeKd [] (a ++ b) := by
  have h2 := h
  rw [List.map_append, List.nodup_append] at h2
  rw [merge_new a [] (by simpa using h2.1), merge_new b [] (by simpa using h2.2.1), merge_new (a ++ b) [] (by simpa using h), List.nil_append, List.nil_append, merge_new b a h, List.nil_append]
def kD : KD → D
  | .inl i => .int i
  | .inr l => .str l
section
variable {T : Tx} {pe : Pe} {W : WX} {cs : Iv.Calls} {Mb : AP'} {r r1 : List Addr} {ow : List (Option Addr)} {H H1 : Hp} {st : Store} {σ : L2.St} {env : SEnv} {X : Cx}
theorem kD_rep {M : AP'} (k : KD) : Rep T.toTb H M r (kV (kd k)) (kD k) := by
  cases k
  · exact .int _
  · exact .str _
theorem const_eval {e : E} {k : KD} (h : cKey e = some k) : ∀ env st, evalE cs e env st = .ok (kD k) st := by
  cases e <;> first | (cases h; done) | skip
  · cases h
    exact fun env st => by rw [evalE]; rfl
  · cases h
    exact fun env st => by rw [evalE]; rfl
theorem consts_eval : ∀ {ks : List E} {kds : List KD}, ks.map cKey = kds.map some → ∀ env st, evalL cs ks env st = .ok (kds.map kD) st
  | [], kds, h, env, st => by
    have : kds = [] := by
      cases kds with
      | nil => rfl
      | cons a b => cases h
    subst this
    rw [evalL]; rfl
  | e :: ks, kds, h, env, st => by
    cases kds with
    | nil => cases h
    | cons k kds =>
      rw [evalL, const_eval (List.cons.inj h).1]
      simp only [Res.bind_ok, consts_eval (ks := ks) (kds := kds) (List.cons.inj h).2 env st]
      rfl
theorem keyOf_kD (k : KD) : keyOf (kD k) = some k := by cases k <;> rfl
theorem zip_consts {M : AP'} : ∀ (kds vds : List KD), RepK T.toTb H M r ((kds.zip vds).map fun p => (kd p.1, kV (kd p.2))) ((kds.zip vds).map fun p => (p.1, kD p.2))
  | [], _ => .nil
  | k :: kds, [] => .nil
  | k :: kds, v :: vds => .cons (kD_rep v) (zip_consts kds vds)
theorem n_big (ks vs : List E) (kds vds : List KD) (hk : ks.map cKey = kds.map some) (hv : vs.map cKey = vds.map some) (hl : kds.length = vds.length) (hn : kds.Nodup) (h17 : 17 ≤ kds.length) (σ : L2.St) (H : Hp) (Q : VK) (h : tN T pe W cs (.dct ks vs) σ H Q) :
    tBig (((kds.take 17).zip (vds.take 17)).map fun p => (kd p.1, kV (kd p.2))) (((kds.drop 17).zip (vds.drop 17)).map fun p => (kd p.1, kV (kd p.2))) σ H Q := by
  obtain ⟨Mb, r, ow, st, env, R, h⟩ := h
  intro p q hp hq hqp
  rw [evalE, consts_eval hk] at h
  simp only [Res.bind_ok, consts_eval hv] at h
  have e1 : dictOf (kds.map kD) (vds.map kD) = some (kds.zip (vds.map kD)) := dictOf_is (by rw [List.map_map]; exact List.map_congr_left fun k _ => keyOf_kD k) (by rw [List.length_map, List.length_map, hl])
  rw [e1] at h
  dsimp only at h
  split at h
  · obtain ⟨o, ho, f⟩ := h
    cases ho
    have hq1 : (upd H p (.dK (mergeK (mergeK [] (((kds.take 17).zip (vds.take 17)).map fun p => (kd p.1, kV (kd p.2)))) (mergeK [] (((kds.drop 17).zip (vds.drop 17)).map fun p => (kd p.1, kV (kd p.2))))))) q = none := by rw [upd_ne hqp]; exact hq
    have hpr : p ∉ r := fun z => R.st.free hp (.inr (.inl z))
    refine f r _ p hp hpr ((Nx.new hp).trans (Nx.new hq1)) (((R.newP hp).st).new hq1) ⟨_, by rw [upd_ne (Ne.symm hqp), upd_same], ?_⟩
    have e2 : kds.zip (vds.map kD) = ((kds.take 17).zip (vds.take 17)).map (fun p => (p.1, kD p.2)) ++ ((kds.drop 17).zip (vds.drop 17)).map (fun p => (p.1, kD p.2)) := by
      rw [← List.map_append, ← List.zip_append (by rw [List.length_take, List.length_take, hl]), List.take_append_drop, List.take_append_drop, List.zip_map_right]
      rfl
    have nd : (((kds.zip (vds.map kD))).map (·.1)).Nodup := by
      rw [List.map_fst_zip (by rw [List.length_map, hl]; exact Nat.le_refl _)]
      exact hn
    rw [e2] at nd ⊢
    rw [← merge_halves nd]
    exact merge_rep (merge_rep (zip_consts _ _) .nil) (merge_rep (zip_consts _ _) .nil)
  · exact h.elim
end
end Iv
end
section
set_option Elab.async false
set_option linter.all false
set_option maxRecDepth 100000
set_option maxHeartbeats 2000000
/-! Defs that are called with the exception that a suite holds; what such an exception is asked. -/
namespace Iv
open PySem PySem.Spec PySem.Calls PyProof.Rows L2
/-- room: a frame each -/
structure RoomX (k : Nat) (A : Around) : Prop where
  dp : A.depth + k < recursionLimit
  un : A.units + 4 * k + 1000 < cLine
theorem RoomX.deeper {k : Nat} {A : Around} (r : RoomX (k + 1) A) (env : PySem.Env) : RoomX k (A.deeper env) :=
  ⟨by have := r.dp; show A.depth + 1 + k < _; omega, by have := r.un; show A.units + 3 + 4 * k + 1000 < _; omega⟩
theorem RoomP.x {n k : Nat} {A : Around} (r : RoomP n A) (h : k ≤ 4) : RoomX k A := ⟨by have := r.dp; omega, by have := r.un; omega⟩
/-- such a def's promise: p is the exception -/
structure FnX (P : Program) (w : World) (K : PySem.W.Frag) (mg : Str → Option Value) (base : Heap) (k : Nat) (f : Addr) (fd : FuncData) (ps : List Str) (sp : Addr × Obj → List V → Hp → VK → Prop) : Prop where
  len : ∀ p vs H Q, sp p vs H Q → vs.length = ps.length
  run : ∀ (A : Around) (outer : List PySem.Env) (s : Shared) (H : Hp) (args : Args) (us : List Value) (vs : List V) (Q : VK) (p : Addr × Obj), RoomX k A → L2H.Hot1 A p → L2H.PinOk outer H s p → Env0 P w K mg base A outer s H → BindsTo s fd args (ps.zip us) → Vals vs us → sp p vs H Q →
    codeAny (model P w) A (.call (.ref f) args) (CR (L2N.CX P w) outer P w H s Q (fun _ _ _ => False)) s
theorem fn_ofX {P : Program} {w : World} {K : PySem.W.Frag} {mg : Str → Option Value} {base : Heap} {k : Nat} {f : Addr} {name qual : Str} {params : Arguments} {body : List Stmt} {scope : Scope} {dV kV doc pm cdv ct oc : Value} {an od : Option Addr}
    {osl : Array (Option Value)} {N ps : List Str} {sp : Addr × Obj → List V → Hp → VK → Prop} (lk : K.lookup f = some ⟨oc, od, .func (PySem.W.fnOf name qual params body scope dV kV doc pm an cdv ct), osl⟩) (hcd : PySem.W.codeIn K cdv qual = true) (S : FnScope N ps scope)
    (len : ∀ p vs H Q, sp p vs H Q → vs.length = ps.length)
    (hbody : ∀ (A : Around) (outer : List PySem.Env) (s : Shared) (H : Hp) (vs : List V) (Q : VK) (p : Addr × Obj), L2H.Hot1 A p → RoomX k (A.deeper (envOfC qual scope s.heap.objs.size f cdv)) → sp p vs H Q →
      ∃ t, PSs (L2H.cxH (L2N.CX P w) P w K mg base N qual scope f cdv A outer s H (fun _ _ _ => False) p) body t ∧ t { nx := fun _ H' => Q .non H', rt := Q } (start N vs) H) :
    FnX P w K mg base (k + 1) f (PySem.W.fnOf name qual params body scope dV kV doc pm an cdv ct) ps sp := by
  refine ⟨len, fun A outer s H args us vs Q p hr hot hpin e0 hb r hsp => ?_⟩
  have hl := len _ _ _ _ hsp
  have kx : K.In s.heap := e0.mod.kin.keeps fun b o e => (e0.bs b o e).1
  have hkind : ∀ y ∈ ps.zip us, scope.names.lookup y.1 = some .local ∨ (scope.names.lookup y.1 = some .cell ∧ ((cellsFrom (s.heap.objs.size + 1) scope.names []).lookup y.1).isSome = true) := fun ⟨n, v⟩ hy => (S.par n (List.of_mem_zip hy).1).imp id fun q => ⟨q, PySem.W.cellsFrom_some _ _ _ (.inl q)⟩
  refine codeAny_call_function (by have := hr.dp; omega) (kx _ _ lk) rfl S.co S.gen rfl (PySem.W.codeRec_of kx hcd) (hb _ _ _ _ (wpAny_newFunctionEnv_cells S.kind hkind fun env he s1 x => ?_))
  subst he
  refine ⟨(e0.mod.nolimit.keeps fun b o e => (e0.bs b o e).1).keeps x.toInCall.keep, codeAny_func ?_⟩
  obtain ⟨t, ht, hq⟩ := hbody A outer s H vs Q p hot (hr.deeper _) hsp
  have J0 := L2H.inv_startH (CX := L2N.CX P w) (E := fun _ _ _ => False) (mg := mg) (qual := qual) (f := f) (cd := cdv) S hpin e0 hl r x
  refine wpAny_mono (ht.run [] s1 (start N vs) H _ J0 hq) (fun fl s' hs => ?_) fun e s' hs => hs
  cases fl with
  | ret u => obtain ⟨v, σ', H', J, rv, q⟩ := hs; exact ⟨v, H', J.os, J.bare, J.base, J.hok, rv, q⟩
  | next => obtain ⟨σ', H', J, q⟩ := hs; exact ⟨V.non, H', J.os, J.bare, J.base, J.hok, rfl, q⟩
  | brk => obtain ⟨_, _, _, z⟩ := hs; exact z.elim
  | cont => obtain ⟨_, _, _, z⟩ := hs; exact z.elim
section
variable {X : Cx} {k : Nat} {f : Addr} {fd : FuncData} {ps : List Str} {sp : Addr × Obj → List V → Hp → VK → Prop} {x : Str} {q pos : Pos} {e : Expr} {ta : TE}
/-- x(e), e the exception -/
theorem pe_callX {t : TA} {es : List Expr} {p : Addr × Obj} (F : FnX X.prog X.w X.K X.mg X.base k f fd ps sp) (hr : RoomX k X.A) (hot : L2H.Hot1 X.A p) (hp : p ∈ X.pn) (hg : Gl X x) (hm : X.mg x = some (.ref f)) (hk : PySem.W.keepIn X.K (.ref f) = true) (hb : Binds X.K fd ps [])
    (ha : PA X (e :: es) t) (hs : (e :: es).all notStar = true) (hdb : (x == ("__debug__" : Str)) = false) : PE X (.Call (.Name x q) (e :: es) [] pos) (fun σ H Q => t σ H fun vs H1 => sp p vs H1 Q) := by
  refine ⟨fun pins s σ H Q I h => wpAny_Call_Name_kw (ld_glob I hg hm ?_ hdb)⟩
  have hs' := hs
  rw [List.all_cons, Bool.and_eq_true] at hs'
  refine PySem.W.callWith_K (h₀ := X.base) I.ok.mod.kin hk (thn (ha.run pos pins s σ H _ I h) fun us s1 ⟨vs, H1, I1, r, q1⟩ => ⟨I1.kIn, ?_⟩) (star_cons hs'.1) (star_all hs'.2)
  have b := hb s1 us I1.kIn (by rw [List.append_nil, ← r.length]; exact F.len _ _ _ _ q1)
  rw [List.append_nil] at b
  obtain ⟨w1, w2, w3, w4, w5⟩ := I1.pin p (List.mem_append_left _ hp)
  have hpin : L2H.PinOk X.stack H1 s1 p := ⟨w1, w2, fun hm => (List.mem_cons.mp (I1.stkSub p.1 hm)).elim w3 w4, w5⟩
  refine wpAny_call (codeAny_mono (F.run X.A X.stack s1 H1 ⟨us, []⟩ us vs Q p hr hot hpin I1.env0 b r q1) fun r s' hq => ?_)
  cases r with
  | error e => obtain ⟨_, _, _, _, _, _, _, _, _, _, _, _, z⟩ := hq; exact z.elim
  | ok fl =>
    cases fl with
    | ret u => exact I1.after hq
    | next => exact False.elim hq
    | brk => exact False.elim hq
    | cont => exact False.elim hq
end
/-- what the interpreter comes to, with the exception x at hand -/
def spHot (T : Tx) (g : Exc → Store → Res D) : Addr × Obj → List V → Hp → VK → Prop := fun p vs H Q => vs = [.ref p.1] ∧ ∃ (cls : Value) (d : Option Addr) (x : Exc) (Mb : AP') (r : List Addr) (st : Store), (L2N.Zn cls d p.2 ∧ ∃ us, p.2.data = .fields us) ∧
  StR T.toTb (Ms Mb r []) r H st ∧ ExcR T H (Ms Mb r []) r x cls d ∧ OK T Mb [] (fun _ _ _ _ => False) [] r H (noexn (g x st)) (Post T Mb [] Q)
/-! ### what the held exception is asked -/
/-- the exception a, whose class is D, and its fields -/
def HasX (X : Cx) (H : Hp) (a D : Addr) (od : Option (Addr × List (Str × V))) : Prop := XcD X.K D ∧ ∃ oe, ((a, oe) ∈ X.pn ∨ H a = some (obx a oe)) ∧ Zc (.ref D) (od.map (·.1)) oe ∧ (∃ vs, oe.data = .fields vs) ∧ ∀ p, od = some p → H p.1 = some (.xd p.2)
theorem HasX.inst {X : Cx} {pins : List (Addr × Obj)} {σ : L2.St} {H : Hp} {s : Shared} {a D : Addr} {od : Option (Addr × List (Str × V))} (h : HasX X H a D od) (I : L2.Inv X pins σ H s) :
    ∃ oe o, PySem.W.InstAt s.heap a oe D o ∧ ∀ p, od = some p → ∀ n v, p.2.lookup n = some v → ∃ ob u, o = some ob ∧ PySem.W.lookIn n ob = some (some u) ∧ RelV v u := by
  obtain ⟨_, oe, hp, hz, ⟨vs, hd⟩, hx⟩ := h
  have ha : s.heap.get? a = some oe := by
    rcases hp with hp | hp
    · exact (I.pin (a, oe) (List.mem_append_left _ hp)).1
    · exact obx_at I.hok hp
  have hn : PySem.W.notCls oe = true := by unfold PySem.W.notCls; rw [hd] <;> rfl
  cases od with
  | none => exact ⟨oe, none, ⟨ha, hz.1, hn, by rw [hz.2]; trivial⟩, fun p e => by cases e⟩
  | some p =>
    obtain ⟨mA, hns, hr⟩ : ObjOk X.prog X.w H s.heap p.1 (.xd p.2) := I.hok p.1 _ (hx p rfl)
    obtain ⟨ob, ho, hl⟩ := lookIn_ns hns
    refine ⟨oe, some ob, ⟨ha, hz.1, hn, by rw [hz.2]; exact ho⟩, fun q e n v hv => ?_⟩
    cases e
    obtain ⟨u, hu, ru⟩ := RelO.some_of (v := v) (o := mA n) (by rw [← hv]; exact hr n)
    exact ⟨ob, u, rfl, by rw [hl, hu], ru⟩
/-- isinstance(e, C) -/
def rIsX (X : Cx) : List V → Hp → VK → Prop := fun xs H Q => ∃ a D od c cv b, xs = [.ref a, c] ∧ HasX X H a D od ∧ (∀ u, RelV c u → u = cv) ∧ PySem.W.kitOne X.K (.ref D) cv = some b ∧ Q (.bl b) H
theorem call_isX {X : Cx} : CallR X (.builtin "isinstance") (rIsX X) := by
  intro pins s σ H xs us Q I r h
  obtain ⟨a, D, od, c, cv, b, rfl, hx, hcv, e, q⟩ := h
  cases r with
  | cons rx rr => cases rr with
    | cons rt rr =>
      cases rr
      cases rx
      obtain rfl := hcv _ rt
      obtain ⟨oe, o, J, _⟩ := hx.inst I
      obtain ⟨cdD, hcD, _⟩ := PySem.W.any_some hx.1.hd
      exact PySem.W.kia_one (PySem.W.kitx_exc (by rw [hcD]; rfl) hx.1.hg hx.1.hk hx.1.hs hx.1.ha hx.1.hn hx.1.ht hx.1.hm) I.kIn J e (fun z => nomatch z) fun tk => ⟨.bl b, H, I.kept (t' := tk) fun _ _ z => z, rfl, q⟩
/-- e.f -/
theorem pe_fldX {X : Cx} {e : Expr} {te : TE} {pos : Pos} {f : Nat} (hf : f < 15) (he : PE X e te) (hb : attributeBase e (fnm f) X.env (eval e X.env) = eval e X.env) :
    PE X (.Attribute e (fnm f) pos) (fun σ H Q => te σ H fun x H1 => ∃ a D p v, x = .ref a ∧ HasX X H1 a D (some p) ∧ p.2.lookup (fnm f) = some v ∧ Q v H1) := by
  refine ⟨fun pins s σ H Q I h => attr_of hb (thn (he.run pins s σ H _ I h) fun u s1 hh => ?_)⟩
  obtain ⟨x, H1, I1, rx, a, D, p, v, rfl, hx, l, q⟩ := hh
  obtain rfl : u = Value.ref a := rx
  obtain ⟨oe, o, J, hl⟩ := hx.inst I1
  obtain ⟨ob, u, rfl, hu, ru⟩ := hl p rfl _ v l
  exact HandSPX.exc_get I1.kIn J hx.1.hg hx.1.hk hx.1.hs (PySem.W.findObj_own hx.1.hd (hx.1.no f hf) rfl hu) (handed_of ru) ⟨v, H1, I1.tok _, ru, q⟩
end Iv
end
section
set_option Elab.async false
set_option linter.all false
set_option maxRecDepth 100000
set_option maxHeartbeats 4000000
/-! Refusals held as values: their making. -/
namespace Iv
open PySem PySem.Spec PySem.Calls PyProof.Rows L2
section
variable {X : Cx} {pins : List (Addr × Obj)} {σ : L2.St} {H : Hp} {s : Shared} {a t : Addr} {o1 o2 : HO} {h' : Heap}
/-- one object laid, another one laid or written -/
theorem inv_wl {t' : Nat} (I : L2.Inv X pins σ H s) (ha : (H a = none ∧ s.heap.get? a = none) ∨ ∃ φ, H a = some (.ext φ)) (ht : H t = none) (ht2 : s.heap.get? t = none) (k : ∀ b u, b ≠ a → s.heap.get? b = some u → h'.get? b = some u) (he : ∃ u, h'.get? a = some u)
    (n1 : t ≠ a) (new1 : ObjOk X.prog X.w (upd (upd H t o1) a o2) h' t o1) (new2 : ObjOk X.prog X.w (upd (upd H t o1) a o2) h' a o2) : L2.Inv X pins σ (upd (upd H t o1) a o2) { s with heap := h', toks := t' } := by
  have nd : ∀ {b : Addr} {o : Obj}, s.heap.get? b = some o → b ≠ t := fun {b o} q z => by rw [z, ht2] at q; cases q
  have na : ∀ {b : Addr} {o : Obj}, s.heap.get? b = some o → H b = none → b ≠ a := fun {b o} q n z => by
    rcases ha with ⟨_, h2⟩ | ⟨φ, h1⟩
    · rw [z, h2] at q; cases q
    · rw [z, h1] at n; cases n
  have nx : ∀ {b : Addr} {u : HO}, H b = some u → (∀ φ, u ≠ .ext φ) → b ≠ a := fun {b u} e q z => by
    rcases ha with ⟨h1, _⟩ | ⟨φ, h1⟩
    · rw [z, h1] at e; cases e
    · rw [z, h1] at e; exact q φ (Option.some.inj e).symm
  have nt : ∀ {b : Addr} {u : HO}, H b = some u → b ≠ t := fun e => ne_of_none e ht
  have U : Un X.fs [] H (upd (upd H t o1) a o2) s.heap h' := {
    keep := fun b o q n _ _ => k b o (na q n) q
    slot := fun b o q n _ _ => ⟨o.slots, k b o (na q n) q⟩
    free := fun b o q n _ => by rw [upd_ne (na q n), upd_ne (nd q)]; exact n
    there := fun b o q _ => by
      by_cases hb : b = a
      · rw [hb]; exact he
      · exact ⟨o, k b o hb q⟩
    tups := fun b xs q => by rw [upd_ne (nx q fun φ z => by cases z), upd_ne (nt q)]; exact q
    frzs := fun b o v q => by rw [upd_ne (nx q fun φ z => by cases z), upd_ne (nt q)]; exact q
    tbls := fun b ps q => ⟨#[], by rw [upd_ne (nx q fun φ z => by cases z), upd_ne (nt q), q]; simp⟩ }
  refine I.un (t' := t') U fun b o q => ?_
  by_cases hb : b = a
  · subst hb; rw [upd_same] at q; cases q; exact new2
  · rw [upd_ne hb] at q
    by_cases hd : b = t
    · subst hd; rw [upd_same] at q; cases q; exact new1
    · rw [upd_ne hd] at q
      exact (I.hok b o q).stay (fun c v hc z => k c v (by
          rcases hc with hc | hc
          · rw [hc]; exact hb
          · exact nx hc fun φ z => by cases z) z)
        (fun c hc => by rw [upd_ne (nx hc fun φ z => by cases z), upd_ne (nt hc)]; exact hc) (fun c xs hc => by rw [upd_ne (nx hc fun φ z => by cases z), upd_ne (nt hc)]; exact hc)
end
/-! ### an own class without __init__ -/
section
variable {X : Cx}
/-- C(e), as a value: a new object, its argument known -/
theorem pe_exT {C : Addr} {bmB : List Value} {B newId initId : String} {x : Str} {e : Expr} {ta : TE} {p pos : Pos} (F : ExcBaseFacts B newId initId bmB) (q : PySem.W.excIn X.K C bmB newId = true) (gC : X.mg x = some (.ref C)) (kC : PySem.W.keepIn X.K (.ref C) = true) (hg : Gl X x)
    (he : PE X e ta) (hs : starEach [e] X.env = (false, eval e X.env) :: starEach [] X.env) (hdb : (x == ("__debug__" : Str)) = false) :
    PE X (.Call (.Name x p) [e] [] pos) (fun σ H Q => ta σ H fun v H1 => ∀ a t, H1 a = none → H1 t = none → t ≠ a → Q (.ref a) (upd (upd H1 t (.tup [v])) a (obx a (exOb C none t)))) := by
  refine ⟨fun pins s σ H Q I h => ?_⟩
  refine wpAny_Call_Name_kw (ld_glob I hg gC ?_ hdb)
  refine PySem.W.callWith_K (h₀ := X.base) I.ok.mod.kin kC ?_ hs (by rfl)
  rw [hs]
  show wpAny _ _ (spliced ((false, eval e X.env) :: backTo pos (starEach [] X.env))) _ _ s
  refine Calls.spliced_cons (thn (he.run pins s σ H _ I h) fun u s1 ⟨v, H1, I1, r1, q1⟩ => ?_)
  refine Calls.spliced_nil ⟨I1.kIn, ?_⟩
  show wpAny _ _ (call (.ref C) [u]) _ _ _
  obtain ⟨bm, N, nm, qn, bs, hdct, sn, sub, ab, col, dd, k0, k1, k2, k3, k5, mN, hC, hN, hni, T⟩ := exc_obj I1.kIn q
  refine wpAny_call_exc_subT F T hC hN hni (fun h' a hm => ?_) (by show 1 ≤ sizeLine; rw [sizeLine_eq]; omega)
  have hn : H1 a = none := I1.hok.gone hm.new
  obtain ⟨t, ht, ht0, ht1⟩ := hm.there
  have hnt : H1 t = none := I1.hok.gone ht0
  have hta : t ≠ a := fun z => by
    rw [z, ht] at ht1
    have := Option.some.inj ht1
    cases this
  exact ⟨.ref a, _, inv_wl I1 (.inl ⟨hn, hm.new⟩) hnt ht0 (fun b o _ e => hm.keeps b o e) ⟨_, ht⟩ hta (tup_ok ht1 (.cons r1 .nil) (by rw [sizeLine_eq]; show 1 ≤ _; omega)) (obx_ok ht), rfl, q1 a t hn hnt hta⟩
end
/-- what __init__ does -/
def spT (C : Addr) (f : Str) : Sp := fun vs H Q _ => ∃ (a t : Addr) (v y : V), vs = [.ref a, v, y] ∧ H a = some (obx a (exOb C none t)) ∧ ∀ t1 dx, H t1 = none → t1 ≠ a → H dx = none → dx ≠ a → dx ≠ t1 →
  Q .non (upd (upd (upd H t1 (.tup [v])) dx (.xd [(f, y)])) a (obx a (exOb C (some dx) t1)))
theorem upd_comm {H : Hp} {a b : Addr} {o u : HO} (h : a ≠ b) : upd (upd H a o) b u = upd (upd H b u) a o := by
  funext c
  by_cases h1 : c = a
  · subst h1; rw [upd_ne h, upd_same, upd_same]
  · by_cases h2 : c = b
    · subst h2; rw [upd_same, upd_ne h1, upd_same]
    · rw [upd_ne h2, upd_ne h1, upd_ne h1, upd_ne h2]
section
variable {X : Cx} {x : Str} {C fI : Addr} {k : Nat} {fd : FuncData} {ps : List Str} {f : Str} {e : Expr} {es : List Expr} {ta : TA} {p pos : Pos} {ds : List Value} {dvs : List V}
/-- C(m, ..), as a value: a refusal whose attribute is its last argument, or what it is by default -/
theorem pe_exI (T : OexC X.K C) (iC : PySem.W.findIn X.K (.ref C) "__init__" = some (some (.ref fI))) (tI : PySem.W.typeIn X.K (.ref fI) = some (.type "function")) (F1 : FnP X.prog X.w X.K X.mg X.base k fI fd ps (spT C f)) (hr : RoomP (k + 1) X.A) (hb : Binds X.K fd ps ds) (hd : Vals dvs ds)
    {W : WX} (tk : L2N.Takes X W) (hg : Gl X x) (hm : X.mg x = some (.ref C)) (ha : PA X (e :: es) ta) (hs : (e :: es).all notStar = true) (hdb : (x == ("__debug__" : Str)) = false) :
    PE X (.Call (.Name x p) (e :: es) [] pos) (fun σ H Q => ta σ H fun vs H1 => ∃ v y, vs ++ dvs = [v, y] ∧ ∀ a t dx, H1 a = none → H1 t = none → H1 dx = none → t ≠ a → dx ≠ a → dx ≠ t → Q (.ref a) (upd (upd (upd H1 t (.tup [v])) dx (.xd [(f, y)])) a (obx a (exOb C (some dx) t)))) := by
  refine ⟨fun pins s σ H Q I h => ?_⟩
  rw [List.all_cons, Bool.and_eq_true] at hs
  obtain ⟨nm, q, N, bs, bm, sn, sub, ab, col, dd, k0, k1, k2, k3, k5, hC, hbm⟩ := T.cls
  refine wpAny_Call_Name_kw (ld_glob I hg hm ?_ hdb)
  refine PySem.W.callWith_K (h₀ := X.base) I.ok.mod.kin T.kC (thn (ha.run pos pins s σ H _ I h) fun us s1 ⟨vs, H1, I1, r1, v, y, ev, q1⟩ => ⟨I1.kIn, ?_⟩) (star_cons hs.1) (star_all hs.2)
  show wpAny _ _ (call (.ref C) us) _ _ _
  obtain ⟨hp, g, dr, tk0, os⟩ := s1
  have hsz : hp.objs.size ≤ hp.objs.size + 1 := Nat.le_succ _
  have hn : H1 (hp.objs.size + 1) = none := I1.hok.fresh hsz
  have kk : ∀ b o, hp.get? b = some o → ((hp.push (PySem.W.kdv_tup us)).push (PySem.HandSPX.excO C hp.objs.size)).get? b = some o := fun b o e => Heap.get?_push_of_some _ (Heap.get?_push_of_some _ e)
  have hget : ((hp.push (PySem.W.kdv_tup us)).push (PySem.HandSPX.excO C hp.objs.size)).get? (hp.objs.size + 1) = some (PySem.HandSPX.excO C hp.objs.size) := by heap_get
  have I2 : L2.Inv X pins σ (upd H1 (hp.objs.size + 1) (obx (hp.objs.size + 1) (exOb C none hp.objs.size))) ⟨(hp.push (PySem.W.kdv_tup us)).push (PySem.HandSPX.excO C hp.objs.size), g, dr, tk0, os⟩ :=
    I1.laid (t' := tk0) (a := hp.objs.size + 1) (o := obx (hp.objs.size + 1) (exOb C none hp.objs.size)) (h' := (hp.push (PySem.W.kdv_tup us)).push (PySem.HandSPX.excO C hp.objs.size)) kk hsz (obx_ok hget)
  have hq : spT C f (V.ref (hp.objs.size + 1) :: (vs ++ dvs)) (upd H1 (hp.objs.size + 1) (obx (hp.objs.size + 1) (exOb C none hp.objs.size))) (fun z H2 => z = .non ∧ Q (.ref (hp.objs.size + 1)) H2) (fun _ _ _ => False) := by
    refine ⟨hp.objs.size + 1, hp.objs.size, v, y, by rw [ev], upd_same, fun t dx n1 ne1 n2 ne2 ne3 => ⟨rfl, ?_⟩⟩
    rw [upd_ne ne1] at n1
    rw [upd_ne ne2] at n2
    have := q1 (hp.objs.size + 1) t dx hn n1 n2 ne1 ne2 ne3
    rw [upd_comm (a := hp.objs.size + 1) (b := t) (Ne.symm ne1), upd_comm (a := hp.objs.size + 1) (b := dx) (Ne.symm ne2), upd_upd]
    exact this
  have r2 : Vals (V.ref (hp.objs.size + 1) :: (vs ++ dvs)) (Value.ref (hp.objs.size + 1) :: (us ++ ds)) := .cons rfl (r1.append hd)
  have hl : (Value.ref (hp.objs.size + 1) :: us ++ ds).length = ps.length := by
    have e := r2.length
    rw [F1.len _ _ _ _ hq] at e
    exact e.symm
  have hus : us.length ≤ sizeLine := by
    have := congrArg List.length ev
    rw [List.length_append] at this
    rw [← r1.length, sizeLine_eq]
    simp at this
    omega
  refine wpAny_call (PySem.HandSPX.call_own PySem.F.excBase_ValueError (fun Y => PySem.HandSPX.refsVE_contains Y bm hbm) (I1.kIn _ _ hC) (PySem.W.looks_findIn I1.kIn iC) (fun self => PySem.W.bind_fn I1.kIn self tI) hus
    (codeAny_mono (F1.run _ X.stack _ _ ⟨Value.ref (hp.objs.size + 1) :: us, []⟩ (Value.ref (hp.objs.size + 1) :: (us ++ ds)) _ _ (fun _ _ _ => False) (hr.make C us []) (I2.env0.make C us []) (hb _ (Value.ref (hp.objs.size + 1) :: us) I2.kIn hl) r2 hq) fun r s' hq' => ?_))
  cases r with
  | error er => exact tk _ _ (L2N.XE.of_call I2 (fun _ _ _ z => z.elim) hq')
  | ok fl =>
    cases fl with
    | ret u =>
      obtain ⟨z, H2, J, rv, ez, q2⟩ := I2.after hq'
      subst ez
      exact ⟨rv, .ref (hp.objs.size + 1), H2, J, rfl, q2⟩
    | next => exact False.elim hq'
    | brk => exact False.elim hq'
    | cont => exact False.elim hq'
end
section
variable {T : Tx} {pe : Pe} {Mb : AP'} {W : WX} {cs : Iv.Calls} {X : Cx}
/-- a refusal held as a value -/
def isX (x : D) (st : Store) : Bool :=
  match x with
  | .ref n => match st[n]? with
    | some (.exc _ _ _) => true
    | _ => false
  | _ => false
/-- what an expression comes to is such a one -/
def isXr (w : Res D) : Bool :=
  match w with
  | .ok d st => isX d st
  | _ => false
theorem s_fld (o : E) (f : Nat) (hf : f < 15) (gm : ∀ c, T.okc c → Cls X.K (T.cls c) ∧ ∀ f, f < 15 → NoAttr X.K (T.cls c) (fnm f)) (hK : T.K = X.K) (σ : L2.St) (H : Hp) (Q : VK) (h : tE T pe W cs (.fld o f) σ H Q) :
    tFld X.K (tE T pe W cs o) (fnm f) σ H Q ∨ tE T pe W cs o σ H fun x H1 => ∃ a D p v, x = .ref a ∧ HasX X H1 a D (some p) ∧ p.2.lookup (fnm f) = some v ∧ Q v H1 := by
  obtain ⟨Mb, r, ow, st, env, R, h⟩ := h
  rw [evalE] at h
  by_cases hb : isXr (evalE cs o env st) = true
  · right
    have h' : OK T Mb ow W σ r H ((evalE cs o env st).bind fun x st => if isX x st then opFld x f st else .bad) (fun r' H' d _ => ∀ v, Rep T.toTb H' (Ms Mb r' ow) r' v d → Q v H') := by
      revert h hb
      cases evalE cs o env st with
      | ok d s1 => intro h hb; simp only [Res.bind_ok, isXr] at h hb ⊢; rw [if_pos hb]; exact h
      | exn x s1 => intro h _; exact h
      | bad => intro h _; exact h
    refine tE_go R h' fun r1 H1 st1 d x n1 R1 hx h1 => ?_
    split at h1
    · rename_i hi
      unfold isX at hi
      split at hi
      · rename_i n
        split at hi
        · rename_i k t fs e
          unfold opFld at h1
          simp only [e] at h1
          obtain ⟨y, e2, h1⟩ := h1.opt
          obtain ⟨a, rfl, hr⟩ := hx.weak.ref
          obtain ⟨_, D, tt, d, _, h2, h3, h4, _, h5⟩ := R1.st.obj n a _ hr e
          rw [hK] at h2
          rcases h5 with ⟨h5, _⟩ | ⟨dd, xs, rfl, h6, _, h7⟩
          · rw [h5] at e2; cases e2
          · obtain ⟨v, l1, l2⟩ := h7.look hf e2
            exact ⟨a, D, (dd, xs), v, rfl, ⟨h2, _, .inr h3, ⟨rfl, rfl⟩, ⟨_, rfl⟩, fun p z => by cases z; exact h6⟩, l1, h1.now R1.st _ l2⟩
        · cases hi
      · cases hi
    · exact h1.elim
  · left
    have h' : OK T Mb ow W σ r H ((evalE cs o env st).bind fun x st => if isX x st then .bad else opFld x f st) (fun r' H' d _ => ∀ v, Rep T.toTb H' (Ms Mb r' ow) r' v d → Q v H') := by
      revert h hb
      cases evalE cs o env st with
      | ok d s1 => intro h hb; simp only [Res.bind_ok, isXr] at h hb ⊢; rw [if_neg hb]; exact h
      | exn x s1 => intro h _; exact h
      | bad => intro h _; exact h
    refine tE_go R h' fun r1 H1 st1 d x n1 R1 hx h1 => ?_
    split at h1
    · exact h1.elim
    · rename_i hi
      unfold opFld at h1
      split at h1
      · rename_i n
        split at h1
        · rename_i ds e
          obtain ⟨y, e2, h1⟩ := h1.opt
          obtain ⟨a, rfl, hr⟩ := hx.weak.ref
          obtain ⟨ok, dx, fs, h3, h4⟩ := R1.st.obj n a _ hr e
          obtain ⟨v, h5, h6⟩ := h4.look hf e2
          obtain ⟨g1, g2⟩ := gm _ ok
          exact ⟨a, _, dx, fs, v, rfl, h3, g1, g2 f hf, h5, h1.now R1.st _ h6⟩
        · rename_i e
          exact absurd (by unfold isX; simp only [e]) hi
        · exact h1.elim
      · exact h1.elim
/-- isinstance of such a one -/
theorem s_isV (o : E) (k : Nat) (u : Value) (hk : ∀ j, T.okx j → ∃ D, T.xcls j = .ref D ∧ PySem.W.kitOne X.K (.ref D) u = some (isSub j k)) (hK : T.K = X.K) (σ : L2.St) (H : Hp) (Q : VK) (h : tE T pe W cs (.isV o k) σ H Q) :
    tE T pe W cs o σ H fun x H1 => ∃ a D od b, x = .ref a ∧ HasX X H1 a D od ∧ PySem.W.kitOne X.K (.ref D) u = some b ∧ Q (.bl b) H1 := by
  obtain ⟨Mb, r, ow, st, env, R, h⟩ := h
  rw [evalE] at h
  refine tE_go R h fun r1 H1 st1 d x n1 R1 hx h1 => ?_
  unfold opIsV at h1
  split at h1
  · rename_i n
    split at h1
    · rename_i j t fs e
      obtain ⟨a, rfl, hr⟩ := hx.weak.ref
      obtain ⟨h0, D, tt, d, e1, h2, h3, h4, _, h5⟩ := R1.st.obj n a _ hr e
      rw [hK] at h2
      obtain ⟨D', e2, e3⟩ := hk j h0
      rw [e1] at e2
      cases e2
      rcases h5 with ⟨_, rfl⟩ | ⟨dd, xs, rfl, h6, _, h7⟩
      · exact ⟨a, D, none, _, rfl, ⟨h2, _, .inr h3, ⟨rfl, rfl⟩, ⟨_, rfl⟩, fun p z => by cases z⟩, e3, h1.now R1.st _ (.bl _)⟩
      · exact ⟨a, D, some (dd, xs), _, rfl, ⟨h2, _, .inr h3, ⟨rfl, rfl⟩, ⟨_, rfl⟩, fun p z => by cases z; exact h6⟩, e3, h1.now R1.st _ (.bl _)⟩
    · exact h1.elim
  · exact h1.elim
/-- e.f, of an instance or of such a one -/
theorem pe_fldU {e : Expr} {te : TE} {pos : Pos} {f : Nat} (hf : f < 15) (he : PE X e te) (hb : attributeBase e (fnm f) X.env (eval e X.env) = eval e X.env) :
    PE X (.Attribute e (fnm f) pos) (fun σ H Q => tFld X.K te (fnm f) σ H Q ∨ te σ H fun x H1 => ∃ a D p v, x = .ref a ∧ HasX X H1 a D (some p) ∧ p.2.lookup (fnm f) = some v ∧ Q v H1) :=
  ⟨fun pins s σ H Q I h => h.elim (fun h => (pe_fld he hb).run pins s σ H Q I h) fun h => (pe_fldX hf he hb).run pins s σ H Q I h⟩
variable {r : List Addr} {ow : List (Option Addr)} {H : Hp} {st : Store} {σ : L2.St} {env : SEnv} {k : Nat} {l : List Nat} {DC a tt : Addr}
theorem fresh_p (R : Rel T pe Mb r ow H st σ env) (h : H tt = none) (n : tt ≠ a) : ¬ Ms (Mp Mb a) r ow tt := fun z => by
  have f := R.st.free h
  rcases z with (z | z) | z | z
  · exact f (.inl z)
  · exact n z
  · exact f (.inr (.inl z))
  · exact f (.inr (.inr z))
/-- a new one in the store, without fields -/
theorem mkX0 (R : Rel T pe Mb r ow H st σ env) (ok : T.okx k) (hD : T.xcls k = .ref DC) (C : XcD T.K DC) (ha : H a = none) (ht : H tt = none) (n : tt ≠ a) {Q : VK}
    (h : OK T Mb ow W σ r H (.ok (.ref st.length) (st ++ [.exc k l []])) (fun r' H' d _ => ∀ v, Rep T.toTb H' (Ms Mb r' ow) r' v d → Q v H')) : Q (.ref a) (upd (upd H tt (.tup [.str (mkS l)])) a (obx a (exOb DC none tt))) := by
  have s1 := R.st.new (o := .tup [.str (mkS l)]) ht
  have ha1 : upd H tt (.tup [.str (mkS l)]) a = none := by rw [upd_ne (Ne.symm n)]; exact ha
  have s2 := s1.newP (ho := obx a (exOb DC none tt)) ha1
  have har : a ∉ r := fun z => by
    obtain ⟨u, hu⟩ := R.st.there z
    rw [ha] at hu; cases hu
  have s3 := s2.push har (o := .exc k l []) ⟨ok, DC, tt, none, hD, C, upd_same, by rw [upd_ne n, upd_same], fresh_p R ht n, .inl ⟨rfl, rfl⟩⟩
  have nb := ((Nx.new (r := r) ht).trans (Nx.new (o := obx a (exOb DC none tt)) ha1)).push ha
  refine (h.shift nb).now s3 _ (.ref ?_)
  rw [← R.st.len, List.getElem?_append_right (Nat.le_refl _), Nat.sub_self]; rfl
theorem mkX1 {dx : Addr} {f : Nat} {y : V} {yd : D} (R : Rel T pe Mb r ow H st σ env) (ok : T.okx k) (hD : T.xcls k = .ref DC) (C : XcD T.K DC) (ha : H a = none) (ht : H tt = none) (hd : H dx = none) (n1 : tt ≠ a) (n2 : dx ≠ a) (n3 : dx ≠ tt) (hf : f < 15) (hy : Rep T.toTb H (Ms Mb r ow) r y yd) {Q : VK}
    (h : OK T Mb ow W σ r H (.ok (.ref st.length) (st ++ [.exc k l [(f, yd)]])) (fun r' H' d _ => ∀ v, Rep T.toTb H' (Ms Mb r' ow) r' v d → Q v H')) : Q (.ref a) (upd (upd (upd H tt (.tup [.str (mkS l)])) dx (.xd [(fnm f, y)])) a (obx a (exOb DC (some dx) tt))) := by
  have s1 := R.st.new (o := .tup [.str (mkS l)]) ht
  have hd1 : upd H tt (.tup [.str (mkS l)]) dx = none := by rw [upd_ne n3]; exact hd
  have s2 := s1.new (o := .xd [(fnm f, y)]) hd1
  have ha1 : upd (upd H tt (.tup [.str (mkS l)])) dx (.xd [(fnm f, y)]) a = none := by rw [upd_ne (Ne.symm n2), upd_ne (Ne.symm n1)]; exact ha
  have s3 := s2.newP (ho := obx a (exOb DC (some dx) tt)) ha1
  have har : a ∉ r := fun z => by
    obtain ⟨u, hu⟩ := R.st.there z
    rw [ha] at hu; cases hu
  have na := ((Nx.new (r := r) (o := .tup [.str (mkS l)]) ht).trans (Nx.new (o := .xd [(fnm f, y)]) hd1)).trans (Nx.new (o := obx a (exOb DC (some dx) tt)) ha1)
  have hy2 := (hy.mono (((Nx.new (r := r) (o := .tup [.str (mkS l)]) ht).trans (Nx.new (o := .xd [(fnm f, y)]) hd1)).grow (ow := ow) (Mb := Mb))).mono (grow_pn (ho := obx a (exOb DC (some dx) tt)) ha1)
  have s4 := s3.push har (o := .exc k l [(f, yd)]) ⟨ok, DC, tt, some dx, hD, C, upd_same, by rw [upd_ne n1, upd_ne (Ne.symm n3), upd_same], fresh_p R ht n1, .inr ⟨dx, _, rfl, by rw [upd_ne n2, upd_same], fresh_p R hd n2, .cons hf (hy2) .nil⟩⟩
  refine (h.shift (na.push ha)).now s4 _ (.ref ?_)
  rw [← R.st.len, List.getElem?_append_right (Nat.le_refl _), Nat.sub_self]; rfl
end
end Iv
end
section
set_option Elab.async false
set_option linter.all false
set_option maxRecDepth 100000
set_option maxHeartbeats 4000000
/-! A try whose clauses bear names, or none. -/
namespace Iv
open PySem PySem.Spec PySem.Calls PyProof.Rows L2
/-- the suite's ends, its name gone -/
def goneE (i : Nat) (D : Ends) : Ends := { nx := fun τ G => D.nx (τ.set i none) G, rt := D.rt, bk := fun τ G => D.bk (τ.set i none) G, ct := fun τ G => D.ct (τ.set i none) G }
abbrev Cl := Value × (Option Nat × (Addr → Value → Option Addr → TS))
def clGo (D : Ends) (q : Cl) (a : Addr) (cls : Value) (d : Option Addr) (τ : L2.St) (G : Hp) : Prop :=
  match q.2.1 with
  | none => q.2.2 a cls d D τ G
  | some i => q.2.2 a cls d (goneE i D) (τ.set i (some (.ref a))) G
/-- what the clauses want, one behind the other -/
def wNam (K : PySem.W.Frag) (W : WX) (D : Ends) : List Cl → WX
  | [] => W
  | q :: r => fun cls d τ G => ∃ b, PySem.W.exmOne K cls q.1 = some b ∧ (b = true → ∀ a, G a = none → clGo D q a cls d τ G) ∧ (b = false → wNam K W D r cls d τ G)
def nmOk (X : Cx) (oi : Option Nat) (n : Option Str) : Prop := (oi = none ∧ n = none) ∨ ∃ i y, oi = some i ∧ n = some y ∧ X.N[i]? = some y ∧ X.env.kindOf y = some .local
inductive HdsN (X : Cx) : List ExceptHandler → List Cl → Prop
  | nil : HdsN X [] []
  | cons {x : Str} {q : Cl} {n : Option Str} {s0 : Stmt} {su : List Stmt} {np hp : Pos} {hs : List ExceptHandler} {l : List Cl} (nm : Names X x q.1) (on : nmOk X q.2.1 n)
      (g : ∀ (a : Addr) (oe : Obj) (cls : Value) (d : Option Addr) (pn : List (Addr × Obj)), L2N.Zn cls d oe → (∃ vs, oe.data = .fields vs) → PSs (X.suite a ((a, oe) :: pn)) (s0 :: su) (q.2.2 a cls d)) (r : HdsN X hs l) :
      HdsN X (.ExceptHandler (some (.Name x np)) n (s0 :: su) hp :: hs) (q :: l)
section
variable {X : Cx} {body : List Stmt} {h₀ : ExceptHandler} {hs : List ExceptHandler} {l : List Cl} {pos : Pos} {tb : WX → TS} {W : WX}
theorem ps_try_nam (stk : X.stack = X.env :: X.outer) (frm : X.env.frame = some X.env.locals) (nd : X.N.Nodup) (tk : L2N.Takes X W)
    (hb : ∀ (V : WX) (pn : List (Addr × Obj)) (xe : Value → Shared → Prop), L2N.Takes (X.tr pn xe) V → PassesOwn (model X.prog X.w) X.A X.env xe → PSs (X.tr pn xe) body (tb V))
    (hh : HdsN X (h₀ :: hs) l) : PS X (.Try body (h₀ :: hs) [] [] pos) (fun D σ H => tb (wNam X.K W D l) D σ H) := by
  refine ⟨fun pins s σ H D I h => wpAny_Try_except ?_⟩
  have ok := I.ok
  have hfr : X.A.frames = some (X.env :: X.outer) := ok.frames.trans (by rw [stk])
  have run := (hb (wNam X.K W D l) (X.pn ++ pins) (fun e s₁ => wpAny (model X.prog X.w) X.A (noteFrame e X.env) (fun _ s₂ => wpAny (model X.prog X.w) X.A (setFlight e none) (fun _ s₃ => wpAny (model X.prog X.w) X.A (handleBy e X.env (h₀ :: hs)) (SP X pins D) X.xe s₃) X.xe s₂) X.xe s₁) ?c PassesOwn.looking).run [] s σ H D (I.toTry _) h
  · refine wpAny_mono run (fun f s1 hsp => ?_) (fun e s1 he => he)
    cases f with
    | ret u => obtain ⟨v, τ, G, J, rv, q⟩ := hsp; exact ⟨v, τ, G, J.ofTry ok, rv, q⟩
    | next => obtain ⟨τ, G, J, q⟩ := hsp; exact wpAny_execs_nil ⟨τ, G, J.ofTry ok, q⟩
    | brk => obtain ⟨τ, G, J, q⟩ := hsp; exact ⟨τ, G, J.ofTry ok, q⟩
    | cont => obtain ⟨τ, G, J, q⟩ := hsp; exact ⟨τ, G, J.ofTry ok, q⟩
  case c =>
    rintro u s' ⟨a, B, sI, ps', τ, G, cls, d, rfl, J', nb, up, sky, na, os, ag, w⟩
    have J : L2.Inv X pins τ G sI := J'.ofTry ok
    refine L2N.Sky.land (Z := L2N.Zn cls d) L2N.Zn.steady hfr frm (by rw [← stk]; exact sky) fun h3 fl3 up3 => ?_
    have J3 : L2.Inv X pins τ G { s' with heap := h3 } := J.landed nb fl3.1 (up.trans up3) os ag
    obtain ⟨o3, v3, he3, hz3, hd3⟩ := fl3.there
    have nfr : a ∉ frs (X.env :: X.outer) := fun hm => by
      obtain ⟨_, o', e', hnf⟩ := fl3.2.2.1.mem hm
      rw [he3] at e'; cases e'
      exact hnf _ hd3
    have nL : a ≠ X.env.locals := fun z => nfr (List.mem_filterMap.mpr ⟨X.env, List.mem_cons_self, frm.trans (congrArg some z.symm)⟩)
    have nF : a ∉ X.fs := fun hm => by
      obtain ⟨e, he, q⟩ := List.mem_filterMap.mp hm
      exact nfr (List.mem_filterMap.mpr ⟨e, List.mem_cons_of_mem _ he, q⟩)
    have S3 := J3.suite he3 hd3 na nL nF
    have LT : PySem.W.Looks (model X.prog X.w) h3 (typeOf (.ref a)) cls := fun A Q E s k q => wpAny_typeOf_ref (k _ _ he3) (hz3.1 ▸ q)
    have flies : W cls d τ G → ∀ (E : Value → Shared → Prop), wpAny (model X.prog X.w) X.A (setFlight (.ref a) X.env.frame) (fun _ s4 => wpAny (model X.prog X.w) X.A (throw (.ref a) : Sem Flow) (SP X pins D) X.xe s4) E { s' with heap := h3 } := fun w E => by
      rw [frm]
      exact HandSPX.setFlight_upZ fl3 fun h4 hh4 up4 => wpAny_throw (tk _ _ ⟨a, B, sI, pins, τ, G, cls, d, rfl, J, nb, (up.trans up3).trans up4, .inr (.inr (by rw [stk]; exact hh4)), na, os, ag, w⟩)
    have ask : ∀ {x : Str} {np : Pos} {c : Value}, Names X x c → ∀ {Q E : Value → Shared → Prop}, Q c { s' with heap := h3 } → wpAny (model X.prog X.w) (X.A.mark (some (.ref a))) (eval (.Name x np) X.env) Q E { s' with heap := h3 } := fun {x np c} nm {Q E} q => by
      obtain ⟨g1, g2, m | ⟨m, v, nn⟩⟩ := nm
      · exact ld_glob (X := X.suite a ((a, o3) :: (X.pn ++ pins))) S3 g1 m q g2
      · exact ld_blt (X := X.suite a ((a, o3) :: (X.pn ++ pins))) S3 g1 m v q nn g2
    have go : ∀ {hs' : List ExceptHandler} {l' : List Cl}, HdsN X hs' l' → wNam X.K W D l' cls d τ G → wpAny (model X.prog X.w) X.A (handleBy (.ref a) X.env hs') (SP X pins D) X.xe { s' with heap := h3 } := by
      intro hs' l' hk
      induction hk with
      | nil =>
        intro w
        obtain ⟨k1, k2, k3, o5, v5, T5, oT, ts5, he5, hz5, hd5, h15, hr5⟩ := id fl3
        refine wpAny_handleBy_nil ?_
        unfold PySem.passOn
        refine wpAny_bind (wpAny_field he5 hd5 h15 ?_)
        have nz : ¬ ((Value.ref T5 == Value.none) = true) := by simp
        rw [if_neg nz]
        first
          | exact wpAny_bind (flies w _)
          | exact wpAny_bind (wpAny_pure (wpAny_bind (flies w _)))
      | @cons x q n s0 su np hp hs2 l2 nm on g r ih =>
        rintro ⟨b, hb1, yes, no⟩
        refine wpAny_handleBy_cons (codeAny_handlers_test (ask nm ((PySem.W.exm_one (M := model X.prog X.w) J3.kIn LT hb1).here ?_))) (by intro z; cases z)
        cases b with
        | false => exact ih (no rfl)
        | true =>
          obtain ⟨c, oi, ts⟩ := q
          have w := yes rfl a na
          rcases on with ⟨e1, e2⟩ | ⟨i, y, e1, e2, hi, hy⟩
          · obtain rfl : oi = none := e1
            subst e2
            have w : ts a cls d D τ G := w
            refine codeAny_handlers_suite (HandSPX.lands_againZ fl3 fun h4 fl4 up4 => ?_)
            obtain ⟨o4, v4, he4, hz4, hd4⟩ := fl4.there
            have S4 := (J.landed nb fl4.1 ((up.trans up3).trans up4) os ag : L2.Inv X pins τ G { s' with heap := h4 }).suite he4 hd4 na nL nF
            refine wpAny_mono ((g a o4 cls d (X.pn ++ pins) hz4 ⟨_, hd4⟩).run [] _ _ G _ S4 w) (fun f s6 hsp => ?_) (fun _ _ z => False.elim z)
            cases f with
            | ret u => obtain ⟨v, τ6, G6, S6, r6, q6⟩ := hsp; exact ⟨v, τ6, G6, S6.unsuite ok, r6, q6⟩
            | next => obtain ⟨τ6, G6, S6, q6⟩ := hsp; exact ⟨τ6, G6, S6.unsuite ok, q6⟩
            | brk => obtain ⟨τ6, G6, S6, q6⟩ := hsp; exact ⟨τ6, G6, S6.unsuite ok, q6⟩
            | cont => obtain ⟨τ6, G6, S6, q6⟩ := hsp; exact ⟨τ6, G6, S6.unsuite ok, q6⟩
          · obtain rfl : oi = some i := e1
            subst e2
            have w : ts a cls d (goneE i D) (τ.set i (some (.ref a))) G := w
            refine codeAny_handlers_suite_as (HandSPX.lands_againZ fl3 fun h4 fl4 up4 => ?_)
            obtain ⟨o4, v4, he4, hz4, hd4⟩ := fl4.there
            have S4 := (J.landed nb fl4.1 ((up.trans up3).trans up4) os ag : L2.Inv X pins τ G { s' with heap := h4 }).suite he4 hd4 na nL nF
            refine store_ok (X := X.suite a ((a, o4) :: (X.pn ++ pins))) (v := .ref a) S4 nd hi (.inl hy) rfl (fun s5 S5 => ?_) (.inr hy)
            refine wpAny_mono ((g a o4 cls d (X.pn ++ pins) hz4 ⟨_, hd4⟩).run [] s5 _ G _ S5 w) (fun f s6 hsp => ?_) (fun _ _ z => False.elim z)
            have gone : ∀ {τ6 : L2.St} {G6 : Hp} {Q : Shared → Prop}, L2.Inv (X.suite a ((a, o4) :: (X.pn ++ pins))) [] τ6 G6 s6 → (∀ s7, L2.Inv X pins (τ6.set i none) G6 s7 → Q s7) → wpAny (model X.prog X.w) X.A (do bindName X.env y .none; unbindBehindTheSuite X.env y hp) (fun _ s7 => Q s7) X.xe s6 :=
              fun S6 hq => gone_ok (S6.unsuite ok) nd hi hy hq
            cases f with
            | ret u => obtain ⟨v, τ6, G6, S6, r6, q6⟩ := hsp; exact gone S6 fun s7 J7 => ⟨_, _, _, J7, r6, q6⟩
            | next => obtain ⟨τ6, G6, S6, q6⟩ := hsp; exact gone S6 fun s7 J7 => ⟨_, _, J7, q6⟩
            | brk => obtain ⟨τ6, G6, S6, q6⟩ := hsp; exact gone S6 fun s7 J7 => ⟨_, _, J7, q6⟩
            | cont => obtain ⟨τ6, G6, S6, q6⟩ := hsp; exact gone S6 fun s7 J7 => ⟨_, _, J7, q6⟩
    exact go hh w
end
end Iv
end
section
set_option Elab.async false
set_option linter.all false
set_option maxRecDepth 100000
set_option maxHeartbeats 1000000
/-! The look: is a core text the text of a tree of the program? -/
namespace Iv
open PySem PySem.Spec PySem.Calls PyProof.Rows L2
/-- what the names of the program's top are -/
structure Gt where
  fn : List (Str × Nat)
  cst : List (Str × Nat)
  cl : List (Str × (Nat × Nat))
  xc : List (Str × Nat)
  hx : List Nat
  hf : List (Str × Nat)
  me : List ((Nat × Str) × Nat)
  xv : Bool := false
/-- a def's names, its scope (or a block's) -/
structure Cc where
  N : List Str
  sc : Scope
  hot : Bool
  cel : Str → Bool
/-- a comprehension's block within -/
def Cc.blk (c : Cc) (sc : Scope) : Cc := ⟨c.N, relS sc c.sc, c.hot, fun x => sc.names.lookup x == some .cell⟩
/-- a def's body -/
def Cc.of (N : List Str) (sc : Scope) : Cc := ⟨N, sc, false, fun x => sc.names.lookup x == some .cell⟩
def gl (c : Cc) (x : Str) : Bool := decide (c.sc.names.lookup x = some .globalImplicit) && !(x == ("__debug__" : Str))
def vis (c : Cc) (x : Str) : Bool := (decide (c.sc.names.lookup x = some .local) || (decide (c.sc.names.lookup x = some .cell) || decide (c.sc.names.lookup x = some .free))) && (!(x == ("__debug__" : Str)) && !(x == ("__classdict__" : Str)))
def loc (c : Cc) (x : Str) : Bool := decide (c.sc.names.lookup x = some .local) || (decide (c.sc.names.lookup x = some .cell) && c.cel x)
def isVar (c : Cc) (i : Nat) (x : Expr) : Bool :=
  match x with
  | .Name n _ => vis c n && decide (c.N[i]? = some n)
  | _ => false
def isConst (k : Const) (x : Expr) : Bool :=
  match x with
  | .Constant k' _ _ => decide (k' = k)
  | _ => false
def isGlob (G : Gt) (c : Cc) (g : Nat) (x : Expr) : Bool :=
  match x with
  | .Name n _ => gl c n && decide (G.cst.lookup n = some g)
  | _ => false
def isTyp (c : Cc) (t : Str) (x : Expr) : Bool :=
  match x with
  | .Name n _ => gl c n && decide (n = t)
  | _ => false
def optAll : List (Option Expr) → Option (List Expr)
  | [] => some []
  | some x :: r => (optAll r).map (x :: ·)
  | none :: _ => none
def isTg1 (c : Cc) (i : Nat) (x : Expr) : Bool :=
  match x with
  | .Name n _ => loc c n && decide (c.N[i]? = some n)
  | _ => false
def isTgs (c : Cc) : List Nat → List Expr → Bool
  | [], [] => true
  | i :: is, x :: xs => isTg1 c i x && isTgs c is xs
  | _, _ => false
/-- a target -/
def isTg (c : Cc) (tg : List Nat) (x : Expr) : Bool :=
  match tg with
  | [i] => isTg1 c i x
  | is => match x with
    | .Tuple xs _ _ => !c.hot && isTgs c is xs
    | _ => false
def unName : UK → Str
  | .len => "len"
  | .int => "int"
  | .str => "str"
  | .abs => "abs"
  | .max => "max"
  | .sum => "sum"
  | .all => "all"
  | .tuple => "tuple"
  | .lof => "list"
  | .isStr => "str"
  | .isTup => "tuple"
  | .isLst => "list"
  | .isdigit => "isdigit"
  | .pop => "pop"
def bkName : BK → Str
  | .min2 => "min"
  | .max2 => "max"
  | .join => "join"
  | .split => "split"
  | .part => "partition"
  | .strip => "strip"
  | .lstrip => "lstrip"
  | .count => "count"
  | .index => "index"
  | .get => "get"
/-- how a built-in of one argument is called: 0 by its name, 1 isinstance, 2 a method -/
inductive UForm where
  | nam | isi | mth
def unForm : UK → UForm
  | .isStr => .isi
  | .isTup => .isi
  | .isLst => .isi
  | .isdigit => .mth
  | .pop => .mth
  | _ => .nam
def calmUn : UK → Bool
  | .max => true
  | .sum => true
  | .all => true
  | _ => false
def bltNames : List Str := ["len", "int", "str", "abs", "max", "min", "sum", "all", "tuple", "list", "isinstance", "range", "reversed", "ValueError"]
def iterLen : IK → Nat
  | .rng2 => 2
  | .rng3 => 3
  | _ => 1
def iterName : IK → Str
  | .rev => "reversed"
  | _ => "range"
def unArg (c : Cc) (k : UK) (s : Bool) (x : Expr) : Option Expr :=
  match unForm k with
  | .nam => (match x with
    | .Call (.Name n _) [y] [] _ => if (gl c n && decide (n = unName k)) && (notStar y && !(calmUn k && c.hot)) then some y else none
    | _ => none)
  | .isi => (match x with
    | .Call (.Name n _) [y, z] [] _ => if (gl c n && decide (n = "isinstance")) && ((notStar y && isTyp c (unName k) z) && s) then some y else none
    | _ => none)
  | .mth => (match x with
    | .Call (.Attribute y m ap) [] [] p => if (decide (m = unName k) && plainBase y) && (ap.endLine == p.line) then some y else none
    | _ => none)
def b2Form : BK → UForm
  | .min2 => .nam
  | .max2 => .nam
  | _ => .mth
def b2Arg (c : Cc) (k : BK) (s : Bool) (x : Expr) : Option (Expr × Expr) :=
  match b2Form k with
  | .nam => (match x with
    | .Call (.Name n _) [y, z] [] _ => if (gl c n && decide (n = bkName k)) && (((notStar y && notStar z) && !c.hot) && s) then some (y, z) else none
    | _ => none)
  | _ => (match x with
    | .Call (.Attribute y m ap) [z] [] p => if (decide (m = bkName k) && plainBase y) && (notStar z && (ap.endLine == p.line)) then some (y, z) else none
    | _ => none)
def noneX : Expr := .Constant .none 0 default
/-- a slice's part, written or not -/
def partArg (b : Bool) (o : Option Expr) : Option Expr :=
  match o with
  | some z => if b then some z else none
  | none => if b then none else some noneX
def slcArg (lo hi : Bool) (x : Expr) : Option (Expr × (Expr × Expr)) :=
  match x with
  | .Subscript y (.Slice l h none _) _ => (partArg lo l).bind fun z => (partArg hi h).map fun w => (y, (z, w))
  | _ => none
def dctArg (x : Expr) : Option (List Expr × List Expr) :=
  match x with
  | .Dict ys zs _ => (optAll ys).map fun ys => (ys, zs)
  | _ => none
def rngArg (c : Cc) (k : IK) (n : Nat) (it : Expr) : Option (List Expr) :=
  match it with
  | .Call (.Name m _) ys [] _ => if gl c m && (decide (m = iterName k) && decide (n = iterLen k)) then some ys else none
  | _ => none
/-- what a loop walks: the parts of its text -/
def iterArg (c : Cc) (k : IK) (n : Nat) (it : Expr) : Option (List Expr) :=
  match k with
  | .seq => if notSet it then some [it] else none
  | .str => if notSet it then some [it] else none
  | .rng1 => rngArg c .rng1 n it
  | .rng2 => rngArg c .rng2 n it
  | .rng3 => rngArg c .rng3 n it
  | .rev => rngArg c .rev n it
def compArg (c : Cc) (tg : List Nat) (k : IK) (n : Nat) (s : Bool) (x : Expr) : Option (Scope × (Expr × (List Expr × List Expr))) :=
  match x with
  | .ListComp y [⟨t, it, ifs, 0⟩] sc _ => if ((!c.hot && s) && (blkC c.N c.sc sc (tg.filterMap fun i => (c.N[i]?).map fun n => (n, i)) && tg.all fun i => (c.N[i]?).isSome)) && isTg (c.blk sc) tg t then (iterArg c k n it).map fun its => (sc, (y, (its, ifs))) else none
  | _ => none
/-- a class that a refusal may be asked for -/
def clsB (G : Gt) (k : Nat) (m : Str) : Bool := if k = 9 then decide (m = "ValueError") else decide (G.xc.lookup m = some k)
mutual
def chkE (G : Gt) : E → Cc → Expr → Bool
  | .var i, c, x => isVar c i x
  | .own i, c, x => isVar c i x
  | .int n, _, x => isConst (.int n) x
  | .bl b, _, x => isConst (.bool b) x
  | .non, _, x => isConst .none x
  | .str s, _, x => isConst (.str (mkS s)) x
  | .glob g, c, x => isGlob G c g x
  | .neg a, c, x => match x with
    | .UnaryOp .USub y _ => chkE G a c y
    | _ => false
  | .bin op a b, c, x => match x with
    | .BinOp y o z _ => decide (o = pyOp op) && (chkE G a c y && chkE G b c z)
    | _ => false
  | .cmp op a b, c, x => match x with
    | .Compare y [o] [z] _ => (decide (o = pyCmp op) && notSet z) && (chkE G a c y && chkE G b c z)
    | _ => false
  | .chain op op' a b d, c, x => match x with
    | .Compare y [o, o'] [z, w] _ => (decide (o = pyCmp op) && (decide (o' = pyCmp op') && (notSet w && b.strong))) && (chkE G a c y && (chkE G b c z && chkE G d c w))
    | _ => false
  | .isN a, c, x => match x with
    | .Compare y [.Is] [.Constant .none _ _] _ => chkE G a c y
    | _ => false
  | .notN a, c, x => match x with
    | .Compare y [.IsNot] [.Constant .none _ _] _ => chkE G a c y
    | _ => false
  | .band a b, c, x => match x with
    | .BoolOp .And [y, z] _ => chkE G a c y && chkE G b c z
    | .BoolOp .And (y :: z :: w :: r) p => chkE G a c y && chkE G b c (.BoolOp .And (z :: w :: r) p)
    | _ => false
  | .bor a b, c, x => match x with
    | .BoolOp .Or [y, z] _ => chkE G a c y && chkE G b c z
    | .BoolOp .Or (y :: z :: w :: r) p => chkE G a c y && chkE G b c (.BoolOp .Or (z :: w :: r) p)
    | _ => false
  | .bnot a, c, x => match x with
    | .UnaryOp .Not y _ => chkE G a c y
    | _ => false
  | .ife t a b, c, x => match x with
    | .IfExp u y z _ => chkE G t c u && (chkE G a c y && chkE G b c z)
    | _ => false
  | .idx a i, c, x => match x with
    | .Subscript y z _ => plainIx z && (chkE G a c y && chkE G i c z)
    | _ => false
  | .slc lo hi a l h, c, x => match slcArg lo hi x with
    | some (y, z, w) => chkE G a c y && ((!lo || chkE G l c z) && (!hi || chkE G h c w))
    | none => false
  | .tup es, c, x => match x with
    | .Tuple ys _ _ => chkL G es c ys
    | _ => false
  | .lst es, c, x => match x with
    | .List ys _ => chkL G es c ys
    | _ => false
  | .dct ks vs, c, x => match dctArg x with
    | some (ys, zs) => (ks.all (fun k => (cKey k).isSome) && (decide (ks.length = vs.length) && (decide (ks.length ≤ 15) || bigC ks vs))) && (chkL G ks c ys && chkL G vs c zs)
    | none => false
  | .comp elt tg k es cond, c, x => match compArg c tg k es.length elt.strong x with
    | some (sc, y, its, ifs) => chkL G es c its && (chkE G elt (c.blk sc) y && chkL G cond (c.blk sc) ifs)
    | none => false
  | .mk e, c, x => (e.isNew && plainTest x) && chkE G e c x
  | .call f es, c, x => match x with
    | .Call (.Name n _) ys [] _ => (!c.hot && (gl c n && decide (G.fn.lookup n = some f))) && chkL G es c ys
    | _ => false
  | .hcall f i, c, x => match x with
    | .Call (.Name n _) [y] [] _ => (c.hot && (gl c n && decide (G.hf.lookup n = some f))) && (isVar c i y && notStar y)
    | _ => false
  | .meth o ci f es, c, x => match x with
    | .Call (.Attribute y m ap) ys [] p => ((!c.hot && (o.strong && plainBase y)) && (decide (ys.length < 30) && ((ap.endLine == p.line) && decide (G.me.lookup (ci, m) = some f)))) && (chkE G o c y && chkL G es c ys)
    | _ => false
  | .make ci f es, c, x => match x with
    | .Call (.Name n _) ys [] _ => (!c.hot && (gl c n && decide (G.cl.lookup n = some (ci, f)))) && chkL G es c ys
    | _ => false
  | .fld o f, c, x => match x with
    | .Attribute y n _ => (plainBase y && (decide (f < 15) && decide (n = fnm f))) && chkE G o c y
    | _ => false
  | .un k a, c, x => match unArg c k a.strong x with
    | some y => chkE G a c y
    | none => false
  | .b2 k a b, c, x => match b2Arg c k (a.strong && b.strong) x with
    | some (y, z) => chkE G a c y && chkE G b c z
    | none => false
  | .get2 a b d, c, x => match x with
    | .Call (.Attribute y m ap) [z, w] [] p => ((decide (m = "get") && (plainBase y && d.strong)) && ((notStar z && notStar w) && (ap.endLine == p.line))) && (chkE G a c y && (chkE G b c z && chkE G d c w))
    | _ => false
  | .isExc i k, c, x => match x with
    | .Call (.Name n _) [y, .Name m _] [] _ => ((c.hot && !G.hf.isEmpty) && (gl c n && decide (n = "isinstance"))) && ((gl c m && clsB G k m) && (isVar c i y && notStar y))
    | _ => false
  | .excFld i f, c, x => match x with
    | .Attribute y n _ => ((c.hot && !G.hf.isEmpty) && (plainBase y && (decide (f < 15) && decide (n = fnm f)))) && isVar c i y
    | _ => false
  | .newX k es, c, x => match x with
    | .Call (.Name n _) ys [] _ => ((!c.hot && G.xv) && (gl c n && decide (G.xc.lookup n = some k))) && ((decide (1 ≤ k) && (decide (es.length = 1) || (decide (k < 3) && decide (es.length = 2)))) && chkL G es c ys)
    | _ => false
  | .isV a k, c, x => match x with
    | .Call (.Name n _) [y, .Name m _] [] _ => (!G.hf.isEmpty && (gl c n && decide (n = "isinstance"))) && ((gl c m && clsB G k m) && (notStar y && chkE G a c y))
    | _ => false
def chkL (G : Gt) : List E → Cc → List Expr → Bool
  | [], _, xs => xs.isEmpty
  | e :: es, c, xs => match xs with
    | x :: xs => (e.strong && notStar x) && (chkE G e c x && chkL G es c xs)
    | [] => false
end
end Iv
end
section
set_option Elab.async false
set_option linter.all false
set_option maxRecDepth 100000
set_option maxHeartbeats 4000000
/-! What is looked at is so: expressions. -/
namespace Iv
open PySem PySem.Spec PySem.Calls PyProof.Rows L2
/-- the calls of a context -/
structure Cf (G : Gt) (T : Tx) (cs : Iv.Calls) (P : Program) (w : World) (K : PySem.W.Frag) (mg : Str → Option Value) (base : Heap) (A : Around) : Prop where
  fn : ∀ x id, G.fn.lookup x = some id → ∃ n f fd ps, mg x = some (.ref f) ∧ PySem.W.keepIn K (.ref f) = true ∧ Binds K fd ps [] ∧ RoomP n A ∧ FnP P w K mg base n f fd ps (spOf T (cs.fn id))
  me : ∀ ci m id, G.me.lookup (ci, m) = some id → fieldNames.contains m = false ∧ Cls K (T.cls ci) ∧ ∃ n f fd ps, Meth K (T.cls ci) m f ∧ Binds K fd ps [] ∧ RoomP n A ∧ FnP P w K mg base n f fd ps (spOf T (cs.fn id))
  cl : ∀ x ci id, G.cl.lookup x = some (ci, id) → T.okc ci ∧ ∃ n f fd ps, mg x = some (.ref (T.cls ci)) ∧ Mk K (T.cls ci) f ∧ Binds K fd ps [] ∧ RoomP (n + 1) A ∧ FnP P w K mg base n f fd ps (spOf T (cs.mak id))
/-- the refusals' classes, as they are asked -/
structure XqOk (G : Gt) (T : Tx) (X : Cx) : Prop where
  nm : ∀ m k, k ≠ 9 → G.xc.lookup m = some k → ∃ C, X.mg m = some (.ref C) ∧ ∀ j, T.okx j → ∃ D, T.xcls j = .ref D ∧ PySem.W.kitOne X.K (.ref D) (.ref C) = some (isSub j k)
  ve : ∀ j, T.okx j → ∃ D, T.xcls j = .ref D ∧ PySem.W.kitOne X.K (.ref D) (.type "ValueError") = some true
  cl : ∀ j, T.okx j → ∃ D, T.xcls j = .ref D ∧ XcD X.K D
/-- what an attribute of a refusal is by default -/
def dfltX (k : Nat) : D := if k = 1 then .int 0 else .str []
/-- .. one with an __init__ -/
def NxI (T : Tx) (P : Program) (w : World) (K : PySem.W.Frag) (mg : Str → Option Value) (base : Heap) (A : Around) (C : Addr) (k : Nat) : Prop := OexC K C ∧ ∃ (fI : Addr) (fd : FuncData) (ps : List Str) (m : Nat) (u : Value) (dv : V), PySem.W.findIn K (.ref C) "__init__" = some (some (.ref fI)) ∧ PySem.W.typeIn K (.ref fI) = some (.type "function") ∧
        FnP P w K mg base m fI fd ps (spT C (fnm (k - 1))) ∧ RoomP (m + 1) A ∧ Binds K fd ps [] ∧ Binds K fd ps [u] ∧ RelV dv u ∧ ∀ H M r, Rep T.toTb H M r dv (dfltX k)
/-- a class of refusals, as it is made -/
structure NxK (T : Tx) (P : Program) (w : World) (K : PySem.W.Frag) (mg : Str → Option Value) (base : Heap) (A : Around) (n : Str) (k : Nat) : Prop where
  ok : T.okx k
  cls : ∃ C, T.xcls k = .ref C ∧ XcD K C ∧ mg n = some (.ref C) ∧ PySem.W.keepIn K (.ref C) = true ∧
    ((3 ≤ k ∧ ∃ (bmB : List Value) (B newId initId : String), ExcBaseFacts B newId initId bmB ∧ PySem.W.excIn K C bmB newId = true) ∨
      (k < 3 ∧ NxI T P w K mg base A C k))
/-- what is known of a context -/
structure Fx (G : Gt) (c : Cc) (T : Tx) (pe : Pe) (cs : Iv.Calls) (W : WX) (X : Cx) : Prop where
  hK : T.K = X.K
  hN : X.N = c.N
  nd : c.N.Nodup
  sc : X.env.scope = c.sc
  calm : c.hot = false → X.calm = true
  cel : ∀ x, c.cel x = true → X.fn x = true
  un : X.A.units + 1000 < cLine
  tk : L2N.Takes X W
  blt : ∀ b, b ∈ bltNames → X.mg b = none
  cst : ∀ x g, G.cst.lookup x = some g → ∃ v u, X.mg x = some u ∧ RelV v u ∧ ∀ H M r, Rep T.toTb H M r v (gval g)
  okc : ∀ k, T.okc k → Cls X.K (T.cls k) ∧ ∀ f, f < 15 → NoAttr X.K (T.cls k) (fnm f)
  oke : ∀ k, T.okc k → EqO X.K (T.cls k)
  cf : c.hot = false → Cf G T cs X.prog X.w X.K X.mg X.base X.A
  cold : c.hot = false → pe = none
  ph : ∀ a cls d, pe = some (a, cls, d) → ∃ oe, (a, oe) ∈ X.pn ∧ L2N.Zn cls d oe ∧ (∃ us, oe.data = .fields us) ∧ X.A.handled = some (.ref a)
  xq : G.hf.isEmpty = false → XqOk G T X
  hf : ∀ x f, G.hf.lookup x = some f → ∃ k fa fd ps, X.mg x = some (.ref fa) ∧ PySem.W.keepIn X.K (.ref fa) = true ∧ Binds X.K fd ps [] ∧ RoomX k X.A ∧ FnX X.prog X.w X.K X.mg X.base k fa fd ps (spHot T (cs.hot f))
  nx : c.hot = false → G.xv = true → ∀ n k, G.xc.lookup n = some k → 1 ≤ k → NxK T X.prog X.w X.K X.mg X.base X.A n k
section
variable {G : Gt} {c : Cc} {T : Tx} {pe : Pe} {W : WX} {cs : Iv.Calls} {X : Cx}
theorem Fx.gl {x : Str} (F : Fx G c T pe cs W X) (h : gl c x = true) : Gl X x ∧ (x == ("__debug__" : Str)) = false := by
  unfold Iv.gl at h
  rw [Bool.and_eq_true, decide_eq_true_eq] at h
  refine ⟨?_, by simpa using h.2⟩
  show X.env.scope.names.lookup x = _
  rw [F.sc]; exact h.1
theorem Fx.vis {x : Str} (F : Fx G c T pe cs W X) (h : vis c x = true) : Vis X.env.scope x ∧ (x == ("__debug__" : Str)) = false ∧ (x == ("__classdict__" : Str)) = false := by
  unfold Iv.vis at h
  simp only [Bool.and_eq_true, Bool.or_eq_true, decide_eq_true_eq, Bool.not_eq_true'] at h
  refine ⟨?_, h.2.1, h.2.2⟩
  rw [F.sc]; exact h.1
theorem pe_isVar {i : Nat} {x : Expr} (F : Fx G c T pe cs W X) (h : isVar c i x = true) : PE X x (tVar i) := by
  unfold isVar at h
  split at h
  · rename_i n p
    rw [Bool.and_eq_true, decide_eq_true_eq] at h
    obtain ⟨h1, h2, h3⟩ := F.vis h.1
    exact pe_var (by rw [F.hN]; exact h.2) h1 h2 h3
  · cases h
structure Gd (T : Tx) (pe : Pe) (W : WX) (cs : Iv.Calls) (X : Cx) (e : E) (x : Expr) : Prop where
  pe_ : PE X x (tE T pe W cs e)
  pt : PT X x (tT T pe W cs e)
  pw : ∀ op ys p, x = .BoolOp op ys p → PW X x (tT T pe W cs e)
  pn : e.isNew = true → PE X x (tN T pe W cs e)
theorem Gd.plain {e : E} {x : Expr} (h : PE X x (tE T pe W cs e)) (hp : plainTest x = true) (hn : e.isNew = false) : Gd T pe W cs X e x :=
  ⟨h, pt_of h hp, fun op ys p z => (by rw [z] at hp; cases hp), fun z => (by rw [hn] at z; cases z)⟩
theorem Gd.new {e : E} {x : Expr} (h : PE X x (tN T pe W cs e)) (hn : ∀ env st d st', evalE cs e env st = .ok d st' → ∃ o, newO d = some o) (hs : e.strong = true) (hp : plainTest x = true) : Gd T pe W cs X e x :=
  ⟨tE_of_tN hn hs h, pt_of (tE_of_tN hn hs h) hp, fun op ys p z => (by rw [z] at hp; cases hp), fun _ => h⟩
inductive GdL (T : Tx) (pe : Pe) (W : WX) (cs : Iv.Calls) (X : Cx) : List E → List Expr → Prop
  | nil : GdL T pe W cs X [] []
  | cons {e : E} {x : Expr} {es : List E} {xs : List Expr} (s : e.strong = true) (n : notStar x = true) (g : Gd T pe W cs X e x) (r : GdL T pe W cs X es xs) : GdL T pe W cs X (e :: es) (x :: xs)
theorem GdL.pa {es : List E} {xs : List Expr} (h : GdL T pe W cs X es xs) : PA X xs (tL T pe W cs es) := by
  induction h with
  | nil => exact paI pa_nil s_nil
  | cons s n g r ih => exact paI (pa_cons g.pe_ ih (star_cons n)) (s_cons _ _ s)
theorem GdL.star {es : List E} {xs : List Expr} (h : GdL T pe W cs X es xs) : xs.all notStar = true := by
  induction h with
  | nil => rfl
  | cons s n g r ih => rw [List.all_cons, n, ih]; rfl
theorem GdL.len {es : List E} {xs : List Expr} (h : GdL T pe W cs X es xs) : es.length = xs.length := by
  induction h with
  | nil => rfl
  | cons s n g r ih => simp [ih]
theorem GdL.strong {es : List E} {xs : List Expr} (h : GdL T pe W cs X es xs) : es.all E.strong = true := by
  induction h with
  | nil => rfl
  | cons s n g r ih => rw [List.all_cons, s, ih]; rfl
theorem GdL.one {es : List E} {x : Expr} (h : GdL T pe W cs X es [x]) : ∃ e, es = [e] ∧ e.strong = true ∧ Gd T pe W cs X e x := by
  cases h with
  | cons s n g r =>
    cases r
    exact ⟨_, rfl, s, g⟩
theorem tE_mono {e : E} {σ : L2.St} {H : Hp} {P P' : VK} (h : tE T pe W cs e σ H P) (f : ∀ x H1, P x H1 → P' x H1) : tE T pe W cs e σ H P' := by
  obtain ⟨Mb, r, ow, st, env, R, h⟩ := h
  exact ⟨Mb, r, ow, st, env, R, h.imp fun r' H' d st' n s q v hv => f _ _ (q v hv)⟩
/-- a built-in function of one argument -/
theorem call1 {k : UK} {a : E} {y : Expr} {n : Str} {p pos : Pos} {id : String} (F : Fx G c T pe cs W X) (hy : Gd T pe W cs X a y) (hn : notStar y = true) (hg : gl c n = true) (hb : n ∈ bltNames) (hv : bootBuiltins n = some (.builtin id)) (hnn : n ≠ "__name__")
    (hc : CallR X (.builtin id) (rC1 T (opUn k))) : PE X (.Call (.Name n p) [y] [] pos) (tE T pe W cs (.un k a)) := by
  obtain ⟨g1, g2⟩ := F.gl hg
  refine peI (pe_callB hc g1 (F.blt n hb) hv (pa_cons hy.pe_ pa_nil (star_cons hn)) hnn g2 (star_cons hn) rfl) fun σ H Q h => ?_
  exact tE_mono (s_un k a (.inr trivial) σ H Q h) fun x H1 q => ⟨x, rfl, q⟩
theorem call1T {k : UK} {a : E} {y : Expr} {n : Str} {p pos : Pos} {t : String} (F : Fx G c T pe cs W X) (hy : Gd T pe W cs X a y) (hn : notStar y = true) (hg : gl c n = true) (hb : n ∈ bltNames) (hv : bootBuiltins n = some (.type t)) (hnn : n ≠ "__name__")
    (hc : CallR X (.type t) (rC1 T (opUn k))) : PE X (.Call (.Name n p) [y] [] pos) (tE T pe W cs (.un k a)) := by
  obtain ⟨g1, g2⟩ := F.gl hg
  refine peI (pe_callTy hc g1 (F.blt n hb) hv (pa_cons hy.pe_ pa_nil (star_cons hn)) hnn g2 (star_cons hn) rfl) fun σ H Q h => ?_
  exact tE_mono (s_un k a (.inr trivial) σ H Q h) fun x H1 q => ⟨x, rfl, q⟩
theorem boot_isinst : bootBuiltins "isinstance" = some (.builtin "isinstance") := by decide +kernel
theorem calli {k : UK} {a : E} {y z : Expr} {n : Str} {p pos : Pos} {t : String} (F : Fx G c T pe cs W X) (hy : Gd T pe W cs X a y) (hn : notStar y = true) (hg : gl c n = true) (hb : n = "isinstance") (hz : isTyp c t z = true) (ht : (t : Str) ∈ bltNames) (htv : bootBuiltins t = some (.type t)) (htn : (t : Str) ≠ "__name__")
    (hc : CallR X (.builtin "isinstance") (isiOf T t (opUn k))) : PE X (.Call (.Name n p) [y, z] [] pos) (tE T pe W cs (.un k a)) := by
  subst hb
  unfold isTyp at hz
  split at hz
  · rename_i m q
    rw [Bool.and_eq_true, decide_eq_true_eq] at hz
    obtain ⟨g3, g4⟩ := F.gl hz.1
    obtain ⟨g1, g2⟩ := F.gl hg
    have e := hz.2
    subst e
    have pz : PE X (.Name (t : Str) q) (tC (.ty t)) := pe_bltn g3 (F.blt _ ht) htv rfl htn g4
    refine peI (pe_callB hc g1 (F.blt _ (by decide)) boot_isinst (pa_cons hy.pe_ (pa_cons pz pa_nil rfl) (star_cons hn)) (by decide) g2 (star_cons hn) rfl) fun σ H Q h => ?_
    exact tE_mono (s_un k a (.inr trivial) σ H Q h) fun x H1 q => ⟨x, rfl, q⟩
  · cases hz
end
end Iv
end
section
set_option Elab.async false
set_option linter.all false
set_option maxRecDepth 100000
set_option maxHeartbeats 8000000
/-! What is looked at is so: expressions, all forms. -/
namespace Iv
open PySem PySem.Spec PySem.Calls PyProof.Rows L2
theorem takes_no {X : Cx} : L2N.Takes X WF := fun _ _ ⟨_, _, _, _, _, _, _, _, _, _, _, _, _, _, _, _, w⟩ => w.elim
section
variable {G : Gt} {c : Cc} {T : Tx} {pe : Pe} {W : WX} {cs : Iv.Calls} {X : Cx}
theorem Fx.blk (F : Fx G c T pe cs W X) (hh : c.hot = false) (sc : Scope) (s : Shared) (H : Hp) (C : Addr) (cl : List (Str × Addr)) (fp : List Addr) : Fx G (c.blk sc) T pe cs WF (X.blk s H sc (compEnvC sc cl C X.env) fp) :=
  ⟨F.hK, F.hN, F.nd, by
    show relS sc X.env.scope = relS sc c.sc
    rw [F.sc], F.calm, fun _ h => h, F.un, takes_no, F.blt, F.cst, F.okc, F.oke, F.cf, F.cold, (fun a cls d e => by rw [F.cold hh] at e; cases e), (fun h => ⟨(F.xq h).nm, (F.xq h).ve, (F.xq h).cl⟩), F.hf, F.nx⟩
theorem Fx.loc {n : Str} (F : Fx G c T pe cs W X) (h : loc c n = true) : Loc X.env.scope n ∧ (X.fn n = true ∨ X.env.scope.names.lookup n = some .local) := by
  unfold Iv.loc at h
  simp only [Bool.or_eq_true, Bool.and_eq_true, decide_eq_true_eq] at h
  rw [F.sc]
  rcases h with h | ⟨h, h2⟩
  · exact ⟨.inl h, .inr h⟩
  · exact ⟨.inr h, .inl (F.cel n h2)⟩
/-- one name as a target -/
theorem tg1 {i : Nat} {x : Expr} (F : Fx G c T pe cs W X) (h : isTg1 c i x = true) : PG X x (gName i) ∧ notStar x = true := by
  unfold isTg1 at h
  split at h
  · rename_i n p
    rw [Bool.and_eq_true, decide_eq_true_eq] at h
    obtain ⟨n3, n4⟩ := F.loc h.1
    exact ⟨pg_name (by rw [F.hN]; exact F.nd) (by rw [F.hN]; exact h.2) n3 n4, rfl⟩
  · cases h
theorem each_cons {e : Expr} {es : List Expr} {env : PySem.Env} (h : notStar e = true) : assignEach (e :: es) env = (false, assign e env) :: assignEach es env := by
  cases e <;> first | rfl | cases h
theorem tgs {is : List Nat} {xs : List Expr} (F : Fx G c T pe cs W X) (h : isTgs c is xs = true) : PGs X xs (gNs is) ∧ (assignEach xs X.env).length = is.length ∧ (assignEach xs X.env).findIdx? (·.1) = none := by
  induction is generalizing xs with
  | nil =>
    cases xs with
    | nil => exact ⟨pgs_nil, rfl, rfl⟩
    | cons x xs => cases h
  | cons i is ih =>
    cases xs with
    | nil => cases h
    | cons x xs =>
      rw [isTgs, Bool.and_eq_true] at h
      obtain ⟨h1, h2⟩ := tg1 F h.1
      obtain ⟨h3, h4, h5⟩ := ih h.2
      refine ⟨pgs_cons h1 h3 (by rw [each_cons h2]; rfl), by rw [each_cons h2, List.length_cons, h4]; rfl, ?_⟩
      rw [each_cons h2, List.findIdx?_cons]
      simp [h5]
theorem tg_ok {tg : List Nat} {x : Expr} (F : Fx G c T pe cs W X) (h : isTg c tg x = true) : PG X x (gT T.K tg) := by
  unfold isTg at h
  split at h
  · exact (tg1 F h).1
  · rename_i hn
    split at h
    · rename_i xs k p
      rw [Bool.and_eq_true] at h
      obtain ⟨h1, h2, h3⟩ := tgs F h.2
      have g := pg_tup (pos := p) (k := k) (F.calm (by simpa using h.1)) h1 h2 h3
      unfold gT
      split
      · rename_i i
        exact absurd rfl (hn i)
      · rw [F.hK]; exact g
    · cases h
/-- a comprehension's parts -/
theorem lc_parts {elt : E} {tg : List Nat} {cond : List E} {y t : Expr} {ifs : List Expr} {sc : Scope} (F : Fx G c T pe cs W X) (hh : c.hot = false)
    (h1 : blkC c.N c.sc sc (tg.filterMap fun i => (c.N[i]?).map fun n => (n, i)) = true) (h2 : (tg.all fun i => (c.N[i]?).isSome) = true) (h3 : isTg (c.blk sc) tg t = true)
    (he : ∀ (W : WX) (X : Cx), Fx G (c.blk sc) T pe cs W X → Gd T pe W cs X elt y) (hc : ∀ (W : WX) (X : Cx), Fx G (c.blk sc) T pe cs W X → GdL T pe W cs X cond ifs) :
    ∃ own : List (Str × Nat), own.map (·.2) = tg ∧ BlkOk X.N X.env.scope sc own ∧
      (∀ (s : Shared) (H : Hp) (C : Addr) (cl : List (Str × Addr)) (fp : List Addr), PG (X.blk s H sc (compEnvC sc cl C X.env) fp) t (gT T.K tg)) ∧
      (∀ (s : Shared) (H : Hp) (C : Addr) (cl : List (Str × Addr)) (fp : List Addr), PTs (X.blk s H sc (compEnvC sc cl C X.env) fp) ifs (tCs T pe cs cond)) ∧
      (∀ (s : Shared) (H : Hp) (C : Addr) (cl : List (Str × Addr)) (fp : List Addr), PE (X.blk s H sc (compEnvC sc cl C X.env) fp) y (tE T pe WF cs elt)) := by
  refine ⟨tg.filterMap fun i => (c.N[i]?).map fun n => (n, i), ?_, ?_, fun s H C cl fp => tg_ok (F.blk hh sc s H C cl fp) h3, fun s H C cl fp => ?_, fun s H C cl fp => (he _ _ (F.blk hh sc s H C cl fp)).pe_⟩
  · clear h1 h3 he hc
    induction tg with
    | nil => rfl
    | cons i tg ih =>
      rw [List.all_cons, Bool.and_eq_true] at h2
      obtain ⟨n, hn⟩ := Option.isSome_iff_exists.mp h2.1
      rw [List.filterMap_cons, hn]
      show i :: _ = _
      rw [ih h2.2]
  · rw [F.hN, F.sc]
    exact blkOk_by h1
  · have g := hc _ _ (F.blk hh sc s H C cl fp)
    cases g with
    | nil => exact pts_nil
    | cons _ _ g r =>
      cases r with
      | nil => exact pts_one g.pt
      | cons _ _ _ _ => exact ⟨fun _ _ _ _ _ _ q => q.elim⟩
theorem iter_ok {k : IK} {es : List E} {tg it : Expr} {ys : List Expr} (F : Fx G c T pe cs W X) (h : iterArg c k es.length it = some ys) (g : GdL T pe W cs X es ys) : PI X tg it (tI T pe W cs k es) ∧ notSet it = true := by
  have many : ∀ {k : IK}, rngArg c k es.length it = some ys → ∃ p q, it = .Call (.Name (iterName k) p) ys [] q ∧ Gl X (iterName k) ∧ es.length = iterLen k := by
    intro k h
    unfold rngArg at h
    split at h
    · split at h
      · rename_i hh
        simp only [Bool.and_eq_true, decide_eq_true_eq] at hh
        obtain ⟨h1, h2, h3⟩ := hh
        cases h
        subst h2
        exact ⟨_, _, rfl, (F.gl h1).1, h3⟩
      · cases h
    · cases h
  have st := g.star
  cases k with
  | seq =>
    unfold iterArg at h
    dsimp only at h
    split at h
    · rename_i h0
      cases h
      obtain ⟨e, rfl, h1, g⟩ := g.one
      exact ⟨piI (pi_seq g.pe_) (i_seq F.hK e h1), h0⟩
    · cases h
  | str =>
    unfold iterArg at h
    dsimp only at h
    split at h
    · rename_i h0
      cases h
      obtain ⟨e, rfl, h1, g⟩ := g.one
      exact ⟨piI (pi_str g.pe_) (i_str e), h0⟩
    · cases h
  | rng1 =>
    obtain ⟨p, q, rfl, g1, hl⟩ := many (k := .rng1) h
    rw [g.len] at hl
    rcases ys with _ | ⟨y, _ | ⟨z, ys⟩⟩
    · cases hl
    · exact ⟨piI (pi_range1 g1 (F.blt _ (by decide)) g.pa (by rw [star_cons (by simpa using st)]; rfl)) (i_rng1 es), rfl⟩
    · cases hl
  | rng2 =>
    obtain ⟨p, q, rfl, g1, hl⟩ := many (k := .rng2) h
    rw [g.len] at hl
    rcases ys with _ | ⟨y, _ | ⟨z, _ | ⟨w, ys⟩⟩⟩
    · cases hl
    · cases hl
    · simp only [List.all_cons, List.all_nil, Bool.and_true, Bool.and_eq_true] at st
      exact ⟨piI (pi_range2 g1 (F.blt _ (by decide)) g.pa (by rw [star_cons st.1, star_cons st.2]; rfl) (by rw [star_cons st.2]; rfl)) (i_rng2 es), rfl⟩
    · cases hl
  | rng3 =>
    obtain ⟨p, q, rfl, g1, hl⟩ := many (k := .rng3) h
    rw [g.len] at hl
    rcases ys with _ | ⟨y, _ | ⟨z, _ | ⟨w, _ | ⟨u, ys⟩⟩⟩⟩
    · cases hl
    · cases hl
    · cases hl
    · rw [List.all_cons, Bool.and_eq_true] at st
      exact ⟨piI (pi_range3 g1 (F.blt _ (by decide)) g.pa (star_cons st.1) (star_all st.2)) (i_rng3 es), rfl⟩
    · cases hl
  | rev =>
    obtain ⟨p, q, rfl, g1, hl⟩ := many (k := .rev) h
    rw [g.len] at hl
    rcases ys with _ | ⟨y, _ | ⟨z, ys⟩⟩
    · cases hl
    · obtain ⟨e, rfl, h5, _⟩ := g.one
      exact ⟨piI (pi_reversed g1 (F.blt _ (by decide)) g.pa (by rw [star_cons (by simpa using st)]; rfl)) (i_rev F.hK e h5), rfl⟩
    · cases hl
theorem mem_blt {n : Str} (h : bltNames.contains n = true) : n ∈ bltNames := List.contains_iff_mem.mp h
theorem unArg_nam {k : UK} {s : Bool} {x y : Expr} (F : Fx G c T pe cs W X) (hk : unForm k = .nam) (h : unArg c k s x = some y) : ∃ p q, x = .Call (.Name (unName k) p) [y] [] q ∧ gl c (unName k) = true ∧ notStar y = true ∧ (calmUn k = true → X.calm = true) := by
  unfold unArg at h
  rw [hk] at h
  dsimp only at h
  split at h
  · split at h
    · rename_i hh
      simp only [Bool.and_eq_true, decide_eq_true_eq] at hh
      obtain ⟨⟨h1, h2⟩, h3, h4⟩ := hh
      cases h
      subst h2
      exact ⟨_, _, rfl, h1, h3, fun z => F.calm (by simpa [z] using h4)⟩
    · cases h
  · cases h
theorem unArg_isi {k : UK} {s : Bool} {x y : Expr} (hk : unForm k = .isi) (h : unArg c k s x = some y) : ∃ n p q z, x = .Call (.Name n p) [y, z] [] q ∧ gl c n = true ∧ n = "isinstance" ∧ notStar y = true ∧ isTyp c (unName k) z = true := by
  unfold unArg at h
  rw [hk] at h
  dsimp only at h
  split at h
  · split at h
    · rename_i hh
      simp only [Bool.and_eq_true, decide_eq_true_eq] at hh
      obtain ⟨⟨h1, h2⟩, ⟨h3, h4⟩, h5⟩ := hh
      cases h
      exact ⟨_, _, _, _, rfl, h1, h2, h3, h4⟩
    · cases h
  · cases h
theorem unArg_mth {k : UK} {s : Bool} {x y : Expr} (hk : unForm k = .mth) (h : unArg c k s x = some y) : ∃ ap p, x = .Call (.Attribute y (unName k) ap) [] [] p ∧ plainBase y = true ∧ (ap.endLine == p.line) = true := by
  unfold unArg at h
  rw [hk] at h
  dsimp only at h
  split at h
  · split at h
    · rename_i hh
      simp only [Bool.and_eq_true, decide_eq_true_eq] at hh
      obtain ⟨⟨h1, h2⟩, h3⟩ := hh
      cases h
      subst h1
      exact ⟨_, _, rfl, h2, h3⟩
    · cases h
  · cases h
/-- a built-in of one argument -/
theorem un_ok {k : UK} {a : E} {s : Bool} {x y : Expr} (F : Fx G c T pe cs W X) (h : unArg c k s x = some y) (ih : Gd T pe W cs X a y) : Gd T pe W cs X (.un k a) x := by
  cases k with
  | len =>
    obtain ⟨p, q, rfl, h1, h3, _⟩ := unArg_nam F rfl h
    exact .plain (call1 F ih h3 h1 (mem_blt (by decide)) boot_len (by decide) (cu_len F.hK)) rfl rfl
  | int =>
    obtain ⟨p, q, rfl, h1, h3, _⟩ := unArg_nam F rfl h
    exact .plain (call1T F ih h3 h1 (mem_blt (by decide)) PyProof.Rows.boot_int (by decide) cu_int) rfl rfl
  | str =>
    obtain ⟨p, q, rfl, h1, h3, _⟩ := unArg_nam F rfl h
    exact .plain (call1T F ih h3 h1 (mem_blt (by decide)) PyProof.Rows.boot_str (by decide) (cu_str F.hK (by have := F.un; omega))) rfl rfl
  | abs =>
    obtain ⟨p, q, rfl, h1, h3, _⟩ := unArg_nam F rfl h
    exact .plain (call1 F ih h3 h1 (mem_blt (by decide)) PyProof.Rows.boot_abs (by decide) cu_abs) rfl rfl
  | max =>
    obtain ⟨p, q, rfl, h1, h3, h4⟩ := unArg_nam F rfl h
    exact .plain (call1 F ih h3 h1 (mem_blt (by decide)) PyProof.Rows.boot_max (by decide) (cu_max (h4 rfl))) rfl rfl
  | sum =>
    obtain ⟨p, q, rfl, h1, h3, h4⟩ := unArg_nam F rfl h
    exact .plain (call1 F ih h3 h1 (mem_blt (by decide)) PyProof.Rows.boot_sum (by decide) (cu_sum (h4 rfl))) rfl rfl
  | all =>
    obtain ⟨p, q, rfl, h1, h3, h4⟩ := unArg_nam F rfl h
    exact .plain (call1 F ih h3 h1 (mem_blt (by decide)) PyProof.Rows.boot_all (by decide) (cu_all (h4 rfl))) rfl rfl
  | tuple =>
    obtain ⟨p, q, rfl, h1, h3, _⟩ := unArg_nam F rfl h
    exact .plain (call1T F ih h3 h1 (mem_blt (by decide)) PyProof.Rows.boot_tuple (by decide) (cu_tuple F.hK)) rfl rfl
  | lof =>
    obtain ⟨p, q, rfl, h1, h3, _⟩ := unArg_nam F rfl h
    obtain ⟨g1, g2⟩ := F.gl h1
    refine .new (peI (pe_callTy call_list_of g1 (F.blt _ (mem_blt (by decide))) PyProof.Rows.boot_list (pa_cons ih.pe_ pa_nil (star_cons h3)) (by decide) g2 (star_cons h3) rfl) fun σ H Q h => ?_) (lof_new a) rfl rfl
    exact n_lof F.hK a σ H Q h
  | isStr =>
    obtain ⟨n, p, q, z, rfl, h1, h2, h3, h4⟩ := unArg_isi rfl h
    exact .plain (calli F ih h3 h1 h2 h4 (mem_blt (by decide)) PyProof.Rows.boot_str (by decide) (cu_isStr F.hK)) rfl rfl
  | isTup =>
    obtain ⟨n, p, q, z, rfl, h1, h2, h3, h4⟩ := unArg_isi rfl h
    exact .plain (calli F ih h3 h1 h2 h4 (mem_blt (by decide)) PyProof.Rows.boot_tuple (by decide) (cu_isTup F.hK)) rfl rfl
  | isLst =>
    obtain ⟨n, p, q, z, rfl, h1, h2, h3, h4⟩ := unArg_isi rfl h
    exact .plain (calli F ih h3 h1 h2 h4 (mem_blt (by decide)) PyProof.Rows.boot_list (by decide) cu_isLst) rfl rfl
  | isdigit =>
    obtain ⟨ap, p, rfl, h2, h3⟩ := unArg_mth rfl h
    refine .plain (peI (pe_m0 PySem.F.slot_str_isdigit PySem.F.type_str_isdigit (mu_isdigit (T := T)) ih.pe_ (base_plain h2) h3) fun σ H Q q => ?_) rfl rfl
    refine tE_mono (s_un .isdigit a (.inr trivial) σ H Q q) fun x H1 q1 => ⟨?_, rfl, q1⟩
    obtain ⟨Mb, r, ow, st, d, W, σ, S, hx, q2⟩ := q1
    have q2 : OK T Mb ow W σ r H1 (opIsdigit d st) (Post T Mb ow Q) := q2
    unfold opIsdigit at q2
    split at q2
    · exact ⟨_, hx.str⟩
    · exact q2.elim
  | pop =>
    obtain ⟨ap, p, rfl, h2, h3⟩ := unArg_mth rfl h
    refine .plain (peI (pe_bm0 PySem.F.plainAttrs_list PySem.F.slot_list_pop PySem.F.type_list_pop (mu_pop (T := T)) ih.pe_ (base_plain h2) h3) fun σ H Q q => ?_) rfl rfl
    refine tE_mono (s_un .pop a (.inr trivial) σ H Q q) fun x H1 q1 => ⟨?_, rfl, q1⟩
    obtain ⟨Mb, r, ow, st, d, W, σ, S, hx, q2⟩ := q1
    replace q2 : OK T Mb ow W σ r H1 (opPop d st) (Post T Mb ow Q) := q2
    unfold opPop at q2
    split at q2
    · rename_i n
      split at q2
      · rename_i ds hd
        obtain ⟨p, xs, rfl, h5, _⟩ := hx.list S (show asL (.ref n) st = some ds by simp only [asL, hd])
        exact .inl ⟨rfl, xs, .of h5⟩
      · exact q2.elim
    · exact q2.elim
end
end Iv
end
section
set_option Elab.async false
set_option linter.all false
set_option maxRecDepth 100000
set_option maxHeartbeats 4000000
/-! What is looked at is so: what the exception that a suite holds is asked. -/
namespace Iv
open PySem PySem.Spec PySem.Calls PyProof.Rows L2
section
variable {G : Gt} {c : Cc} {T : Tx} {pe : Pe} {W : WX} {cs : Iv.Calls} {X : Cx}
/-- the name i holds the exception at hand -/
theorem getX_rel {Mb : AP'} {r : List Addr} {ow : List (Option Addr)} {H : Hp} {st : Store} {σ : L2.St} {env : SEnv} {i : Nat} {x : Exc} (R : Rel T pe Mb r ow H st σ env) (e : getX env i = some x) :
    ∃ a cls d, pe = some (a, cls, d) ∧ σ[i]? = some (some (.ref a)) ∧ ExcR T H (Ms Mb r ow) r x cls d := by
  unfold getX at e
  split at e
  · rename_i y e'
    cases e
    obtain ⟨o, _, h⟩ := R.sl i _ e'
    exact h
  · cases e
theorem pe_no {x : Expr} {t : TE} (h : ∀ σ H Q, ¬ t σ H Q) : PE X x t := ⟨fun pins s σ H Q I z => (h _ _ _ z).elim⟩
/-- the exception's class and fields -/
theorem hasX (F : Fx G c T pe cs W X) {Mb : AP'} {r : List Addr} {ow : List (Option Addr)} {H : Hp} {x : Exc} {a : Addr} {cls : Value} {d : Option Addr} (hn : G.hf.isEmpty = false) (hp : pe = some (a, cls, d)) (e : ExcR T H (Ms Mb r ow) r x cls d) :
    ∃ D od, T.xcls x.c = .ref D ∧ HasX X H a D od ∧ ∀ f dd, x.fs.lookup f = some dd → f < 15 → ∃ p v, od = some p ∧ p.2.lookup (fnm f) = some v ∧ Rep T.toTb H (Ms Mb r ow) r v dd := by
  obtain ⟨⟨e1, e2⟩, e3⟩ := e
  obtain ⟨oe, h1, h2, h3, _⟩ := F.ph a cls d hp
  obtain ⟨D, h4, h5⟩ := (F.xq hn).cl _ e2
  have hc : cls = .ref D := e1.trans h4
  subst hc
  rcases e3 with ⟨e3, e4⟩ | ⟨dd, fs, e3, e4, e5, e6⟩
  · subst e4
    exact ⟨D, none, h4, ⟨h5, oe, .inl h1, h2.zc, h3, fun p z => by cases z⟩, fun f d2 z _ => by rw [e3] at z; cases z⟩
  · subst e3
    refine ⟨D, some (dd, fs), h4, ⟨h5, oe, .inl h1, h2.zc, h3, fun p z => by cases z; exact e4⟩, fun f d2 z hf => ?_⟩
    obtain ⟨v, l1, l2⟩ := e6.look hf z
    exact ⟨_, v, rfl, l1, l2⟩
/-- a def called with it -/
theorem hcall_ok {f i : Nat} {n : Str} {y : Expr} {q pos : Pos} (F : Fx G c T pe cs W X) (h1 : gl c n = true) (h2 : G.hf.lookup n = some f) (h3 : isVar c i y = true) (h4 : notStar y = true) : PE X (.Call (.Name n q) [y] [] pos) (tE T pe W cs (.hcall f i)) := by
  obtain ⟨g1, g2⟩ := F.gl h1
  obtain ⟨k, fa, fd, ps, m1, m2, m3, m4, m5⟩ := F.hf n f h2
  cases hpe : pe with
  | none =>
    refine pe_no fun σ H Q ⟨Mb, r, ow, st, env, R, h⟩ => ?_
    rw [evalE] at h
    cases e : getX env i with
    | none => rw [e] at h; exact h.elim
    | some x =>
      obtain ⟨_, _, _, z, _⟩ := getX_rel R e
      cases z
  | some p =>
    obtain ⟨a, cls, d⟩ := p
    obtain ⟨oe, h5, h6, ⟨us, h7⟩, h8⟩ := F.ph a cls d hpe
    have hot : L2H.Hot1 X.A (a, oe) := ⟨h8, us, h7, h6.2.2 us h7⟩
    have hst : [y].all notStar = true := by simp [h4]
    refine peI (pe_callX (p := (a, oe)) m5 m4 hot h5 g1 m1 m2 m3 (pa_cons (pe_isVar F h3) pa_nil (star_cons h4)) hst g2) fun σ H Q ⟨Mb, r, ow, st, env, R, h⟩ => ?_
    rw [evalE] at h
    cases e : getX env i with
    | none => rw [e] at h; exact h.elim
    | some x =>
      rw [e] at h
      obtain ⟨a', cls', d', z, z2, z3⟩ := getX_rel R e
      cases z
      refine ⟨.ref a, z2, rfl, cls, d, x, Mc Mb ow, r, st, ⟨h6, us, h7⟩, by rw [msc]; exact R.st, by rw [msc]; exact z3, ?_⟩
      revert h
      show OK T Mb ow W σ r H (noexn (cs.hot f x st)) _ → _
      generalize cs.hot f x st = w
      cases w with
      | ok d2 st1 =>
        intro h r1 H1 n1 s1 v hv
        rw [msc] at s1 hv
        exact h r1 H1 n1 s1 v hv
      | exn y2 st1 => exact fun h => h
      | bad => exact fun h => h
theorem boot_ve : bootBuiltins "ValueError" = some (.type "ValueError") := by decide +kernel
/-- isinstance(e, C) -/
theorem isExc_ok {k i : Nat} {n m : Str} {y : Expr} {q q2 pos : Pos} (F : Fx G c T pe cs W X) (hn : G.hf.isEmpty = false) (h1 : gl c n = true) (h2 : n = "isinstance") (h3 : gl c m = true) (h4 : clsB G k m = true) (h5 : isVar c i y = true) (h6 : notStar y = true) :
    PE X (.Call (.Name n q) [y, .Name m q2] [] pos) (tE T pe W cs (.isExc i k)) := by
  subst h2
  obtain ⟨g1, g2⟩ := F.gl h1
  obtain ⟨g3, g4⟩ := F.gl h3
  have go : ∀ {cv : V} {u : Value}, PE X (.Name m q2) (tC cv) → (∀ w, RelV cv w → w = u) → (∀ j, T.okx j → ∃ D, T.xcls j = .ref D ∧ PySem.W.kitOne X.K (.ref D) u = some (isSub j k)) → PE X (.Call (.Name "isinstance" q) [y, .Name m q2] [] pos) (tE T pe W cs (.isExc i k)) := by
    intro cv u pz hu hk
    refine peI (pe_callB (call_isX (X := X)) g1 (F.blt _ (by decide)) boot_isinst (pa_cons (pe_isVar F h5) (pa_cons pz pa_nil rfl) (star_cons h6)) (by decide) g2 (star_cons h6) rfl) fun σ H Q ⟨Mb, r, ow, st, env, R, h⟩ => ?_
    rw [evalE] at h
    cases e : getX env i with
    | none => rw [e] at h; exact h.elim
    | some x =>
      rw [e] at h
      obtain ⟨a, cls, d, z, z2, z3⟩ := getX_rel R e
      obtain ⟨D, od, x1, x2, _⟩ := hasX F hn z z3
      obtain ⟨D', x3, x4⟩ := hk _ z3.1.2
      rw [x1] at x3
      cases x3
      exact ⟨.ref a, z2, a, D, od, cv, u, _, rfl, x2, hu, x4, h.now R.st _ (.bl _)⟩
  unfold clsB at h4
  split at h4
  · rename_i hk
    rw [decide_eq_true_eq] at h4
    subst hk h4
    refine go (cv := .ty "ValueError") (u := .type "ValueError") (pe_bltn g3 (F.blt _ (by decide)) boot_ve rfl (by decide) g4) (fun w hw => hw) fun j hj => ?_
    obtain ⟨D, d1, d2⟩ := (F.xq hn).ve j hj
    exact ⟨D, d1, by rw [d2]; simp [isSub]⟩
  · rename_i hk
    rw [decide_eq_true_eq] at h4
    obtain ⟨C, c1, c2⟩ := (F.xq hn).nm m k hk h4
    exact go (cv := .ref C) (u := .ref C) (pe_glob g3 c1 rfl g4) (fun w hw => hw) c2
/-- e.f -/
theorem excFld_ok {f i : Nat} {y : Expr} {pos : Pos} (F : Fx G c T pe cs W X) (hn : G.hf.isEmpty = false) (h1 : plainBase y = true) (h2 : f < 15) (h3 : isVar c i y = true) : PE X (.Attribute y (fnm f) pos) (tE T pe W cs (.excFld i f)) := by
  refine peI (pe_fldX h2 (pe_isVar F h3) (base_plain h1)) fun σ H Q ⟨Mb, r, ow, st, env, R, h⟩ => ?_
  rw [evalE] at h
  cases e : getX env i with
  | none => rw [e] at h; exact h.elim
  | some x =>
    rw [e] at h
    obtain ⟨a, cls, d, z, z2, z3⟩ := getX_rel R e
    obtain ⟨D, od, x1, x2, x3⟩ := hasX F hn z z3
    obtain ⟨dd, y1, y2⟩ := h.opt
    obtain ⟨p, v, rfl, v1, v2⟩ := x3 f dd y1 h2
    exact ⟨.ref a, z2, a, D, p, v, rfl, x2, v1, y2.now R.st _ v2⟩
/-- isinstance(e, C), e a value -/
theorem isV_ok {k : Nat} {n m : Str} {a : E} {y : Expr} {q q2 pos : Pos} (F : Fx G c T pe cs W X) (hn : G.hf.isEmpty = false) (h1 : gl c n = true) (h2 : n = "isinstance") (h3 : gl c m = true) (h4 : clsB G k m = true) (h5 : Gd T pe W cs X a y) (h6 : notStar y = true) :
    PE X (.Call (.Name n q) [y, .Name m q2] [] pos) (tE T pe W cs (.isV a k)) := by
  subst h2
  obtain ⟨g1, g2⟩ := F.gl h1
  obtain ⟨g3, g4⟩ := F.gl h3
  have go : ∀ {cv : V} {u : Value}, PE X (.Name m q2) (tC cv) → (∀ w, RelV cv w → w = u) → (∀ j, T.okx j → ∃ D, T.xcls j = .ref D ∧ PySem.W.kitOne X.K (.ref D) u = some (isSub j k)) → PE X (.Call (.Name "isinstance" q) [y, .Name m q2] [] pos) (tE T pe W cs (.isV a k)) := by
    intro cv u pz hu hk
    refine peI (pe_callB (call_isX (X := X)) g1 (F.blt _ (by decide)) boot_isinst (pa_cons h5.pe_ (pa_cons pz pa_nil rfl) (star_cons h6)) (by decide) g2 (star_cons h6) rfl) fun σ H Q h => ?_
    refine tE_mono (s_isV a k u hk F.hK σ H Q h) fun x H1 ⟨b, D, od, t, e1, e2, e3, e4⟩ => ?_
    subst e1
    exact ⟨b, D, od, cv, u, t, rfl, e2, hu, e3, e4⟩
  unfold clsB at h4
  split at h4
  · rename_i hk
    rw [decide_eq_true_eq] at h4
    subst hk h4
    refine go (cv := .ty "ValueError") (u := .type "ValueError") (pe_bltn g3 (F.blt _ (by decide)) boot_ve rfl (by decide) g4) (fun w hw => hw) fun j hj => ?_
    obtain ⟨D, d1, d2⟩ := (F.xq hn).ve j hj
    exact ⟨D, d1, by rw [d2]; simp [isSub]⟩
  · rename_i hk
    rw [decide_eq_true_eq] at h4
    obtain ⟨C, c1, c2⟩ := (F.xq hn).nm m k hk h4
    exact go (cv := .ref C) (u := .ref C) (pe_glob g3 c1 rfl g4) (fun w hw => hw) c2
theorem excF_hi {k : Nat} (h : 3 ≤ k) (l : List Nat) : excFields k [.str l] = some [] := by
  obtain ⟨j, rfl⟩ : ∃ j, k = j + 3 := ⟨k - 3, by omega⟩
  rfl
theorem excF_1 {k : Nat} (h1 : 1 ≤ k) (h : k < 3) (l : List Nat) : excFields k [.str l] = some [(k - 1, dfltX k)] := by
  rcases (by omega : k = 1 ∨ k = 2) with rfl | rfl <;> rfl
theorem excF_2 {k : Nat} (h1 : 1 ≤ k) (h : k < 3) (l : List Nat) (d : D) : excFields k [.str l, d] = some [(k - 1, d)] := by
  rcases (by omega : k = 1 ∨ k = 2) with rfl | rfl <;> rfl
/-- a refusal made, as a value -/
theorem newX_ok {k : Nat} {n : Str} {es : List E} {ys : List Expr} {q pos : Pos} (F : Fx G c T pe cs W X) (h0 : c.hot = false) (hv : G.xv = true) (h1 : gl c n = true) (h2 : G.xc.lookup n = some k) (h3 : 1 ≤ k) (h4 : es.length = 1 ∨ (k < 3 ∧ es.length = 2)) (g : GdL T pe W cs X es ys) :
    PE X (.Call (.Name n q) ys [] pos) (tE T pe W cs (.newX k es)) := by
  obtain ⟨g1, g2⟩ := F.gl h1
  have N := F.nx h0 hv n k h2 h3
  obtain ⟨C, c1, c2, c3, c4, hc⟩ := N.cls
  have hK := F.hK
  rcases hc with ⟨k3, bmB, B, nId, iId, x1, x2⟩ | ⟨k3, x1, fI, fd, ps, m, u, dv, y1, y2, y3, y4, y5, y6, y7, y8⟩
  · rcases h4 with h4 | ⟨h4, _⟩
    · cases g with
      | nil => cases h4
      | @cons e y es ys s nn gg gr =>
        cases gr with
        | cons _ _ _ _ => simp at h4
        | nil =>
          refine peI (pe_exT x1 x2 c3 c4 g1 gg.pe_ (star_cons nn) g2) fun σ H Q ⟨Mb, r, ow, st, env, R, h⟩ => ?_
          have ee : evalE cs (.newX k [e]) env st = (evalE cs e env st).bind fun x s1 => mkX k [x] s1 := by
            rw [evalE, evalL, Res.bind_assoc]
            congr 1
          rw [ee] at h
          refine tE_go R h fun r1 H1 st1 d x n1 R1 hx h1 a t ha ht nt => ?_
          rw [s] at hx
          have hx : Rep T.toTb H1 (Ms Mb r1 ow) r1 x d := hx
          unfold mkX at h1
          split at h1
          · rename_i l rr hl
            cases hl
            cases hx
            rw [excF_hi k3] at h1
            exact mkX0 R1 N.ok c1 (by rw [hK]; exact c2) ha ht nt h1
          · exact h1.elim
    · omega
  · have hf : k - 1 < 15 := by omega
    rcases h4 with h4 | ⟨_, h4⟩
    · cases g with
      | nil => cases h4
      | @cons e y es ys s nn gg gr =>
        cases gr with
        | cons _ _ _ _ => simp at h4
        | nil =>
          refine peI (pe_exI x1 y1 y2 y3 y4 y6 (.cons y7 .nil) F.tk g1 c3 (pa_cons gg.pe_ pa_nil (star_cons nn)) (GdL.cons s nn gg .nil).star g2) fun σ H Q ⟨Mb, r, ow, st, env, R, h⟩ => ?_
          have ee : evalE cs (.newX k [e]) env st = (evalE cs e env st).bind fun x s1 => mkX k [x] s1 := by
            rw [evalE, evalL, Res.bind_assoc]
            congr 1
          rw [ee] at h
          refine tE_go R h fun r1 H1 st1 d x n1 R1 hx h1 => ?_
          rw [s] at hx
          have hx : Rep T.toTb H1 (Ms Mb r1 ow) r1 x d := hx
          unfold mkX at h1
          split at h1
          · rename_i l rr hl
            cases hl
            cases hx
            rw [excF_1 h3 k3] at h1
            exact ⟨_, _, rfl, fun a t dx ha ht hd n1 n2 n3 => mkX1 R1 N.ok c1 (by rw [hK]; exact c2) ha ht hd n1 n2 n3 hf (y8 _ _ _) h1⟩
          · exact h1.elim
    · cases g with
      | nil => cases h4
      | @cons e y es ys s nn gg gr =>
        cases gr with
        | nil => simp at h4
        | @cons e2 yy es ys s2 nn2 gg2 gr =>
          cases gr with
          | cons _ _ _ _ => simp at h4
          | nil =>
            refine peI (pe_exI x1 y1 y2 y3 y4 y5 .nil F.tk g1 c3 (pa_cons gg.pe_ (pa_cons gg2.pe_ pa_nil (star_cons nn2)) (star_cons nn)) (GdL.cons s nn gg (.cons s2 nn2 gg2 .nil)).star g2) fun σ H Q ⟨Mb, r, ow, st, env, R, h⟩ => ?_
            have ee : evalE cs (.newX k [e, e2]) env st = (evalE cs e env st).bind fun x s1 => (evalE cs e2 env s1).bind fun z s2 => mkX k [x, z] s2 := by
              rw [evalE, evalL, Res.bind_assoc]
              congr 1; funext x s1
              rw [evalL, Res.bind_assoc, Res.bind_assoc]
              congr 1
            rw [ee] at h
            refine tE_go R h fun r1 H1 st1 d x n1 R1 hx h1 => ?_
            rw [s] at hx
            have hx : Rep T.toTb H1 (Ms Mb r1 ow) r1 x d := hx
            refine tE_go R1 h1 fun r2 H2 st2 d2 x2 n2 R2 hx2 h2 => ?_
            rw [s2] at hx2
            have hx2 : Rep T.toTb H2 (Ms Mb r2 ow) r2 x2 d2 := hx2
            have hx := hx.mono n2.grow
            unfold mkX at h2
            split at h2
            · rename_i l rr hl
              cases hl
              cases hx
              rw [excF_2 h3 k3] at h2
              exact ⟨_, _, rfl, fun a t dx ha ht hd n1 n2 n3 => mkX1 R2 N.ok c1 (by rw [hK]; exact c2) ha ht hd n1 n2 n3 hf hx2 h2⟩
            · exact h2.elim
end
end Iv
end
section
set_option Elab.async false
set_option linter.all false
set_option maxRecDepth 100000
set_option maxHeartbeats 8000000
/-! What is looked at is so: every expression. -/
namespace Iv
open PySem PySem.Spec PySem.Calls PyProof.Rows L2
section
variable {G : Gt} {c : Cc} {T : Tx} {pe : Pe} {W : WX} {cs : Iv.Calls} {X : Cx}
theorem b2Arg_nam {k : BK} {s : Bool} {x y z : Expr} (F : Fx G c T pe cs W X) (hk : b2Form k = .nam) (h : b2Arg c k s x = some (y, z)) : ∃ p q, x = .Call (.Name (bkName k) p) [y, z] [] q ∧ gl c (bkName k) = true ∧ notStar y = true ∧ notStar z = true ∧ X.calm = true ∧ s = true := by
  unfold b2Arg at h
  rw [hk] at h
  dsimp only at h
  split at h
  · split at h
    · rename_i hh
      simp only [Bool.and_eq_true, decide_eq_true_eq] at hh
      obtain ⟨⟨h1, h2⟩, ⟨⟨h3, h4⟩, h5⟩, h6⟩ := hh
      cases h
      subst h2
      exact ⟨_, _, rfl, h1, h3, h4, F.calm (by simpa using h5), h6⟩
    · cases h
  · cases h
theorem b2Arg_mth {k : BK} {s : Bool} {x y z : Expr} (hk : b2Form k = .mth) (h : b2Arg c k s x = some (y, z)) : ∃ ap p, x = .Call (.Attribute y (bkName k) ap) [z] [] p ∧ plainBase y = true ∧ notStar z = true ∧ (ap.endLine == p.line) = true := by
  unfold b2Arg at h
  rw [hk] at h
  dsimp only at h
  split at h
  · split at h
    · rename_i hh
      simp only [Bool.and_eq_true, decide_eq_true_eq] at hh
      obtain ⟨⟨h1, h2⟩, h3, h4⟩ := hh
      cases h
      subst h1
      exact ⟨_, _, rfl, h2, h3, h4⟩
    · cases h
  · cases h
theorem b2_strm {k : BK} {a b : E} {y z : Expr} {id : String} {ap p : Pos} (F : Fx G c T pe cs W X) (hk : k = .join ∨ k = .split ∨ k = .part ∨ k = .strip ∨ k = .lstrip) (slot : PySem.Slot "str" (bkName k) id) (ty : typeOf (.builtin id) = pure (.type "method_descriptor"))
    (rule : MtR X id (rM1 T (opB2 k))) (hy : Gd T pe W cs X a y) (hz : Gd T pe W cs X b z) (h2 : plainBase y = true) (h3 : notStar z = true) (h4 : (ap.endLine == p.line) = true) : PE X (.Call (.Attribute y (bkName k) ap) [z] [] p) (tE T pe W cs (.b2 k a b)) := by
  refine peI (pe_m1 slot ty rule hy.pe_ hz.pe_ (by rw [star_cons h3]; rfl) (base_plain h2) h4) fun σ H Q h => ?_
  obtain ⟨Mb, r, ow, st, env, R, h⟩ := h
  rw [evalE] at h
  refine tE_go R h fun r1 H1 st1 d x n1 R1 hx h1 => ?_
  split at h1
  · rename_i hr
    obtain ⟨l, rfl⟩ := ty_str k hk Mb r1 ow H1 st1 x d R1.st hx.weak hr
    exact ⟨⟨_, rfl⟩, tE_go R1 h1 fun r2 H2 st2 e y n2 R2 hy h2 => ⟨y, rfl, Mb, r2, ow, st2, d, e, W, σ, R2.st, hx.weak.mono n2, hy.weak, h2⟩⟩
  · exact h1.elim
theorem b2_lstm {k : BK} {a b : E} {y z : Expr} {id : String} {ap p : Pos} (F : Fx G c T pe cs W X) (hk : k = .count ∨ k = .index) (slot : PySem.Slot "list" (bkName k) id) (ty : typeOf (.builtin id) = pure (.type "method_descriptor"))
    (rule : MtR X id (rM1 T (opB2 k))) (hy : Gd T pe W cs X a y) (hz : Gd T pe W cs X b z) (h2 : plainBase y = true) (h3 : notStar z = true) (h4 : (ap.endLine == p.line) = true) : PE X (.Call (.Attribute y (bkName k) ap) [z] [] p) (tE T pe W cs (.b2 k a b)) := by
  have hs : [z].all notStar = true := by simp [h3]
  refine peI (pe_bm PySem.F.plainAttrs_list slot ty rule hy.pe_ (pa_cons hz.pe_ pa_nil (star_cons h3)) (base_plain h2) (few_ok hs (show 1 < 30 by decide)) h4 (star_cons h3) rfl) fun σ H Q h => ?_
  refine tE_mono (s_m1 (X := X) k a b "list" (ty_list k hk) (.inr trivial) σ H Q h) fun x H1 ⟨q1, q2⟩ => ⟨q1, ?_⟩
  exact tE_mono q2 fun y H2 q => ⟨y, rfl, q⟩
theorem b2_ok {k : BK} {a b : E} {x y z : Expr} (F : Fx G c T pe cs W X) (h : b2Arg c k (a.strong && b.strong) x = some (y, z)) (hy : Gd T pe W cs X a y) (hz : Gd T pe W cs X b z) : Gd T pe W cs X (.b2 k a b) x := by
  cases k with
  | min2 =>
    obtain ⟨p, q, rfl, h1, h2, h3, h4, h5⟩ := b2Arg_nam F rfl h
    rw [Bool.and_eq_true] at h5
    obtain ⟨g1, g2⟩ := F.gl h1
    have gg : GdL T pe W cs X [a, b] [y, z] := .cons h5.1 h2 hy (.cons h5.2 h3 hz .nil)
    exact .plain (peI (pe_callB (cu_min2 h4) g1 (F.blt _ (by decide)) PyProof.Rows.boot_min gg.pa (by decide) g2 (star_cons h2) (star_all (by simp [h3]))) (s_b2 .min2 a b (.inl rfl) h5.1 h5.2)) rfl rfl
  | max2 =>
    obtain ⟨p, q, rfl, h1, h2, h3, h4, h5⟩ := b2Arg_nam F rfl h
    rw [Bool.and_eq_true] at h5
    obtain ⟨g1, g2⟩ := F.gl h1
    have gg : GdL T pe W cs X [a, b] [y, z] := .cons h5.1 h2 hy (.cons h5.2 h3 hz .nil)
    exact .plain (peI (pe_callB (cu_max2 h4) g1 (F.blt _ (by decide)) PyProof.Rows.boot_max gg.pa (by decide) g2 (star_cons h2) (star_all (by simp [h3]))) (s_b2 .max2 a b (.inr rfl) h5.1 h5.2)) rfl rfl
  | join =>
    obtain ⟨ap, p, rfl, h2, h3, h4⟩ := b2Arg_mth rfl h
    exact .plain (b2_strm F (.inl rfl) PySem.F.slot_str_join PySem.F.type_str_join mu_join hy hz h2 h3 h4) rfl rfl
  | split =>
    obtain ⟨ap, p, rfl, h2, h3, h4⟩ := b2Arg_mth rfl h
    exact .plain (b2_strm F (.inr (.inl rfl)) PySem.F.slot_str_split PySem.F.type_str_split mu_split hy hz h2 h3 h4) rfl rfl
  | part =>
    obtain ⟨ap, p, rfl, h2, h3, h4⟩ := b2Arg_mth rfl h
    exact .plain (b2_strm F (.inr (.inr (.inl rfl))) PySem.F.slot_str_partition PySem.F.type_str_partition mu_part hy hz h2 h3 h4) rfl rfl
  | strip =>
    obtain ⟨ap, p, rfl, h2, h3, h4⟩ := b2Arg_mth rfl h
    exact .plain (b2_strm F (.inr (.inr (.inr (.inl rfl)))) PySem.F.slot_str_strip PySem.F.type_str_strip mu_strip hy hz h2 h3 h4) rfl rfl
  | lstrip =>
    obtain ⟨ap, p, rfl, h2, h3, h4⟩ := b2Arg_mth rfl h
    exact .plain (b2_strm F (.inr (.inr (.inr (.inr rfl)))) PySem.F.slot_str_lstrip PySem.F.type_str_lstrip mu_lstrip hy hz h2 h3 h4) rfl rfl
  | count =>
    obtain ⟨ap, p, rfl, h2, h3, h4⟩ := b2Arg_mth rfl h
    exact .plain (b2_lstm F (.inl rfl) PySem.F.slot_list_count PySem.F.type_list_count (mu_count F.hK) hy hz h2 h3 h4) rfl rfl
  | index =>
    obtain ⟨ap, p, rfl, h2, h3, h4⟩ := b2Arg_mth rfl h
    exact .plain (b2_lstm F (.inr rfl) PySem.F.slot_list_index PySem.F.type_list_index (mu_index F.hK) hy hz h2 h3 h4) rfl rfl
  | get =>
    obtain ⟨ap, p, rfl, h2, h3, h4⟩ := b2Arg_mth rfl h
    have hs : [z].all notStar = true := by simp [h3]
    exact .plain (peI (pe_dget1 (by have := F.un; omega) hy.pe_ hz.pe_ ⟨base_plain h2, few_ok hs (show 1 < 30 by decide), h4, by rw [star_cons h3]; rfl⟩) (s_get a b)) rfl rfl
theorem part_ok {b : Bool} {e : E} {o : Option Expr} {z : Expr} (h : partArg b o = some z) (ih : b = true → Gd T pe W cs X e z) : PO X o (tP T pe W cs b e) := by
  unfold partArg at h
  split at h
  · split at h
    · rename_i hb
      cases h
      subst hb
      exact po_some (ih rfl).pe_
    · cases h
  · split at h
    · cases h
    · rename_i hb
      cases b with
      | true => exact absurd rfl hb
      | false => exact po_none
theorem keys_all {ks : List E} (h : (ks.all fun k => (cKey k).isSome) = true) : ∃ kds : List KD, ks.map cKey = kds.map some := by
  induction ks with
  | nil => exact ⟨[], rfl⟩
  | cons k ks ih =>
    rw [List.all_cons, Bool.and_eq_true] at h
    obtain ⟨kds, e⟩ := ih h.2
    obtain ⟨kd, e2⟩ := Option.isSome_iff_exists.mp h.1
    exact ⟨kd :: kds, by rw [List.map_cons, List.map_cons, e2, e]⟩
theorem optAll_is : ∀ {ys : List (Option Expr)} {zs : List Expr}, optAll ys = some zs → ys = zs.map some
  | [], zs, h => by cases h; rfl
  | some x :: r, zs, h => by
    rw [optAll] at h
    cases e : optAll r with
    | none => rw [e] at h; cases h
    | some q =>
      rw [e] at h
      cases h
      rw [optAll_is e]; rfl
  | none :: r, zs, h => by cases h
theorem pps_ok {ks vs : List E} {ys zs : List Expr} {pos : Pos} (g : GdL T pe W cs X ks ys) (g2 : GdL T pe W cs X vs zs) (hl : ks.length = vs.length) : PPs X pos (ys.map some) zs (tKs T pe W cs ks vs) := by
  induction g generalizing vs zs with
  | nil =>
    cases g2 with
    | nil => exact pps_nil
    | cons _ _ _ _ => cases hl
  | cons s n g r ih =>
    cases g2 with
    | nil => cases hl
    | cons s2 n2 g2 r2 => exact pps_cons g.pe_ g2.pe_ (ih r2 (by simpa using hl))
theorem dct_ok {ks vs : List E} {x : Expr} {ys zs : List Expr} (h : dctArg x = some (ys, zs)) (h1 : (ks.all fun k => (cKey k).isSome) = true) (h2 : ks.length = vs.length) (h3 : ks.length ≤ 15) (g : GdL T pe W cs X ks ys) (g2 : GdL T pe W cs X vs zs) :
    Gd T pe W cs X (.dct ks vs) x := by
  unfold dctArg at h
  split at h
  · rename_i ys0 zs0 p
    cases e : optAll ys0 with
    | none => rw [e] at h; cases h
    | some ys1 =>
      rw [e] at h
      cases h
      have e2 := optAll_is e
      subst e2
      obtain ⟨kds, hk⟩ := keys_all h1
      have hl : (ys.map some).length = zs.length := by rw [List.length_map, ← g.len, ← g2.len, h2]
      cases ks with
      | nil =>
        have : vs = [] := List.length_eq_zero_iff.mp h2.symm
        subst this
        cases g; cases g2
        exact .new (peI pe_dnewK n_dct0) (dct_new [] []) rfl rfl
      | cons k ks =>
        refine .new (peI (pe_disp (pps_ok g g2 h2) ?_ hl ?_ ?_) (n_dct (k :: ks) vs kds hk h2 g2.strong h3)) (dct_new _ _) rfl rfl
        · rw [List.all_map]
          exact List.all_eq_true.mpr fun _ _ => rfl
        · intro z
          have : ys.length = 0 := by
            have := congrArg List.length z
            simpa using this
          rw [← g.len] at this
          cases this
        · rw [List.length_map, ← g.len]; exact h3
  · cases h
theorem const_pe {e : E} {c : Cc} {x : Expr} {k : KD} (h : chkE G e c x = true) (hk : cKey e = some k) : PE X x (tC (kV (kd k))) := by
  cases e <;> first | (cases hk; done) | skip
  · cases hk
    rw [chkE] at h
    unfold isConst at h
    split at h
    · rw [decide_eq_true_eq] at h
      subst h
      exact pe_int
    · cases h
  · cases hk
    rw [chkE] at h
    unfold isConst at h
    split at h
    · rw [decide_eq_true_eq] at h
      subst h
      exact pe_str
    · cases h
theorem consts_of {c : Cc} : ∀ {ks vs : List E} {xs zs : List Expr} {kds vds : List KD}, chkL G ks c xs = true → chkL G vs c zs = true → ks.map cKey = kds.map some → vs.map cKey = vds.map some → ks.length = vs.length → Consts X (xs.map some) zs ((kds.zip vds).map fun p => (kd p.1, kV (kd p.2)))
  | [], vs, xs, zs, kds, vds, h1, h2, hk, hv, hl => by
    have : vs = [] := List.length_eq_zero_iff.mp hl.symm
    subst this
    have e1 : kds = [] := by
      cases kds with
      | nil => rfl
      | cons a b => cases hk
    have e2 : xs = [] := by
      rw [chkL] at h1
      cases xs with
      | nil => rfl
      | cons a b => cases h1
    have e3 : zs = [] := by
      rw [chkL] at h2
      cases zs with
      | nil => rfl
      | cons a b => cases h2
    subst e1; subst e2; subst e3
    exact .nil
  | k :: ks, [], _, _, _, _, _, _, _, _, hl => by cases hl
  | k :: ks, v :: vs, xs, zs, kds, vds, h1, h2, hk, hv, hl => by
    cases kds with
    | nil => cases hk
    | cons kk kds =>
      cases vds with
      | nil => cases hv
      | cons vv vds =>
        cases xs with
        | nil => rw [chkL] at h1; cases h1
        | cons x xs =>
          cases zs with
          | nil => rw [chkL] at h2; cases h2
          | cons z zs =>
            rw [chkL] at h1 h2
            simp only [Bool.and_eq_true] at h1 h2
            exact .cons (const_pe h1.2.1 (List.cons.inj hk).1) (const_pe h2.2.1 (List.cons.inj hv).1) (consts_of h1.2.2 h2.2.2 (List.cons.inj hk).2 (List.cons.inj hv).2 (by simpa using hl))
theorem Consts.split {k : List (Option Expr)} {v : List Expr} {l : List (Key × V)} (C : Consts X k v l) : ∀ n, Consts X (k.take n) (v.take n) (l.take n) ∧ Consts X (k.drop n) (v.drop n) (l.drop n) := by
  induction C with
  | nil => intro n; simp only [List.take_nil, List.drop_nil]; exact ⟨.nil, .nil⟩
  | cons hk hv C ih =>
    intro n
    cases n with
    | zero => exact ⟨.nil, .cons hk hv C⟩
    | succ n => exact ⟨.cons hk hv (ih n).1, (ih n).2⟩
theorem big_ok {ks vs : List E} {c : Cc} {x : Expr} {ys zs : List Expr} (h : dctArg x = some (ys, zs)) (h1 : (ks.all fun k => (cKey k).isSome) = true) (h2 : ks.length = vs.length) (h3 : bigC ks vs = true) (g : chkL G ks c ys = true) (g2 : chkL G vs c zs = true) :
    Gd T pe W cs X (.dct ks vs) x := by
  unfold bigC at h3
  simp only [Bool.and_eq_true, decide_eq_true_eq] at h3
  obtain ⟨⟨l1, l2⟩, h4, h5⟩ := h3
  obtain ⟨kds, hk⟩ := keys_all h1
  obtain ⟨vds, hv⟩ := keys_all h4
  have k1 : ks.length = kds.length := by simpa using congrArg List.length hk
  have k2 : vs.length = vds.length := by simpa using congrArg List.length hv
  have nd : kds.Nodup := by
    rw [hk] at h5
    exact List.Pairwise.of_map some (fun a b n e => n (congrArg some e)) h5
  unfold dctArg at h
  split at h
  · rename_i ys0 zs0 p
    cases e : optAll ys0 with
    | none => rw [e] at h; cases h
    | some ys1 =>
      rw [e] at h
      cases h
      have e2 := optAll_is e
      subst e2
      obtain ⟨C1, C2⟩ := (consts_of (X := X) g g2 hk hv h2).split 17
      have e3 : ((kds.zip vds).map fun p => (kd p.1, kV (kd p.2))).take 17 = ((kds.take 17).zip (vds.take 17)).map fun p => (kd p.1, kV (kd p.2)) := by
        rw [← List.map_take, List.zip, List.take_zipWith]
      have e4 : ((kds.zip vds).map fun p => (kd p.1, kV (kd p.2))).drop 17 = ((kds.drop 17).zip (vds.drop 17)).map fun p => (kd p.1, kV (kd p.2)) := by
        rw [← List.map_drop, List.zip, List.drop_zipWith]
      rw [e3] at C1
      rw [e4] at C2
      have pb := pe_big (pos := p) C1 C2 (by rw [List.length_map, List.length_zip, List.length_take, List.length_take]; omega) (fun z => by
        have := congrArg List.length z
        rw [List.length_map, List.length_zip, List.length_drop, List.length_drop, List.length_nil] at this
        omega) (by rw [List.length_map, List.length_zip, List.length_drop, List.length_drop]; omega)
      rw [List.take_append_drop, List.take_append_drop] at pb
      exact .new (peI pb (n_big ks vs kds vds hk hv (by omega) nd (by omega))) (dct_new _ _) rfl rfl
  · cases h
theorem comp_ok {elt : E} {tg : List Nat} {k : IK} {es cond : List E} {x y : Expr} {sc : Scope} {its ifs : List Expr} (F : Fx G c T pe cs W X) (h : compArg c tg k es.length elt.strong x = some (sc, (y, (its, ifs)))) (gi : GdL T pe W cs X es its)
    (he : ∀ (W : WX) (X : Cx), Fx G (c.blk sc) T pe cs W X → Gd T pe W cs X elt y) (hc : ∀ (W : WX) (X : Cx), Fx G (c.blk sc) T pe cs W X → GdL T pe W cs X cond ifs) :
    ∃ t it pos own, x = .ListComp y [⟨t, it, ifs, 0⟩] sc pos ∧ own.map (·.2) = tg ∧ PI X t it (tI T pe W cs k es) ∧ BlkOk X.N X.env.scope sc own ∧
      (∀ (s : Shared) (H : Hp) (C : Addr) (cl : List (Str × Addr)) (fp : List Addr), PG (X.blk s H sc (compEnvC sc cl C X.env) fp) t (gT T.K tg)) ∧
      (∀ (s : Shared) (H : Hp) (C : Addr) (cl : List (Str × Addr)) (fp : List Addr), PTs (X.blk s H sc (compEnvC sc cl C X.env) fp) ifs (tCs T pe cs cond)) ∧
      (∀ (s : Shared) (H : Hp) (C : Addr) (cl : List (Str × Addr)) (fp : List Addr), PE (X.blk s H sc (compEnvC sc cl C X.env) fp) y (tE T pe WF cs elt)) ∧ (∀ x, foldedSetIterable it X.env x = pure x) ∧ X.calm = true ∧ elt.strong = true := by
  unfold compArg at h
  split at h
  · rename_i y0 t it ifs0 sc0 pos
    split at h
    · rename_i hh
      simp only [Bool.and_eq_true] at hh
      obtain ⟨⟨⟨h1, h2⟩, h3, h4⟩, h5⟩ := hh
      cases e : iterArg c k es.length it with
      | none => rw [e] at h; cases h
      | some its0 =>
        rw [e] at h
        cases h
        obtain ⟨own, o1, o2, o3, o4, o5⟩ := lc_parts F (by simpa using h1) h3 h4 h5 he hc
        obtain ⟨p1, p2⟩ := iter_ok (tg := t) F e gi
        exact ⟨t, it, pos, own, rfl, o1, p1, o2, o3, o4, o5, folded_no p2, F.calm (by simpa using h1), h2⟩
    · cases h
  · cases h
end
section
variable {G : Gt} {T : Tx} {pe : Pe} {cs : Iv.Calls}
mutual
theorem sE : ∀ (e : E) (c : Cc) (x : Expr), chkE G e c x = true → ∀ (W : WX) (X : Cx), Fx G c T pe cs W X → Gd T pe W cs X e x
  | .var i, c, x, h, W, X, F => by
    rw [chkE] at h
    have hp : plainTest x = true := by
      unfold isVar at h
      split at h <;> first | rfl | cases h
    exact .plain (peI (pe_isVar F h) (s_var i)) hp rfl
  | .own i, c, x, h, W, X, F => by
    rw [chkE] at h
    have hp : plainTest x = true := by
      unfold isVar at h
      split at h <;> first | rfl | cases h
    exact .plain (peI (pe_isVar F h) (s_own i)) hp rfl
  | .int n, c, x, h, W, X, F => by
    rw [chkE] at h
    unfold isConst at h
    split at h
    · rw [decide_eq_true_eq] at h
      subst h
      exact .plain (peI pe_int fun σ H Q ⟨Mb, r, ow, st, env, R, h⟩ => by
        rw [evalE] at h
        exact h.now R.st _ (.int _)) rfl rfl
    · cases h
  | .bl b, c, x, h, W, X, F => by
    rw [chkE] at h
    unfold isConst at h
    split at h
    · rw [decide_eq_true_eq] at h
      subst h
      exact .plain (peI pe_bl fun σ H Q ⟨Mb, r, ow, st, env, R, h⟩ => by
        rw [evalE] at h
        exact h.now R.st _ (.bl _)) rfl rfl
    · cases h
  | .non, c, x, h, W, X, F => by
    rw [chkE] at h
    unfold isConst at h
    split at h
    · rw [decide_eq_true_eq] at h
      subst h
      exact .plain (peI pe_non fun σ H Q ⟨Mb, r, ow, st, env, R, h⟩ => by
        rw [evalE] at h
        exact h.now R.st _ .non) rfl rfl
    · cases h
  | .str s, c, x, h, W, X, F => by
    rw [chkE] at h
    unfold isConst at h
    split at h
    · rw [decide_eq_true_eq] at h
      subst h
      exact .plain (peI pe_str fun σ H Q ⟨Mb, r, ow, st, env, R, h⟩ => by
        rw [evalE] at h
        exact h.now R.st _ (.str _)) rfl rfl
    · cases h
  | .glob g, c, x, h, W, X, F => by
    rw [chkE] at h
    unfold isGlob at h
    split at h
    · rw [Bool.and_eq_true, decide_eq_true_eq] at h
      obtain ⟨g1, g2⟩ := F.gl h.1
      obtain ⟨v, u, e1, e2, e3⟩ := F.cst _ _ h.2
      exact .plain (peI (pe_glob g1 e1 e2 g2) fun σ H Q ⟨Mb, r, ow, st, env, R, h⟩ => by
        rw [evalE] at h
        exact h.now R.st _ (e3 _ _ _)) rfl rfl
    · cases h
  | .neg a, c, x, h, W, X, F => by
    unfold chkE at h
    split at h
    · have ih := sE a c _ h W X F
      have hp := peI (pe_un (pos := by assumption) un_neg ih.pe_) (s_neg a)
      refine ⟨hp, ?_, fun op ys p z => (by cases z), fun z => (by cases z)⟩
      refine ptI (pt_val hp fun _ => rfl) fun σ H Q ⟨Mb, r, ow, st, env, R, h⟩ => ?_
      refine ⟨Mb, r, ow, st, env, R, h.bind.imp fun r1 H1 d st1 n s q v hv => ?_⟩
      obtain ⟨b, rfl, q⟩ := isT_ok q
      exact ⟨b, repW_bl hv, q.now s⟩
    · cases h
  | .bin op a b, c, x, h, W, X, F => by
    unfold chkE at h
    split at h
    · simp only [Bool.and_eq_true, decide_eq_true_eq] at h
      obtain ⟨h1, h2, h3⟩ := h
      subst h1
      exact .plain (peI (pe_op (or_bin F.hK op) (sE a c _ h2 W X F).pe_ (sE b c _ h3 W X F).pe_) (s_bin op a b)) rfl rfl
    · cases h
  | .cmp op a b, c, x, h, W, X, F => by
    unfold chkE at h
    split at h
    · simp only [Bool.and_eq_true, decide_eq_true_eq] at h
      obtain ⟨⟨h1, h4⟩, h2, h3⟩ := h
      subst h1
      have r := or_cmp F.hK F.un F.oke op
      have ha := (sE a c _ h2 W X F).pe_
      have hb := (sE b c _ h3 W X F).pe_
      exact ⟨peI (pe_cmpR r ha hb (marks_no h4)) (s_cmp op a b), tT_of (pt_cmpR r ha hb (marks_no h4)) (s_cmp op a b), fun op ys p z => (by cases z), fun z => (by cases z)⟩
    · cases h
  | .chain op op' a b d, c, x, h, W, X, F => by
    unfold chkE at h
    split at h
    · simp only [Bool.and_eq_true, decide_eq_true_eq] at h
      obtain ⟨⟨h1, h2, h3, h4⟩, h5, h6, h7⟩ := h
      subst h1 h2
      have r := or_cmp F.hK F.un F.oke op
      have r' := or_cmp F.hK F.un F.oke op'
      have ha := (sE a c _ h5 W X F).pe_
      have hb := (sE b c _ h6 W X F).pe_
      have hd := (sE d c _ h7 W X F).pe_
      exact ⟨peI (pe_chain r r' ha hb hd (marks2_no h3)) (s_chain op op' a b d h4), tT_of (pt_chain r r' ha hb hd (marks2_no h3)) (s_chain op op' a b d h4), fun op ys p z => (by cases z), fun z => (by cases z)⟩
    · cases h
  | .isN a, c, x, h, W, X, F => by
    unfold chkE at h
    split at h
    · have ha := (sE a c _ h W X F).pe_
      exact ⟨peI (pe_cmp (pc_isN ha)) (s_isN a), tT_of (pt_cmp (pc_isN ha)) (s_isN a), fun op ys p z => (by cases z), fun z => (by cases z)⟩
    · cases h
  | .notN a, c, x, h, W, X, F => by
    unfold chkE at h
    split at h
    · have ha := (sE a c _ h W X F).pe_
      exact ⟨peI (pe_cmp (pc_notN ha)) (s_notN a), tT_of (pt_cmp (pc_notN ha)) (s_notN a), fun op ys p z => (by cases z), fun z => (by cases z)⟩
    · cases h
  | .band a b, c, x, h, W, X, F => by
    unfold chkE at h
    split at h
    · rw [Bool.and_eq_true] at h
      have ha := sE a c _ h.1 W X F
      have hb := sE b c _ h.2 W X F
      have pw := pwI (pw_and (pos := by assumption) ha.pt (pw_and1 hb.pt)) (t_band a b)
      exact ⟨peI (pe_and ha.pe_ (pe_one (pe_bool hb.pe_))) (s_band a b), pw.pt, fun op ys p z => (by cases z; exact pw), fun z => (by cases z)⟩
    · rw [Bool.and_eq_true] at h
      have ha := sE a c _ h.1 W X F
      have hb := sE b c _ h.2 W X F
      have pw := pwI (pw_and ha.pt (hb.pw _ _ _ rfl)) (t_band a b)
      exact ⟨peI (pe_and ha.pe_ (pe_bool hb.pe_)) (s_band a b), pw.pt, fun op ys p z => (by cases z; exact pw), fun z => (by cases z)⟩
    · cases h
  | .bor a b, c, x, h, W, X, F => by
    unfold chkE at h
    split at h
    · rw [Bool.and_eq_true] at h
      have ha := sE a c _ h.1 W X F
      have hb := sE b c _ h.2 W X F
      have pw := pwI (pw_or (pos := by assumption) ha.pt (pw_or1 hb.pt)) (t_bor a b)
      exact ⟨peI (pe_or ha.pe_ (pe_one (pe_bool hb.pe_))) (s_bor a b), pw.pt, fun op ys p z => (by cases z; exact pw), fun z => (by cases z)⟩
    · rw [Bool.and_eq_true] at h
      have ha := sE a c _ h.1 W X F
      have hb := sE b c _ h.2 W X F
      have pw := pwI (pw_or ha.pt (hb.pw _ _ _ rfl)) (t_bor a b)
      exact ⟨peI (pe_or ha.pe_ (pe_bool hb.pe_)) (s_bor a b), pw.pt, fun op ys p z => (by cases z; exact pw), fun z => (by cases z)⟩
    · cases h
  | .bnot a, c, x, h, W, X, F => by
    unfold chkE at h
    split at h
    · have ha := sE a c _ h W X F
      exact ⟨peI (pe_not ha.pe_) (s_bnot a), ptI (pt_not ha.pt) (t_bnot a), fun op ys p z => (by cases z), fun z => (by cases z)⟩
    · cases h
  | .ife t a b, c, x, h, W, X, F => by
    unfold chkE at h
    split at h
    · simp only [Bool.and_eq_true] at h
      obtain ⟨h1, h2, h3⟩ := h
      have ht := sE t c _ h1 W X F
      have ha := sE a c _ h2 W X F
      have hb := sE b c _ h3 W X F
      exact ⟨peI (pe_ifExp ht.pt ha.pe_ hb.pe_) (s_ife t a b), ptI (pt_ifexp ht.pt ha.pt hb.pt) (t_ife t a b), fun op ys p z => (by cases z), fun z => (by cases z)⟩
    · cases h
  | .idx a i, c, x, h, W, X, F => by
    unfold chkE at h
    split at h
    · simp only [Bool.and_eq_true] at h
      obtain ⟨h1, h2, h3⟩ := h
      exact .plain (peI (pe_ix (ix_any F.hK F.un) (sE a c _ h2 W X F).pe_ (sE i c _ h3 W X F).pe_ (ix_plain h1)) (s_idx a i)) rfl rfl
    · cases h
  | .slc lo hi a l u, c, x, h, W, X, F => by
    unfold chkE at h
    split at h
    · rename_i y z w e
      simp only [Bool.and_eq_true, Bool.or_eq_true, Bool.not_eq_true'] at h
      obtain ⟨h1, h2, h3⟩ := h
      have hy := sE a c _ h1 W X F
      have hz : lo = true → Gd T pe W cs X l z := fun q => sE l c _ (by rcases h2 with h2 | h2; (rw [q] at h2; cases h2); exact h2) W X F
      have hw : hi = true → Gd T pe W cs X u w := fun q => sE u c _ (by rcases h3 with h3 | h3; (rw [q] at h3; cases h3); exact h3) W X F
      unfold slcArg at e
      split at e
      · rename_i y0 l0 h0 p2 p
        cases e1 : partArg lo l0 with
        | none => rw [e1] at e; cases e
        | some z0 =>
          rw [e1] at e
          simp only [Option.bind_some] at e
          cases e2 : partArg hi h0 with
          | none => rw [e2] at e; cases e
          | some w0 =>
            rw [e2] at e
            cases e
            exact .plain (peI (pe_slice (sl_any F.hK) hy.pe_ (part_ok e1 hz) (part_ok e2 hw)) (s_slc lo hi a l u)) rfl rfl
      · cases e
    · cases h
  | .tup es, c, x, h, W, X, F => by
    unfold chkE at h
    split at h
    · exact .plain (peI (pe_tup (sL es c _ h W X F).pa) (s_tup es)) rfl rfl
    · cases h
  | .lst es, c, x, h, W, X, F => by
    unfold chkE at h
    split at h
    · exact .new (peI (pe_lst (sL es c _ h W X F).pa) (n_lst es)) (lst_new es) rfl rfl
    · cases h
  | .dct ks vs, c, x, h, W, X, F => by
    unfold chkE at h
    split at h
    · rename_i ys zs e
      simp only [Bool.and_eq_true, decide_eq_true_eq] at h
      obtain ⟨⟨h1, h2, h3⟩, h4, h5⟩ := h
      rw [Bool.or_eq_true, decide_eq_true_eq] at h3
      rcases h3 with h3 | h3
      · exact dct_ok e h1 h2 h3 (sL ks c _ h4 W X F) (sL vs c _ h5 W X F)
      · exact big_ok e h1 h2 h3 h4 h5
    · cases h
  | .comp elt tg k es cond, c, x, h, W, X, F => by
    unfold chkE at h
    split at h
    · rename_i sc y its ifs e
      simp only [Bool.and_eq_true] at h
      obtain ⟨h1, h2, h3⟩ := h
      obtain ⟨t, it, pos, own, rfl, o1, o2, o3, o4, o5, o6, o7, o8, o9⟩ := comp_ok F e (sL es c _ h1 W X F) (fun W X F => sE elt _ _ h2 W X F) (fun W X F => sL cond _ _ h3 W X F)
      refine .new (peI (pe_lc o8 (by rw [F.hN]; exact F.nd) o2 o3 o4 o5 o6 o7) fun σ H Q q => ?_) (comp_new elt tg k es cond) rfl rfl
      rw [o1]
      exact s_comp elt tg k es cond o9 σ H Q q
    · cases h
  | .mk e, c, x, h, W, X, F => by
    rw [chkE, Bool.and_eq_true, Bool.and_eq_true] at h
    have g := sE e c x h.2 W X F
    exact .plain (peI (g.pn h.1.1) (mk_ok (e := e))) h.1.2 rfl
  | .call f es, c, x, h, W, X, F => by
    unfold chkE at h
    split at h
    · rename_i n p ys q
      simp only [Bool.and_eq_true, decide_eq_true_eq] at h
      obtain ⟨⟨h1, h2, h3⟩, h4⟩ := h
      obtain ⟨g1, g2⟩ := F.gl h2
      have g := sL es c _ h4 W X F
      obtain ⟨m, fa, fd, ps, e1, e2, e3, e4, e5⟩ := (F.cf (by simpa using h1)).fn _ _ h3
      cases g with
      | nil =>
        refine .plain (peI (pe_callP0 e5 e4 g1 e1 e2 e3 F.tk g2) fun σ H Q q => ?_) rfl rfl
        exact s_nil σ H _ (s_call f [] σ H Q q)
      | cons s nn gg r => exact .plain (peI (pe_callP e5 e4 g1 e1 e2 e3 F.tk (GdL.cons s nn gg r).pa (GdL.cons s nn gg r).star g2) (s_call f _)) rfl rfl
    · cases h
  | .hcall f i, c, x, h, W, X, F => by
    unfold chkE at h
    split at h
    · simp only [Bool.and_eq_true, decide_eq_true_eq] at h
      obtain ⟨⟨h0, h1, h2⟩, h3, h4⟩ := h
      exact .plain (hcall_ok F h1 h2 h3 h4) rfl rfl
    · cases h
  | .meth o ci f es, c, x, h, W, X, F => by
    unfold chkE at h
    split at h
    · rename_i y m ap ys q
      simp only [Bool.and_eq_true, decide_eq_true_eq] at h
      obtain ⟨⟨⟨h1, h2, h3⟩, h4, h5, h6⟩, h7, h8⟩ := h
      have go := sE o c _ h7 W X F
      have g := sL es c _ h8 W X F
      obtain ⟨e0, e1, m', fa, fd, ps, e2, e3, e4, e5⟩ := (F.cf (by simpa using h1)).me _ _ _ h6
      cases g with
      | nil =>
        refine .plain (peI (pe_methP0 go.pe_ e1 e2 e5 e4 e3 F.tk h3 h5) fun σ H Q q => ?_) rfl rfl
        refine tE_mono (s_meth o ci f [] m h2 e0 σ H Q q) fun y H1 ⟨a, dx, fs, q1, q2, q3, q4⟩ => ⟨a, dx, fs, q1, q2, q3, ?_⟩
        exact s_nil σ H1 _ q4
      | cons s nn gg r => exact .plain (peI (pe_methP go.pe_ e1 e2 e5 e4 e3 F.tk (GdL.cons s nn gg r).pa h3 (GdL.cons s nn gg r).star h4 h5) (s_meth o ci f _ m h2 e0)) rfl rfl
    · cases h
  | .make ci f es, c, x, h, W, X, F => by
    unfold chkE at h
    split at h
    · rename_i n p ys q
      simp only [Bool.and_eq_true, decide_eq_true_eq] at h
      obtain ⟨⟨h1, h2, h3⟩, h4⟩ := h
      obtain ⟨g1, g2⟩ := F.gl h2
      have g := sL es c _ h4 W X F
      obtain ⟨e0, m, fa, fd, ps, e1, e2, e3, e4, e5⟩ := (F.cf (by simpa using h1)).cl _ _ _ h3
      cases g with
      | nil =>
        refine .plain (peI (pe_makeP0 e2 e5 e4 g1 e1 e3 F.tk g2) fun σ H Q q => ?_) rfl rfl
        exact s_nil σ H _ (s_make ci f [] e0 σ H Q q)
      | cons s nn gg r => exact .plain (peI (pe_makeP e2 e5 e4 g1 e1 e3 F.tk (GdL.cons s nn gg r).pa (GdL.cons s nn gg r).star g2) (s_make ci f _ e0)) rfl rfl
    · cases h
  | .fld o f, c, x, h, W, X, F => by
    unfold chkE at h
    split at h
    · simp only [Bool.and_eq_true, decide_eq_true_eq] at h
      obtain ⟨⟨h1, h2, h3⟩, h4⟩ := h
      subst h3
      exact .plain (peI (pe_fldU h2 (sE o c _ h4 W X F).pe_ (base_plain h1)) (s_fld o f h2 F.okc F.hK)) rfl rfl
    · cases h
  | .un k a, c, x, h, W, X, F => by
    unfold chkE at h
    split at h
    · exact un_ok F (by assumption) (sE a c _ h W X F)
    · cases h
  | .b2 k a b, c, x, h, W, X, F => by
    unfold chkE at h
    split at h
    · rw [Bool.and_eq_true] at h
      exact b2_ok F (by assumption) (sE a c _ h.1 W X F) (sE b c _ h.2 W X F)
    · cases h
  | .get2 a b d, c, x, h, W, X, F => by
    unfold chkE at h
    split at h
    · simp only [Bool.and_eq_true, decide_eq_true_eq] at h
      obtain ⟨⟨⟨h1, h2, h3⟩, ⟨h4, h5⟩, h6⟩, h7, h8, h9⟩ := h
      subst h1
      refine .plain (peI (pe_dget2 (by have := F.un; omega) (sE a c _ h7 W X F).pe_ (sE b c _ h8 W X F).pe_ (sE d c _ h9 W X F).pe_ ⟨base_plain h2, few_ok (by simp [h4, h5]) (show 2 < 30 by decide), h6, ?_⟩) (s_get2 a b d h3)) rfl rfl
      rw [star_cons h4, star_cons h5]; rfl
    · cases h
  | .isExc i k, c, x, h, W, X, F => by
    unfold chkE at h
    split at h
    · simp only [Bool.and_eq_true, decide_eq_true_eq, Bool.not_eq_true'] at h
      obtain ⟨⟨⟨h0, h1⟩, h2, h3⟩, ⟨h4, h5⟩, h6, h7⟩ := h
      exact .plain (isExc_ok F h1 h2 h3 h4 h5 h6 h7) rfl rfl
    · cases h
  | .excFld i f, c, x, h, W, X, F => by
    unfold chkE at h
    split at h
    · simp only [Bool.and_eq_true, decide_eq_true_eq, Bool.not_eq_true'] at h
      obtain ⟨⟨⟨h0, h1⟩, h2, h3, h4⟩, h5⟩ := h
      subst h4
      exact .plain (excFld_ok F h1 h2 h3 h5) rfl rfl
    · cases h
  | .newX k es, c, x, h, W, X, F => by
    unfold chkE at h
    split at h
    · simp only [Bool.and_eq_true, Bool.or_eq_true, decide_eq_true_eq, Bool.not_eq_true'] at h
      obtain ⟨⟨⟨h0, h1⟩, h2, h3⟩, ⟨h4, h5⟩, h6⟩ := h
      exact .plain (newX_ok F h0 h1 h2 h3 h4 h5 (sL es c _ h6 W X F)) rfl rfl
    · cases h
  | .isV a k, c, x, h, W, X, F => by
    unfold chkE at h
    split at h
    · simp only [Bool.and_eq_true, decide_eq_true_eq, Bool.not_eq_true'] at h
      obtain ⟨⟨h1, h2, h3⟩, ⟨h4, h5⟩, h6, h7⟩ := h
      exact .plain (isV_ok F h1 h2 h3 h4 h5 (sE a c _ h7 W X F) h6) rfl rfl
    · cases h
theorem sL : ∀ (es : List E) (c : Cc) (xs : List Expr), chkL G es c xs = true → ∀ (W : WX) (X : Cx), Fx G c T pe cs W X → GdL T pe W cs X es xs
  | [], c, xs, h, W, X, F => by
    rw [chkL] at h
    cases xs with
    | nil => exact .nil
    | cons x xs => cases h
  | e :: es, c, xs, h, W, X, F => by
    unfold chkL at h
    split at h
    · simp only [Bool.and_eq_true] at h
      obtain ⟨⟨h1, h2⟩, h3, h4⟩ := h
      exact .cons h1 h2 (sE e c _ h3 W X F) (sL es c _ h4 W X F)
    · cases h
end
end
end Iv
end
section
set_option Elab.async false
set_option linter.all false
set_option maxRecDepth 100000
set_option maxHeartbeats 2000000
/-! Statements: readings. -/
namespace Iv
open PySem PySem.Spec PySem.Calls PyProof.Rows L2
/-- behind a statement -/
structure NxS (r : List Addr) (ow : List (Option Addr)) (H : Hp) (r' : List Addr) (ow' : List (Option Addr)) (H' : Hp) : Prop where
  keep : ∀ a o, H a = some o → a ∉ r → some a ∉ ow → H' a = some o
  ext : ∃ e, r' = r ++ e ∧ ∀ a ∈ e, H a = none
  own : ∀ a, some a ∈ ow' → some a ∈ ow ∨ H a = none
  dom : ∀ a o, H a = some o → ∃ o', H' a = some o'
section
variable {T : Tx} {pe : Pe} {W : WX} {cs : Iv.Calls} {Mb : AP'} {r r' r'' : List Addr} {ow ow' ow'' : List (Option Addr)} {H H' H'' : Hp} {st st' : Store} {σ σ' : L2.St} {env env' : SEnv} {X : Cx}
theorem NxS.of (n : Nx r H r' H') : NxS r ow H r' ow H' := ⟨fun a o h q _ => n.keep a o h q, n.ext, fun a h => .inl h, n.dom⟩
theorem NxS.same : NxS r ow H r ow H := .of Nx.same
theorem NxS.notin (n : NxS r ow H r' ow' H') {a : Addr} {o : HO} (h : H a = some o) (q : a ∉ r) : a ∉ r' := fun z => by
  obtain ⟨e, he, hf⟩ := n.ext
  rw [he] at z
  rcases List.mem_append.mp z with z | z
  · exact q z
  · rw [hf a z] at h; cases h
theorem NxS.trans (n : NxS r ow H r' ow' H') (m : NxS r' ow' H' r'' ow'' H'') : NxS r ow H r'' ow'' H'' := by
  refine ⟨fun a o h q q2 => m.keep a o (n.keep a o h q q2) (n.notin h q) fun z => ?_, ?_, fun a h => ?_, fun a o h => let ⟨o1, h1⟩ := n.dom a o h; m.dom a o1 h1⟩
  · rcases n.own a z with z | z
    · exact q2 z
    · rw [z] at h; cases h
  · obtain ⟨e, he, hf⟩ := n.ext
    obtain ⟨e', he', hf'⟩ := m.ext
    refine ⟨e ++ e', by rw [he', he, List.append_assoc], fun a ha => ?_⟩
    rcases List.mem_append.mp ha with z | z
    · exact hf a z
    · cases q : H a with
      | none => rfl
      | some o =>
        obtain ⟨o', q'⟩ := n.dom a o q
        rw [hf' a z] at q'; cases q'
  · rcases m.own a h with z | z
    · exact n.own a z
    · refine .inr ?_
      cases q : H a with
      | none => rfl
      | some o =>
        obtain ⟨o', q'⟩ := n.dom a o q
        rw [z] at q'; cases q'
theorem NxS.grow (n : NxS r ow H r' ow' H') : Grow H (Ms Mb r ow) r H' (Ms Mb r' ow') r' := by
  refine ⟨fun a o h q => n.keep a o h (fun z => q (.inr (.inl z))) fun z => q (.inr (.inr z)), fun a h => ?_, fun k a h => ?_⟩
  · rcases h with h | h | h
    · exact .inl (.inl h)
    · obtain ⟨e, he, hf⟩ := n.ext
      rw [he] at h
      rcases List.mem_append.mp h with z | z
      · exact .inl (.inr (.inl z))
      · exact .inr (hf a z)
    · rcases n.own a h with z | z
      · exact .inl (.inr (.inr z))
      · exact .inr z
  · obtain ⟨e, he, _⟩ := n.ext
    rw [he]
    obtain ⟨hk, _⟩ := List.getElem?_eq_some_iff.mp h
    rw [List.getElem?_append_left hk]; exact h
/-- what a statement comes to, and what is wanted behind it -/
def OKS (T : Tx) (pe : Pe) (Mb : AP') (W : WX) (r : List Addr) (ow : List (Option Addr)) (H : Hp) (o : Out) (D : Ends) : Prop :=
  match o with
  | .nx env' st' => ∀ r' ow' H' σ', NxS r ow H r' ow' H' → Rel T pe Mb r' ow' H' st' σ' env' → D.nx σ' H'
  | .rt d st' => ∀ r' ow' H' v, NxS r ow H r' ow' H' → StR T.toTb (Ms Mb r' ow') r' H' st' → Rep T.toTb H' (Ms Mb r' ow') r' v d → D.rt v H'
  | .bk env' st' => ∀ r' ow' H' σ', NxS r ow H r' ow' H' → Rel T pe Mb r' ow' H' st' σ' env' → D.bk σ' H'
  | .ct env' st' => ∀ r' ow' H' σ', NxS r ow H r' ow' H' → Rel T pe Mb r' ow' H' st' σ' env' → D.ct σ' H'
  | .exn x env' st' => ∀ r' ow' H' σ' cls d, NxS r ow H r' ow' H' → Rel T pe Mb r' ow' H' st' σ' env' → ExcR T H' (Ms Mb r' ow') r' x cls d → W cls d σ' H'
  | .bad => False
theorem OKS.shift {o : Out} {D : Ends} (h : OKS T pe Mb W r ow H o D) (n : NxS r ow H r' ow' H') : OKS T pe Mb W r' ow' H' o D := by
  cases o with
  | nx _ _ => exact fun _ _ _ _ m => h _ _ _ _ (n.trans m)
  | rt _ _ => exact fun _ _ _ _ m => h _ _ _ _ (n.trans m)
  | bk _ _ => exact fun _ _ _ _ m => h _ _ _ _ (n.trans m)
  | ct _ _ => exact fun _ _ _ _ m => h _ _ _ _ (n.trans m)
  | exn _ _ _ => exact fun _ _ _ _ _ _ m => h _ _ _ _ _ _ (n.trans m)
  | bad => exact h
/-- another end -/
theorem OKS.ends {o : Out} {D D' : Ends} (h : OKS T pe Mb W r ow H o D) (n : ∀ r' ow' H' st' σ' env', NxS r ow H r' ow' H' → Rel T pe Mb r' ow' H' st' σ' env' → o = .nx env' st' → D.nx σ' H' → D'.nx σ' H') (t : ∀ v H', D.rt v H' → D'.rt v H') (b : ∀ σ' H', D.bk σ' H' → D'.bk σ' H') (c : ∀ σ' H', D.ct σ' H' → D'.ct σ' H') :
    OKS T pe Mb W r ow H o D' := by
  cases o with
  | nx _ _ => exact fun _ _ _ _ m q => n _ _ _ _ _ _ m q rfl (h _ _ _ _ m q)
  | rt _ _ => exact fun _ _ _ _ m s q => t _ _ (h _ _ _ _ m s q)
  | bk _ _ => exact fun _ _ _ _ m q => b _ _ (h _ _ _ _ m q)
  | ct _ _ => exact fun _ _ _ _ m q => c _ _ (h _ _ _ _ m q)
  | exn _ _ _ => exact h
  | bad => exact h
variable (T pe W cs) in
def tS (s : S) : TS := fun D σ H => ∃ (Mb : AP') (r : List Addr) (ow : List (Option Addr)) (st : Store) (env : SEnv), Rel T pe Mb r ow H st σ env ∧ OKS T pe Mb W r ow H (execS cs s env st) D
variable (T pe W cs) in
def tSs (s : List S) : TS := fun D σ H => ∃ (Mb : AP') (r : List Addr) (ow : List (Option Addr)) (st : Store) (env : SEnv), Rel T pe Mb r ow H st σ env ∧ OKS T pe Mb W r ow H (execL cs s env st) D
/-- an evaluation ahead -/
theorem then_ok {α : Type} {x : Res α} {k : α → Store → Out} {D : Ends} (R : Rel T pe Mb r ow H st σ env) (h : OKS T pe Mb W r ow H (x.then env k) D) :
    OK T Mb ow W σ r H x fun r1 H1 a st1 => OKS T pe Mb W r1 ow H1 (k a st1) D := by
  cases x with
  | ok a st1 => exact fun r1 H1 n s => OKS.shift (h : OKS T pe Mb W r ow H (k a st1) D) (.of n)
  | exn x st1 => exact fun r1 H1 cls d n s e => h r1 ow H1 σ cls d (.of n) (R.next n s) e
  | bad => exact h
theorem then_go {a : E} {k : D → Store → Out} {D : Ends} (R : Rel T pe Mb r ow H st σ env) (h : OKS T pe Mb W r ow H ((evalE cs a env st).then env k) D) {P : VK}
    (f : ∀ r1 H1 st1 d x, Nx r H r1 H1 → Rel T pe Mb r1 ow H1 st1 σ env → RepW a.strong T.toTb H1 (Ms Mb r1 ow) r1 x d → OKS T pe Mb W r1 ow H1 (k d st1) D → P x H1) : tE T pe W cs a σ H P :=
  ⟨Mb, r, ow, st, env, R, (then_ok R h).imp fun r1 H1 d st1 n s q v hv => f r1 H1 st1 d v n (R.next n s) hv q⟩
theorem thenL_go {a : List E} {k : List D → Store → Out} {D : Ends} (R : Rel T pe Mb r ow H st σ env) (h : OKS T pe Mb W r ow H ((evalL cs a env st).then env k) D) {P : List V → Hp → Prop}
    (f : ∀ r1 H1 st1 d x, Nx r H r1 H1 → Rel T pe Mb r1 ow H1 st1 σ env → RepL T.toTb H1 (Ms Mb r1 ow) r1 x d → OKS T pe Mb W r1 ow H1 (k d st1) D → P x H1) : tL T pe W cs a σ H P :=
  ⟨Mb, r, ow, st, env, R, (then_ok R h).imp fun r1 H1 d st1 n s q v hv => f r1 H1 st1 d v n (R.next n s) hv q⟩
theorem OKS.opt {o : Option Store} {D : Ends} (h : OKS T pe Mb W r ow H (Out.opt o env) D) : ∃ st', o = some st' ∧ OKS T pe Mb W r ow H (.nx env st') D := by
  cases o with
  | none => exact h.elim
  | some st' => exact ⟨st', rfl, h⟩
/-! ### steps -/
theorem z_nil (D : Ends) (σ : L2.St) (H : Hp) (h : tSs T pe W cs [] D σ H) : tNext D σ H := by
  obtain ⟨Mb, r, ow, st, env, R, h⟩ := h
  rw [execL] at h
  exact h r ow H σ .same R
theorem andThen_ok {o : Out} {k : SEnv → Store → Out} {D : Ends} (h : OKS T pe Mb W r ow H (o.andThen k) D) : OKS T pe Mb W r ow H o { D with nx := fun σ H => ∃ r ow st env, Rel T pe Mb r ow H st σ env ∧ OKS T pe Mb W r ow H (k env st) D } := by
  cases o with
  | nx env1 st1 => exact fun r' ow' H' σ' n R => ⟨r', ow', st1, env1, R, OKS.shift (h : OKS T pe Mb W r ow H (k env1 st1) D) n⟩
  | rt _ _ => exact h
  | bk _ _ => exact h
  | ct _ _ => exact h
  | exn _ _ _ => exact h
  | bad => exact h
theorem z_cons (s : S) (rest : List S) (D : Ends) (σ : L2.St) (H : Hp) (h : tSs T pe W cs (s :: rest) D σ H) : tSeq (tS T pe W cs s) (tSs T pe W cs rest) D σ H := by
  obtain ⟨Mb, r, ow, st, env, R, h⟩ := h
  rw [execL] at h
  refine ⟨Mb, r, ow, st, env, R, (andThen_ok h).ends (fun r' ow' H' st' σ' env' n R' e q => ?_) (fun _ _ q => q) (fun _ _ q => q) fun _ _ q => q⟩
  obtain ⟨r1, ow1, st1, env1, R1, q1⟩ := q
  exact ⟨Mb, r1, ow1, st1, env1, R1, q1⟩
/-- an owned list is read only from here on -/
theorem Rel.frz (R : Rel T pe Mb r ow H st σ env) {i : Nat} {o : O} {d : D} (e : env[i]? = some (.own o)) (hd : newO d = some o) : NxS r ow H r (ow.set i none) H ∧ Rel T pe Mb r (ow.set i none) H st σ (env.set i (.val d)) := by
  obtain ⟨oa, e1, a, rfl, e2, e3⟩ := R.sl i _ e
  have own : ∀ b, some b ∈ ow.set i none → some b ∈ ow := fun b hb => by
    obtain ⟨j, hj, ej⟩ := List.mem_iff_getElem.mp hb
    rw [List.getElem_set] at ej
    split at ej
    · cases ej
    · rw [List.length_set] at hj
      rw [← ej]; exact List.getElem_mem hj
  have sub : ∀ b, Ms Mb r (ow.set i none) b → Ms Mb r ow b := fun b hb => by
    rcases hb with z | z | z
    · exact .inl z
    · exact .inr (.inl z)
    · exact .inr (.inr (own b z))
  have g : Grow H (Ms Mb r ow) r H (Ms Mb r (ow.set i none)) r := ⟨fun _ _ h _ => h, fun b hb => .inl (sub b hb), fun _ _ h => h⟩
  have nm : ¬ Ms Mb r (ow.set i none) a := fun z => by
    have hm : some a ∈ ow := List.mem_of_getElem? e1
    rcases z with z | z | z
    · exact (R.ob a hm).2 z
    · exact (R.ob a hm).1 z
    · obtain ⟨j, hj, ej⟩ := List.mem_iff_getElem.mp z
      rw [List.getElem_set] at ej
      split at ej
      · cases ej
      · rename_i hne
        rw [List.length_set] at hj
        exact hne (R.od i j a e1 (by rw [List.getElem?_eq_getElem hj, ej]))
  have rd : Rep T.toTb H (Ms Mb r (ow.set i none)) r (.ref a) d := by
    cases d with
    | lst ds =>
      cases hd
      obtain ⟨xs, h1, h2⟩ := e3
      exact .lst h1 nm (h2.mono g)
    | dct kv =>
      cases hd
      obtain ⟨xs, h1, h2⟩ := e3
      exact .dct h1 nm (h2.mono g)
    | _ => cases hd
  refine ⟨⟨fun _ _ h _ _ => h, ⟨[], by simp, by simp⟩, fun b hb => .inl (own b hb), fun b o h => ⟨o, h⟩⟩, ?_⟩
  have Rs : Rel T pe Mb r (ow.set i none) H st σ (env.set i .none) := by
    refine ⟨⟨R.st.len, R.st.nd, fun n b ob q1 q2 => (R.st.obj n b ob q1 q2).mono g fun _ q => q, fun b z => R.st.dom b (sub b z)⟩, by rw [List.length_set, List.length_set]; exact R.lo, by rw [List.length_set]; exact R.ls, fun j sl q => ?_, fun j k b q1 q2 => ?_, fun b hb => R.ob b (own b hb)⟩
    · rw [List.getElem?_set] at q ⊢
      by_cases hj : i = j
      · subst hj
        simp only [if_true] at q ⊢
        split at q
        · rename_i hl
          cases q
          rw [if_pos (by rw [R.lo]; exact hl)]
          exact ⟨none, rfl, trivial⟩
        · cases q
      · rw [if_neg hj] at q ⊢
        obtain ⟨o', q1, q2⟩ := R.sl j sl q
        exact ⟨o', q1, q2.mono g fun _ _ _ q => q⟩
    · rw [List.getElem?_set] at q1 q2
      split at q1
      · split at q1 <;> cases q1
      · split at q2
        · split at q2 <;> cases q2
        · exact R.od j k b q1 q2
  have R2 := Rs.put i rd
  have hs : σ.set i (some (.ref a)) = σ := by
    apply List.ext_getElem?
    intro j
    rw [List.getElem?_set]
    split
    · rename_i hj
      subst hj
      split
      · exact e2.symm
      · rename_i hl
        exact (List.getElem?_eq_none_iff.mpr (by omega)).symm
    · rfl
  rw [hs, List.set_set] at R2
  exact R2
theorem z_frz (i : Nat) (rest : List S) (D : Ends) (σ : L2.St) (H : Hp) (h : tSs T pe W cs (.frz i :: rest) D σ H) : tSs T pe W cs rest D σ H := by
  obtain ⟨Mb, r, ow, st, env, R, h⟩ := h
  rw [execL, execS] at h
  cases e : env[i]? with
  | none => rw [e] at h; exact h.elim
  | some sl =>
    rw [e] at h
    cases sl with
    | own o =>
      cases o with
      | lst ds =>
        obtain ⟨n, R2⟩ := R.frz e (d := .lst ds) rfl
        exact ⟨Mb, r, _, st, _, R2, OKS.shift h n⟩
      | dct kv =>
        obtain ⟨n, R2⟩ := R.frz e (d := .dct kv) rfl
        exact ⟨Mb, r, _, st, _, R2, OKS.shift h n⟩
      | ins _ _ => exact h.elim
      | exc _ _ _ => exact h.elim
    | none => exact h.elim
    | val _ => exact h.elim
    | exc _ => exact h.elim
theorem z_set (i : Nat) (e : E) (he : e.strong = true) (D : Ends) (σ : L2.St) (H : Hp) (h : tS T pe W cs (.set i e) D σ H) : tE T pe W cs e σ H fun x H1 => D.nx (σ.set i (some x)) H1 := by
  obtain ⟨Mb, r, ow, st, env, R, h⟩ := h
  rw [execS] at h
  refine then_go R h fun r1 H1 st1 d x n1 R1 hx h1 => ?_
  rw [he] at hx
  exact h1 r1 ow H1 _ .same (R1.put i hx)
/-- a new owned object -/
theorem Rel.own (R : Rel T pe Mb r ow H st σ env) (i : Nat) {p : Addr} {o : O} (hp : H p = none) (hr : p ∉ r') (n : Nx r H r' H') (s : StR T.toTb (Ms (Mp Mb p) r' ow) r' H' st') (q : ObjR T.toTb H' (Ms (Mp Mb p) r' ow) r' p o) (hi : i < env.length) :
    NxS r ow H r' (ow.set i (some p)) H' ∧ Rel T pe Mb r' (ow.set i (some p)) H' st' (σ.set i (some (.ref p))) (env.set i (.own o)) := by
  have own : ∀ b, some b ∈ ow.set i (some p) → some b ∈ ow ∨ b = p := fun b hb => by
    obtain ⟨j, hj, ej⟩ := List.mem_iff_getElem.mp hb
    rw [List.getElem_set] at ej
    split at ej
    · cases ej; exact .inr rfl
    · rw [List.length_set] at hj
      left
      rw [← ej]; exact List.getElem_mem hj
  have nop : some p ∉ ow := fun z => by
    obtain ⟨u, hu⟩ := R.st.dom p (.inr (.inr z))
    rw [hp] at hu; cases hu
  have nmb : ¬ Mb p := fun z => by
    obtain ⟨u, hu⟩ := R.st.dom p (.inl z)
    rw [hp] at hu; cases hu
  have sub : ∀ b, Ms Mb r' (ow.set i (some p)) b → Ms (Mp Mb p) r' ow b := fun b hb => by
    rcases hb with z | z | z
    · exact .inl (.inl z)
    · exact .inr (.inl z)
    · rcases own b z with z | z
      · exact .inr (.inr z)
      · exact .inl (.inr z)
  have sh : Grow H' (Ms (Mp Mb p) r' ow) r' H' (Ms Mb r' (ow.set i (some p))) r' := ⟨fun _ _ h _ => h, fun b hb => .inl (sub b hb), fun _ _ h => h⟩
  have nn : NxS r ow H r' (ow.set i (some p)) H' := ⟨fun a u h q _ => n.keep a u h q, n.ext, fun a h => by
    rcases own a h with z | z
    · exact .inl z
    · exact .inr (by rw [z]; exact hp), n.dom⟩
  refine ⟨nn, ⟨⟨s.len, s.nd, fun m a ob e1 e2 => (s.obj m a ob e1 e2).mono sh fun _ q => q, fun a z => s.dom a (sub a z)⟩, by rw [List.length_set, List.length_set]; exact R.lo, by rw [List.length_set, List.length_set]; exact R.ls, fun j sl e => ?_, fun j k a e1 e2 => ?_, fun a ha => ?_⟩⟩
  · rw [List.getElem?_set] at e ⊢
    by_cases hj : i = j
    · subst hj
      simp only [if_true] at e ⊢
      rw [if_pos hi] at e
      cases e
      have h2 : i < ow.length := by rw [R.lo]; exact hi
      have h3 : i < σ.length := by rw [R.ls]; exact hi
      rw [if_pos h2]
      exact ⟨_, rfl, p, rfl, by rw [List.getElem?_set]; simp [h3], q.mono sh fun _ q => q⟩
    · rw [if_neg hj] at e ⊢
      obtain ⟨oo, e1, e2⟩ := R.sl j sl e
      refine ⟨oo, e1, ?_⟩
      have e3 : (σ.set i (some (V.ref p)))[j]? = σ[j]? := by rw [List.getElem?_set]; rw [if_neg hj]
      rw [e3]
      have g := nn.grow (Mb := Mb)
      exact e2.mono g fun a u z e => n.keep a u e (R.ob a (List.mem_of_getElem? (z ▸ e1))).1
  · rw [List.getElem?_set] at e1 e2
    split at e1
    · rename_i h1
      split at e1
      · cases e1
        split at e2
        · rename_i h2
          exact h1.symm.trans h2
        · exact absurd (List.mem_of_getElem? e2) nop
      · cases e1
    · split at e2
      · split at e2
        · cases e2
          exact absurd (List.mem_of_getElem? e1) nop
        · cases e2
      · exact R.od j k a e1 e2
  · rcases own a ha with z | z
    · obtain ⟨u, hu⟩ := R.st.dom a (.inr (.inr z))
      exact ⟨n.notin hu (R.ob a z).1, (R.ob a z).2⟩
    · rw [z]; exact ⟨hr, nmb⟩
theorem z_setOwn (i : Nat) (e : E) (D : Ends) (σ : L2.St) (H : Hp) (h : tS T pe W cs (.setOwn i e) D σ H) : tN T pe W cs e σ H fun x H1 => D.nx (σ.set i (some x)) H1 := by
  obtain ⟨Mb, r, ow, st, env, R, h⟩ := h
  rw [execS] at h
  refine ⟨Mb, r, ow, st, env, R, ?_⟩
  cases hx : evalE cs e env st with
  | bad => rw [hx] at h; exact h.elim
  | exn x st1 =>
    rw [hx] at h
    exact fun r' H' cls d n s e => h r' ow H' σ cls d (.of n) (R.next n s) e
  | ok d st1 =>
    rw [hx] at h
    cases ho : newO d with
    | none =>
      have h : OKS T pe Mb W r ow H (match newO d with
        | some o => .nx (env.set i (.own o)) st1
        | none => .bad) D := h
      rw [ho] at h; exact h.elim
    | some o =>
      have h : OKS T pe Mb W r ow H (match newO d with
        | some o => .nx (env.set i (.own o)) st1
        | none => .bad) D := h
      rw [ho] at h
      refine ⟨o, ho, fun r' H' p hp hr n s q => ?_⟩
      by_cases hi : i < env.length
      · obtain ⟨nn, R2⟩ := R.own i hp hr n s q hi
        exact h r' _ H' _ nn R2
      · have e1 : env.set i (.own o) = env := List.set_eq_of_length_le (by omega)
        have e2 : σ.set i (some (V.ref p)) = σ := List.set_eq_of_length_le (by rw [R.ls]; omega)
        dsimp only at h
        rw [e1] at h
        dsimp only
        rw [e2]
        exact h r' ow H' σ (.of n) (R.next n s.shrink)
end
end Iv
end
section
set_option Elab.async false
set_option linter.all false
set_option maxRecDepth 100000
set_option maxHeartbeats 2000000
/-! Statements: readings, writes and loops. -/
namespace Iv
open PySem PySem.Spec PySem.Calls PyProof.Rows L2
section
variable {T : Tx} {pe : Pe} {W : WX} {cs : Iv.Calls} {Mb : AP'} {r r' r'' : List Addr} {ow ow' ow'' : List (Option Addr)} {H H' H'' : Hp} {st st' : Store} {σ σ' : L2.St} {env env' : SEnv} {X : Cx}
theorem z_expr (e : E) (D : Ends) (σ : L2.St) (H : Hp) (h : tS T pe W cs (.expr e) D σ H) : tDrop (tE T pe W cs e) D σ H := by
  obtain ⟨Mb, r, ow, st, env, R, h⟩ := h
  rw [execS] at h
  exact then_go R h fun r1 H1 st1 d x n1 R1 hx h1 => h1 r1 ow H1 _ .same R1
theorem z_ret (e : E) (he : e.strong = true) (D : Ends) (σ : L2.St) (H : Hp) (h : tS T pe W cs (.ret e) D σ H) : tRet (tE T pe W cs e) D σ H := by
  obtain ⟨Mb, r, ow, st, env, R, h⟩ := h
  rw [execS] at h
  refine then_go R h fun r1 H1 st1 d x n1 R1 hx h1 => ?_
  rw [he] at hx
  exact h1 r1 ow H1 _ .same R1.st hx
theorem z_retN (D : Ends) (σ : L2.St) (H : Hp) (h : tS T pe W cs .retN D σ H) : tRetN D σ H := by
  obtain ⟨Mb, r, ow, st, env, R, h⟩ := h
  rw [execS] at h
  exact h r ow H _ .same R.st .non
theorem z_brk (D : Ends) (σ : L2.St) (H : Hp) (h : tS T pe W cs .brk D σ H) : tBreak D σ H := by
  obtain ⟨Mb, r, ow, st, env, R, h⟩ := h
  rw [execS] at h
  exact h r ow H _ .same R
theorem z_cnt (D : Ends) (σ : L2.St) (H : Hp) (h : tS T pe W cs .cnt D σ H) : tCont D σ H := by
  obtain ⟨Mb, r, ow, st, env, R, h⟩ := h
  rw [execS] at h
  exact h r ow H _ .same R
theorem z_pass (D : Ends) (σ : L2.St) (H : Hp) (h : tS T pe W cs .pass D σ H) : tNext D σ H := by
  obtain ⟨Mb, r, ow, st, env, R, h⟩ := h
  rw [execS] at h
  exact h r ow H _ .same R
theorem z_ite (c : E) (a b : List S) (D : Ends) (σ : L2.St) (H : Hp) (h : tS T pe W cs (.ite c a b) D σ H) : tIfS (tT T pe W cs c) (tSs T pe W cs a) (tSs T pe W cs b) D σ H := by
  obtain ⟨Mb, r, ow, st, env, R, h⟩ := h
  rw [execS] at h
  refine ⟨Mb, r, ow, st, env, R, (then_ok R h).imp fun r1 H1 t st1 n s q => ?_⟩
  cases t with
  | true => exact ⟨Mb, r1, ow, st1, env, R.next n s, q⟩
  | false => exact ⟨Mb, r1, ow, st1, env, R.next n s, q⟩
theorem z_setT (tg : List Nat) (e : E) (he : e.strong = true) (D : Ends) (σ : L2.St) (H : Hp) (h : tS T pe W cs (.setT tg e) D σ H) : tAsg (tE T pe W cs e) (gT T.K tg) D σ H := by
  obtain ⟨Mb, r, ow, st, env, R, h⟩ := h
  rw [execS] at h
  refine then_go R h fun r1 H1 st1 d x n1 R1 hx h1 => ?_
  rw [he] at hx
  have hb : ∃ env1, bindT tg d env = some env1 ∧ OKS T pe Mb W r1 ow H1 (.nx env1 st1) D := by
    split at h1
    · cases hb : bindT _ d env with
      | none => rw [hb] at h1; exact h1.elim
      | some env1 => rw [hb] at h1; exact ⟨env1, rfl, h1⟩
    · exact h1.elim
  obtain ⟨env1, hb, h1⟩ := hb
  exact gT_ok R1 hx hb fun σ1 R2 _ => h1 r1 ow H1 σ1 .same R2
/-- an attribute of an object of the store is written -/
theorem fld_wr {x : V} {ov d : D} {v : V} {f : Nat} (hf : f < 15) (R : Rel T pe Mb r ow H st σ env) (hx : RepP T.toTb H (Ms Mb r ow) r x ov) (hv : Rep T.toTb H (Ms Mb r ow) r v d) {st2 : Store} (e : setFldO ov f d st = some st2) :
    ∃ a c dx fs, x = .ref a ∧ T.okc c ∧ H a = some (.ins (T.cls c) dx fs) ∧ fs.length < 1000 ∧ Nx r H r (upd H a (.ins (T.cls c) dx (putF (fnm f) v fs))) ∧ Rel T pe Mb r ow (upd H a (.ins (T.cls c) dx (putF (fnm f) v fs))) st2 σ env := by
  unfold setFldO at e
  split at e
  · rename_i n
    split at e
    · rename_i c ds hd
      split at e
      · rename_i hl
        cases e
        obtain ⟨a, rfl, hr⟩ := hx.ref
        obtain ⟨ok, dx, fs, h1, h2⟩ := R.st.obj n a _ hr hd
        have hm : a ∈ r := List.mem_of_getElem? hr
        have nx : Nx r H r (upd H a (.ins (T.cls c) dx (putF (fnm f) v fs))) := Nx.wr hm
        have ob : ObjR T.toTb (upd H a (.ins (T.cls c) dx (putF (fnm f) v fs))) (Ms Mb r ow) r a (.ins c (putFd f d ds)) := ⟨ok, dx, _, upd_same, (h2.put hf hv).mono nx.grow⟩
        exact ⟨a, c, dx, fs, rfl, ok, h1, by rw [h2.len]; omega, nx, R.next nx (R.st.set hr ob)⟩
      · cases e
    · cases e
  · cases e
theorem z_setF (K : PySem.W.Frag) (o : E) (f : Nat) (e : E) (hf : f < 15) (he : e.strong = true) (gm : ∀ c, T.okc c → Cls K (T.cls c) ∧ ∀ f, f < 15 → NoAttr K (T.cls c) (fnm f)) (D : Ends) (σ : L2.St) (H : Hp) (h : tS T pe W cs (.setF o f e) D σ H) :
    sFld K (tE T pe W cs o) (tE T pe W cs e) (fnm f) D σ H := by
  obtain ⟨Mb, r, ow, st, env, R, h⟩ := h
  rw [execS] at h
  refine then_go R h fun r1 H1 st1 d v n1 R1 hv h1 => then_go R1 h1 fun r2 H2 st2 ov x n2 R2 hx h2 => ?_
  rw [he] at hv
  obtain ⟨st3, e3, h3⟩ := h2.opt
  obtain ⟨a, c, dx, fs, e1, ok, e2, hl, nx, R3⟩ := fld_wr hf R2 hx.weak (hv.mono n2.grow) e3
  obtain ⟨g1, g2⟩ := gm c ok
  exact ⟨a, _, dx, fs, e1, e2, g1, g2 f hf, hl, h3 r2 ow _ _ (.of nx) R3⟩
/-- an attribute as a target -/
def gFld (K : PySem.W.Frag) (to : TE) (f : Str) : TG := fun v σ H Q => to σ H fun x H1 => ∃ a C dx fs, x = .ref a ∧ H1 a = some (.ins C dx fs) ∧ Cls K C ∧ NoAttr K C f ∧ fs.length < 1000 ∧ Q σ (upd H1 a (.ins C dx (putF f v fs)))
theorem pg_fld {o : Expr} {to : TE} {f : Str} {pos : Pos} (ho : PE X o to) : PG X (.Attribute o f pos) (gFld X.K to f) := by
  refine ⟨fun pins s σ H v u Q I r h => ?_⟩
  show wpAny _ _ (do
    let ov ← holding [u] (eval o X.env)
    standAt pos.atName
    holding [u, ov] (setAttr ov f u)
    release [u, ov] []) _ _ s
  refine wpAny_bind (wpAny_holding (thn (ho.run pins s σ H _ I h) fun ov s1 ⟨x, H1, I1, r1, a, C, dx, fs, ex, ea, c, n, l, q⟩ => ?_))
  subst ex
  obtain rfl : ov = Value.ref a := r1
  exact wpAny_bind (wpAny_standAt (wpAny_bind (wpAny_holding (setattr_ok I1 ea c n l r fun s3 I3 => wpAny_release ⟨σ, _, I3, q⟩))))
theorem z_setFF (K : PySem.W.Frag) (hK : T.K = K) (o : Nat) (f g : Nat) (e : E) (hf : f < 15) (hg : g < 15) (he : e.strong = true) (gm : ∀ c, T.okc c → Cls K (T.cls c) ∧ ∀ f, f < 15 → NoAttr K (T.cls c) (fnm f)) (D : Ends) (σ : L2.St) (H : Hp) (h : tS T pe W cs (.setFF o f g e) D σ H) :
    tAsg (tE T pe W cs e) (gTup K 2 (gCons (gFld K (tVar o) (fnm f)) (gCons (gFld K (tVar o) (fnm g)) gNil))) D σ H := by
  obtain ⟨Mb, r, ow, st, env, R, h⟩ := h
  rw [execS] at h
  refine then_go R h fun r1 H1 st1 d v n1 R1 hv h1 => ?_
  rw [he] at hv
  have hv : Rep T.toTb H1 (Ms Mb r1 ow) r1 v d := hv
  split at h1
  · rename_i x y
    split at h1
    · rename_i ov hov
      split at h1
      · rename_i st2 e2
        obtain ⟨st3, e3, h3⟩ := h1.opt
        obtain ⟨p, xs, rfl, q1, q2, _⟩ := RepP.tup (.inl hv)
        rw [hK] at q1
        have var : ∀ {r : List Addr} {H : Hp} {st : Store}, Rel T pe Mb r ow H st σ env → ∃ z, σ[o]? = some (some z) ∧ Rep T.toTb H (Ms Mb r ow) r z ov := fun R => by
          unfold getV at hov
          split at hov
          · rename_i d' e'
            cases hov
            obtain ⟨_, _, z, z1, z2⟩ := R.sl o _ e'
            exact ⟨z, z1, z2⟩
          · cases hov
        cases q2 with
        | @cons v1 _ vs1 _ rx q2 =>
          cases q2 with
          | @cons v2 _ vs2 _ ry q2 =>
            cases q2
            obtain ⟨z, z1, z2⟩ := var R1
            obtain ⟨a, c, dx, fs, e4, ok, e5, hl, nx, R3⟩ := fld_wr hf R1 (.inl z2) rx e2
            obtain ⟨z', z3, z4⟩ := var R3
            obtain ⟨a2, c2, dx2, fs2, e6, ok2, e7, hl2, nx2, R4⟩ := fld_wr hg R3 (.inl z4) (ry.mono nx.grow) e3
            obtain ⟨g1, g2⟩ := gm c ok
            obtain ⟨g3, g4⟩ := gm c2 ok2
            exact ⟨p, [v1, v2], rfl, q1, rfl, v1, [v2], rfl, ⟨z, z1, a, _, dx, fs, e4, e5, g1, g2 f hf, hl, v2, [], rfl, z', z3, a2, _, dx2, fs2, e6, e7, g3, g4 g hg, hl2, rfl, h3 r1 ow _ _ (.of (nx.trans nx2)) R4⟩⟩
      · exact h1.elim
    · exact h1.elim
  · exact h1.elim
/-- an item of an object of the store is written -/
def rSetI (T : Tx) : TSet := fun o i v H Q => rSetL o i v H Q ∨ rSetD o i v H Q
theorem set_any (hu : X.A.units + 1 < cLine) : PSet X (rSetI T) := by
  intro pins s σ H o i v ov iv u Q I ro ri rv h
  rcases h with h | h
  · exact set_list pins s σ H o i v ov iv u Q I ro ri rv h
  · exact set_dict hu pins s σ H o i v ov iv u Q I ro ri rv h
theorem z_setI (o i e : E) (he : e.strong = true) (D : Ends) (σ : L2.St) (H : Hp) (h : tS T pe W cs (.setI o i e) D σ H) : tAsg (tE T pe W cs e) (gSub (tE T pe W cs o) (tE T pe W cs i) (rSetI T)) D σ H := by
  obtain ⟨Mb, r, ow, st, env, R, h⟩ := h
  rw [execS] at h
  refine then_go R h fun r1 H1 st1 d v n1 R1 hv h1 => then_go R1 h1 fun r2 H2 st2 od x n2 R2 hx h2 => then_go R2 h2 fun r3 H3 st3 id y n3 R3 hy h3 => ?_
  rw [he] at hv
  have hv3 := (Rep.mono n2.grow hv).mono n3.grow
  have hx3 := hx.weak.mono n3
  obtain ⟨st4, e4, h4⟩ := h3.opt
  unfold setIxO at e4
  split at e4
  · rename_i n
    obtain ⟨a, rfl, hr⟩ := hx3.ref
    have hm : a ∈ r3 := List.mem_of_getElem? hr
    split at e4
    · rename_i ds hd
      split at e4
      · rename_i k
        cases ej : ixN ds.length k with
        | none => rw [ej] at e4; cases e4
        | some j =>
          rw [ej] at e4
          cases e4
          cases hy.weak.int
          obtain ⟨xs, q1, q2⟩ := R3.st.obj n a _ hr hd
          have nx : Nx r3 H3 r3 (upd H3 a (.lst (xs.set j v))) := Nx.wr hm
          refine .inl ⟨a, xs, k, j, rfl, rfl, q1, by rw [q2.len]; exact ej, h4 r3 ow _ _ (.of nx) (R3.next nx (R3.st.set hr ⟨_, upd_same, (q2.set j hv3).mono nx.grow⟩))⟩
      · cases e4
    · rename_i kv hd
      split at e4
      · rename_i k hk
        split at e4
        · rename_i hl
          cases e4
          have ey := hy.weak.key hk
          subst ey
          obtain ⟨kvs, q1, q2⟩ := R3.st.obj n a _ hr hd
          have nx : Nx r3 H3 r3 (upd H3 a (.dK (putK kvs (kd k) v))) := Nx.wr hm
          refine .inr ⟨a, _, rfl, DPut.k q1 (by rw [q2.len, ← line_eq]; exact hl), h4 r3 ow _ _ (.of nx) (R3.next nx (R3.st.set hr ⟨_, upd_same, (q2.put k hv3).mono nx.grow⟩))⟩
        · cases e4
      · cases e4
    · cases e4
  · cases e4
theorem grow_own {a : Addr} {ho : HO} (m : some a ∈ ow) : Grow H (Ms Mb r ow) r (upd H a ho) (Ms Mb r ow) r :=
  ⟨fun b u h n => by rw [upd_ne (fun z : b = a => n (.inr (.inr (by rw [z]; exact m))))]; exact h, fun _ z => .inl z, fun _ _ h => h⟩
/-- an owned object is written -/
theorem Rel.wrOwn (R : Rel T pe Mb r ow H st σ env) {j : Nat} {a : Addr} {ho : HO} {o o' : O} (e : env[j]? = some (.own o)) (ej : ow[j]? = some (some a)) (ev : σ[j]? = some (some (.ref a))) (q : ObjR T.toTb (upd H a ho) (Ms Mb r ow) r a o') :
    NxS r ow H r ow (upd H a ho) ∧ Rel T pe Mb r ow (upd H a ho) st σ (env.set j (.own o')) := by
  have hm : some a ∈ ow := List.mem_of_getElem? ej
  have ha := R.ob a hm
  have keep : ∀ b u, H b = some u → b ≠ a → upd H a ho b = some u := fun b u h n => by rw [upd_ne n]; exact h
  have nn : NxS r ow H r ow (upd H a ho) := ⟨fun b u h _ q2 => keep b u h fun z => q2 (z ▸ hm), ⟨[], by simp, by simp⟩, fun _ h => .inl h, fun b u h => by
    by_cases hb : b = a
    · exact ⟨ho, by rw [hb, upd_same]⟩
    · exact ⟨u, keep b u h hb⟩⟩
  have g := nn.grow (Mb := Mb)
  refine ⟨nn, ⟨R.st.len, R.st.nd, fun n b ob e1 e2 => (R.st.obj n b ob e1 e2).mono g fun u h => keep b u h fun z => ha.1 (z ▸ List.mem_of_getElem? e1), fun b z => ?_⟩, by rw [List.length_set]; exact R.lo, by rw [List.length_set]; exact R.ls, fun i sl e1 => ?_, R.od, R.ob⟩
  · obtain ⟨u, hu⟩ := R.st.dom b z
    exact nn.dom b u hu
  · rw [List.getElem?_set] at e1
    by_cases hj : j = i
    · subst hj
      simp only [if_true] at e1
      split at e1
      · cases e1
        exact ⟨_, ej, a, rfl, ev, q⟩
      · cases e1
    · rw [if_neg hj] at e1
      obtain ⟨oo, e2, e3⟩ := R.sl i sl e1
      refine ⟨oo, e2, e3.mono g fun b u z h => keep b u h fun zz => hj ?_⟩
      subst z zz
      exact R.od j i _ ej e2
theorem z_app (o e : E) (he : e.strong = true) (D : Ends) (σ : L2.St) (H : Hp) (h : tS T pe W cs (.app o e) D σ H) :
    tE T pe W cs o σ H fun x H1 => tyV X.K "list" x H1 ∧ tE T pe W cs e σ H1 fun y H2 => rAppend x [y] H2 fun _ H3 => D.nx σ H3 := by
  obtain ⟨Mb, r, ow, st, env, R, h⟩ := h
  rw [execS] at h
  refine then_go R h fun r1 H1 st1 od x n1 R1 hx h1 => ?_
  split at h1
  · rename_i hl
    obtain ⟨ds, e1⟩ := Option.isSome_iff_exists.mp hl
    obtain ⟨a, xs, ex, q1, q2⟩ := hx.weak.list R1.st e1
    refine ⟨by rw [ex]; exact .inl ⟨rfl, xs, .of q1⟩, then_go R1 h1 fun r2 H2 st2 d v n2 R2 hv h2 => ?_⟩
    rw [he] at hv
    have hx2 := hx.weak.mono n2
    obtain ⟨st3, e3, h3⟩ := h2.opt
    unfold appO at e3
    split at e3
    · rename_i n
      obtain ⟨b, eb, hr⟩ := hx2.ref
      split at e3
      · rename_i ds2 hd
        split at e3
        · rename_i hlt
          cases e3
          obtain ⟨ys, q3, q4⟩ := R2.st.obj n b _ hr hd
          have hm : b ∈ r2 := List.mem_of_getElem? hr
          have nx : Nx r2 H2 r2 (upd H2 b (.lst (ys ++ [v]))) := Nx.wr hm
          exact ⟨b, ys, v, eb, rfl, q3, by rw [q4.len, ← line_eq]; exact hlt, h3 r2 ow _ _ (.of nx) (R2.next nx (R2.st.set hr ⟨_, upd_same, (q4.app (.one hv)).mono nx.grow⟩))⟩
        · cases e3
      · cases e3
    · cases e3
  · exact h1.elim
theorem z_appOwn (j : Nat) (e : E) (he : e.strong = true) (D : Ends) (σ : L2.St) (H : Hp) (h : tS T pe W cs (.appOwn j e) D σ H) :
    tVar j σ H fun x H1 => tyV X.K "list" x H1 ∧ tE T pe W cs e σ H1 fun y H2 => rAppend x [y] H2 fun _ H3 => D.nx σ H3 := by
  obtain ⟨Mb, r, ow, st, env, R, h⟩ := h
  rw [execS] at h
  split at h
  · rename_i ds ej
    obtain ⟨oo, e1, a, rfl, e2, e3⟩ := R.sl j _ ej
    obtain ⟨xs, q1, q2⟩ := e3
    refine ⟨_, e2, .inl ⟨rfl, xs, .of q1⟩, then_go R h fun r2 H2 st2 d v n2 R2 hv h2 => ?_⟩
    rw [he] at hv
    split at h2
    · rename_i hlt
      obtain ⟨oo', e1', a', ea, e2', e3'⟩ := R2.sl j _ ej
      rw [e1] at e1'; cases e1'
      cases ea
      obtain ⟨ys, q3, q4⟩ := e3'
      have g : Grow H2 (Ms Mb r2 ow) r2 (upd H2 a (.lst (ys ++ [v]))) (Ms Mb r2 ow) r2 := grow_own (List.mem_of_getElem? e1)
      obtain ⟨nn, R3⟩ := R2.wrOwn (ho := .lst (ys ++ [v])) (o' := .lst (ds ++ [d])) ej e1 e2 ⟨_, upd_same, (q4.app (.one hv)).mono g⟩
      exact ⟨a, ys, v, rfl, rfl, q3, by rw [q4.len, ← line_eq]; exact hlt, h2 r2 ow _ _ nn R3⟩
    · exact h2.elim
  · exact h.elim
theorem z_extOwn (j : Nat) (e : E) (D : Ends) (σ : L2.St) (H : Hp) (h : tS T pe W cs (.extOwn j e) D σ H) :
    tVar j σ H fun x H1 => tyV X.K "list" x H1 ∧ tE T pe W cs e σ H1 fun y H2 => rExtend x [y] H2 fun _ H3 => D.nx σ H3 := by
  obtain ⟨Mb, r, ow, st, env, R, h⟩ := h
  rw [execS] at h
  split at h
  · rename_i ds ej
    obtain ⟨oo, e1, a, rfl, e2, e3⟩ := R.sl j _ ej
    obtain ⟨xs, q1, q2⟩ := e3
    refine ⟨_, e2, .inl ⟨rfl, xs, .of q1⟩, then_go R h fun r2 H2 st2 d v n2 R2 hv h2 => ?_⟩
    split at h2
    · rename_i ds' hds
      split at h2
      · rename_i hlt
        obtain ⟨oo', e1', a', ea, e2', e3'⟩ := R2.sl j _ ej
        rw [e1] at e1'; cases e1'
        cases ea
        obtain ⟨ys, q3, q4⟩ := e3'
        obtain ⟨b, zs, rfl, q5, q6⟩ := hv.weak.list R2.st hds
        have g : Grow H2 (Ms Mb r2 ow) r2 (upd H2 a (.lst (ys ++ zs))) (Ms Mb r2 ow) r2 := grow_own (List.mem_of_getElem? e1)
        obtain ⟨nn, R3⟩ := R2.wrOwn (ho := .lst (ys ++ zs)) (o' := .lst (ds ++ ds')) ej e1 e2 ⟨_, upd_same, (q4.app q6).mono g⟩
        exact ⟨a, b, ys, zs, rfl, rfl, q3, q5, by rw [q4.len, q6.len, ← line_eq]; exact hlt, h2 r2 ow _ _ nn R3⟩
      · exact h2.elim
    · exact h2.elim
  · exact h.elim
theorem z_setIOwn (j : Nat) (k e : E) (he : e.strong = true) (D : Ends) (σ : L2.St) (H : Hp) (h : tS T pe W cs (.setIOwn j k e) D σ H) : tAsg (tE T pe W cs e) (gSub (tVar j) (tE T pe W cs k) (rSetI T)) D σ H := by
  obtain ⟨Mb, r, ow, st, env, R, h⟩ := h
  rw [execS] at h
  refine then_go R h fun r1 H1 st1 d v n1 R1 hv h1 => ?_
  rw [he] at hv
  split at h1
  · rename_i kv ej
    obtain ⟨oo, e1, a, rfl, e2, e3⟩ := R1.sl j _ ej
    refine ⟨_, e2, then_go R1 h1 fun r2 H2 st2 kd' y n2 R2 hy h2 => ?_⟩
    split at h2
    · rename_i kk hk
      split at h2
      · rename_i hlt
        obtain ⟨oo', e1', a', ea, e2', e3'⟩ := R2.sl j _ ej
        rw [e1] at e1'; cases e1'
        cases ea
        obtain ⟨kvs, q3, q4⟩ := e3'
        have ey := hy.weak.key hk
        subst ey
        have hv2 := Rep.mono n2.grow hv
        have g : Grow H2 (Ms Mb r2 ow) r2 (upd H2 a (.dK (putK kvs (kd kk) v))) (Ms Mb r2 ow) r2 := grow_own (List.mem_of_getElem? e1)
        obtain ⟨nn, R3⟩ := R2.wrOwn (ho := .dK (putK kvs (kd kk) v)) (o' := .dct (putKd kv kk d)) ej e1 e2 ⟨_, upd_same, (q4.put kk hv2).mono g⟩
        exact .inr ⟨a, _, rfl, DPut.k q3 (by rw [q4.len, ← line_eq]; exact hlt), h2 r2 ow _ _ nn R3⟩
      · exact h2.elim
    · exact h2.elim
  · exact h1.elim
theorem z_clear (o : E) (D : Ends) (σ : L2.St) (H : Hp) (h : tS T pe W cs (.clear o) D σ H) : tE T pe W cs o σ H fun x H1 => tyV X.K "list" x H1 ∧ rClear x [] H1 fun _ H3 => D.nx σ H3 := by
  obtain ⟨Mb, r, ow, st, env, R, h⟩ := h
  rw [execS] at h
  refine then_go R h fun r1 H1 st1 od x n1 R1 hx h1 => ?_
  obtain ⟨st3, e3, h3⟩ := h1.opt
  unfold clearO at e3
  split at e3
  · rename_i n
    obtain ⟨b, eb, hr⟩ := hx.weak.ref
    split at e3
    · rename_i ds2 hd
      cases e3
      obtain ⟨ys, q3, q4⟩ := R1.st.obj n b _ hr hd
      have hm : b ∈ r1 := List.mem_of_getElem? hr
      have nx : Nx r1 H1 r1 (upd H1 b (.lst [])) := Nx.wr hm
      exact ⟨by rw [eb]; exact .inl ⟨rfl, ys, .of q3⟩, b, ys, eb, rfl, q3, h3 r1 ow _ _ (.of nx) (R1.next nx (R1.st.set hr ⟨_, upd_same, .nil⟩))⟩
    · cases e3
  · cases e3
theorem z_whl (c : E) (b : List S) (D : Ends) (σ : L2.St) (H : Hp) (h : tS T pe W cs (.whl c b) D σ H) : tWhile (tT T pe W cs c) (tSs T pe W cs b) D σ H := by
  obtain ⟨Mb, r, ow, st, env, R, h⟩ := h
  rw [execS] at h
  refine ⟨fun m σ H => ∃ r ow st env, Rel T pe Mb r ow H st σ env ∧ OKS T pe Mb W r ow H (whileL (fun env st => (evalE cs c env st).bind isT) (fun env st => execL cs b env st) m env st) D, ⟨LF, r, ow, st, env, R, h⟩, ?_⟩
  rintro m σ H ⟨r, ow, st, env, R, h⟩
  cases m with
  | zero => exact h.elim
  | succ m =>
    rw [whileL] at h
    refine ⟨Mb, r, ow, st, env, R, (then_ok R h).imp fun r1 H1 t st1 n s q => ?_⟩
    have R1 := R.next n s
    cases t with
    | false =>
      simp only [Bool.false_eq_true, if_false]
      exact q r1 ow H1 _ .same R1
    | true =>
      simp only [if_true]
      refine ⟨fun σ H => ∃ r ow st env, Rel T pe Mb r ow H st σ env ∧ OKS T pe Mb W r ow H (whileL (fun env st => (evalE cs c env st).bind isT) (fun env st => execL cs b env st) m env st) D, fun σ' H' hh => ⟨m, Nat.lt_succ_self m, hh⟩, Mb, r1, ow, st1, env, R1, ?_⟩
      dsimp only at q
      cases hb : execL cs b env st1 with
      | nx env' st' => rw [hb] at q; exact fun r' ow' H' σ' n' R' => ⟨r', ow', st', env', R', OKS.shift q n'⟩
      | ct env' st' => rw [hb] at q; exact fun r' ow' H' σ' n' R' => ⟨r', ow', st', env', R', OKS.shift q n'⟩
      | bk env' st' => rw [hb] at q; exact q
      | rt d st' => rw [hb] at q; exact q
      | exn x env' st' => rw [hb] at q; exact q
      | bad => rw [hb] at q; exact q
theorem z_for (tg : List Nat) (k : IK) (es : List E) (b : List S) (D : Ends) (σ : L2.St) (H : Hp) (h : tS T pe W cs (.forS tg k es b) D σ H) : tFor (tI T pe W cs k es) (gT T.K tg) (tSs T pe W cs b) D σ H := by
  obtain ⟨Mb, r, ow, st, env, R, h⟩ := h
  rw [execS] at h
  refine ⟨Mb, r, ow, st, env, R, (then_ok R h).imp fun r1 H1 ds st1 n s q => ?_⟩
  have R1 := R.next n s
  cases hs : mkSrc k ds with
  | none => rw [hs] at q; exact q.elim
  | some src =>
    rw [hs] at q
    dsimp only at q
    refine ⟨?_, fun J hJ => ?_⟩
    · have e : LF = 999999 + 1 := rfl
      rw [e, forL] at q
      cases hg : src.get 0 st1 with
      | none => rw [hg] at q; exact q.elim
      | some _ => rfl
    · refine ⟨fun i m σ H => ∃ r ow2 st env, NxS r1 ow H1 r ow2 H ∧ Rel T pe Mb r ow2 H st σ env ∧ OKS T pe Mb W r ow2 H (forL tg src (fun env st => execL cs b env st) m i env st) D, ⟨LF, r1, ow, st1, env, .same, R1, q⟩, ?_⟩
      rintro i m σ H ⟨r2, ow2, st2, env2, n2, R2, q2⟩
      obtain ⟨j1, j2⟩ := hJ Mb r2 ow2 H st2 n2.grow R2.st i
      cases m with
      | zero => exact q2.elim
      | succ m =>
        rw [forL] at q2
        cases hg : src.get i st2 with
        | none => rw [hg] at q2; exact q2.elim
        | some od =>
          rw [hg] at q2
          cases od with
          | none => exact .inl ⟨j1 hg, q2 r2 ow2 H _ .same R2⟩
          | some d =>
            obtain ⟨jg, jy⟩ := j2 d hg
            refine .inr ⟨jg, fun σ H => ∃ r ow2 st env, NxS r1 ow H1 r ow2 H ∧ Rel T pe Mb r ow2 H st σ env ∧ OKS T pe Mb W r ow2 H (forL tg src (fun env st => execL cs b env st) m (i + 1) env st) D, fun σ' H' hh => ⟨m, Nat.lt_succ_self m, hh⟩, fun x H3 y => ?_⟩
            obtain ⟨rfl, rx⟩ := jy x H3 y
            dsimp only at q2
            cases hb : bindT tg d env2 with
            | none => rw [hb] at q2; exact q2.elim
            | some env3 =>
              rw [hb] at q2
              dsimp only at q2
              refine gT_ok R2 rx hb fun σ3 R3 _ => ⟨Mb, r2, ow2, st2, env3, R3, ?_⟩
              cases hx : execL cs b env3 st2 with
              | nx env' st' => rw [hx] at q2; exact fun r' ow' H' σ' n' R' => ⟨r', ow', st', env', n2.trans n', R', OKS.shift q2 n'⟩
              | ct env' st' => rw [hx] at q2; exact fun r' ow' H' σ' n' R' => ⟨r', ow', st', env', n2.trans n', R', OKS.shift q2 n'⟩
              | bk env' st' => rw [hx] at q2; exact q2
              | rt d st' => rw [hx] at q2; exact q2
              | exn x env' st' => rw [hx] at q2; exact q2
              | bad => rw [hx] at q2; exact q2
end
end Iv
end
section
set_option Elab.async false
set_option linter.all false
set_option maxRecDepth 100000
set_option maxHeartbeats 1000000
/-! The look at statements. -/
namespace Iv
open PySem PySem.Spec PySem.Calls PyProof.Rows L2
/-- name = value: the value is no comprehension, or it is one on the name's own row -/
def asgArg (c : Cc) (i : Nat) (st : Stmt) : Option Expr :=
  match st with
  | .Assign [.Name n pn] v _ => if loc c n && decide (c.N[i]? = some n) then (match v with
      | .ListComp _ _ sc p => if ((pn.line == p.line) && decide (c.sc.names.lookup n = some .local)) && (!(sc.names.any fun (m, k) => m == n && (k == .local || k == .cell)) && decide (c.sc.kind = .function)) then some v else none
      | v => if notComp v then some v else none) else none
  | _ => none
def isComp : Expr → Bool
  | .ListComp .. => true
  | _ => false
def notTup : Expr → Bool
  | .Tuple .. => false
  | _ => true
def oneStr (es : List E) (ys : List Expr) : Bool :=
  match es, ys with
  | [.str l], [.Constant (.str m) _ _] => decide (m = mkS l)
  | _, _ => false
def asgT (c : Cc) (tg : List Nat) (st : Stmt) : Option Expr :=
  match st with
  | .Assign [.Tuple ts k p] v _ => if isTg c tg (.Tuple ts k p) && (notComp v && notTup v) then some v else none
  | _ => none
def asgFF (c : Cc) (o f g : Nat) (st : Stmt) : Option Expr :=
  match st with
  | .Assign [.Tuple [.Attribute y m _, .Attribute z n _] _ _] v _ => if (isVar c o y && isVar c o z) && ((decide (m = fnm f) && (decide (n = fnm g) && (decide (f < 15) && decide (g < 15)))) && (!c.hot && (notComp v && notTup v))) then some v else none
  | _ => none
def asgF (f : Nat) (st : Stmt) : Option (Expr × Expr) :=
  match st with
  | .Assign [.Attribute y m _] v _ => if decide (m = fnm f) && decide (f < 15) then some (y, v) else none
  | _ => none
def asgI (st : Stmt) : Option (Expr × (Expr × Expr)) :=
  match st with
  | .Assign [.Subscript y z _] v _ => if plainIx z && notComp v then some (y, (z, v)) else none
  | _ => none
def exprArg (st : Stmt) : Option Expr :=
  match st with
  | .Expr v _ => if notComp v then some v else none
  | _ => none
/-- o.m(e), its value dropped -/
def methArg (m : Str) (st : Stmt) : Option (Expr × Expr) :=
  match st with
  | .Expr (.Call (.Attribute y n ap) [z] [] p) _ => if (decide (n = m) && plainBase y) && (notStar z && (ap.endLine == p.line)) then some (y, z) else none
  | _ => none
def meth0Arg (m : Str) (st : Stmt) : Option Expr :=
  match st with
  | .Expr (.Call (.Attribute y n ap) [] [] p) _ => if (decide (n = m) && plainBase y) && (ap.endLine == p.line) then some y else none
  | _ => none
def iteArg (st : Stmt) : Option (Expr × (List Stmt × List Stmt)) :=
  match st with
  | .If t a b _ => some (t, (a, b))
  | _ => none
def whlArg (st : Stmt) : Option (Expr × List Stmt) :=
  match st with
  | .While t b [] _ => some (t, b)
  | _ => none
def forArg (c : Cc) (tg : List Nat) (k : IK) (n : Nat) (st : Stmt) : Option (List Expr × List Stmt) :=
  match st with
  | .For t it b [] _ => if isTg c tg t then (iterArg c k n it).map fun ys => (ys, b) else none
  | _ => none
def retArg (st : Stmt) : Option Expr :=
  match st with
  | .Return (some v) _ => some v
  | _ => none
def raiseB (k : Nat) (es : List E) (ys : List Expr) : Bool := if k < 3 then decide (es.length = 2) else oneStr es ys
def raiseArg (G : Gt) (c : Cc) (k : Nat) (es : List E) (st : Stmt) : Option (List Expr) :=
  match st with
  | .Raise (some (.Call (.Name n _) ys [] _)) none _ => if (gl c n && decide (G.xc.lookup n = some k)) && (decide (1 ≤ k) && raiseB k es ys) then some ys else none
  | _ => none
def isRetN : Stmt → Bool
  | .Return none _ => true
  | _ => false
def isBrk : Stmt → Bool
  | .Break _ => true
  | _ => false
def isCnt : Stmt → Bool
  | .Continue _ => true
  | _ => false
def isPass : Stmt → Bool
  | .Pass _ => true
  | _ => false
def tryArg (st : Stmt) : Option (List Stmt × List ExceptHandler) :=
  match st with
  | .Try b (h :: hs) [] [] _ => some (b, h :: hs)
  | _ => none
/-- a clause: its class's name, its own name, its suite -/
def hdArg (h : ExceptHandler) : Option (Str × (Option Str × List Stmt)) :=
  match h with
  | .ExceptHandler (some (.Name x _)) n (s :: r) _ => some (x, (n, s :: r))
  | _ => none
def nmB (c : Cc) (a : Option Nat) (n : Option Str) : Bool :=
  match a, n with
  | none, none => true
  | some i, some n => decide (c.sc.names.lookup n = some .local) && decide (c.N[i]? = some n)
  | _, _ => false
/-- a suite's names -/
def Cc.heat (c : Cc) : Cc := ⟨c.N, c.sc, true, c.cel⟩
/-- what is made, behind a mark -/
def unMk : E → E
  | .mk e => e
  | e => e
mutual
def chkS (G : Gt) : S → Cc → Stmt → Bool
  | .set i e, c, st => e.strong && (match asgArg c i st with
    | some v => chkE G (if isComp v then unMk e else e) c v && (!isComp v || (match unMk e with
      | .comp .. => true
      | _ => false))
    | none => false)
  | .setOwn i e, c, st => e.isNew && (match asgArg c i st with
    | some v => chkE G e c v && (!isComp v || (match e with
      | .comp .. => true
      | _ => false))
    | none => false)
  | .setT tg e, c, st => e.strong && (match asgT c tg st with
    | some v => chkE G e c v
    | none => false)
  | .setFF o f g e, c, st => e.strong && (match asgFF c o f g st with
    | some v => chkE G e c v
    | none => false)
  | .setF o f e, c, st => e.strong && (match asgF f st with
    | some (y, v) => chkE G o c y && chkE G e c v
    | none => false)
  | .setI o i e, c, st => e.strong && (match asgI st with
    | some (y, z, v) => chkE G o c y && (chkE G i c z && chkE G e c v)
    | none => false)
  | .setIOwn j k e, c, st => e.strong && (match asgI st with
    | some (y, z, v) => isVar c j y && (chkE G k c z && chkE G e c v)
    | none => false)
  | .expr e, c, st => match exprArg st with
    | some v => chkE G e c v
    | none => false
  | .app o e, c, st => e.strong && (match methArg "append" st with
    | some (y, z) => chkE G o c y && chkE G e c z
    | none => false)
  | .appOwn j e, c, st => e.strong && (match methArg "append" st with
    | some (y, z) => isVar c j y && chkE G e c z
    | none => false)
  | .extOwn j e, c, st => match methArg "extend" st with
    | some (y, z) => isVar c j y && chkE G e c z
    | none => false
  | .clear o, c, st => match meth0Arg "clear" st with
    | some y => chkE G o c y
    | none => false
  | .ite t a b, c, st => match iteArg st with
    | some (y, xs, ys) => chkE G t c y && (chkB G a c xs && chkB G b c ys)
    | none => false
  | .whl t b, c, st => !c.hot && (match whlArg st with
    | some (y, xs) => chkE G t c y && chkB G b c xs
    | none => false)
  | .forS tg k es b, c, st => !c.hot && (match forArg c tg k es.length st with
    | some (ys, xs) => chkL G es c ys && chkB G b c xs
    | none => false)
  | .ret e, c, st => e.strong && (match retArg st with
    | some v => chkE G e c v
    | none => false)
  | .retN, _, st => isRetN st
  | .brk, _, st => isBrk st
  | .cnt, _, st => isCnt st
  | .pass, _, st => isPass st
  | .raise k es, c, st => !c.hot && (match raiseArg G c k es st with
    | some ys => chkL G es c ys
    | none => false)
  | .tryS b ks as hs, c, st => !c.hot && (match tryArg st with
    | some (xs, hds) => chkB G b c xs && chkH G hs ks as c hds
    | none => false)
  | .frz _, _, _ => false
/-- a block -/
def chkB (G : Gt) : List S → Cc → List Stmt → Bool
  | [], _, sts => sts.isEmpty
  | s :: r, c, sts => match s with
    | .frz _ => chkB G r c sts
    | s => (match sts with
      | st :: sts => chkS G s c st && chkB G r c sts
      | [] => false)
/-- clauses -/
def chkH (G : Gt) : List (List S) → List Nat → List (Option Nat) → Cc → List ExceptHandler → Bool
  | [], ks, as, _, hds => ks.isEmpty && (as.isEmpty && hds.isEmpty)
  | b :: bs, ks, as, c, hds => match ks, as, hds with
    | k :: ks, a :: as, hd :: hds => (match hdArg hd with
      | some (x, n, xs) => ((gl c x && decide (G.xc.lookup x = some k)) && (G.hx.contains k && nmB c a n)) && (chkB G b c.heat xs && chkH G bs ks as c hds)
      | none => false)
    | _, _, _ => false
end
/-- a def's body, behind its docstring -/
def chkBody (G : Gt) (c : Cc) (b : List S) (sts : List Stmt) : Bool :=
  match sts with
  | .Expr (.Constant (.str _) _ _) _ :: r => chkB G b c r
  | r => chkB G b c r
end Iv
end
section
set_option Elab.async false
set_option linter.all false
set_option maxRecDepth 100000
set_option maxHeartbeats 8000000
/-! What is looked at is so: statements. -/
namespace Iv
open PySem PySem.Spec PySem.Calls PyProof.Rows L2
/-- a refusal's class without own __init__ -/
def XcOk (T : Tx) (X : Cx) (n : Str) (k : Nat) : Prop := ∃ (C : Addr) (bmB : List Value) (B newId initId : String), ExcBaseFacts B newId initId bmB ∧ PySem.W.excIn X.K C bmB newId = true ∧ X.mg n = some (.ref C) ∧ PySem.W.keepIn X.K (.ref C) = true ∧
  Raises X (.ref C) ∧ T.xcls k = .ref C ∧ T.okx k
/-- a class that stands in a clause -/
def XmOk (G : Gt) (T : Tx) (X : Cx) : Prop := ∀ x k, G.xc.lookup x = some k → G.hx.contains k = true → X.mg x = some (T.xcls k) ∧ ∀ j, T.okx j → PySem.W.exmOne X.K (T.xcls j) (T.xcls k) = some (isSub j k)
/-- what the making of a refusal comes to -/
def tR (T : Tx) (pe : Pe) (W : WX) (cs : Iv.Calls) (k : Nat) (es : List E) : L2.St → Hp → XK → Prop := fun σ H Q => ∃ (Mb : AP') (r : List Addr) (ow : List (Option Addr)) (st : Store) (env : SEnv), Rel T pe Mb r ow H st σ env ∧
  OK T Mb ow W σ r H (evalL cs es env st) (fun r1 H1 ds st1 => match excFields k ds with
    | none => False
    | some fs => ∀ r2 H2 cls d, Nx r1 H1 r2 H2 → StR T.toTb (Ms Mb r2 ow) r2 H2 st1 → ExcR T H2 (Ms Mb r2 ow) r2 ⟨k, fs⟩ cls d → Q cls d H2)
structure Fs (G : Gt) (c : Cc) (T : Tx) (pe : Pe) (cs : Iv.Calls) (W : WX) (X : Cx) : Prop extends Fx G c T pe cs W X where
  own : c.hot = false → PassesOwn (model X.prog X.w) X.A X.env X.xe
  stk : X.stack = X.env :: X.outer
  frm : X.env.frame = some X.env.locals
  rs : c.hot = false → ∀ n k, G.xc.lookup n = some k → 3 ≤ k → XcOk T X n k
  xm : c.hot = false → XmOk G T X
  ri : c.hot = false → ∀ (pn : List (Addr × Obj)) (xe : Value → Shared → Prop) (W : WX), L2N.Takes (X.tr pn xe) W → ∀ n k es ys p pos, 1 ≤ k → k < 3 → es.length = 2 → G.xc.lookup n = some k → Gl X n → (n == ("__debug__" : Str)) = false → GdL T pe W cs (X.tr pn xe) es ys → L2N.PMk (X.tr pn xe) (.Call (.Name n p) ys [] pos) (tR T pe W cs k es)
section
variable {G : Gt} {c : Cc} {T : Tx} {pe : Pe} {W : WX} {cs : Iv.Calls} {X : Cx}
/-- a comprehension's own row -/
theorem setLc {i : Nat} {n : Str} {pn p spos : Pos} {elt : E} {tg : List Nat} {k : IK} {es cond : List E} {y t it : Expr} {ifs : List Expr} {sc : Scope} {te : TE} (F : Fx G c T pe cs W X) (h : chkE G (.comp elt tg k es cond) c (.ListComp y [⟨t, it, ifs, 0⟩] sc p) = true)
    (hn : c.sc.names.lookup n = some .local) (hi : c.N[i]? = some n) (hl : (pn.line == p.line) = true) (ha : (sc.names.any fun (m, k) => m == n && (k == .local || k == .cell)) = false) (hk : c.sc.kind = .function)
    (f : ∀ σ H Q, te σ H Q → tN T pe W cs (.comp elt tg k es cond) σ H Q) : PS X (.Assign [.Name n pn] (.ListComp y [⟨t, it, ifs, 0⟩] sc p) spos) (tAsg te (gName i)) := by
  unfold chkE at h
  split at h
  · rename_i sc0 y0 its ifs0 e
    simp only [Bool.and_eq_true] at h
    obtain ⟨h1, h2, h3⟩ := h
    obtain ⟨t1, it1, pos1, own, e1, o1, o2, o3, o4, o5, o6, o7, o8, o9⟩ := comp_ok (pe := pe) F e (sL es c _ h1 W X F) (fun W X F => sE elt _ _ h2 W X F) (fun W X F => sL cond _ _ h3 W X F)
    cases e1
    have hl' : X.env.scope.names.lookup n = some .local := by
      rw [F.sc]; exact hn
    refine psI (ps_setLc o8 (by rw [F.hN]; exact F.nd) (by rw [F.hN]; exact hi) hl' (sw_true (by rw [F.sc]; exact hk) hl' hl ha) o2 o3 o4 o5 o6 o7) fun D σ H q => ?_
    show tLc _ _ _ _ _ σ H _
    rw [o1]
    exact s_comp elt tg k es cond o9 σ H _ (f _ _ _ q)
  · cases h
theorem swaps_attr {e o : Expr} {f : Str} {p : Pos} {l : Nat} {env : PySem.Env} : swapsWith e (some (.Attribute o f p)) l env = pure false := by
  cases e <;> rfl
theorem sole_no {e t : Expr} {l : Nat} {env : PySem.Env} (h : notComp e = true) : swapsWithSole [t] e l env = pure false := swaps_no h
theorem name_of {n : Str} {i : Nat} (F : Fx G c T pe cs W X) (h : loc c n = true) (hi : c.N[i]? = some n) : X.N.Nodup ∧ X.N[i]? = some n ∧ Loc X.env.scope n ∧ (X.fn n = true ∨ X.env.scope.names.lookup n = some .local) :=
  ⟨by rw [F.hN]; exact F.nd, by rw [F.hN]; exact hi, F.loc h⟩
theorem asgArg_is {i : Nat} {st : Stmt} {v : Expr} (h : asgArg c i st = some v) : ∃ n pn p, st = .Assign [.Name n pn] v p ∧ loc c n = true ∧ c.N[i]? = some n ∧
    ((notComp v = true ∧ isComp v = false) ∨ ∃ y gs sc q, v = .ListComp y gs sc q ∧ ((pn.line == q.line) = true ∧ c.sc.names.lookup n = some .local) ∧ (sc.names.any fun (m, k) => m == n && (k == .local || k == .cell)) = false ∧ c.sc.kind = .function) := by
  unfold asgArg at h
  split at h
  · split at h
    · rename_i hh
      rw [Bool.and_eq_true, decide_eq_true_eq] at hh
      split at h
      · split at h
        · rename_i h2
          simp only [Bool.and_eq_true, decide_eq_true_eq, Bool.not_eq_true'] at h2
          cases h
          exact ⟨_, _, _, rfl, hh.1, hh.2, .inr ⟨_, _, _, _, rfl, h2.1, h2.2.1, h2.2.2⟩⟩
        · cases h
      · split at h
        · rename_i v0 hno h2
          cases h
          refine ⟨_, _, _, rfl, hh.1, hh.2, .inl ⟨h2, ?_⟩⟩
          unfold isComp
          split
          · cases h2
          · rfl
        · cases h
    · cases h
  · cases h
theorem comp_one {elt : E} {tg : List Nat} {k : IK} {es cond : List E} {y : Expr} {gs : List Comprehension} {sc : Scope} {p : Pos} (h : chkE G (.comp elt tg k es cond) c (.ListComp y gs sc p) = true) : ∃ t it ifs, gs = [⟨t, it, ifs, 0⟩] := by
  unfold chkE at h
  split at h
  · rename_i e
    unfold compArg at e
    split at e
    · rename_i hx
      cases hx
      exact ⟨_, _, _, rfl⟩
    · cases e
  · cases h
theorem raiseArg_is {k : Nat} {es : List E} {st : Stmt} {ys : List Expr} (h : raiseArg G c k es st = some ys) : ∃ n p q pos, st = .Raise (some (.Call (.Name n p) ys [] q)) none pos ∧ gl c n = true ∧ G.xc.lookup n = some k ∧
    1 ≤ k ∧ ((k < 3 ∧ es.length = 2) ∨ (¬ k < 3 ∧ ∃ l j p2, es = [.str l] ∧ ys = [.Constant (.str (mkS l)) j p2])) := by
  unfold raiseArg at h
  split at h
  · split at h
    · rename_i hh
      simp only [Bool.and_eq_true, decide_eq_true_eq] at hh
      obtain ⟨⟨h1, h2⟩, h0, h3⟩ := hh
      cases h
      refine ⟨_, _, _, _, rfl, h1, h2, h0, ?_⟩
      unfold raiseB at h3
      by_cases hk : k < 3
      · rw [if_pos hk, decide_eq_true_eq] at h3
        exact .inl ⟨hk, h3⟩
      · rw [if_neg hk] at h3
        refine .inr ⟨hk, ?_⟩
        unfold oneStr at h3
        split at h3
        · rw [decide_eq_true_eq] at h3
          subst h3
          exact ⟨_, _, _, rfl, rfl⟩
        · cases h3
    · cases h
  · cases h
theorem meth_stmt {m : Str} {st : Stmt} {y z : Expr} (h : methArg m st = some (y, z)) : ∃ ap p q, st = .Expr (.Call (.Attribute y m ap) [z] [] p) q ∧ plainBase y = true ∧ notStar z = true ∧ (ap.endLine == p.line) = true := by
  unfold methArg at h
  split at h
  · split at h
    · rename_i hh
      simp only [Bool.and_eq_true, decide_eq_true_eq] at hh
      obtain ⟨⟨h1, h2⟩, h3, h4⟩ := hh
      cases h
      subst h1
      exact ⟨_, _, _, rfl, h2, h3, h4⟩
    · cases h
  · cases h
/-- o.append(e), o.extend(e) -/
theorem lst_meth {m : Str} {id : String} {y z : Expr} {ap p q : Pos} {to te : TE} {rr : V → List V → Hp → VK → Prop} (slot : PySem.Slot "list" m id) (ty : typeOf (.builtin id) = pure (.type "method_descriptor")) (rule : MtR X id rr) (hy : PE X y to) (hz : PE X z te)
    (h2 : plainBase y = true) (h3 : notStar z = true) (h4 : (ap.endLine == p.line) = true) : PS X (.Expr (.Call (.Attribute y m ap) [z] [] p) q) (fun D σ H => to σ H fun x H1 => tyV X.K "list" x H1 ∧ te σ H1 fun v H2 => rr x [v] H2 fun _ H3 => D.nx σ H3) := by
  have hs : [z].all notStar = true := by simp [h3]
  exact ps_expr (pe_bm PySem.F.plainAttrs_list slot ty rule hy (pa_cons hz pa_nil (star_cons h3)) (base_plain h2) (few_ok hs (show 1 < 30 by decide)) h4 (star_cons h3) rfl) (swaps_no rfl)
/-! ### a try -/
variable {Mb : AP'} {r : List Addr} {ow : List (Option Addr)} {H : Hp} {st : Store} {σ : L2.St} {env : SEnv}
theorem heat_no {p : Prop} (h : c.heat.hot = false) : p := by cases h
theorem Fs.tr (F : Fs G c T pe cs W X) (hh : c.hot = false) {pn : List (Addr × Obj)} {xe : Value → Shared → Prop} {W' : WX} (tk : L2N.Takes (X.tr pn xe) W') (ow : PassesOwn (model X.prog X.w) X.A X.env xe) : Fs G c T pe cs W' (X.tr pn xe) :=
  ⟨⟨F.hK, F.hN, F.nd, F.sc, F.calm, F.cel, F.un, tk, F.blt, F.cst, F.okc, F.oke, F.cf, F.cold, (fun a cls d e => by rw [F.cold hh] at e; cases e), (fun h => ⟨(F.xq h).nm, (F.xq h).ve, (F.xq h).cl⟩), F.hf, F.nx⟩, fun _ => ow, F.stk, F.frm, F.rs, F.xm, F.ri⟩
/-- the exception that a suite holds, where it has a name -/
def peOf (ao : Option Nat) (a : Addr) (cls : Value) (d : Option Addr) : Pe := match ao with
  | none => none
  | some _ => some (a, cls, d)
theorem Fs.suite (F : Fs G c T pe cs W X) (ao : Option Nat) (a : Addr) (oe : Obj) (cls : Value) (d : Option Addr) (pn : List (Addr × Obj)) (hz : L2N.Zn cls d oe) (hd : ∃ us, oe.data = .fields us) : Fs G c.heat T (peOf ao a cls d) cs WF (X.suite a ((a, oe) :: pn)) :=
  ⟨⟨F.hK, F.hN, F.nd, F.sc, fun h => heat_no h, F.cel, F.un, takes_no, F.blt, F.cst, F.okc, F.oke, fun h => heat_no h, fun h => heat_no h, (fun b cls' d' e => by
      unfold peOf at e
      split at e
      · cases e
      · cases e; exact ⟨oe, List.mem_cons_self, hz, hd, rfl⟩), (fun h => ⟨(F.xq h).nm, (F.xq h).ve, (F.xq h).cl⟩), fun x f h => (by
      obtain ⟨k, fa, fd, ps, h1, h2, h3, h4, h5⟩ := F.hf x f h
      exact ⟨k, fa, fd, ps, h1, h2, h3, ⟨h4.dp, h4.un⟩, h5⟩), fun h => heat_no h⟩, fun h => heat_no h, F.stk, F.frm, fun h => heat_no h, fun h => heat_no h, fun h => heat_no h⟩
/-- clauses that are looked at -/
inductive HdG (c : Cc) (T : Tx) (cs : Iv.Calls) (X : Cx) : List (List S) → List Nat → List (Option Nat) → List ExceptHandler → Prop
  | nil : HdG c T cs X [] [] [] []
  | cons {h : List S} {k : Nat} {a : Option Nat} {x : Str} {np pos : Pos} {n : Option Str} {s0 : Stmt} {suite : List Stmt} {hs : List (List S)} {ks : List Nat} {as : List (Option Nat)} {hds : List ExceptHandler} (nm : Names X x (T.xcls k))
      (ex : ∀ j, T.okx j → PySem.W.exmOne X.K (T.xcls j) (T.xcls k) = some (isSub j k)) (nb : nmB c a n = true)
      (g : ∀ (ad : Addr) (oe : Obj) (cls : Value) (d : Option Addr) (pn : List (Addr × Obj)), L2N.Zn cls d oe → (∃ vs, oe.data = .fields vs) → PSs (X.suite ad ((ad, oe) :: pn)) (s0 :: suite) (tSs T (peOf a ad cls d) WF cs h))
      (r : HdG c T cs X hs ks as hds) : HdG c T cs X (h :: hs) (k :: ks) (a :: as) (.ExceptHandler (some (.Name x np)) n (s0 :: suite) pos :: hds)
/-- what the clauses wish -/
def hdN (T : Tx) (cs : Iv.Calls) : List (List S) → List Nat → List (Option Nat) → List Cl
  | h :: hs, k :: ks, a :: as => (T.xcls k, a, fun ad cls d => tSs T (peOf a ad cls d) WF cs h) :: hdN T cs hs ks as
  | _, _, _ => []
theorem HdG.nam (F : Fx G c T pe cs W X) {hs : List (List S)} {ks : List Nat} {as : List (Option Nat)} {hds : List ExceptHandler} (h : HdG c T cs X hs ks as hds) : HdsN X hds (hdN T cs hs ks as) := by
  induction h with
  | nil => exact .nil
  | @cons h k a x np pos n s0 suite hs ks as hds nm ex nb g r ih =>
    refine .cons nm ?_ g ih
    cases a with
    | none => cases n with
      | none => exact .inl ⟨rfl, rfl⟩
      | some n => cases nb
    | some i => cases n with
      | none => cases nb
      | some n =>
        simp only [nmB, Bool.and_eq_true, decide_eq_true_eq] at nb
        exact .inr ⟨i, n, rfl, rfl, by rw [F.hN]; exact nb.2, by show X.env.scope.names.lookup n = _; rw [F.sc]; exact nb.1⟩
theorem OKS.cool {W' : WX} {o : Out} {D : Ends} (h : OKS T pe Mb W r ow H o D) (n : ∀ x e s, o ≠ .exn x e s) : OKS T pe Mb W' r ow H o D := by
  cases o with
  | exn x e s => exact absurd rfl (n x e s)
  | _ => exact h
/-- the exception is held -/
theorem Rel.hold {x : Exc} {a : Addr} {cls : Value} {d : Option Addr} (R : Rel T none Mb r ow H st σ env) (e : ExcR T H (Ms Mb r ow) r x cls d) (i : Nat) : Rel T (some (a, cls, d)) Mb r ow H st (σ.set i (some (.ref a))) (env.set i (.exc x)) := by
  refine ⟨R.st, by rw [List.length_set]; exact R.lo, by rw [List.length_set, List.length_set]; exact R.ls, fun j sl q => ?_, R.od, R.ob⟩
  rw [List.getElem?_set] at q
  by_cases hj : i = j
  · subst hj
    rw [if_pos rfl] at q
    split at q
    · rename_i hl
      cases q
      have hl2 : i < ow.length := by rw [R.lo]; exact hl
      exact ⟨ow[i], List.getElem?_eq_getElem hl2, a, cls, d, rfl, by rw [List.getElem?_set, if_pos rfl, if_pos (by rw [R.ls]; exact hl)], e⟩
    · cases q
  · rw [if_neg hj] at q
    obtain ⟨o, e1, e2⟩ := R.sl j sl q
    refine ⟨o, e1, ?_⟩
    rw [List.getElem?_set, if_neg hj]
    cases sl with
    | exc y =>
      obtain ⟨_, _, _, z, _⟩ := e2
      cases z
    | none => exact e2
    | val _ => exact e2
    | own _ => exact e2
/-- .. and let go -/
theorem Rel.letGo (R : Rel T pe Mb r ow H st σ env) (i : Nat) : Rel T none Mb r ow H st (σ.set i none) (noX (env.set i .none)) := by
  refine ⟨R.st, by unfold noX; rw [List.length_map, List.length_set]; exact R.lo, by unfold noX; rw [List.length_map, List.length_set, List.length_set]; exact R.ls, fun j sl q => ?_, R.od, R.ob⟩
  unfold noX at q
  rw [List.getElem?_map, List.getElem?_set] at q
  by_cases hj : i = j
  · subst hj
    rw [if_pos rfl] at q
    split at q
    · rename_i hl
      cases q
      have hl2 : i < ow.length := by rw [R.lo]; exact hl
      exact ⟨ow[i], List.getElem?_eq_getElem hl2, trivial⟩
    · cases q
  · rw [if_neg hj] at q
    cases e : env[j]? with
    | none => rw [e] at q; cases q
    | some s0 =>
      rw [e] at q
      obtain ⟨o, e1, e2⟩ := R.sl j s0 e
      refine ⟨o, e1, ?_⟩
      rw [List.getElem?_set, if_neg hj]
      cases s0 <;> (cases q; first | trivial | exact e2)
/-- what the clauses take -/
theorem pick_nam {D : Ends} {x : Exc} {env1 : SEnv} {st1 : Store} {H1 : Hp} {σ1 : L2.St} {r1 : List Addr} {ow1 : List (Option Addr)} {cls : Value} {d : Option Addr} {hs : List (List S)} {ks : List Nat} {as : List (Option Nat)} {hds : List ExceptHandler} (g : HdG c T cs X hs ks as hds)
    (R : Rel T none Mb r1 ow1 H1 st1 σ1 env1) (e : ExcR T H1 (Ms Mb r1 ow1) r1 x cls d) (h : OKS T none Mb W r1 ow1 H1 (pickH x ks as (execLL cs hs) env1 st1) D) : wNam X.K W D (hdN T cs hs ks as) cls d σ1 H1 := by
  induction g with
  | nil =>
    unfold execLL pickH at h
    exact h _ _ _ _ _ _ .same R e
  | @cons h0 k a x0 np pos n s0 suite hs ks as hds nm ex nb g r ih =>
    unfold execLL pickH at h
    have e0 := e
    obtain ⟨⟨e1, e2⟩, _⟩ := e
    refine ⟨isSub x.c k, by rw [e1]; exact ex _ e2, fun hb ad _ => ?_, fun hb => ?_⟩
    · rw [hb] at h
      dsimp only at h
      cases a with
      | none =>
        refine ⟨Mb, r1, ow1, st1, env1, R, ?_⟩
        revert h
        dsimp only
        cases execL cs h0 env1 st1 with
        | exn _ _ _ => exact fun h => h.elim
        | nx _ _ => exact fun h => h
        | rt _ _ => exact fun h => h
        | bk _ _ => exact fun h => h
        | ct _ _ => exact fun h => h
        | bad => exact fun h => h
      | some i =>
        refine ⟨Mb, r1, ow1, st1, _, R.hold e0 i, ?_⟩
        revert h
        dsimp only
        cases execL cs h0 (env1.set i (.exc x)) st1 with
        | exn _ _ _ => exact fun h => h.elim
        | nx _ _ => exact fun h r2 ow2 H2 σ2 n2 R2 => h r2 ow2 H2 _ n2 (R2.letGo i)
        | rt _ _ => exact fun h => h
        | bk _ _ => exact fun h r2 ow2 H2 σ2 n2 R2 => h r2 ow2 H2 _ n2 (R2.letGo i)
        | ct _ _ => exact fun h r2 ow2 H2 σ2 n2 R2 => h r2 ow2 H2 _ n2 (R2.letGo i)
        | bad => exact fun h => h
    · rw [hb] at h
      exact ih h
theorem z_tryNam {b : List S} {hs : List (List S)} {ks : List Nat} {as : List (Option Nat)} {hds : List ExceptHandler} (g : HdG c T cs X hs ks as hds) (D : Ends) (σ : L2.St) (H : Hp) (h : tS T none W cs (.tryS b ks as hs) D σ H) : tSs T none (wNam X.K W D (hdN T cs hs ks as)) cs b D σ H := by
  obtain ⟨Mb, r, ow, st, env, R, h⟩ := h
  rw [execS] at h
  refine ⟨Mb, r, ow, st, env, R, ?_⟩
  revert h
  cases execL cs b env st with
  | exn x env1 st1 => exact fun h r1 ow1 H1 σ1 cls d n R1 e => pick_nam g R1 e (OKS.shift h n)
  | nx _ _ => exact fun h => h
  | rt _ _ => exact fun h => h
  | bk _ _ => exact fun h => h
  | ct _ _ => exact fun h => h
  | bad => exact fun h => h
theorem try_is {st : Stmt} {xs : List Stmt} {hds : List ExceptHandler} (h : tryArg st = some (xs, hds)) : ∃ h0 hr pos, hds = h0 :: hr ∧ st = .Try xs hds [] [] pos := by
  unfold tryArg at h
  split at h
  · cases h; exact ⟨_, _, _, rfl, rfl⟩
  · cases h
theorem hd_is {hd : ExceptHandler} {x : Str} {n : Option Str} {xs : List Stmt} (h : hdArg hd = some (x, n, xs)) : ∃ np s0 r pos, xs = s0 :: r ∧ hd = .ExceptHandler (some (.Name x np)) n (s0 :: r) pos := by
  unfold hdArg at h
  split at h
  · cases h; exact ⟨_, _, _, _, rfl, rfl⟩
  · cases h
end
section
variable {G : Gt} {T : Tx} {pe : Pe} {cs : Iv.Calls}
mutual
theorem sS : ∀ (s : S) (c : Cc) (st : Stmt), chkS G s c st = true → ∀ {pe : Pe} (W : WX) (X : Cx), Fs G c T pe cs W X → PS X st (tS T pe W cs s)
  | .set i e, c, st, h, pe, W, X, F => by
    unfold chkS at h
    rw [Bool.and_eq_true] at h
    obtain ⟨hs, h⟩ := h
    split at h
    · rename_i v hv
      rw [Bool.and_eq_true] at h
      obtain ⟨n, pn, p, rfl, h1, h2, h3⟩ := asgArg_is hv
      obtain ⟨n1, n2, n3, n4⟩ := name_of F.toFx h1 h2
      rcases h3 with ⟨h3, h4⟩ | ⟨y, gs, sc, q, rfl, h5, h6, h7⟩
      · rw [h4] at h
        exact psI (ps_set n1 n2 n3 (sE e c v h.1 W X F.toFx).pe_ (swaps_no h3) n4) (z_set i e hs)
      · have hc : isComp (.ListComp y gs sc q) = true := rfl
        rw [hc, if_pos rfl] at h
        obtain ⟨h8, h9⟩ := h
        cases e with
        | comp elt tg k es cond =>
          obtain ⟨t, it, ifs, rfl⟩ := comp_one (elt := elt) (tg := tg) (k := k) (es := es) (cond := cond) h8
          exact psI (setLc (te := tE T pe W cs (.comp elt tg k es cond)) F.toFx h8 h5.2 h2 h5.1 h6 h7 (tN_of (comp_new elt tg k es cond) rfl)) (z_set i _ hs)
        | mk e =>
          cases e with
          | comp elt tg k es cond =>
            obtain ⟨t, it, ifs, rfl⟩ := comp_one (elt := elt) (tg := tg) (k := k) (es := es) (cond := cond) h8
            exact psI (setLc (te := tE T pe W cs (.mk (.comp elt tg k es cond))) F.toFx h8 h5.2 h2 h5.1 h6 h7 mk_ok) (z_set i _ hs)
          | _ => cases h9
        | _ => cases h9
    · cases h
  | .setOwn i e, c, st, h, pe, W, X, F => by
    unfold chkS at h
    rw [Bool.and_eq_true] at h
    obtain ⟨hs, h⟩ := h
    split at h
    · rename_i v hv
      rw [Bool.and_eq_true] at h
      obtain ⟨n, pn, p, rfl, h1, h2, h3⟩ := asgArg_is hv
      obtain ⟨n1, n2, n3, n4⟩ := name_of F.toFx h1 h2
      rcases h3 with ⟨h3, h4⟩ | ⟨y, gs, sc, q, rfl, h5, h6, h7⟩
      · exact psI (ps_set n1 n2 n3 ((sE e c v h.1 W X F.toFx).pn hs) (swaps_no h3) n4) (z_setOwn i e)
      · obtain ⟨h8, h9⟩ := h
        cases e with
        | comp elt tg k es cond =>
          obtain ⟨t, it, ifs, rfl⟩ := comp_one h8
          exact psI (setLc (te := tN T pe W cs (.comp elt tg k es cond)) F.toFx h8 h5.2 h2 h5.1 h6 h7 fun _ _ _ q => q) (z_setOwn i _)
        | _ => cases h9
    · cases h
  | .setT tg e, c, st, h, pe, W, X, F => by
    unfold chkS at h
    rw [Bool.and_eq_true] at h
    obtain ⟨hs, h⟩ := h
    split at h
    · rename_i v hv
      unfold asgT at hv
      split at hv
      · split at hv
        · rename_i hh
          simp only [Bool.and_eq_true, Bool.not_eq_true'] at hh
          obtain ⟨h1, h2, h3⟩ := hh
          cases hv
          refine psI (ps_asg (sE e c _ h W X F.toFx).pe_ (tg_ok F.toFx h1) (sole_no h2) ?_ rfl) (z_setT tg e hs)
          cases v <;> first | rfl | cases h3
        · cases hv
      · cases hv
    · cases h
  | .setFF o f g e, c, st, h, pe, W, X, F => by
    unfold chkS at h
    rw [Bool.and_eq_true] at h
    obtain ⟨hs, h⟩ := h
    split at h
    · rename_i v hv
      unfold asgFF at hv
      split at hv
      · split at hv
        · rename_i hh
          simp only [Bool.and_eq_true, Bool.not_eq_true', decide_eq_true_eq] at hh
          obtain ⟨⟨h1, h2⟩, ⟨h3, h4, h5, h6⟩, h7, h8, h9⟩ := hh
          cases hv
          subst h3 h4
          refine psI (ps_asg (sE e c _ h W X F.toFx).pe_ (pg_tup (F.calm h7) (pgs_cons (pg_fld (pe_isVar F.toFx h1)) (pgs_cons (pg_fld (pe_isVar F.toFx h2)) pgs_nil)) rfl rfl) (sole_no h8) ?_ rfl) (z_setFF X.K F.hK o f g e h5 h6 hs F.okc)
          cases v <;> first | rfl | cases h9
        · cases hv
      · cases hv
    · cases h
  | .setF o f e, c, st, h, pe, W, X, F => by
    unfold chkS at h
    rw [Bool.and_eq_true] at h
    obtain ⟨hs, h⟩ := h
    split at h
    · rename_i y v hv
      rw [Bool.and_eq_true] at h
      unfold asgF at hv
      split at hv
      · split at hv
        · rename_i hh
          simp only [Bool.and_eq_true, decide_eq_true_eq] at hh
          obtain ⟨h1, h2⟩ := hh
          cases hv
          subst h1
          exact psI (ps_fld (sE o c _ h.1 W X F.toFx).pe_ (sE e c _ h.2 W X F.toFx).pe_ swaps_attr) (z_setF X.K o f e h2 hs F.okc)
        · cases hv
      · cases hv
    · cases h
  | .setI o i e, c, st, h, pe, W, X, F => by
    unfold chkS at h
    rw [Bool.and_eq_true] at h
    obtain ⟨hs, h⟩ := h
    split at h
    · rename_i y z v hv
      simp only [Bool.and_eq_true] at h
      obtain ⟨h1, h2, h3⟩ := h
      unfold asgI at hv
      split at hv
      · split at hv
        · rename_i hh
          rw [Bool.and_eq_true] at hh
          cases hv
          refine psI (ps_asg (sE e c _ h3 W X F.toFx).pe_ (pg_sub (sE o c _ h1 W X F.toFx).pe_ (sE i c _ h2 W X F.toFx).pe_ (set_any (by have := F.un; omega)) ?_) (sole_no hh.2) ?_ rfl) (z_setI o i e hs)
          · intro w
            have hz := hh.1
            cases z <;> first | rfl | cases hz
          · rfl
        · cases hv
      · cases hv
    · cases h
  | .setIOwn j k e, c, st, h, pe, W, X, F => by
    unfold chkS at h
    rw [Bool.and_eq_true] at h
    obtain ⟨hs, h⟩ := h
    split at h
    · rename_i y z v hv
      simp only [Bool.and_eq_true] at h
      obtain ⟨h1, h2, h3⟩ := h
      unfold asgI at hv
      split at hv
      · split at hv
        · rename_i hh
          rw [Bool.and_eq_true] at hh
          cases hv
          refine psI (ps_asg (sE e c _ h3 W X F.toFx).pe_ (pg_sub (pe_isVar F.toFx h1) (sE k c _ h2 W X F.toFx).pe_ (set_any (by have := F.un; omega)) ?_) (sole_no hh.2) ?_ rfl) (z_setIOwn j k e hs)
          · intro w
            have hz := hh.1
            cases z <;> first | rfl | cases hz
          · rfl
        · cases hv
      · cases hv
    · cases h
  | .expr e, c, st, h, pe, W, X, F => by
    unfold chkS at h
    split at h
    · rename_i v hv
      unfold exprArg at hv
      split at hv
      · split at hv
        · rename_i hh
          cases hv
          exact psI (ps_expr (sE e c _ h W X F.toFx).pe_ (swaps_no hh)) (z_expr e)
        · cases hv
      · cases hv
    · cases h
  | .app o e, c, st, h, pe, W, X, F => by
    unfold chkS at h
    rw [Bool.and_eq_true] at h
    obtain ⟨hs, h⟩ := h
    split at h
    · rename_i y z hv
      rw [Bool.and_eq_true] at h
      obtain ⟨ap, p, q, rfl, h2, h3, h4⟩ := meth_stmt hv
      exact psI (lst_meth PySem.F.slot_list_append PySem.F.type_list_append mt_append (sE o c _ h.1 W X F.toFx).pe_ (sE e c _ h.2 W X F.toFx).pe_ h2 h3 h4) (z_app o e hs)
    · cases h
  | .appOwn j e, c, st, h, pe, W, X, F => by
    unfold chkS at h
    rw [Bool.and_eq_true] at h
    obtain ⟨hs, h⟩ := h
    split at h
    · rename_i y z hv
      rw [Bool.and_eq_true] at h
      obtain ⟨ap, p, q, rfl, h2, h3, h4⟩ := meth_stmt hv
      exact psI (lst_meth PySem.F.slot_list_append PySem.F.type_list_append mt_append (pe_isVar F.toFx h.1) (sE e c _ h.2 W X F.toFx).pe_ h2 h3 h4) (z_appOwn j e hs)
    · cases h
  | .extOwn j e, c, st, h, pe, W, X, F => by
    unfold chkS at h
    split at h
    · rename_i y z hv
      rw [Bool.and_eq_true] at h
      obtain ⟨ap, p, q, rfl, h2, h3, h4⟩ := meth_stmt hv
      exact psI (lst_meth PySem.F.slot_list_extend PySem.F.type_list_extend mt_extend (pe_isVar F.toFx h.1) (sE e c _ h.2 W X F.toFx).pe_ h2 h3 h4) (z_extOwn j e)
    · cases h
  | .clear o, c, st, h, pe, W, X, F => by
    unfold chkS at h
    split at h
    · rename_i y hv
      unfold meth0Arg at hv
      split at hv
      · split at hv
        · rename_i hh
          simp only [Bool.and_eq_true, decide_eq_true_eq] at hh
          obtain ⟨⟨h1, h2⟩, h3⟩ := hh
          cases hv
          subst h1
          exact psI (ps_expr (pe_bm0 PySem.F.plainAttrs_list PySem.F.slot_list_clear PySem.F.type_list_clear mt_clear (sE o c _ h W X F.toFx).pe_ (base_plain h2) h3) (swaps_no rfl)) (z_clear o)
        · cases hv
      · cases hv
    · cases h
  | .ite t a b, c, st, h, pe, W, X, F => by
    unfold chkS at h
    split at h
    · rename_i y xs ys hv
      simp only [Bool.and_eq_true] at h
      obtain ⟨h1, h2, h3⟩ := h
      unfold iteArg at hv
      split at hv
      · cases hv
        exact psI (ps_if (sE t c _ h1 W X F.toFx).pt (sB a c _ h2 W X F) (sB b c _ h3 W X F)) (z_ite t a b)
      · cases hv
    · cases h
  | .whl t b, c, st, h, pe, W, X, F => by
    unfold chkS at h
    rw [Bool.and_eq_true, Bool.not_eq_true'] at h
    obtain ⟨hh, h⟩ := h
    split at h
    · rename_i y xs hv
      rw [Bool.and_eq_true] at h
      unfold whlArg at hv
      split at hv
      · cases hv
        exact psI (ps_while (F.own hh) (sE t c _ h.1 W X F.toFx).pt (sB b c _ h.2 W X F)) (z_whl t b)
      · cases hv
    · cases h
  | .forS tg k es b, c, st, h, pe, W, X, F => by
    unfold chkS at h
    rw [Bool.and_eq_true, Bool.not_eq_true'] at h
    obtain ⟨hh, h⟩ := h
    split at h
    · rename_i ys xs hv
      rw [Bool.and_eq_true] at h
      unfold forArg at hv
      split at hv
      · rename_i t it b0 p0
        split at hv
        · rename_i ht
          cases e : iterArg c k es.length it with
          | none => rw [e] at hv; cases hv
          | some ys0 =>
            rw [e] at hv
            cases hv
            obtain ⟨p1, p2⟩ := iter_ok (tg := t) F.toFx e (sL es c _ h.1 W X F.toFx)
            exact psI (ps_for (F.own hh) (F.calm hh) p1 (tg_ok F.toFx ht) (sB b c _ h.2 W X F) (folded_no p2)) (z_for tg k es b)
        · cases hv
      · cases hv
    · cases h
  | .ret e, c, st, h, pe, W, X, F => by
    unfold chkS at h
    rw [Bool.and_eq_true] at h
    obtain ⟨hs, h⟩ := h
    split at h
    · rename_i v hv
      unfold retArg at hv
      split at hv
      · cases hv
        exact psI (ps_ret (sE e c _ h W X F.toFx).pe_) (z_ret e hs)
      · cases hv
    · cases h
  | .retN, c, st, h, pe, W, X, F => by
    unfold chkS at h
    cases st <;> first | (cases h; done) | skip
    all_goals first
      | exact psI ps_retN z_retN
      | (rename_i v _; cases v <;> first | (cases h; done) | exact psI ps_retN z_retN)
  | .brk, c, st, h, pe, W, X, F => by
    unfold chkS at h
    cases st <;> first | (cases h; done) | skip
    all_goals first
      | exact psI ps_break z_brk
      | (rename_i v _; cases v <;> first | (cases h; done) | exact psI ps_break z_brk)
  | .cnt, c, st, h, pe, W, X, F => by
    unfold chkS at h
    cases st <;> first | (cases h; done) | skip
    all_goals first
      | exact psI ps_continue z_cnt
      | (rename_i v _; cases v <;> first | (cases h; done) | exact psI ps_continue z_cnt)
  | .pass, c, st, h, pe, W, X, F => by
    unfold chkS at h
    cases st <;> first | (cases h; done) | skip
    all_goals first
      | exact psI ps_pass z_pass
      | (rename_i v _; cases v <;> first | (cases h; done) | exact psI ps_pass z_pass)
  | .raise k es, c, st, h, pe, W, X, F => by
    unfold chkS at h
    rw [Bool.and_eq_true, Bool.not_eq_true'] at h
    obtain ⟨hh, h⟩ := h
    split at h
    · rename_i ys hv
      obtain ⟨n, p, q, pos, rfl, h1, h2, h0, h3⟩ := raiseArg_is hv
      obtain ⟨g1, g2⟩ := F.gl h1
      rcases h3 with ⟨hk, h3⟩ | ⟨hk, h3⟩
      · refine psI (L2N.ps_raise (F.calm hh) F.tk (F.ri hh X.pn X.xe W F.tk n k es ys p q h0 hk h3 h2 g1 g2 (sL es c _ h W X F.toFx))) fun D σ H z => ?_
        obtain ⟨Mb, r, ow, st, env, R, z⟩ := z
        rw [execS] at z
        refine ⟨Mb, r, ow, st, env, R, (then_ok R z).imp fun r1 H1 ds st1 n1 s1 q1 => ?_⟩
        cases e : excFields k ds with
        | none => rw [e] at q1; exact q1.elim
        | some fs =>
          rw [e] at q1
          exact fun r2 H2 cls d n2 s2 ex => q1 r2 ow H2 σ cls d (.of n2) ((R.next n1 s1).next n2 s2) ex
      · obtain ⟨l, j, p2, rfl, rfl⟩ := h3
        have hk : 3 ≤ k := by omega
        obtain ⟨C, bmB, B, newId, initId, f1, f2, f3, f4, f5, f6, f7⟩ := F.rs hh n k h2 hk
        refine psI (L2N.ps_raise (F.calm hh) F.tk (L2N.pmk_own f1 f2 f3 f4 f5 g1 g2)) fun D σ H z => ?_
        obtain ⟨Mb, r, ow, st, env, R, z⟩ := z
        simp only [execS, evalL, evalE, Res.bind_ok, Res.then_ok] at z
        have e : excFields k [.str l] = some [] := by
          rcases k with _ | _ | _ | k
          · omega
          · omega
          · omega
          · rfl
        rw [e] at z
        exact z r ow H σ _ _ .same R ⟨⟨f6.symm, f7⟩, .inl ⟨rfl, rfl⟩⟩
    · cases h
  | .tryS b ks as hs, c, st, h, pe, W, X, F => by
    unfold chkS at h
    rw [Bool.and_eq_true, Bool.not_eq_true'] at h
    obtain ⟨hh, h⟩ := h
    have hp := F.cold hh
    subst hp
    split at h
    · rename_i xs hds hv
      rw [Bool.and_eq_true] at h
      obtain ⟨h0, hr, pos, e1, rfl⟩ := try_is hv
      have g := sH hs ks as c hds h.2 hh W X F
      subst e1
      exact psI (ps_try_nam F.stk F.frm (by rw [F.hN]; exact F.nd) F.tk (fun W' pn xe tk ow => sB b c xs h.1 W' (X.tr pn xe) (F.tr hh tk ow)) (g.nam F.toFx)) (z_tryNam g)
    · cases h
  | .frz _, c, st, h, pe, W, X, F => by
    unfold chkS at h
    cases h
theorem sB : ∀ (b : List S) (c : Cc) (sts : List Stmt), chkB G b c sts = true → ∀ {pe : Pe} (W : WX) (X : Cx), Fs G c T pe cs W X → PSs X sts (tSs T pe W cs b)
  | [], c, sts, h, pe, W, X, F => by
    unfold chkB at h
    cases sts with
    | nil => exact pssI pss_nil z_nil
    | cons _ _ => cases h
  | s :: b, c, sts, h, pe, W, X, F => by
    unfold chkB at h
    split at h
    · rename_i i
      exact pssI (sB b c sts h W X F) (z_frz i b)
    · split at h
      · rw [Bool.and_eq_true] at h
        exact pssI (pss_cons (sS s c _ h.1 W X F) (sB b c _ h.2 W X F)) (z_cons s b)
      · cases h
theorem sH : ∀ (hs : List (List S)) (ks : List Nat) (as : List (Option Nat)) (c : Cc) (hds : List ExceptHandler), chkH G hs ks as c hds = true → c.hot = false → ∀ (W : WX) (X : Cx), Fs G c T none cs W X → HdG c T cs X hs ks as hds
  | [], ks, as, c, hds, h, hh, W, X, F => by
    unfold chkH at h
    simp only [Bool.and_eq_true, List.isEmpty_iff] at h
    obtain ⟨h1, h2, h3⟩ := h
    subst h1 h2 h3
    exact .nil
  | b :: hs, ks, as, c, hds, h, hh, W, X, F => by
    unfold chkH at h
    split at h
    · rename_i k ks a as hd hds
      split at h
      · rename_i x n xs hv
        simp only [Bool.and_eq_true, decide_eq_true_eq] at h
        obtain ⟨⟨⟨h1, h2⟩, h3, h4⟩, h5, h6⟩ := h
        obtain ⟨np, s0, r, pos, e1, e2⟩ := hd_is hv
        subst e1 e2
        obtain ⟨g1, g2⟩ := F.gl h1
        obtain ⟨x1, x2⟩ := F.xm hh x k h2 h3
        exact .cons ⟨g1, g2, .inl x1⟩ x2 h4 (fun ad oe cls d pn hz hf => sB b c.heat (s0 :: r) h5 WF _ (F.suite _ ad oe cls d pn hz hf)) (sH hs ks as c hds h6 hh W X F)
      · cases h
    · cases h
end
end
end Iv
end
section
set_option Elab.async false
set_option linter.all false
set_option maxRecDepth 100000
set_option maxHeartbeats 4000000
/-! Every def keeps what the interpreter says of it. -/
namespace Iv
open PySem PySem.Spec PySem.Calls PyProof.Rows L2
theorem ms_none {Mb : AP'} {r : List Addr} {n : Nat} : Ms Mb r (List.replicate n none) = Ms Mb r [] := by
  funext a
  refine propext ⟨fun h => ?_, fun h => ?_⟩
  · rcases h with h | h | h
    · exact .inl h
    · exact .inr (.inl h)
    · have := (List.mem_replicate.mp h).2
      cases this
  · rcases h with h | h | h
    · exact .inl h
    · exact .inr (.inl h)
    · cases h
section
variable {T : Tx} {pe : Pe} {Mb : AP'} {r r' : List Addr} {ow ow' : List (Option Addr)} {H H' : Hp} {st : Store} {σ : L2.St} {env : SEnv}
/-- nothing is owned any more -/
theorem drop_ow : Grow H (Ms Mb r ow) r H (Ms Mb r []) r := ⟨fun _ _ h _ => h, fun a z => .inl (by
  rcases z with z | z | z
  · exact .inl z
  · exact .inr (.inl z)
  · cases z), fun _ _ h => h⟩
theorem StR.drop (s : StR T.toTb (Ms Mb r ow) r H st) : StR T.toTb (Ms Mb r []) r H st :=
  ⟨s.len, s.nd, fun n a o e1 e2 => (s.obj n a o e1 e2).mono drop_ow fun _ q => q, fun a z => s.dom a (by
    rcases z with z | z | z
    · exact .inl z
    · exact .inr (.inl z)
    · cases z)⟩
theorem NxS.back {n : Nat} (h : NxS r (List.replicate n none) H r' ow' H') : Nx r H r' H' := ⟨fun a o e q => h.keep a o e q fun z => (by
  exact nomatch (List.mem_replicate.mp z).2), h.ext, h.dom⟩
/-- a def's start -/
theorem Rel.start {N : List Str} {vs : List V} {ds : List D} (s : StR T.toTb (Ms Mb r []) r H st) (hv : RepL T.toTb H (Ms Mb r []) r vs ds) (hl : ds.length ≤ N.length) :
    Rel T pe Mb r (List.replicate N.length none) H st (L2.start N vs) (startE N.length (ds.map .val)) := by
  have len1 : (startE N.length (ds.map .val)).length = N.length := by
    unfold startE
    rw [List.length_append, List.length_map, List.length_replicate]
    omega
  have len2 : (L2.start N vs).length = N.length := by
    unfold L2.start
    rw [List.length_append, List.length_map, List.length_replicate, hv.len]
    omega
  refine ⟨by rw [ms_none]; exact s, by rw [len1, List.length_replicate], by rw [len1, len2], fun i sl e => ?_, fun i j a e => ?_, fun a h => ?_⟩
  · obtain ⟨hi, _⟩ := List.getElem?_eq_some_iff.mp e
    rw [len1] at hi
    refine ⟨none, by rw [List.getElem?_replicate, if_pos hi], ?_⟩
    rw [ms_none]
    unfold startE at e
    by_cases h1 : i < ds.length
    · rw [List.getElem?_append_left (by simpa using h1), List.getElem?_map, List.getElem?_eq_getElem h1] at e
      cases e
      obtain ⟨v, e2, rv⟩ := hv.at (List.getElem?_eq_getElem h1)
      refine ⟨v, ?_, rv⟩
      unfold L2.start
      rw [List.getElem?_append_left (by rw [List.length_map, hv.len]; exact h1), List.getElem?_map, e2]
      rfl
    · rw [List.getElem?_append_right (by simpa using h1), List.getElem?_replicate] at e
      split at e
      · cases e; exact trivial
      · cases e
  · rw [List.getElem?_replicate] at e
    split at e <;> cases e
  · have := (List.mem_replicate.mp h).2
    cases this
end
/-- a def of the program: its place and its text -/
structure DefF (K : PySem.W.Frag) (G : Gt) (d : Def) (f : Addr) (fd : FuncData) (ps : List Str) : Prop where
  there : ∃ (name qual : Str) (params : Arguments) (body : List Stmt) (scope : Scope) (dV kV doc pm cdv ct oc : Value) (an od : Option Addr) (osl : Array (Option Value)) (N : List Str),
    fd = PySem.W.fnOf name qual params body scope dV kV doc pm an cdv ct ∧ K.lookup f = some ⟨oc, od, .func (PySem.W.fnOf name qual params body scope dV kV doc pm an cdv ct), osl⟩ ∧ PySem.W.codeIn K cdv qual = true ∧ FnScope N ps scope ∧
    N.length = d.nn ∧ ps.length = d.np ∧ chkBody G (Cc.of N scope) d.body body = true
/-- a def that is called with the exception at hand -/
structure DefX (K : PySem.W.Frag) (G : Gt) (d : Def) (f : Addr) (fd : FuncData) (ps : List Str) : Prop where
  there : ∃ (name qual : Str) (params : Arguments) (body : List Stmt) (scope : Scope) (dV kV doc pm cdv ct oc : Value) (an od : Option Addr) (osl : Array (Option Value)) (N : List Str),
    fd = PySem.W.fnOf name qual params body scope dV kV doc pm an cdv ct ∧ K.lookup f = some ⟨oc, od, .func (PySem.W.fnOf name qual params body scope dV kV doc pm an cdv ct), osl⟩ ∧ PySem.W.codeIn K cdv qual = true ∧ FnScope N ps scope ∧
    N.length = d.nn ∧ ps.length = 1 ∧ chkBody G (Cc.of N scope).heat d.body body = true
/-- a program -/
structure Prog where
  P : Program
  w : World
  K : PySem.W.Frag
  mg : Str → Option Value
  base : Heap
  G : Gt
  T : Tx
  defs : Nat → Option Def
  fa : Nat → Addr
  fd : Nat → FuncData
  ps : Nat → List Str
structure Prog.Ok (p : Prog) : Prop where
  hK : p.T.K = p.K
  blt : ∀ b, b ∈ bltNames → p.mg b = none
  cst : ∀ x g, p.G.cst.lookup x = some g → ∃ v u, p.mg x = some u ∧ RelV v u ∧ ∀ H M r, Rep p.T.toTb H M r v (gval g)
  okc : ∀ k, p.T.okc k → Cls p.K (p.T.cls k) ∧ ∀ f, f < 15 → NoAttr p.K (p.T.cls k) (fnm f)
  oke : ∀ k, p.T.okc k → EqO p.K (p.T.cls k)
  def_ : ∀ id d, p.defs id = some d → d.hot = false → DefF p.K p.G d (p.fa id) (p.fd id) (p.ps id)
  fn : ∀ x id, p.G.fn.lookup x = some id → p.mg x = some (.ref (p.fa id)) ∧ PySem.W.keepIn p.K (.ref (p.fa id)) = true ∧ Binds p.K (p.fd id) (p.ps id) []
  me : ∀ ci m id, p.G.me.lookup (ci, m) = some id → fieldNames.contains m = false ∧ Cls p.K (p.T.cls ci) ∧ Meth p.K (p.T.cls ci) m (p.fa id) ∧ Binds p.K (p.fd id) (p.ps id) []
  cl : ∀ x ci id, p.G.cl.lookup x = some (ci, id) → p.T.okc ci ∧ p.mg x = some (.ref (p.T.cls ci)) ∧ Mk p.K (p.T.cls ci) (p.fa id) ∧ Binds p.K (p.fd id) (p.ps id) []
  rs : ∀ (X : Cx) n k, X.K = p.K → X.mg = p.mg → p.G.xc.lookup n = some k → 3 ≤ k → XcOk p.T X n k
  xm : ∀ (X : Cx), X.K = p.K → X.mg = p.mg → XmOk p.G p.T X
  ri : ∀ (X : Cx) (W : WX) (pe : Pe) (cs : Iv.Calls) n k es ys q pos, X.prog = p.P → X.w = p.w → X.K = p.K → X.mg = p.mg → X.base = p.base → X.calm = true → (∃ n, RoomP (n + 2) X.A) → L2N.Takes X W → 1 ≤ k → k < 3 → es.length = 2 → p.G.xc.lookup n = some k → Gl X n → (n == ("__debug__" : Str)) = false →
    GdL p.T pe W cs X es ys → L2N.PMk X (.Call (.Name n q) ys [] pos) (tR p.T pe W cs k es)
  nx : p.G.xv = true → ∀ n k, p.G.xc.lookup n = some k → 1 ≤ k → ∀ A : Around, (∃ n, RoomP (n + 2) A) → NxK p.T p.P p.w p.K p.mg p.base A n k
  hf : ∀ x id, p.G.hf.lookup x = some id → p.mg x = some (.ref (p.fa id)) ∧ PySem.W.keepIn p.K (.ref (p.fa id)) = true ∧ Binds p.K (p.fd id) (p.ps id) [] ∧ ∀ d, p.defs id = some d → DefX p.K p.G d (p.fa id) (p.fd id) (p.ps id)
  xq : ∀ (X : Cx), X.K = p.K → X.mg = p.mg → p.G.hf.isEmpty = false → XqOk p.G p.T X
section
variable {p : Prog}
theorem fn_bad {k : Nat} {f : Addr} {fd : FuncData} {ps : List Str} : FnP p.P p.w p.K p.mg p.base k f fd ps (spOf p.T (fun _ _ => .bad)) :=
  ⟨fun vs H Q E h => by
    obtain ⟨_, _, _, _, _, _, h⟩ := h
    exact h.elim, fun A outer s H args us vs Q E _ _ _ _ h => by
    obtain ⟨_, _, _, _, _, _, h⟩ := h
    exact h.elim⟩
/-- the calls from a body whose room is for n more -/
theorem cf_of (ok : p.Ok) {n : Nat} {A : Around} (hr : RoomP (n + 2) A) (ih : ∀ m, m ≤ n → ∀ id, FnP p.P p.w p.K p.mg p.base (m + 2) (p.fa id) (p.fd id) (p.ps id) (spOf p.T (run p.defs m id))) :
    Cf p.G p.T (callsAt p.defs n) p.P p.w p.K p.mg p.base A := by
  refine ⟨fun x id h => ?_, fun ci m id h => ?_, fun x ci id h => ?_⟩
  · obtain ⟨h1, h2, h3⟩ := ok.fn x id h
    exact ⟨n + 2, _, _, _, h1, h2, h3, hr, ih n (Nat.le_refl n) id⟩
  · obtain ⟨h1, h2, h3, h4⟩ := ok.me ci m id h
    exact ⟨h1, h2, n + 2, _, _, _, h3, h4, hr, ih n (Nat.le_refl n) id⟩
  · obtain ⟨h1, h2, h3, h4⟩ := ok.cl x ci id h
    refine ⟨h1, n + 1, p.fa id, p.fd id, p.ps id, h2, h3, h4, hr, ?_⟩
    cases n with
    | zero => exact fn_bad
    | succ m => exact ih m (Nat.le_succ m) id
theorem fnx_bad {k : Nat} {f : Addr} {fd : FuncData} {ps : List Str} {g : Exc → Store → Res D} (hg : ∀ x st, noexn (g x st) = .bad) : FnX p.P p.w p.K p.mg p.base k f fd ps (spHot p.T g) :=
  ⟨fun q vs H Q h => by
    obtain ⟨_, _, _, x, _, _, st, _, _, _, h⟩ := h
    rw [hg] at h; exact h.elim, fun A outer s H args us vs Q q _ _ _ _ _ _ h => by
    obtain ⟨_, _, _, x, _, _, st, _, _, _, h⟩ := h
    rw [hg] at h; exact h.elim⟩
/-- a def's start, the exception at hand -/
theorem Rel.startX {T : Tx} {Mb : AP'} {r : List Addr} {H : Hp} {st : Store} {N : List Str} {a : Addr} {cls : Value} {d : Option Addr} {x : Exc} (s : StR T.toTb (Ms Mb r []) r H st) (hx : ExcR T H (Ms Mb r []) r x cls d) (hl : 1 ≤ N.length) :
    Rel T (some (a, cls, d)) Mb r (List.replicate N.length none) H st (L2.start N [.ref a]) (startE N.length [.exc x]) := by
  have len1 : (startE N.length [Slot.exc x]).length = N.length := by
    unfold startE
    rw [List.length_append, List.length_replicate, List.length_cons, List.length_nil]
    omega
  have len2 : (L2.start N [.ref a]).length = N.length := by
    unfold L2.start
    rw [List.length_append, List.length_map, List.length_replicate, List.length_cons, List.length_nil]
    omega
  refine ⟨by rw [ms_none]; exact s, by rw [len1, List.length_replicate], by rw [len1, len2], fun i sl e => ?_, fun i j a e => ?_, fun a h => ?_⟩
  · obtain ⟨hi, _⟩ := List.getElem?_eq_some_iff.mp e
    rw [len1] at hi
    refine ⟨none, by rw [List.getElem?_replicate, if_pos hi], ?_⟩
    rw [ms_none]
    unfold startE at e
    cases i with
    | zero =>
      simp only [List.cons_append, List.getElem?_cons_zero] at e
      cases e
      exact ⟨a, cls, d, rfl, rfl, hx⟩
    | succ i =>
      simp only [List.cons_append, List.nil_append, List.getElem?_cons_succ, List.getElem?_replicate] at e
      split at e
      · cases e; exact trivial
      · cases e
  · rw [List.getElem?_replicate] at e
    split at e <;> cases e
  · have := (List.mem_replicate.mp h).2
    cases this
/-- such a def -/
theorem hot_ok (ok : p.Ok) {x : Str} {id : Nat} (hx : p.G.hf.lookup x = some id) : FnX p.P p.w p.K p.mg p.base 1 (p.fa id) (p.fd id) (p.ps id) (spHot p.T (runHot p.defs id)) := by
  obtain ⟨_, _, _, h4⟩ := ok.hf x id hx
  cases hd : p.defs id with
  | none => exact fnx_bad fun y st => by unfold runHot; rw [hd]; rfl
  | some d =>
    by_cases hh : (d.hot && d.np == 1) = true
    · obtain ⟨name, qual, params, body, scope, dV, kV, doc, pm, cdv, ct, oc, an, od, osl, N, e1, e2, e3, e4, e5, e6, e7⟩ := (h4 d hd).there
      rw [e1]
      refine fn_ofX e2 e3 e4 (fun q vs H Q h => by rw [h.1, e6]; rfl) fun A outer s H vs Q q hot hr h => ?_
      obtain ⟨hv, cls, dd, y, Mb, r, st, ⟨hz, us, hu⟩, s0, hy, h⟩ := h
      subst hv
      have hrun : runHot p.defs id y st = (execL noCalls d.body (startE d.nn [.exc y]) st).res := by
        unfold runHot; rw [hd]; dsimp only; rw [if_pos hh]
      rw [hrun] at h
      generalize hX : L2H.cxH (L2N.CX p.P p.w) p.P p.w p.K p.mg p.base N qual scope (p.fa id) cdv A outer s H (fun _ _ _ => False) q = X
      have F : Fs p.G (Cc.of N scope).heat p.T (some (q.1, cls, dd)) noCalls WF X := by
        subst hX
        exact ⟨⟨ok.hK, rfl, e4.nd, rfl, fun z => heat_no z, fun _ _ => rfl, by have := hr.un; show (A.deeper _).units + 1000 < _; omega, takes_no, ok.blt, ok.cst, ok.okc, ok.oke, fun z => heat_no z, fun z => heat_no z,
          (fun a c' d' z => by cases z; exact ⟨q.2, List.mem_cons_self, hz, ⟨us, hu⟩, hot.1⟩), fun z => ok.xq _ rfl rfl z, fun x' f' hf' => (by
            obtain ⟨m1, m2, m3, _⟩ := ok.hf x' f' hf'
            exact ⟨0, _, _, _, m1, m2, m3, ⟨hr.dp, hr.un⟩, fnx_bad fun _ _ => rfl⟩), fun z => heat_no z⟩, fun z => heat_no z, rfl, rfl, fun z => heat_no z, fun z => heat_no z, fun z => heat_no z⟩
      have start : ∀ sts, PSs X sts (tSs p.T (some (q.1, cls, dd)) WF noCalls d.body) → ∃ t, PSs X sts t ∧ t { nx := fun _ H' => Q .non H', rt := Q } (L2.start N [.ref q.1]) H := fun sts hp => by
        refine ⟨_, hp, Mb, r, List.replicate N.length none, st, startE N.length [.exc y], Rel.startX s0 hy ?_, ?_⟩
        · have := congrArg List.length e4.pre
          rw [List.length_take] at this
          omega
        · rw [e5]
          revert h
          cases execL noCalls d.body (startE d.nn [.exc y]) st with
          | nx env' st' => exact fun h r' ow' H' σ' n' R' => h r' H' n'.back R'.st.drop _ .non
          | rt x st' => exact fun h r' ow' H' v n' s' hv => h r' H' n'.back s'.drop _ (hv.mono drop_ow)
          | bk _ _ => exact fun h => h.elim
          | ct _ _ => exact fun h => h.elim
          | bad => exact fun h => h.elim
          | exn x env' st' => exact fun h => h.elim
      unfold chkBody at e7
      split at e7
      · obtain ⟨t, h1, h2⟩ := start _ (sB _ _ _ e7 _ _ F)
        exact ⟨_, pss_cons ps_doc h1, h2⟩
      · exact start _ (sB _ _ _ e7 _ _ F)
    · exact fnx_bad fun y st => by unfold runHot; rw [hd]; dsimp only; rw [if_neg hh]; rfl
/-- the body of a def -/
theorem body_ok (ok : p.Ok) {n : Nat} {id : Nat} {d : Def} (hd : p.defs id = some d) (hh : d.hot = false) (ih : ∀ m, m ≤ n → ∀ id, FnP p.P p.w p.K p.mg p.base (m + 2) (p.fa id) (p.fd id) (p.ps id) (spOf p.T (run p.defs m id))) :
    FnP p.P p.w p.K p.mg p.base (n + 1 + 2) (p.fa id) (p.fd id) (p.ps id) (spOf p.T (run p.defs (n + 1) id)) := by
  obtain ⟨name, qual, params, body, scope, dV, kV, doc, pm, cdv, ct, oc, an, od, osl, N, e1, e2, e3, e4, e5, e6, e7⟩ := (ok.def_ id d hd hh).there
  rw [e1]
  have get : ∀ {ds : List D} {st : Store} {T : Tx} {Mb : AP'} {W : WX} {r : List Addr} {H : Hp} {Q : List Addr → Hp → D → Store → Prop}, OK T Mb [] W [] r H (run p.defs (n + 1) id ds st) Q →
      ds.length = d.np ∧ OK T Mb [] W [] r H (execL (callsAt p.defs n) d.body (startE d.nn (ds.map .val)) st).res Q := fun {ds st T Mb W r H Q} h => by
    rw [run_succ, hd] at h
    dsimp only at h
    split at h
    · rename_i hc
      rw [Bool.and_eq_true, beq_iff_eq] at hc
      exact ⟨hc.2, h⟩
    · exact h.elim
  refine fn_ofP e2 e3 e4 (fun vs H Q E h => ?_) fun A outer s H vs Q E hr h => ?_
  · obtain ⟨Mb, r, st, ds, s, hv, h⟩ := h
    rw [hv.len, e6]
    exact (get h).1
  · obtain ⟨Mb, r, st, ds, s0, hv, h⟩ := h
    obtain ⟨hl, h⟩ := get h
    generalize hX : cxOf (L2N.CX p.P p.w) p.P p.w p.K p.mg p.base N qual scope (p.fa id) cdv A outer s H E = X
    have tk : L2N.Takes X (fun cls d _ H' => E cls d H') := by
      subst hX
      exact L2N.takes_of rfl rfl rfl rfl
    have ow : PassesOwn (model X.prog X.w) X.A X.env X.xe := by
      subst hX
      exact passes_of rfl
    have F : Fs p.G (Cc.of N scope) p.T none (callsAt p.defs n) (fun cls d _ H' => E cls d H') X := by
      subst hX
      exact ⟨⟨ok.hK, rfl, e4.nd, rfl, fun _ => rfl, fun _ _ => rfl, by have := hr.un; show (A.deeper _).units + 1000 < _; omega, tk, ok.blt, ok.cst, ok.okc, ok.oke, fun _ => cf_of ok hr ih, fun _ => rfl, (fun _ _ _ z => by cases z), (fun z => ok.xq _ rfl rfl z), fun x f hx => (by
        obtain ⟨m1, m2, m3, _⟩ := ok.hf x f hx
        exact ⟨1, _, _, _, m1, m2, m3, hr.x (by omega), hot_ok ok hx⟩), fun _ hv n' k hx h1 => ok.nx hv n' k hx h1 _ ⟨_, hr⟩⟩, fun _ => ow, rfl, rfl, fun _ n k => ok.rs _ n k rfl rfl, fun _ => ok.xm _ rfl rfl,
        fun _ pn xe W' tk' n k es ys q pos h0 hk h2 hx hg hdb g => ok.ri _ _ none _ n k es ys q pos rfl rfl rfl rfl rfl rfl ⟨_, hr⟩ tk' h0 hk h2 hx hg hdb g⟩
    have start : ∀ sts, PSs X sts (tSs p.T none (fun cls d _ H' => E cls d H') (callsAt p.defs n) d.body) → ∃ t, PSs X sts t ∧ t { nx := fun _ H' => Q .non H', rt := Q } (L2.start N vs) H := fun sts hp => by
      refine ⟨_, hp, Mb, r, List.replicate N.length none, st, startE N.length (ds.map .val), Rel.start s0 hv ?_, ?_⟩
      · have : (p.ps id).length ≤ N.length := by
          have := congrArg List.length e4.pre
          rw [List.length_take] at this
          omega
        rw [hl, ← e6]; exact this
      · rw [e5]
        revert h
        cases execL (callsAt p.defs n) d.body (startE d.nn (ds.map .val)) st with
        | nx env' st' => exact fun h r' ow' H' σ' n' R' => h r' H' n'.back R'.st.drop _ .non
        | rt x st' => exact fun h r' ow' H' v n' s' hv => h r' H' n'.back s'.drop _ (hv.mono drop_ow)
        | bk _ _ => exact fun h => h.elim
        | ct _ _ => exact fun h => h.elim
        | bad => exact fun h => h.elim
        | exn x env' st' =>
          intro h r' ow' H' σ' cls d n' R' e
          refine h r' H' cls d n'.back R'.st.drop ?_
          obtain ⟨q1, q2⟩ := e
          refine ⟨q1, ?_⟩
          rcases q2 with q2 | ⟨dd, fs, q3, q4, q5, q6⟩
          · exact .inl q2
          · exact .inr ⟨dd, fs, q3, q4, drop_ow.no q4 q5, q6.mono drop_ow⟩
    unfold chkBody at e7
    split at e7
    · obtain ⟨t, h1, h2⟩ := start _ (sB _ _ _ e7 _ _ F)
      exact ⟨_, pss_cons ps_doc h1, h2⟩
    · exact start _ (sB _ _ _ e7 _ _ F)
/-- every def -/
theorem fn_all (ok : p.Ok) : ∀ n m, m ≤ n → ∀ id, FnP p.P p.w p.K p.mg p.base (m + 2) (p.fa id) (p.fd id) (p.ps id) (spOf p.T (run p.defs m id)) := by
  intro n
  induction n with
  | zero =>
    intro m hm id
    obtain rfl : m = 0 := by omega
    exact fn_bad
  | succ n ih =>
    intro m hm id
    rcases Nat.lt_or_ge m (n + 1) with h | h
    · exact ih m (by omega) id
    · obtain rfl : m = n + 1 := by omega
      cases hd : p.defs id with
      | none =>
        have : run p.defs (n + 1) id = fun _ _ => .bad := by
          funext ds st
          rw [run_succ, hd]
        rw [this]
        exact fn_bad
      | some d =>
        cases hh : d.hot with
        | false => exact body_ok ok hd hh ih
        | true =>
          have : run p.defs (n + 1) id = fun _ _ => .bad := by
            funext ds st
            rw [run_succ, hd]
            dsimp only
            rw [hh]
            rfl
          rw [this]
          exact fn_bad
end
end Iv
end
section
set_option Elab.async false
set_option linter.all false
set_option maxRecDepth 100000
set_option maxHeartbeats 4000000
/-! Refusals with an __init__ of their own. -/
namespace Iv
open PySem PySem.Spec PySem.Calls PyProof.Rows L2
section
variable {X : Cx} {e : Expr} {es : List Expr} {ta : TA} {p1 p2 pos : Pos} {S : Addr}
/-- what is known of SpeakError -/
structure SpE (K : PySem.W.Frag) (S : Addr) : Prop where
  rd : PySem.W.readsIn K S (.type "type") = true
  fc : PySem.W.findCls K (.ref S) (.type "type") "__init__" = some (.val (.builtin "ValueError.__init__"))
  sp : PySem.W.specialIn K (.ref S) "__getattribute__" = some (some (.builtin "type.__getattribute__"))
/-- SpeakError.__init__(self, ..) -/
theorem pe_sinit (hg : Gl X "SpeakError") (hm : X.mg "SpeakError" = some (.ref S)) (f : SpE X.K S) (ha : PA X (e :: es) ta) (hs : (e :: es).all notStar = true) (hn : (e :: es).length < 30) (hl : (p2.endLine == pos.line) = true) :
    PE X (.Call (.Attribute (.Name "SpeakError" p1) "__init__" p2) (e :: es) [] pos) (tVeI X.K ta) := by
  refine ⟨fun pins s σ H Q I h => ?_⟩
  have hs2 := hs
  rw [List.all_cons, Bool.and_eq_true] at hs2
  refine PySem.W.methodCall_KW (pl := do return (← importBound (.Name "SpeakError" p1) X.env).getD true) (ld_glob I hg hm ?_ (by decide)) (meth_eq rfl hs hn hl)
  refine PySem.W.method_cls I.kIn f.sp (PySem.W.cls_value I.kIn f.rd f.fc (by decide +kernel) ?_)
  show wpAny _ _ (callWith pos (Value.builtin "ValueError.__init__") [] (backTo pos (starEach (e :: es) X.env)) []) _ _ _
  refine PyProof.Rows.callWith_method1 (thn (ha.run pos pins _ σ H _ (I.tok _) h) fun us s1 ⟨vs, H1, I1, r1, a, C, ws, ev, hlen, T, ea, q⟩ => ?_) (star_cons hs2.1) (star_all hs2.2)
  subst ev
  cases r1 with
  | @cons _ u0 _ ur ra rw' =>
    obtain rfl : u0 = Value.ref a := ra
    have hl2 : ur.length ≤ sizeLine := by
      rw [← Paired.length rw', sizeLine_eq]
      omega
    exact oinit_ok T I1 ea hl2 fun s' J => ⟨.non, H1, J, rfl, q⟩
end
/-- a refusal's class with an __init__ of its own -/
def oexB (K : PySem.W.Frag) (C : Addr) : Bool :=
  (match K.lookup C with
  | some ⟨.type "type", _, .cls cd, sl⟩ => (match cd.mro, sl.toList with
    | .ref c :: bm, [_, _, _, _, some (.builtin n), _] => ((c == C && n == "ValueError.__new__") && (!cd.hasDel && cd.hasDict)) && PySem.HandSPX.refsVE bm
    | _, _ => false)
  | _ => false) && ((decide (PySem.W.findIn K (.ref C) "__setattr__" = some (some (.builtin "object.__setattr__"))) && decide (PySem.W.subIn K (.ref C) (.type "BaseException") = some true)) && (decide (PySem.W.typeIn K (.ref C) = some (.type "type")) && PySem.W.keepIn K (.ref C)))
theorem oex_ok {K : PySem.W.Frag} {C : Addr} (h : oexB K C = true) : OexC K C := by
  unfold oexB at h
  simp only [Bool.and_eq_true, decide_eq_true_eq] at h
  obtain ⟨h1, ⟨h2, h3⟩, h4, h5⟩ := h
  refine ⟨?_, h2, h3, h4, h5⟩
  split at h1
  · rename_i dd cd sl ho
    split at h1
    · rename_i c bm k0 k1 k2 k3 n k5 hm hs
      simp only [Bool.and_eq_true, beq_iff_eq, Bool.not_eq_true'] at h1
      obtain ⟨⟨⟨e1, e2⟩, e3, e4⟩, e5⟩ := h1
      obtain ⟨nm, bs, mro, ns, qn, hd, sn, sub, ab, col, del⟩ := cd
      dsimp only at hm e3 e4
      subst hm e3 e4 e1 e2
      have hsl : sl = #[k0, k1, k2, k3, some (.builtin "ValueError.__new__"), k5] := by
        obtain ⟨l⟩ := sl
        exact congrArg Array.mk hs
      subst hsl
      exact ⟨nm, qn, ns, bs, bm, sn, sub, ab, col, dd, k0, k1, k2, k3, k5, ho, e5⟩
    · cases h1
  · cases h1
def speB (K : PySem.W.Frag) (S : Addr) : Bool := PySem.W.readsIn K S (.type "type") && (decide (PySem.W.specialIn K (.ref S) "__getattribute__" = some (some (.builtin "type.__getattribute__"))) && (match PySem.W.findCls K (.ref S) (.type "type") "__init__" with
  | some (.val v) => decide (v = .builtin "ValueError.__init__")
  | _ => false))
theorem spe_ok {K : PySem.W.Frag} {S : Addr} (h : speB K S = true) : SpE K S := by
  unfold speB at h
  simp only [Bool.and_eq_true, decide_eq_true_eq] at h
  obtain ⟨h1, h2, h3⟩ := h
  refine ⟨h1, ?_, h2⟩
  split at h3
  · rename_i v e
    rw [decide_eq_true_eq] at h3
    rw [e, h3]
  · cases h3
/-- what __init__ does: its third value becomes the attribute -/
def spI (C : Addr) (f : Str) : Sp := fun vs H Q _ => ∃ (a : Addr) (v y : V), vs = [.ref a, v, y] ∧ H a = some (exo a C none) ∧ ∀ dx, H dx = none → dx ≠ a → Q .non (upd (upd H dx (exd dx [(f, y)])) a (exo a C (some dx)))
/-- its text -/
def initB (N : List Str) (f : Str) (sc : Scope) (body : List Stmt) : Bool :=
  match N, body with
  | [n0, n1, n2], [.Expr (.Call (.Attribute (.Name s p1) m p2) [.Name a0 _, .Name a1 _] [] p5) _, .Assign [.Attribute (.Name b0 _) g _] (.Name b2 _) _] =>
    (decide (s = "SpeakError") && (decide (m = "__init__") && (decide (a0 = n0) && (decide (a1 = n1) && (decide (b0 = n0) && (decide (b2 = n2) && (decide (g = f) && (p2.endLine == p5.line)))))))) &&
      (gl (Cc.of N sc) "SpeakError" && (vis (Cc.of N sc) n0 && (vis (Cc.of N sc) n1 && vis (Cc.of N sc) n2)))
  | _, _ => false
section
variable {P : Program} {w : World} {K : PySem.W.Frag} {mg : Str → Option Value} {base : Heap} {fI C S : Addr} {name qual : Str} {params : Arguments} {body : List Stmt} {scope : Scope} {dV kV doc pm cdv ct oc : Value} {an od : Option Addr}
    {osl : Array (Option Value)} {N : List Str} {f : Str} {k : Nat}
theorem init_fn (lk : K.lookup fI = some ⟨oc, od, .func (PySem.W.fnOf name qual params body scope dV kV doc pm an cdv ct), osl⟩) (hcd : PySem.W.codeIn K cdv qual = true) (Sc : FnScope N N scope) (hB : initB N f scope body = true)
    (hm : mg "SpeakError" = some (.ref S)) (hS : SpE K S) (T : OexC K C) (hno : PySem.W.findIn K (.ref C) f = some none) : FnP P w K mg base (k + 1) fI (PySem.W.fnOf name qual params body scope dV kV doc pm an cdv ct) N (spI C f) := by
  unfold initB at hB
  split at hB
  · rename_i n0 n1 n2 s p1 m p2 a0 _ a1 _ p5 _ b0 _ g _ b2 _ _
    simp only [Bool.and_eq_true, decide_eq_true_eq] at hB
    obtain ⟨⟨h1, h2, h3, h4, h5, h6, h7, h8⟩, h9, h10, h11, h12⟩ := hB
    subst h1 h2 h3 h4 h5 h6 h7
    refine fn_ofP lk hcd Sc (fun vs H Q E h => ?_) fun A outer s H vs Q E hr h => ?_
    · obtain ⟨a, v, y, rfl, _⟩ := h
      rfl
    · have vv : ∀ {X : Cx} {n : Str} {i : Nat} {p : Pos}, X.N = [b0, a1, b2] → X.env.scope = scope → vis (Cc.of [b0, a1, b2] scope) n = true → [b0, a1, b2][i]? = some n → PE X (.Name n p) (tVar i) := fun {X n i p} e1 e2 hv hi => by
        unfold vis at hv
        simp only [Bool.and_eq_true, Bool.or_eq_true, decide_eq_true_eq, Bool.not_eq_true'] at hv
        refine pe_var (by rw [e1]; exact hi) ?_ hv.2.1 hv.2.2
        rw [e2]; exact hv.1
      have gg : scope.names.lookup ("SpeakError" : Str) = some NameKind.globalImplicit := by
        unfold gl at h9
        rw [Bool.and_eq_true, decide_eq_true_eq] at h9
        exact h9.1
      refine ⟨tSeq (tDrop (tVeI K (tCons (tVar 0) (tCons (tVar 1) tNil)))) (tOst K g (tVar 0) (tVar 2)), ?_, ?_⟩
      · refine pss_cons (ps_expr (pe_sinit gg hm hS (pa_cons (vv rfl rfl h10 rfl) (pa_cons (vv rfl rfl h11 rfl) pa_nil rfl) rfl) rfl (show 2 < 30 by decide) h8) (swaps_no rfl)) (pss_one (ps_ost (vv rfl rfl h10 rfl) (vv rfl rfl h12 rfl) (swaps_no rfl)))
      · obtain ⟨a, v, y, rfl, ea, q⟩ := h
        refine ⟨_, rfl, _, rfl, a, C, [v], rfl, by simp, T, ea, ?_⟩
        exact ⟨_, rfl, _, rfl, a, C, rfl, T, hno, .inl ⟨ea, fun dx n ne => q dx n ne⟩⟩
  · cases hB
end
section
variable {X : Cx} {W : WX} {x : Str} {C fI : Addr} {k : Nat} {fd : FuncData} {ps : List Str} {f : Str} {e : Expr} {es : List Expr} {ta : TA} {p pos : Pos}
/-- C(m, y): a refusal whose attribute is y -/
theorem pmk_init (T : OexC X.K C) (iC : PySem.W.findIn X.K (.ref C) "__init__" = some (some (.ref fI))) (tI : PySem.W.typeIn X.K (.ref fI) = some (.type "function")) (F1 : FnP X.prog X.w X.K X.mg X.base k fI fd ps (spI C f)) (hr : RoomP (k + 1) X.A) (hb : Binds X.K fd ps [])
    (tk : L2N.Takes X W) (hg : Gl X x) (hm : X.mg x = some (.ref C)) (ha : PA X (e :: es) ta) (hs : (e :: es).all notStar = true) (hdb : (x == ("__debug__" : Str)) = false) :
    L2N.PMk X (.Call (.Name x p) (e :: es) [] pos) (fun σ H Q => ta σ H fun vs H1 => ∃ v y, vs = [v, y] ∧ ∀ dx, H1 dx = none → Q (.ref C) (some dx) (upd H1 dx (.xd [(f, y)]))) := by
  intro pins s σ H Q I h
  rw [List.all_cons, Bool.and_eq_true] at hs
  obtain ⟨nm, q, N, bs, bm, sn, sub, ab, col, dd, k0, k1, k2, k3, k5, hC, hbm⟩ := T.cls
  refine wpAny_Call_Name_kw (ld_glob I hg hm ?_ hdb)
  refine PySem.W.callWith_K (h₀ := X.base) I.ok.mod.kin T.kC (thn (ha.run pos pins s σ H _ I h) fun us s1 ⟨vs, H1, I1, r1, v, y, ev, q1⟩ => ⟨I1.kIn, ?_⟩) (star_cons hs.1) (star_all hs.2)
  subst ev
  show wpAny _ _ (call (.ref C) us) _ _ _
  obtain ⟨hp, g, dr, tk0, os⟩ := s1
  have hsz : hp.objs.size ≤ hp.objs.size + 1 := Nat.le_succ _
  generalize hA : hp.objs.size + 1 = A at hsz
  have hn : H1 A = none := I1.hok.fresh hsz
  have kk : ∀ b o, hp.get? b = some o → ((hp.push (PySem.W.kdv_tup us)).push (PySem.HandSPX.excO C hp.objs.size)).get? b = some o := fun b o e => Heap.get?_push_of_some _ (Heap.get?_push_of_some _ e)
  have hget : ((hp.push (PySem.W.kdv_tup us)).push (PySem.HandSPX.excO C hp.objs.size)).get? A = some (PySem.HandSPX.excO C hp.objs.size) := by
    subst hA
    heap_get
  have I2 : L2.Inv X pins σ (upd H1 A (exo A C none)) ⟨(hp.push (PySem.W.kdv_tup us)).push (PySem.HandSPX.excO C hp.objs.size), g, dr, tk0, os⟩ :=
    I1.laid (t' := tk0) (a := A) (o := exo A C none) (h' := (hp.push (PySem.W.kdv_tup us)).push (PySem.HandSPX.excO C hp.objs.size)) kk hsz (exo_ok hget)
  have r2 : Vals (V.ref A :: [v, y]) (Value.ref A :: us) := .cons rfl r1
  have hq : spI C f [.ref A, v, y] (upd H1 A (exo A C none)) (fun z H2 => z = .non ∧ ∃ (d : Addr) (fs : List (Str × V)), H2 A = some (exo A C (some d)) ∧ H2 d = some (exd d fs) ∧ H1 d = none ∧ Q (.ref C) (some d) (upd (del H2 A) d (.xd fs))) (fun _ _ _ => False) := by
    refine ⟨A, v, y, rfl, upd_same, fun dx n ne => ⟨rfl, dx, [(f, y)], upd_same, by rw [upd_ne ne, upd_same], by rw [upd_ne ne] at n; exact n, ?_⟩⟩
    have n1 : H1 dx = none := by rw [upd_ne ne] at n; exact n
    have eH : upd (del (upd (upd (upd H1 A (exo A C none)) dx (exd dx [(f, y)])) A (exo A C (some dx))) A) dx (.xd [(f, y)]) = upd H1 dx (.xd [(f, y)]) := by
      funext b
      by_cases hb1 : b = dx
      · rw [hb1, upd_same, upd_same]
      · rw [upd_ne hb1, upd_ne hb1]
        by_cases hb2 : b = A
        · rw [hb2, del_same, hn]
        · rw [del_ne hb2, upd_ne hb2, upd_ne hb1, upd_ne hb2]
    rw [eH]
    exact q1 dx n1
  have hl : (Value.ref A :: us).length = ps.length := by
    have e := r2.length
    rw [F1.len _ _ _ _ hq] at e
    exact e.symm
  have hb' := hb ⟨(hp.push (PySem.W.kdv_tup us)).push (PySem.HandSPX.excO C hp.objs.size), g, dr, tk0, os⟩ (Value.ref A :: us) I2.kIn (by rw [List.append_nil]; exact hl)
  rw [List.append_nil] at hb'
  have hus : us.length ≤ sizeLine := by
    rw [← Paired.length r1, sizeLine_eq]
    show 2 ≤ _
    omega
  subst hA
  refine wpAny_call (PySem.HandSPX.call_own PySem.F.excBase_ValueError (fun Y => PySem.HandSPX.refsVE_contains Y bm hbm) (I1.kIn _ _ hC) (PySem.W.looks_findIn I1.kIn iC) (fun self => PySem.W.bind_fn I1.kIn self tI) hus
    (codeAny_mono (F1.run _ X.stack _ _ ⟨Value.ref (hp.objs.size + 1) :: us, []⟩ (Value.ref (hp.objs.size + 1) :: us) _ _ (fun _ _ _ => False) (hr.make C us []) (I2.env0.make C us []) hb' r2 hq) fun r s' hq' => ?_))
  cases r with
  | error er => exact tk _ _ (L2N.XE.of_call I2 (fun _ _ _ z => z.elim) hq')
  | ok fl =>
    cases fl with
    | ret u =>
      obtain ⟨z, H2, os2, bare2, un2, hok2, rv, ez, d, fs, ea, ed, hd1, q2⟩ := hq'
      subst ez
      obtain ⟨h2, g2, d2, t2, os'⟩ := s'
      obtain ⟨t0, G, J, kG, ge, hoe, na⟩ := mk_end0 (d2 := d2) (t2 := t2) I1 hsz kk un2 hok2 os2 bare2 ea ed hd1
      exact ⟨rv, _, _, _, ⟨G, g2, d2, t2, os'⟩, _, .ref C, some d, rfl, J, kG, ge, hoe, ⟨rfl, rfl, fun vs e => by cases e; rfl⟩, rfl, rfl, na, rfl, bare2, raises_own T.exC T.tyC, q2⟩
    | next => exact False.elim hq'
    | brk => exact False.elim hq'
    | cont => exact False.elim hq'
end
end Iv
end
section
set_option Elab.async false
set_option linter.all false
set_option maxRecDepth 100000
set_option maxHeartbeats 4000000
/-! Refusals held as values: their __init__. -/
namespace Iv
open PySem PySem.Spec PySem.Calls PyProof.Rows L2
/-! ### .. with one -/
section
variable {prog : Program} {w : World} {A : Around} {R : Result → Shared → Prop} {h : Heap} {g : Array GenState} {d : Drawn} {tk : Nat} {os : OsState} {bmB bm : List Value} {B newId initId : String} {nm q : Str} {C N : Addr} {bs : List Value} {hdct : Bool} {sn : List Str} {sub : List Value} {ab : Bool} {col : Option Bool} {dd : Option Addr} {k0 k1 k2 k3 k5 : Option Value}
/-- ValueError.__init__(e, ..): the arguments are laid anew -/
theorem init_baseT (F : ExcBaseFacts B newId initId bmB) (hT : ∀ X : String, bm.contains (.type X) = bmB.contains (.type X)) {e t0 : Addr} {rest : List Value}
    (hC : h.get? C = some (excClassObj nm q C N bs bm hdct sn sub ab col dd k0 k1 k2 k3 k5 newId)) (he : h.get? e = some (PySem.HandSPX.excO C t0)) (hrest : rest.length ≤ sizeLine)
    (hq : ∀ h' t1, (∀ b o, b ≠ e → h.get? b = some o → h'.get? b = some o) → h.get? t1 = none → h'.get? t1 = some { cls := .type "tuple", data := .seq rest.toArray } → h'.get? e = some (PySem.HandSPX.excO C t1) → R (.ok (.ret .none)) ⟨h', g, d, tk, os⟩) :
    codeAny (model prog w) A (.call (.builtin initId) ⟨.ref e :: rest, []⟩) R ⟨h, g, d, tk, os⟩ := by
  refine codeAny_call_builtin F.init.plain F.initEntry (PySem.HandSPX.check_init_own F hT hC he rfl ?_)
  wp_walk
  have hes : e ≠ h.objs.size := Nat.ne_of_lt (Heap.lt_size he)
  refine hq _ h.objs.size (fun b o hb ho => ?_) (Heap.get?_none_of_le (Nat.le_refl _)) ?_ ?_
  · rw [Heap.get?_update_other _ _ (Ne.symm hb)]
    exact Heap.get?_push_of_some _ ho
  · rw [Heap.get?_update_other _ _ hes]
    exact Heap.get?_push_size _ rfl
  · rw [Heap.get?_update_self _ (Heap.get?_push_of_some _ he) rfl]
    rfl
end
section
variable {X : Cx} {pins : List (Addr × Obj)} {σ : L2.St} {H : Hp} {s : Shared} {a C t : Addr} {f : Str} {y : V} {u : Value} {E : Value → Shared → Prop} {A : Around}
theorem oinit_T {us : List Value} {vs : List V} {Q : Value → Shared → Prop} (T : OexC X.K C) (I : L2.Inv X pins σ H s) (e : H a = some (obx a (exOb C none t))) (r : Vals vs us) (hl : vs.length ≤ sizeLine)
    (h : ∀ t1 s', H t1 = none → t1 ≠ a → L2.Inv X pins σ (upd (upd H t1 (.tup vs)) a (obx a (exOb C none t1))) s' → Q .none s') :
    wpAny (model X.prog X.w) A (call (.builtin "ValueError.__init__") (.ref a :: us)) Q E s := by
  obtain ⟨nm, q, N, bs, bm, sn, sub, ab, col, dd, k0, k1, k2, k3, k5, hC, hbm⟩ := T.cls
  have ho := obx_at I.hok e
  obtain ⟨hp, g, d, tk, os⟩ := s
  refine wpAny_call (init_baseT PySem.F.excBase_ValueError (fun Y => PySem.HandSPX.refsVE_contains Y bm hbm) (I.kIn _ _ hC) ho (by rw [← r.length]; exact hl) fun h' t1 k hn ht hx => ?_)
  have hnt : H t1 = none := I.hok.gone hn
  have hta : t1 ≠ a := fun z => by rw [z, ho] at hn; cases hn
  exact h t1 _ hnt hta (inv_wl (t' := tk) I (.inr ⟨_, e⟩) hnt hn k ⟨_, hx⟩ hta (tup_ok ht r hl) (obx_ok hx))
theorem ost_T {Q : Unit → Shared → Prop} (T : OexC X.K C) (I : L2.Inv X pins σ H s) (e : H a = some (obx a (exOb C none t))) (hno : PySem.W.findIn X.K (.ref C) f = some none) (ry : RelV y u)
    (h : ∀ dx s', H dx = none → dx ≠ a → L2.Inv X pins σ (upd (upd H dx (.xd [(f, y)])) a (obx a (exOb C (some dx) t))) s' → Q () s') : wpAny (model X.prog X.w) A (setAttr (.ref a) f u) Q E s := by
  obtain ⟨nm, q, N, bs, bm, sn, sub, ab, col, dd, k0, k1, k2, k3, k5, hC, hbm⟩ := T.cls
  have hcl : PySem.W.clsIn X.K C = some { name := nm, bases := bs, mro := .ref C :: bm, ns := N, qualname := q, hasDict := true, slotNames := sn, subclasses := sub, abstract := ab, collection := col, hasDel := false } := by unfold PySem.W.clsIn; rw [hC] <;> rfl
  have ho := obx_at I.hok e
  obtain ⟨hp, g, d, tk, os⟩ := s
  refine PySem.W.set_plain I.kIn (ox := exOb C none t) (od := none) ⟨ho, rfl, rfl, trivial⟩ T.sa ?_
  refine PySem.HandSPX.exc_osa I.kIn ho hcl (show PySem.HandSPX.refsVE (.ref C :: bm) = true from hbm) rfl hno (fun h' tk' dx k dn dne hx hn => ?_)
  have hnd : H dx = none := I.hok.fresh dn
  exact h dx _ hnd dne (inv_wl (t' := tk') I (.inr ⟨_, e⟩) hnd (Heap.get?_none_of_le dn) k ⟨_, hx⟩ dne (xd_ok hn (relO_put (fs := []) ry fun g => True.intro)) (obx_ok hx))
end
/-- ValueError.__init__(self, ..) -/
def tVeT (K : PySem.W.Frag) (ta : TA) : TE := fun σ H Q => ta σ H fun vs H1 => ∃ (a C t : Addr) (ws : List V), vs = .ref a :: ws ∧ ws.length ≤ 1000 ∧ OexC K C ∧ H1 a = some (obx a (exOb C none t)) ∧ ∀ t1, H1 t1 = none → t1 ≠ a → Q .non (upd (upd H1 t1 (.tup ws)) a (obx a (exOb C none t1)))
/-- self.f = e, the first one -/
def tOstT (K : PySem.W.Frag) (f : Str) (to te : TE) : TS := fun D σ H => te σ H fun y H1 => to σ H1 fun x H2 => ∃ a C t : Addr, x = .ref a ∧ OexC K C ∧ PySem.W.findIn K (.ref C) f = some none ∧ H2 a = some (obx a (exOb C none t)) ∧
  ∀ dx, H2 dx = none → dx ≠ a → D.nx σ (upd (upd H2 dx (.xd [(f, y)])) a (obx a (exOb C (some dx) t)))
section
variable {X : Cx} {o e : Expr} {es : List Expr} {to te : TE} {ta : TA} {f : Str} {p p' p1 p2 pos : Pos} {S : Addr}
theorem pe_sinitT (hg : Gl X "SpeakError") (hm : X.mg "SpeakError" = some (.ref S)) (fS : SpE X.K S) (ha : PA X (e :: es) ta) (hs : (e :: es).all notStar = true) (hn : (e :: es).length < 30) (hl : (p2.endLine == pos.line) = true) :
    PE X (.Call (.Attribute (.Name "SpeakError" p1) "__init__" p2) (e :: es) [] pos) (tVeT X.K ta) := by
  refine ⟨fun pins s σ H Q I h => ?_⟩
  have hs2 := hs
  rw [List.all_cons, Bool.and_eq_true] at hs2
  refine PySem.W.methodCall_KW (pl := do return (← importBound (.Name "SpeakError" p1) X.env).getD true) (ld_glob I hg hm ?_ (by decide)) (meth_eq rfl hs hn hl)
  refine PySem.W.method_cls I.kIn fS.sp (PySem.W.cls_value I.kIn fS.rd fS.fc (by decide +kernel) ?_)
  show wpAny _ _ (callWith pos (Value.builtin "ValueError.__init__") [] (backTo pos (starEach (e :: es) X.env)) []) _ _ _
  refine PyProof.Rows.callWith_method1 (thn (ha.run pos pins _ σ H _ (I.tok _) h) fun us s1 ⟨vs, H1, I1, r1, a, C, t, ws, ev, hlen, T, ea, q⟩ => ?_) (star_cons hs2.1) (star_all hs2.2)
  subst ev
  cases r1 with
  | @cons _ u0 _ ur ra rw' =>
    obtain rfl : u0 = Value.ref a := ra
    exact oinit_T T I1 ea rw' (by rw [sizeLine_eq]; omega) fun t1 s' hn hta J => ⟨.non, _, J, rfl, q t1 hn hta⟩
theorem ps_ostT (ho : PE X o to) (he : PE X e te) (hs : swapsWith e (some (.Attribute o f p')) pos.line X.env = pure false) : PS X (.Assign [.Attribute o f p'] e pos) (tOstT X.K f to te) := by
  refine ⟨fun pins s σ H D I h => ?_⟩
  refine plainObj_wpAny_Assign_Attribute (thn (he.run pins s σ H _ I h) fun v s1 ⟨y, H1, I1, r1, q1⟩ => thn (ho.run pins s1 σ H1 _ I1 q1) fun u s2 ⟨x, H2, I2, r2, a, C, t, ex, T, hno, ea, q⟩ => ?_) hs
  subst ex
  obtain rfl : u = Value.ref a := r2
  exact ost_T T I2 ea hno r1 fun dx s' n ne J => ⟨σ, _, J, q dx n ne⟩
end
section
variable {P : Program} {w : World} {K : PySem.W.Frag} {mg : Str → Option Value} {base : Heap} {fI C S : Addr} {name qual : Str} {params : Arguments} {body : List Stmt} {scope : Scope} {dV kV doc pm cdv ct oc : Value} {an od : Option Addr}
    {osl : Array (Option Value)} {N : List Str} {f : Str} {k : Nat}
theorem init_fnT (lk : K.lookup fI = some ⟨oc, od, .func (PySem.W.fnOf name qual params body scope dV kV doc pm an cdv ct), osl⟩) (hcd : PySem.W.codeIn K cdv qual = true) (Sc : FnScope N N scope) (hB : initB N f scope body = true)
    (hm : mg "SpeakError" = some (.ref S)) (hS : SpE K S) (T : OexC K C) (hno : PySem.W.findIn K (.ref C) f = some none) : FnP P w K mg base (k + 1) fI (PySem.W.fnOf name qual params body scope dV kV doc pm an cdv ct) N (spT C f) := by
  unfold initB at hB
  split at hB
  · rename_i n0 n1 n2 s p1 m p2 a0 _ a1 _ p5 _ b0 _ g _ b2 _ _
    simp only [Bool.and_eq_true, decide_eq_true_eq] at hB
    obtain ⟨⟨h1, h2, h3, h4, h5, h6, h7, h8⟩, h9, h10, h11, h12⟩ := hB
    subst h1 h2 h3 h4 h5 h6 h7
    refine fn_ofP lk hcd Sc (fun vs H Q E h => ?_) fun A outer s H vs Q E hr h => ?_
    · obtain ⟨a, t, v, y, rfl, _⟩ := h
      rfl
    · have vv : ∀ {X : Cx} {n : Str} {i : Nat} {p : Pos}, X.N = [b0, a1, b2] → X.env.scope = scope → vis (Cc.of [b0, a1, b2] scope) n = true → [b0, a1, b2][i]? = some n → PE X (.Name n p) (tVar i) := fun {X n i p} e1 e2 hv hi => by
        unfold vis at hv
        simp only [Bool.and_eq_true, Bool.or_eq_true, decide_eq_true_eq, Bool.not_eq_true'] at hv
        refine pe_var (by rw [e1]; exact hi) ?_ hv.2.1 hv.2.2
        rw [e2]; exact hv.1
      have gg : scope.names.lookup ("SpeakError" : Str) = some NameKind.globalImplicit := by
        unfold gl at h9
        rw [Bool.and_eq_true, decide_eq_true_eq] at h9
        exact h9.1
      refine ⟨tSeq (tDrop (tVeT K (tCons (tVar 0) (tCons (tVar 1) tNil)))) (tOstT K g (tVar 0) (tVar 2)), ?_, ?_⟩
      · refine pss_cons (ps_expr (pe_sinitT gg hm hS (pa_cons (vv rfl rfl h10 rfl) (pa_cons (vv rfl rfl h11 rfl) pa_nil rfl) rfl) rfl (show 2 < 30 by decide) h8) (swaps_no rfl)) (pss_one (ps_ostT (vv rfl rfl h10 rfl) (vv rfl rfl h12 rfl) (swaps_no rfl)))
      · obtain ⟨a, t, v, y, rfl, ea, q⟩ := h
        refine ⟨_, rfl, _, rfl, a, C, t, [v], rfl, by simp, T, ea, fun t1 n1 ne1 => ?_⟩
        refine ⟨_, rfl, _, rfl, a, C, t1, rfl, T, hno, upd_same, fun dx n2 ne2 => ?_⟩
        rw [upd_ne ne2] at n2
        have ne3 : dx ≠ t1 := fun z => by rw [z, upd_same] at n2; cases n2
        rw [upd_ne ne3] at n2
        have := q t1 dx n1 ne1 n2 ne2 ne3
        rw [upd_comm (a := a) (b := dx) (Ne.symm ne2), upd_upd]
        exact this
  · cases hB
end
end Iv
end
section
set_option Elab.async false
set_option linter.all false
set_option maxRecDepth 100000
set_option maxHeartbeats 2000000
/-! A law's head: the facts of its top make the program that the interpreter runs. -/
namespace Iv
open PySem PySem.Spec PySem.Calls PyProof.Rows L2
/-- a statement of a class -/
def clsStmt (s : Stmt) (j : Nat) : Stmt :=
  match s with
  | .ClassDef _ _ _ b _ _ _ _ _ _ _ => b.getD j (.Pass ⟨0, 0, 0, 0⟩)
  | s => s
/-- a def: its number, its place, its name, its qualified name, its text, its names, how many of them are parameters -/
structure Ent where
  id : Nat
  at_ : Str × Option Str
  name : Str
  qual : Str
  st : Stmt
  N : List Str
  np : Nat
def Ent.ps (e : Ent) : List Str := e.N.take e.np
def Ent.dd (e : Ent) : He.DefD := ⟨e.at_, e.name, e.qual, defArgs e.st, defBody e.st, defScope e.st, [], []⟩
def entOf (ent : List Ent) (id : Nat) : Option Ent := ent.find? fun e => e.id == id
theorem entOf_is {ent : List Ent} {id : Nat} {e : Ent} (h : entOf ent id = some e) : e ∈ ent ∧ e.id = id := ⟨List.mem_of_find?_eq_some h, by
  have := List.find?_some h
  exact beq_iff_eq.mp this⟩
def clsNames : List Str := ["Reader", "Code", "Machine", "Writer", "Desk"]
def excNames : List Str := ["SpeakError", "BadText", "NoName", "Unfit", "TooLong", "NotDone", "NoRoom", "NoMachine", "BadRow", "ValueError"]
def clsName (c : Nat) : Str := clsNames.getD c ""
def excName (c : Nat) : Str := excNames.getD c ""
/-! ### constants -/
def itemB (d : D) (u : Value) : Bool :=
  match d, u with
  | .str l, .str x _ => decide (x = mkS l)
  | _, _ => false
def itemsB : List D → List Value → Bool
  | [], [] => true
  | d :: ds, u :: us => itemB d u && itemsB ds us
  | _, _ => false
def tupB (ds : List D) (o : Option Obj) : Bool :=
  match o with
  | some ⟨.type c, _, .seq its _, _⟩ => decide (c = "tuple") && (decide (its.size ≤ 1000) && itemsB ds its.toList)
  | _ => false
def cstB (K : PySem.W.Frag) (x : Str) (d : D) : Bool :=
  match d with
  | .int i => (match PySem.W.nsIn K mainGlobals x with
    | some (some (.int j _)) => decide (j = i)
    | _ => false)
  | .str l => (match PySem.W.nsIn K mainGlobals x with
    | some (some (.str y _)) => decide (y = mkS l)
    | _ => false)
  | .tup ds => (match PySem.W.nsIn K mainGlobals x with
    | some (some (.ref a)) => tupB ds (K.lookup a)
    | _ => false)
  | _ => false
/-- the classes that stand in clauses, against all that may be raised -/
def xmB (G : Gt) (K : PySem.W.Frag) : Bool := G.xc.all fun q => !(G.hx.contains q.2) || G.xc.all fun p => decide (PySem.W.exmOne K (.ref (He.ga K (excName p.2))) (.ref (He.ga K (excName q.2))) = some (isSub p.2 q.2))
/-- a class of refusals that may be asked -/
def xcB (K : PySem.W.Frag) (D : Addr) : Bool :=
  ((decide (PySem.W.findIn K (.ref D) "__getattribute__" = some (some (.builtin "BaseException.__getattribute__"))) && decide (PySem.W.findIn K (.ref D) "__getattr__" = some none)) && (decide (PySem.W.subIn K (.ref D) (.type "BaseException") = some true) && PySem.W.hasDictIn K D)) &&
    (((decide (PySem.W.findIn K (.ref D) "__class__" = some (some (.builtin "object.__class__"))) && decide (PySem.W.specialIn K (.builtin "object.__class__") "__get__" = some (some (.builtin "getset_descriptor.__get__")))) && (decide (PySem.W.takesIn K (.builtin "object.__class__") = some true) && decide (PySem.W.mroIn K D (.type "object") = some true))) &&
      (decide (PySem.W.findIn K (.ref D) "__str__" = some (some (.builtin "BaseException.__str__"))) && fieldNames.all fun f => decide (PySem.W.findIn K (.ref D) f = some none)))
theorem xcB_ok {K : PySem.W.Frag} {D : Addr} (h : xcB K D = true) : XcD K D := by
  unfold xcB at h
  simp only [Bool.and_eq_true, decide_eq_true_eq, List.all_eq_true] at h
  obtain ⟨⟨⟨h1, h2⟩, h3, h4⟩, ⟨⟨h5, h6⟩, h7, h8⟩, h10, h9⟩ := h
  refine ⟨⟨h1, h2, h3, h4, h5, h6, h7, h8⟩, fun f hf => h9 _ ?_, h10⟩
  unfold fnm
  have hl : f < fieldNames.length := hf
  rw [List.getD_eq_getElem?_getD, List.getElem?_eq_getElem hl]
  exact List.getElem_mem hl
/-- the classes as they are asked -/
def xqB (G : Gt) (K : PySem.W.Frag) : Bool := G.hf.isEmpty || G.xc.all fun p => xcB K (He.ga K (excName p.2)) && (decide (PySem.W.kitOne K (.ref (He.ga K (excName p.2))) (.type "ValueError") = some true) &&
  G.xc.all fun q => decide (PySem.W.kitOne K (.ref (He.ga K (excName p.2))) (.ref (He.ga K (excName q.2))) = some (isSub p.2 q.2)))
/-- classes without == of their own -/
def eqoB (G : Gt) (K : PySem.W.Frag) : Bool := G.cl.all fun q => decide (PySem.W.findIn K (.ref (He.ga K (clsName q.2.1))) "__eq__" = some (some (.builtin "object.__eq__"))) && decide (PySem.W.mroIn K (He.ga K (clsName q.2.1)) (.type "object") = some true)
def exB (G : Gt) (K : PySem.W.Frag) : Bool := (eqoB G K && G.cst.all fun q => cstB K q.1 (gval q.2)) && (xmB G K && xqB G K)
theorem items_ok {T : Tx} : ∀ {ds : List D} {us : List Value}, itemsB ds us = true → ∃ xs, Vals xs us ∧ ∀ H M r, RepL T.toTb H M r xs ds
  | [], [], _ => ⟨[], .nil, fun _ _ _ => .nil⟩
  | d :: ds, u :: us, h => by
    rw [itemsB, Bool.and_eq_true] at h
    obtain ⟨xs, h1, h2⟩ := items_ok (T := T) h.2
    have h3 := h.1
    unfold itemB at h3
    split at h3
    · rename_i l x t
      rw [decide_eq_true_eq] at h3
      subst h3
      exact ⟨.str (mkS l) :: xs, .cons ⟨_, rfl⟩ h1, fun H M r => .cons (.str l) (h2 H M r)⟩
    · cases h3
  | [], _ :: _, h => by cases h
  | _ :: _, [], h => by cases h
theorem cst_ok {K : PySem.W.Frag} {h : Heap} {mg : Str → Option Value} {T : Tx} (hT : T.K = K) (X : K.In h) (G : h.Ns mainGlobals mg) {x : Str} {d : D} (c : cstB K x d = true) : ∃ v u, mg x = some u ∧ RelV v u ∧ ∀ H M r, Rep T.toTb H M r v d := by
  unfold cstB at c
  split at c
  · rename_i i
    split at c
    · rename_i j t e
      rw [decide_eq_true_eq] at c
      subst c
      exact ⟨.int j, _, PySem.W.mg_of X G e, ⟨_, rfl⟩, fun _ _ _ => .int _⟩
    · cases c
  · rename_i l
    split at c
    · rename_i y t e
      rw [decide_eq_true_eq] at c
      subst c
      exact ⟨.str (mkS l), _, PySem.W.mg_of X G e, ⟨_, rfl⟩, fun _ _ _ => .str _⟩
    · cases c
  · rename_i ds
    split at c
    · rename_i a e
      unfold tupB at c
      split at c
      · rename_i cl od its n sl el
        simp only [Bool.and_eq_true, decide_eq_true_eq] at c
        obtain ⟨c1, c2, c3⟩ := c
        subst c1
        obtain ⟨xs, h1, h2⟩ := items_ok (T := T) c3
        exact ⟨.ref a, _, PySem.W.mg_of X G e, rfl, fun H M r => .tupC (fun H' => .inr ⟨_, its, n, by rw [hT]; exact el, rfl, rfl, by rw [sizeLine_eq]; omega, h1⟩) (h2 H M r)⟩
      · cases c
    · cases c
  · cases c
/-! ### parameters -/
/-- the parameters are bound one for one -/
def ParamOk (e : Ent) : Prop := ∀ (x qual : Str) (body : List Stmt) (scope : Scope) (kV doc pm : Value) (an : Option Addr) (cdv ct : Value) (us : List Value), us.length = e.ps.length →
  bindArgs (PySem.W.fnOf x qual (defArgs e.st) body scope .none kV doc pm an cdv ct) ⟨us, []⟩ = pure (e.ps.zip us)
def AllP : List Ent → Prop
  | [] => True
  | e :: r => ParamOk e ∧ AllP r
theorem AllP.mem : ∀ {l : List Ent}, AllP l → ∀ e ∈ l, ParamOk e
  | [], _, _, h => by cases h
  | a :: r, q, e, h => by
    rcases List.mem_cons.mp h with h | h
    · rw [h]; exact q.1
    · exact AllP.mem q.2 e h
theorem AllP.app : ∀ {l m : List Ent}, AllP l → AllP m → AllP (l ++ m)
  | [], _, _, h => h
  | _ :: _, _, q, h => ⟨q.1, AllP.app q.2 h⟩
/-! ### a def's scope -/
def scopeB (N ps : List Str) (sc : Scope) : Bool :=
  decide (sc.kind = .function) && (decide (sc.isCoroutine = false) && (decide (sc.isGenerator = false) && (decide (N.Nodup) && (decide (N.take ps.length = ps) && ((ps.all fun x => decide (sc.names.lookup x = some .local) || decide (sc.names.lookup x = some .cell)) && (sc.names.all fun y => decide (y.2 ≠ .free)))))))
theorem scope_ok {N ps : List Str} {sc : Scope} (h : scopeB N ps sc = true) : FnScope N ps sc := by
  unfold scopeB at h
  simp only [Bool.and_eq_true, decide_eq_true_eq, List.all_eq_true, Bool.or_eq_true] at h
  obtain ⟨h1, h2, h3, h4, h5, h6, h7⟩ := h
  exact ⟨h1, h2, h3, h4, h5, h6, h7⟩
/-- a def's entry against its core text -/
def entB (G : Gt) (defs : Nat → Option Def) (e : Ent) : Bool :=
  match defs e.id with
  | some d => scopeB e.N e.ps (defScope e.st) && ((decide (e.N.length = d.nn) && decide (e.ps.length = d.np)) && (if d.hot then decide (e.ps.length = 1) && chkBody G (Cc.of e.N (defScope e.st)).heat d.body (defBody e.st) else chkBody G (Cc.of e.N (defScope e.st)) d.body (defBody e.st)))
  | none => false
/-- the tables hang together -/
def gtB (G : Gt) (ent : List Ent) (tab : List (Nat × Def)) : Bool :=
  ((tab.all fun q => q.2.hot || (entOf ent q.1).isSome) && (G.hf.all fun q => (match entOf ent q.2 with
    | some e => decide (e.at_ = (q.1, none))
    | none => false) && (match tab.lookup q.2 with
    | some d => d.hot
    | none => true))) && ((G.fn.all fun q => match entOf ent q.2 with
    | some e => decide (e.at_ = (q.1, none))
    | none => false) && ((G.me.all fun q => (match entOf ent q.2 with
      | some e => decide (e.at_ = (clsName q.1.1, some q.1.2))
      | none => false) && (!(fieldNames.contains q.1.2) && (G.cl.any fun z => decide (z.2.1 = q.1.1)))) && ((G.cl.all fun q => (match entOf ent q.2.2 with
        | some e => decide (e.at_ = (q.1, some ("__init__" : Str)))
        | none => false) && decide (q.1 = clsName q.2.1)) && (G.xc.all fun q => decide (q.1 = excName q.2)))))
/-- the facts that are asked of the top -/
def faOf (G : Gt) : List He.Fa := bltNames.map He.Fa.free ++ (((G.fn ++ G.hf).map fun q => He.Fa.glo q.1) ++ ((G.cl.flatMap fun q => [He.Fa.glo q.1, .cls q.1, .mkr q.1] ++ fieldNames.map fun f => He.Fa.noat q.1 f) ++ ((G.me.map fun q => He.Fa.meth (clsName q.1.1) q.1.2) ++
  (G.xc.flatMap fun q => He.Fa.glo q.1 :: (if 3 ≤ q.2 then [He.Fa.exc q.1] else [])))))
def defsOf (tab : List (Nat × Def)) (id : Nat) : Option Def := tab.lookup id
def fdOf (K : PySem.W.Frag) (p : Str × Option Str) : FuncData :=
  match K.lookup (He.fAd K p) with
  | some ⟨_, _, .func fd, _⟩ => fd
  | _ => PySem.W.fnOf "" "" ⟨[], [], none, [], [], none, []⟩ [] ⟨.function, [], false, false, []⟩ .none .none .none .none none .none .none
def txOf (G : Gt) (K : PySem.W.Frag) : Tx := ⟨⟨K, fun c => He.ga K (clsName c), fun c => (G.cl.any fun z => decide (z.2.1 = c)) = true, fun k => .ref (He.ga K (excName k)), fun k => (G.xc.any fun z => decide (z.2 = k)) = true⟩⟩
def progOf (P : Program) (w : World) (K : PySem.W.Frag) (mg : Str → Option Value) (base : Heap) (G : Gt) (ent : List Ent) (tab : List (Nat × Def)) : Iv.Prog where
  P := P
  w := w
  K := K
  mg := mg
  base := base
  G := G
  T := txOf G K
  defs := defsOf tab
  fa := fun id => match entOf ent id with
    | some e => He.fAd K e.at_
    | none => 0
  fd := fun id => match entOf ent id with
    | some e => fdOf K e.at_
    | none => fdOf K ("", none)
  ps := fun id => match entOf ent id with
    | some e => e.ps
    | none => []
/-- what is still asked of the refusals with an __init__ -/
def RiOk (p : Iv.Prog) : Prop := ∀ (X : Cx) (W : WX) (pe : Pe) (cs : Iv.Calls) n k es ys q pos, X.prog = p.P → X.w = p.w → X.K = p.K → X.mg = p.mg → X.base = p.base → X.calm = true → (∃ n, RoomP (n + 2) X.A) → L2N.Takes X W → 1 ≤ k → k < 3 → es.length = 2 → p.G.xc.lookup n = some k → Gl X n → (n == ("__debug__" : Str)) = false →
    GdL p.T pe W cs X es ys → L2N.PMk X (.Call (.Name n q) ys [] pos) (tR p.T pe W cs k es)
/-- .. where they are made as values -/
def NiOk (p : Iv.Prog) : Prop := p.G.xv = true → p.G.hf.isEmpty = false ∧ ∀ n k, p.G.xc.lookup n = some k → 1 ≤ k → k < 3 → ∀ A : Around, (∃ n, RoomP (n + 2) A) → NxI p.T p.P p.w p.K p.mg p.base A (He.ga p.K (excName k)) k
theorem look_mem {α β : Type} [BEq α] [LawfulBEq α] {l : List (α × β)} {a : α} {b : β} (h : l.lookup a = some b) : (a, b) ∈ l := by
  induction l with
  | nil => cases h
  | cons p l ih =>
    obtain ⟨x, y⟩ := p
    rw [List.lookup_cons] at h
    split at h
    · rename_i e
      cases h
      rw [eq_of_beq e]
      exact List.mem_cons_self
    · exact List.mem_cons_of_mem _ (ih h)
section
variable {P : Program} {w : World} {K : PySem.W.Frag} {h : Heap} {mg : Str → Option Value} {base : Heap} {G : Gt} {ent : List Ent} {tab : List (Nat × Def)}
theorem prog_ok (X : K.In h) (N : h.Ns mainGlobals mg) (cf : ∀ f ∈ faOf G, f.ok K = true) (cd : ∀ e ∈ ent, ∃ fd, FunD K e.name e.qual (defArgs e.st) (defBody e.st) (defScope e.st) [] [] (He.fAd K e.at_) fd) (ex : exB G K = true) (eb : (ent.all (entB G (defsOf tab))) = true) (gb : gtB G ent tab = true) (pb : AllP ent) (ri : RiOk (progOf P w K mg base G ent tab)) (ni : NiOk (progOf P w K mg base G ent tab)) : (progOf P w K mg base G ent tab).Ok := by
  unfold gtB at gb
  simp only [Bool.and_eq_true, List.all_eq_true, Bool.or_eq_true, Bool.not_eq_true', decide_eq_true_eq] at gb
  obtain ⟨⟨b1, b6⟩, b2, b3, b4, b5⟩ := gb
  rw [List.all_eq_true] at eb
  have fact : ∀ {f : He.Fa}, f ∈ faOf G → f.ok K = true := fun {f} hf => cf f hf
  have fun_ : ∀ {e : Ent}, e ∈ ent → FunD K e.name e.qual (defArgs e.st) (defBody e.st) (defScope e.st) [] [] (He.fAd K e.at_) (fdOf K e.at_) := fun {e} he => by
    obtain ⟨fd, F⟩ := cd e he
    have : fdOf K e.at_ = fd := by
      obtain ⟨oc, od, dV, kV, doc, pm, an, cdv, ct, osl, e1, e2, _⟩ := F.ex
      unfold fdOf
      rw [e2]
    rw [this]; exact F
  have fa_ : ∀ {id : Nat} {e : Ent}, entOf ent id = some e → (progOf P w K mg base G ent tab).fa id = He.fAd K e.at_ ∧ (progOf P w K mg base G ent tab).fd id = fdOf K e.at_ ∧ (progOf P w K mg base G ent tab).ps id = e.ps := fun {id e} h => by
    refine ⟨?_, ?_, ?_⟩
    · show (match entOf ent id with | some e => He.fAd K e.at_ | none => 0) = _
      rw [h]
    · show (match entOf ent id with | some e => fdOf K e.at_ | none => fdOf K ("", none)) = _
      rw [h]
    · show (match entOf ent id with | some e => e.ps | none => []) = _
      rw [h]
  have good : ∀ {e : Ent}, e ∈ ent → ∃ d, defsOf tab e.id = some d ∧ scopeB e.N e.ps (defScope e.st) = true ∧ e.N.length = d.nn ∧ e.ps.length = d.np ∧ (d.hot = false → chkBody G (Cc.of e.N (defScope e.st)) d.body (defBody e.st) = true) ∧ (d.hot = true → e.ps.length = 1 ∧ chkBody G (Cc.of e.N (defScope e.st)).heat d.body (defBody e.st) = true) := fun {e} he => by
    have q := eb e he
    unfold entB at q
    split at q
    · rename_i d hd
      simp only [Bool.and_eq_true, decide_eq_true_eq] at q
      obtain ⟨q2, ⟨q3, q4⟩, q6⟩ := q
      refine ⟨d, hd, q2, q3, q4, fun z => ?_, fun z => ?_⟩
      · rw [z] at q6
        exact q6
      · rw [z, if_pos rfl, Bool.and_eq_true, decide_eq_true_eq] at q6
        exact q6
    · cases q
  have bnd : ∀ {e : Ent}, e ∈ ent → Binds K (fdOf K e.at_) e.ps [] := fun {e} he => by
    exact (fun_ he).bindsN fun kV doc pm an cdv ct us hl => pb.mem e he _ _ _ _ kV doc pm an cdv ct us hl
  refine ⟨rfl, fun b hb => ?_, fun x g hg => ?_, fun k hk => ?_, fun k hk => ?_, fun id d hd hh => ?_, fun x id hx => ?_, fun ci m id hm => ?_, fun x ci id hx => ?_, fun Y n k e1 e2 hn hk => ?_, fun Y e1 e2 x k hx hh => ?_, ri, fun hv n k hn hk A hA => ?_, fun x id hx => ?_, fun Y e1 e2 hne => ?_⟩
  · exact He.free_ok X N (fact (List.mem_append_left _ (List.mem_map.mpr ⟨b, hb, rfl⟩)))
  · unfold exB at ex
    simp only [Bool.and_eq_true, List.all_eq_true] at ex
    exact cst_ok rfl X N (ex.1.2 (x, g) (look_mem hg))
  · have hk : (G.cl.any fun z => decide (z.2.1 = k)) = true := hk
    obtain ⟨q, hq, e⟩ := List.any_eq_true.mp hk
    rw [decide_eq_true_eq] at e
    have q2 := (b4 q hq).2
    rw [e] at q2
    have mem : ∀ {f : He.Fa}, f ∈ [He.Fa.glo q.1, .cls q.1, .mkr q.1] ++ (fieldNames.map fun f => He.Fa.noat q.1 f) → f ∈ faOf G := fun {f} hf => List.mem_append_right _ (List.mem_append_right _ (List.mem_append_left _ (List.mem_flatMap.mpr ⟨q, hq, hf⟩)))
    refine ⟨?_, fun f hf => ?_⟩
    · have := He.cls_ok (fact (mem (f := .cls q.1) (by simp)))
      rw [q2] at this
      exact this
    · have hm : fnm f ∈ fieldNames := by
        unfold fnm
        have hl : f < fieldNames.length := hf
        rw [List.getD_eq_getElem?_getD, List.getElem?_eq_getElem hl]
        exact List.getElem_mem hl
      have := He.noat_ok (fact (mem (f := .noat q.1 (fnm f)) (List.mem_append_right _ (List.mem_map.mpr ⟨_, hm, rfl⟩))))
      rw [q2] at this
      exact this
  · have hk : (G.cl.any fun z => decide (z.2.1 = k)) = true := hk
    obtain ⟨q, hq, e⟩ := List.any_eq_true.mp hk
    rw [decide_eq_true_eq] at e
    unfold exB eqoB at ex
    simp only [Bool.and_eq_true, List.all_eq_true, decide_eq_true_eq] at ex
    have z := ex.1.1 q hq
    rw [e] at z
    exact ⟨z.1, z.2⟩
  · have hm := b1 (id, d) (look_mem hd)
    rcases hm with hm | hm
    · rw [hh] at hm; cases hm
    · obtain ⟨e, he⟩ := Option.isSome_iff_exists.mp hm
      obtain ⟨h1, h2⟩ := entOf_is he
      obtain ⟨f1, f2, f3⟩ := fa_ he
      rw [f1, f2, f3]
      obtain ⟨d', q0, q2, q3, q4, q6, _⟩ := good h1
      rw [h2] at q0
      have q0' : defsOf tab id = some d := hd
      rw [q0] at q0'
      cases q0'
      obtain ⟨oc, od, dV, kV, doc, pm, an, cdv, ct, osl, e1, e2, e3, _⟩ := (fun_ h1).ex
      rw [e1] at e2
      exact ⟨e.name, e.qual, defArgs e.st, defBody e.st, defScope e.st, dV, kV, doc, pm, cdv, ct, oc, an, od, osl, e.N, e1, e2, e3, scope_ok q2, q3, q4, q6 hh⟩
  · have q := b2 (x, id) (look_mem hx)
    dsimp only at q
    split at q
    · rename_i e he
      rw [decide_eq_true_eq] at q
      obtain ⟨h1, h2⟩ := entOf_is he
      obtain ⟨f1, f2, f3⟩ := fa_ he
      rw [f1, f2, f3]
      have g := He.glo_ok X N (fact (f := .glo x) (List.mem_append_right _ (List.mem_append_left _ (List.mem_map.mpr ⟨(x, id), List.mem_append_left _ (look_mem hx), rfl⟩))))
      have ea : He.fAd K e.at_ = He.ga K x := by rw [q]; rfl
      refine ⟨by rw [ea]; exact g, (fun_ h1).kp, bnd h1⟩
    · cases q
  · obtain ⟨q, q2, q3⟩ := b3 ((ci, m), id) (look_mem hm)
    dsimp only at q q2 q3
    split at q
    · rename_i e he
      rw [decide_eq_true_eq] at q
      obtain ⟨h1, h2⟩ := entOf_is he
      obtain ⟨f1, f2, f3⟩ := fa_ he
      rw [f1, f2, f3]
      have g := He.meth_ok (fact (f := .meth (clsName ci) m) (List.mem_append_right _ (List.mem_append_right _ (List.mem_append_right _ (List.mem_append_left _ (List.mem_map.mpr ⟨((ci, m), id), look_mem hm, rfl⟩))))))
      have ea : He.fAd K e.at_ = He.ma K (He.ga K (clsName ci)) m := by rw [q]; rfl
      refine ⟨q2, ?_, by rw [ea]; exact g, bnd h1⟩
      obtain ⟨z, hz, e3⟩ := List.any_eq_true.mp q3
      rw [decide_eq_true_eq] at e3
      have z2 := (b4 z hz).2
      rw [e3] at z2
      have := He.cls_ok (fact (f := .cls z.1) (List.mem_append_right _ (List.mem_append_right _ (List.mem_append_left _ (List.mem_flatMap.mpr ⟨z, hz, by simp⟩)))))
      rw [z2] at this
      exact this
    · cases q
  · have hq := look_mem hx
    obtain ⟨q, q2⟩ := b4 (x, ci, id) hq
    dsimp only at q q2
    split at q
    · rename_i e he
      rw [decide_eq_true_eq] at q
      obtain ⟨h1, h2⟩ := entOf_is he
      obtain ⟨f1, f2, f3⟩ := fa_ he
      rw [f1, f2, f3]
      have mem : ∀ {f : He.Fa}, f ∈ [He.Fa.glo x, .cls x, .mkr x] ++ (fieldNames.map fun f => He.Fa.noat x f) → f ∈ faOf G := fun {f} hf => List.mem_append_right _ (List.mem_append_right _ (List.mem_append_left _ (List.mem_flatMap.mpr ⟨(x, ci, id), hq, hf⟩)))
      have g1 := He.glo_ok X N (fact (mem (f := .glo x) (by simp)))
      have g2 := He.mkr_ok (fact (mem (f := .mkr x) (by simp)))
      have ea : He.fAd K e.at_ = He.ma K (He.ga K x) "__init__" := by rw [q]; rfl
      have ec : (progOf P w K mg base G ent tab).T.cls ci = He.ga K x := by rw [q2]; rfl
      refine ⟨?_, by rw [ec]; exact g1, by rw [ec, ea]; exact g2, bnd h1⟩
      exact List.any_eq_true.mpr ⟨(x, ci, id), hq, by simp⟩
    · cases q
  · have hm := look_mem hn
    have e := b5 (n, k) hm
    dsimp only at e
    have mem : ∀ {f : He.Fa}, f ∈ He.Fa.glo n :: (if 3 ≤ k then [He.Fa.exc n] else []) → f ∈ faOf G := fun {f} hf => List.mem_append_right _ (List.mem_append_right _ (List.mem_append_right _ (List.mem_append_right _ (List.mem_flatMap.mpr ⟨(n, k), hm, hf⟩))))
    have g1 := He.glo_ok X N (fact (mem (f := .glo n) (by simp)))
    obtain ⟨g2, g3, g4, g5⟩ := He.exc_ok (fact (mem (f := .exc n) (by simp [hk])))
    refine ⟨He.ga K n, He.veBase, "ValueError", "ValueError.__new__", "ValueError.__init__", PySem.F.excBase_ValueError, ?_, ?_, ?_, ?_, ?_, List.any_eq_true.mpr ⟨(n, k), hm, by simp⟩⟩
    · rw [e1]; exact g2
    · rw [e2]; exact g1
    · rw [e1]; exact g3
    · refine raises_own ?_ ?_
      · rw [e1]; exact g4
      · rw [e1]; exact g5
    · show Value.ref (He.ga K (excName k)) = _
      rw [← e]
  · have hm := look_mem hx
    have e := b5 (x, k) hm
    dsimp only at e
    refine ⟨?_, fun j hj => ?_⟩
    · rw [e2]
      show mg x = some (Value.ref (He.ga K (excName k)))
      rw [← e]
      exact He.glo_ok X N (fact (f := .glo x) (List.mem_append_right _ (List.mem_append_right _ (List.mem_append_right _ (List.mem_append_right _ (List.mem_flatMap.mpr ⟨(x, k), hm, List.mem_cons_self⟩))))))
    · obtain ⟨q, hq, ej⟩ := List.any_eq_true.mp hj
      rw [decide_eq_true_eq] at ej
      unfold exB xmB at ex
      simp only [Bool.and_eq_true, List.all_eq_true, Bool.or_eq_true, Bool.not_eq_true', decide_eq_true_eq] at ex
      rcases ex.2.1 (x, k) hm with z | z
      · have z2 : G.hx.contains k = true := hh
        rw [z2] at z; cases z
      · have := z q hq
        rw [ej] at this
        rw [e1]
        exact this
  · obtain ⟨hne, hI⟩ := ni hv
    have hm := look_mem hn
    have e := b5 (n, k) hm
    dsimp only at e
    have okx : (progOf P w K mg base G ent tab).T.okx k := List.any_eq_true.mpr ⟨(n, k), hm, by simp⟩
    have hq : xqB G K = true := by
      unfold exB at ex
      simp only [Bool.and_eq_true] at ex
      exact ex.2.2
    unfold xqB at hq
    rw [show G.hf.isEmpty = false from hne, Bool.false_or] at hq
    simp only [List.all_eq_true, Bool.and_eq_true, decide_eq_true_eq] at hq
    have g1 := He.glo_ok X N (fact (f := .glo n) (List.mem_append_right _ (List.mem_append_right _ (List.mem_append_right _ (List.mem_append_right _ (List.mem_flatMap.mpr ⟨(n, k), hm, List.mem_cons_self⟩))))))
    rcases Nat.lt_or_ge k 3 with h3 | h3
    · have I := hI n k hn hk h3 A hA
      exact ⟨okx, He.ga K (excName k), rfl, xcB_ok (hq (n, k) hm).1, by rw [← e]; exact g1, I.1.kC, .inr ⟨h3, I⟩⟩
    · have mem : ∀ {f : He.Fa}, f ∈ He.Fa.glo n :: (if 3 ≤ k then [He.Fa.exc n] else []) → f ∈ faOf G := fun {f} hf => List.mem_append_right _ (List.mem_append_right _ (List.mem_append_right _ (List.mem_append_right _ (List.mem_flatMap.mpr ⟨(n, k), hm, hf⟩))))
      obtain ⟨g2, g3, g4, g5⟩ := He.exc_ok (fact (mem (f := .exc n) (by simp [h3])))
      exact ⟨okx, He.ga K (excName k), rfl, xcB_ok (hq (n, k) hm).1, by rw [← e]; exact g1, by rw [← e]; exact g3, .inl ⟨h3, He.veBase, "ValueError", "ValueError.__new__", "ValueError.__init__", PySem.F.excBase_ValueError, by rw [← e]; exact g2⟩⟩
  · have q := b6 (x, id) (look_mem hx)
    dsimp only at q
    obtain ⟨q, q2⟩ := q
    split at q
    · rename_i e he
      rw [decide_eq_true_eq] at q
      obtain ⟨h1, h2⟩ := entOf_is he
      obtain ⟨f1, f2, f3⟩ := fa_ he
      rw [f1, f2, f3]
      have g := He.glo_ok X N (fact (f := .glo x) (List.mem_append_right _ (List.mem_append_left _ (List.mem_map.mpr ⟨(x, id), List.mem_append_right _ (look_mem hx), rfl⟩))))
      have ea : He.fAd K e.at_ = He.ga K x := by rw [q]; rfl
      refine ⟨by rw [ea]; exact g, (fun_ h1).kp, bnd h1, fun d hd => ?_⟩
      obtain ⟨d', q0, q3, q4, q5, _, q7⟩ := good h1
      rw [h2] at q0
      have hd : tab.lookup id = some d := hd
      have q0 : tab.lookup id = some d' := q0
      rw [q0] at hd q2
      cases hd
      obtain ⟨q8, q9⟩ := q7 q2
      obtain ⟨oc, od, dV, kV, doc, pm, an, cdv, ct, osl, e1, e2, e3, _⟩ := (fun_ h1).ex
      rw [e1] at e2
      exact ⟨e.name, e.qual, defArgs e.st, defBody e.st, defScope e.st, dV, kV, doc, pm, cdv, ct, oc, an, od, osl, e.N, e1, e2, e3, scope_ok q3, q4, q8, q9⟩
    · cases q
  · have hq : xqB G K = true := by
      unfold exB at ex
      simp only [Bool.and_eq_true] at ex
      exact ex.2.2
    unfold xqB at hq
    rw [show G.hf.isEmpty = false from hne, Bool.false_or] at hq
    simp only [List.all_eq_true, Bool.and_eq_true, decide_eq_true_eq] at hq
    have at_ : ∀ j, (progOf P w K mg base G ent tab).T.okx j → ∃ q ∈ G.xc, q.2 = j := fun j hj => by
      obtain ⟨q, h1, h2⟩ := List.any_eq_true.mp (show (G.xc.any fun z => decide (z.2 = j)) = true from hj)
      exact ⟨q, h1, of_decide_eq_true h2⟩
    refine ⟨fun m k hk hm => ?_, fun j hj => ?_, fun j hj => ?_⟩
    · have hm2 := look_mem hm
      have e := b5 (m, k) hm2
      dsimp only at e
      refine ⟨He.ga K (excName k), ?_, fun j hj => ?_⟩
      · rw [e2, ← e]
        exact He.glo_ok X N (fact (f := .glo m) (List.mem_append_right _ (List.mem_append_right _ (List.mem_append_right _ (List.mem_append_right _ (List.mem_flatMap.mpr ⟨(m, k), hm2, List.mem_cons_self⟩))))))
      · obtain ⟨q, h1, rfl⟩ := at_ j hj
        exact ⟨_, rfl, by rw [e1]; exact (hq q h1).2.2 (m, k) hm2⟩
    · obtain ⟨q, h1, rfl⟩ := at_ j hj
      exact ⟨_, rfl, by rw [e1]; exact (hq q h1).2.1⟩
    · obtain ⟨q, h1, rfl⟩ := at_ j hj
      exact ⟨_, rfl, by rw [e1]; exact xcB_ok (hq q h1).1⟩
end
/-- a law's promise -/
def spLaw (T : Tx) (g : List D → Store → Res D) : Sp := fun vs H Q _ => spOf T g vs H Q (fun _ _ _ => False)
theorem law_fn {P : Program} {w : World} {K : PySem.W.Frag} {mg : Str → Option Value} {base : Heap} {n : Nat} {f : Addr} {fd : FuncData} {ps : List Str} {T : Tx} {g : List D → Store → Res D} (F : FnP P w K mg base n f fd ps (spOf T g)) (hn : n ≤ 690) :
    FnOk P w K mg base CX0 231 f fd ps (spLaw T g) := by
  refine ⟨fun vs H Q E h => F.len _ _ _ _ h, fun A outer s H args us vs Q E hr e0 hb r h => ?_⟩
  have hr' : RoomP n A := ⟨hr.hd, by have := hr.dp; omega, by have := hr.un; omega⟩
  refine codeAny_mono (F.run A outer s H args us vs Q (fun _ _ _ => False) hr' e0 hb r h) fun r s' hq => ?_
  cases r with
  | ok fl =>
    cases fl with
    | ret u => exact hq
    | next => exact hq
    | brk => exact hq
    | cont => exact hq
  | error e =>
    obtain ⟨_, _, _, _, _, _, _, _, _, _, _, _, z⟩ := hq
    exact z
theorem law_sp {T : Tx} {g : List D → Store → Res D} {K : PySem.W.Frag} (hT : T.K = K) {ns : List Int} {st : Store} (hg : g [.scr ns] [] = .ok (.bl true) st) {H : Hp} {a : Addr} (hS : SqL K H a (ns.map V.int)) : spLaw T g [.ref a] H (fun v _ => v = .bl true) fun _ _ _ => False := by
  refine ⟨fun _ => False, [], [], [.scr ns], ⟨rfl, List.nodup_nil, fun n a o e => by simp at e, fun a z => ?_⟩, ?_, ?_⟩
  · rcases z with z | z | z
    · exact z.elim
    · cases z
    · cases z
  · refine .cons ?_ .nil
    rcases hS with hS | hS
    · refine .scr hS fun z => ?_
      rcases z with z | z | z
      · exact z
      · cases z
      · cases z
    · exact .scrC fun H' => .inr (by rw [hT]; exact hS)
  · rw [hg]
    intro r' H' n s v hv
    cases hv
    rfl
end Iv
end
section
set_option Elab.async false
set_option linter.all false
set_option maxRecDepth 100000
set_option maxHeartbeats 4000000
/-! A law's head: refusals with an __init__; the law's end. -/
namespace Iv
open PySem PySem.Spec PySem.Calls PyProof.Rows L2
/-- a refusal's __init__: its class's number and name, its text, its default -/
structure Ini where
  k : Nat
  n : Str
  st : Stmt
  N : List Str
  dv : He.Dv
def Ini.at_ (i : Ini) : Str × Option Str := (i.n, some ("__init__" : Str))
def Ini.dd (i : Ini) : He.DefD := ⟨i.at_, "__init__", iniQual i.n, defArgs i.st, defBody i.st, defScope i.st, [i.dv], []⟩
where iniQual (n : Str) : Str := n ++ (".__init__" : Str)
/-- the parameters are bound one for one, the default is not asked -/
def IniOk (i : Ini) : Prop := ∀ (T : Addr) (x qual : Str) (body : List Stmt) (scope : Scope) (kV doc pm : Value) (an : Option Addr) (cdv ct : Value) (us its : List Value), us.length = 3 → its.length = 1 →
  ∃ k, bindArgs (PySem.W.fnOf x qual (defArgs i.st) body scope (.ref T) kV doc pm an cdv ct) ⟨us, []⟩ = seqItems? (.ref T) >>= k ∧ k (some its.toArray) = pure (i.N.zip (us ++ its.drop 1))
def AllI : List Ini → Prop
  | [] => True
  | i :: r => IniOk i ∧ AllI r
theorem AllI.mem : ∀ {l : List Ini}, AllI l → ∀ i ∈ l, IniOk i
  | [], _, _, h => by cases h
  | a :: r, q, e, h => by
    rcases List.mem_cons.mp h with h | h
    · rw [h]; exact q.1
    · exact AllI.mem q.2 e h
/-- what an attribute of a refusal is by default, here -/
def vdX (k : Nat) : V := if k = 1 then .int 0 else .str (mkS [])
/-- .. where the default is asked -/
def IniOk2 (i : Ini) : Prop := (∀ (T : Addr) (x qual : Str) (body : List Stmt) (scope : Scope) (kV doc pm : Value) (an : Option Addr) (cdv ct : Value) (us its : List Value), us.length = 2 → its.length = 1 →
  ∃ k, bindArgs (PySem.W.fnOf x qual (defArgs i.st) body scope (.ref T) kV doc pm an cdv ct) ⟨us, []⟩ = seqItems? (.ref T) >>= k ∧ k (some its.toArray) = pure (i.N.zip (us ++ its.drop 0))) ∧ ∀ K, i.dv.v K = vdX i.k
def AllI2 : List Ini → Prop
  | [] => True
  | i :: r => IniOk2 i ∧ AllI2 r
theorem AllI2.mem : ∀ {l : List Ini}, AllI2 l → ∀ i ∈ l, IniOk2 i
  | [], _, _, h => by cases h
  | a :: r, q, e, h => by
    rcases List.mem_cons.mp h with h | h
    · rw [h]; exact q.1
    · exact AllI2.mem q.2 e h
theorem vdX_rep (k : Nat) (T : Tb) (H : Hp) (M : AP') (r : List Addr) : Rep T H M r (vdX k) (dfltX k) := by
  unfold vdX dfltX
  split
  · exact .int 0
  · exact .str []
def iniField (k : Nat) : Nat := if k = 1 then 0 else 1
/-- what is asked of the top for such a refusal -/
def iniB (K : PySem.W.Frag) (i : Ini) : Bool :=
  ((decide (PySem.W.nsIn K mainGlobals i.n = some (some (.ref (He.ga K i.n)))) && decide (PySem.W.nsIn K mainGlobals "SpeakError" = some (some (.ref (He.ga K "SpeakError"))))) && (oexB K (He.ga K i.n) && speB K (He.ga K "SpeakError"))) &&
    ((decide (PySem.W.findIn K (.ref (He.ga K i.n)) "__init__" = some (some (.ref (He.fAd K i.at_)))) && decide (PySem.W.typeIn K (.ref (He.fAd K i.at_)) = some (.type "function"))) && decide (PySem.W.findIn K (.ref (He.ga K i.n)) (fnm (iniField i.k)) = some none))
/-- .. of its text -/
def iniT (i : Ini) : Bool := (scopeB i.N i.N (defScope i.st) && initB i.N (fnm (iniField i.k)) (defScope i.st) (defBody i.st)) && (decide (i.N.length = 3) && (decide (i.n = excName i.k) && (decide (i.k = 1) || decide (i.k = 2))))
/-- every such class that the tables name is among them -/
def iniG (G : Gt) (ini : List Ini) : Bool := G.xc.all fun q => decide (q.2 = 0) || (decide (3 ≤ q.2) || ini.any fun i => decide (i.k = q.2))
def exB2 (G : Gt) (ini : List Ini) (K : PySem.W.Frag) : Bool := exB G K && ini.all (iniB K)
theorem evalL_len {cs : Iv.Calls} : ∀ {es : List E} {env : SEnv} {st st' : Store} {ds : List D}, evalL cs es env st = .ok ds st' → ds.length = es.length
  | [], env, st, st', ds, h => by
    rw [evalL] at h
    cases h; rfl
  | e :: es, env, st, st', ds, h => by
    rw [evalL] at h
    cases h1 : evalE cs e env st with
    | bad => rw [h1] at h; cases h
    | exn x s1 => rw [h1] at h; cases h
    | ok d s1 =>
      rw [h1] at h
      simp only [Res.bind_ok] at h
      cases h2 : evalL cs es env s1 with
      | bad => rw [h2] at h; cases h
      | exn x s2 => rw [h2] at h; cases h
      | ok ds' s2 =>
        rw [h2] at h
        simp only [Res.bind_ok] at h
        cases h
        rw [List.length_cons, List.length_cons, evalL_len h2]
theorem okL_len {T : Tx} {Mb : AP'} {ow : List (Option Addr)} {W : WX} {σ : L2.St} {r : List Addr} {H : Hp} {cs : Iv.Calls} {es : List E} {env : SEnv} {st : Store} {Q : List Addr → Hp → List D → Store → Prop} (h : OK T Mb ow W σ r H (evalL cs es env st) Q) :
    OK T Mb ow W σ r H (evalL cs es env st) (fun r' H' ds st' => ds.length = es.length ∧ Q r' H' ds st') := by
  cases e : evalL cs es env st with
  | ok ds st' =>
    rw [e] at h
    exact fun r' H' n s => ⟨evalL_len e, h r' H' n s⟩
  | exn x st' => rw [e] at h; exact h
  | bad => rw [e] at h; exact h
section
variable {P : Program} {w : World} {K : PySem.W.Frag} {h : Heap} {mg : Str → Option Value} {base : Heap} {G : Gt} {ent : List Ent} {tab : List (Nat × Def)} {ini : List Ini}
theorem ri_ok (X₀ : K.In h) (Nh : h.Ns mainGlobals mg) (hf : ∀ i ∈ ini, ∃ fd, FunD K "__init__" (Ini.dd.iniQual i.n) (defArgs i.st) (defBody i.st) (defScope i.st) [i.dv.v K] [] (He.fAd K i.at_) fd) (ex : (ini.all (iniB K)) = true) (it : (ini.all iniT) = true) (ig : iniG G ini = true)
    (xc : ∀ n k, G.xc.lookup n = some k → n = excName k) (ai : AllI ini) : RiOk (progOf P w K mg base G ent tab) := by
  intro X W pe cs n k es ys q pos e1 e2 e3 e4 e5 hc hr tk h0 hk hl hx hg hdb g
  obtain ⟨rn, hr⟩ := hr
  have hm := look_mem hx
  unfold iniG at ig
  rw [List.all_eq_true] at ig ex it
  have q1 := ig (n, k) hm
  simp only [Bool.or_eq_true, decide_eq_true_eq] at q1
  have q2 : (ini.any fun i => decide (i.k = k)) = true := by
    rcases q1 with q1 | q1 | q1
    · omega
    · omega
    · exact q1
  obtain ⟨i, hi, ek⟩ := List.any_eq_true.mp q2
  rw [decide_eq_true_eq] at ek
  have b := ex i hi
  have t := it i hi
  unfold iniB at b
  unfold iniT at t
  simp only [Bool.and_eq_true, Bool.or_eq_true, decide_eq_true_eq] at b t
  obtain ⟨⟨⟨b1, b2⟩, b3, b4⟩, ⟨b5, b6⟩, b7⟩ := b
  obtain ⟨⟨t1, t2⟩, t3, t4, t5⟩ := t
  have en : n = i.n := by rw [xc n k hx, t4, ek]
  subst en
  obtain ⟨fd, F⟩ := hf i hi
  have F2 := F
  obtain ⟨ds, hv, hb⟩ := F2.binds1 (ps := i.N) 3 1 (by simp) (by rw [t3]; rfl) fun T kV doc pm an cdv ct us its h1 h2 => ai.mem i hi T _ _ _ _ kV doc pm an cdv ct us its h1 h2
  have eds : ds = [] := by
    cases hv
    rfl
  subst eds
  obtain ⟨oc, od, dV, kV, doc, pm, an, cdv, ct, osl, f1, f2, f3, _⟩ := F.ex
  subst f1
  have hmS : X.mg "SpeakError" = some (.ref (He.ga K "SpeakError")) := by rw [e4]; exact PySem.W.mg_of X₀ Nh b2
  have hmC : X.mg i.n = some (.ref (He.ga K i.n)) := by rw [e4]; exact PySem.W.mg_of X₀ Nh b1
  have T := oex_ok b3
  have S := spe_ok b4
  have e3' : X.K = K := e3
  have Fn := init_fn (P := X.prog) (w := X.w) (base := X.base) (k := 0) (mg := X.mg) f2 f3 (scope_ok t1) t2 hmS S T b7
  have hl2 := g.len
  have hst := g.star
  have hpa := g.pa
  obtain ⟨y0, ys, rfl⟩ : ∃ y0 r, ys = y0 :: r := by
    cases ys with
    | nil => rw [hl] at hl2; cases hl2
    | cons a r => exact ⟨a, r, rfl⟩
  have pm := pmk_init (X := X) (W := W) (p := q) (pos := pos) (x := i.n) (f := fnm (iniField i.k)) (k := 1) (by rw [e3']; exact T) (by rw [e3']; exact b5) (by rw [e3']; exact b6) (by rw [e3']; exact Fn) (hr.mono (show 1 + 1 ≤ rn + 2 by omega)) (by rw [e3']; exact hb) tk hg hmC hpa hst hdb
  intro pins s σ H Q I z
  refine pm pins s σ H Q I ?_
  obtain ⟨Mb, r, ow, st, env, R, z⟩ := z
  refine ⟨Mb, r, ow, st, env, R, (okL_len z).imp fun r1 H1 ds st1 n1 s1 ⟨hlen, q⟩ vs hvs => ?_⟩
  have cls : ∀ f d2 v2, excFields k ds = some [(f, d2)] → f = iniField i.k → (∃ v1, vs = [v1, v2]) → Rep (progOf P w K mg base G ent tab).T.toTb H1 (Ms Mb r1 ow) r1 v2 d2 → ∃ v y, vs = [v, y] ∧ ∀ dx, H1 dx = none → Q (.ref (He.ga K i.n)) (some dx) (upd H1 dx (.xd [(fnm (iniField i.k), y)])) := by
    intro f d2 v2 hfs hf0 ⟨v1, hv⟩ rd
    subst hf0
    rw [hfs] at q
    refine ⟨v1, v2, hv, fun dx hdx => ?_⟩
    have n2 : Nx r1 H1 r1 (upd H1 dx (.xd [(fnm (iniField i.k), v2)])) := Nx.new hdx
    refine q r1 _ _ _ n2 (s1.new hdx) ⟨⟨?_, List.any_eq_true.mpr ⟨(i.n, k), hm, by simp⟩⟩, .inr ⟨dx, _, rfl, upd_same, s1.free hdx, .cons ?_ (rd.mono n2.grow) .nil⟩⟩
    · show Value.ref (He.ga K i.n) = Value.ref (He.ga K (excName k))
      rw [t4, ek]
    · unfold iniField
      split <;> decide
  rw [hl] at hlen
  match ds, vs, hlen, hvs with
  | [d1, d2], _, _, .cons h1 (.cons h2 .nil) =>
    cases hfs : excFields k [d1, d2] with
    | none => rw [hfs] at q; exact q.elim
    | some fs =>
      rcases t5 with t5 | t5
      · have hk1 : k = 1 := ek.symm.trans t5
        subst hk1
        cases d1 <;> first | (cases hfs; done) | skip
        exact cls 0 d2 _ rfl (by rw [t5]; rfl) ⟨_, rfl⟩ h2
      · have hk1 : k = 2 := ek.symm.trans t5
        subst hk1
        cases d1 <;> first | (cases hfs; done) | skip
        exact cls 1 d2 _ rfl (by rw [t5]; rfl) ⟨_, rfl⟩ h2
theorem ni_ok (X₀ : K.In h) (Nh : h.Ns mainGlobals mg) (hf : ∀ i ∈ ini, ∃ fd, FunD K "__init__" (Ini.dd.iniQual i.n) (defArgs i.st) (defBody i.st) (defScope i.st) [i.dv.v K] [] (He.fAd K i.at_) fd) (ex : (ini.all (iniB K)) = true) (it : (ini.all iniT) = true) (ig : iniG G ini = true)
    (xc : ∀ n k, G.xc.lookup n = some k → n = excName k) (ai : AllI ini) (xi : G.xv = true → G.hf.isEmpty = false ∧ AllI2 ini) : NiOk (progOf P w K mg base G ent tab) := by
  intro hv
  obtain ⟨hne, ai2⟩ := xi hv
  refine ⟨hne, fun n k hx h0 hk A ⟨rn, hr⟩ => ?_⟩
  have hm := look_mem hx
  unfold iniG at ig
  rw [List.all_eq_true] at ig ex it
  have q1 := ig (n, k) hm
  simp only [Bool.or_eq_true, decide_eq_true_eq] at q1
  have q2 : (ini.any fun i => decide (i.k = k)) = true := by
    rcases q1 with q1 | q1 | q1
    · omega
    · omega
    · exact q1
  obtain ⟨i, hi, ek⟩ := List.any_eq_true.mp q2
  rw [decide_eq_true_eq] at ek
  have b := ex i hi
  have t := it i hi
  unfold iniB at b
  unfold iniT at t
  simp only [Bool.and_eq_true, Bool.or_eq_true, decide_eq_true_eq] at b t
  obtain ⟨⟨⟨b1, b2⟩, b3, b4⟩, ⟨b5, b6⟩, b7⟩ := b
  obtain ⟨⟨t1, t2⟩, t3, t4, t5⟩ := t
  have en : n = i.n := by rw [xc n k hx, t4, ek]
  have en2 : excName k = i.n := by rw [t4, ek]
  obtain ⟨fd, F⟩ := hf i hi
  have F2 := F
  have F3 := F
  obtain ⟨ds, hv, hb⟩ := F2.binds1 (ps := i.N) 3 1 (by simp) (by rw [t3]; rfl) fun T kV doc pm an cdv ct us its h1 h2 => ai.mem i hi T _ _ _ _ kV doc pm an cdv ct us its h1 h2
  have eds : ds = [] := by
    cases hv
    rfl
  subst eds
  obtain ⟨ds, hv, hb2⟩ := F3.binds1 (ps := i.N) 2 0 (by simp) (by rw [t3]; rfl) fun T kV doc pm an cdv ct us its h1 h2 => (ai2.mem i hi).1 T _ _ _ _ kV doc pm an cdv ct us its h1 h2
  cases hv with
  | @cons _ u _ us ru rn =>
  cases rn
  obtain ⟨oc, od, dV, kV, doc, pm, an, cdv, ct, osl, f1, f2, f3, _⟩ := F.ex
  subst f1
  have hmS : mg "SpeakError" = some (.ref (He.ga K "SpeakError")) := PySem.W.mg_of X₀ Nh b2
  have Fn := init_fnT (P := P) (w := w) (base := base) (k := 0) (mg := mg) f2 f3 (scope_ok t1) t2 hmS (spe_ok b4) (oex_ok b3) b7
  have ef : fnm (iniField i.k) = fnm (k - 1) := by
    rw [ek]
    rcases (by omega : k = 1 ∨ k = 2) with rfl | rfl <;> rfl
  rw [ef] at Fn
  show NxI (txOf G K) P w K mg base A (He.ga K (excName k)) k
  rw [en2]
  exact ⟨oex_ok b3, _, _, i.N, 1, u, i.dv.v K, b5, b6, Fn, hr.mono (show 1 + 1 ≤ rn + 2 by omega), hb, hb2, ru, fun H M r => by rw [(ai2.mem i hi).2 K, ek]; exact vdX_rep k _ H M r⟩
end
section
variable {G : Gt} {ent : List Ent} {tab : List (Nat × Def)} {ini : List Ini}
abbrev fnsOf (ent : List Ent) (ini : List Ini) : List He.DefD := ent.map Ent.dd ++ ini.map Ini.dd
/-- those not yet met, by a mask -/
def newAd : Nat → List Addr → List Addr × Nat
  | m, [] => ([], m)
  | m, a :: r => match Nat.beq (Nat.land m (Nat.shiftLeft 1 a)) 0 with
    | true => match newAd (Nat.lor m (Nat.shiftLeft 1 a)) r with
      | (l, m2) => (a :: l, m2)
    | false => newAd m r
def refsV (g : Addr → Option Obj) (a : Addr) : List Addr := match Nat.beq a builtinsNs with
  | true => []
  | false => match g a with
    | some o => He.refsD o
    | none => []
def growV (g : Addr → Option Obj) : Nat → List Addr → Nat → List Addr
  | 0, fr, _ => fr
  | n + 1, fr, m => match newAd m (fr.flatMap (refsV g)) with
    | (nw, m2) => fr ++ growV g n nw m2
/-- what is looked at: what the top's names reach, and the statics -/
def asV (g : Addr → Option Obj) : List Addr := growV g 5 [mainGlobals, cStatics] (Nat.lor (Nat.shiftLeft 1 mainGlobals) (Nat.shiftLeft 1 cStatics))
def obsV (G : Gt) (ent : List Ent) (ini : List Ini) (g : Addr → Option Obj) : He.AlD × Bool := (He.obsD (faOf G) (fnsOf ent ini) (He.frG g (asV g)), exB2 G ini (He.frG g (asV g)))
def hookOf (G : Gt) (ent : List Ent) (ini : List Ini) : PySem.W.Hook where
  α := He.AlD × Bool
  obs := fun s => obsV G ent ini s.heap.get?
  val := fun _ => (He.valD (fnsOf ent ini), true)
  says := fun _ h => ∃ K : PySem.W.Frag, K.In h ∧ He.SaysD (faOf G) (fnsOf ent ini) K ∧ exB2 G ini K = true
  of := fun _ _ e => ⟨_, He.frG_in, congrArg (fun z : He.AlD × Bool => z.1) e, congrArg (fun z : He.AlD × Bool => z.2) e⟩
  keeps := fun _ _ _ ⟨K, hK, c⟩ k => ⟨K, PySem.W.Frag.In.keeps hK k, c⟩
theorem obsV_eq {g : Addr → Option Obj} {s : Shared} (h : ∀ a, g a = s.heap.get? a) : obsV G ent ini g = (hookOf G ent ini).obs s := by
  have e : g = s.heap.get? := funext h
  rw [e] <;> rfl
/-- the law's end: the interpreter's answer is the law's -/
theorem walk_law {l : PySem.W.OpenLaw} {q : Program} {loose : List Str} {XP : (Str → Option Value) → Heap → Prop} {d : DefRec} {L : Nat} {e : Ent} {x : Str} (hn : l.most = some 63) (hdf : d.params.defaults = []) (hr : Room 231 callerA) (hname : d.name = ("law" : Str)) (hG : G.fn.lookup ("law" : Str) = some L)
    (hent : entOf ent L = some e) (hps : e.ps = [x]) (eb : (ent.all (entB G (defsOf tab))) = true) (gb : gtB G ent tab = true) (pb : AllP ent) (it : (ini.all iniT) = true) (ig : iniG G ini = true) (ai : AllI ini)
    (hrun : ∀ ns : List Int, ns.length ≤ 63 → ∃ st, run (defsOf tab) 688 L [.scr ns] [] = .ok (.bl true) st) (xi : G.xv = true → G.hf.isEmpty = false ∧ AllI2 ini := by intro h; exact absurd h (by decide)) : PySem.W.WalkO q loose XP (hookOf G ent ini).says l.row.toRowW d [] (fun f vs => PySem.call f vs) := by
  refine walk_ofE (l := l) (n := 63) (k := 231) (x := x) (CX := CX0) hn (by rw [sizeLine_eq]; decide) hdf hr ?_ (fun _ _ _ _ z => z)
  intro w mg fa h Y Gns hmg
  obtain ⟨K, KX, c, ex⟩ := Y
  rw [hname] at hmg
  have cf : ∀ f ∈ faOf G, f.ok K = true := fun f hf => c.facts hf
  have cd : ∀ e ∈ ent, ∃ fd, FunD K e.name e.qual (defArgs e.st) (defBody e.st) (defScope e.st) [] [] (He.fAd K e.at_) fd := fun e he => c.defs (d := e.dd) (List.mem_append_left _ (List.mem_map.mpr ⟨e, he, rfl⟩))
  have ci : ∀ i ∈ ini, ∃ fd, FunD K "__init__" (Ini.dd.iniQual i.n) (defArgs i.st) (defBody i.st) (defScope i.st) [i.dv.v K] [] (He.fAd K i.at_) fd := fun i hi => c.defs (d := i.dd) (List.mem_append_right _ (List.mem_map.mpr ⟨i, hi, rfl⟩))
  unfold exB2 at ex
  rw [Bool.and_eq_true] at ex
  have xc : ∀ n k, G.xc.lookup n = some k → n = excName k := fun n k hx => by
    have g := gb
    unfold gtB at g
    simp only [Bool.and_eq_true, List.all_eq_true, decide_eq_true_eq] at g
    exact g.2.2.2.2 (n, k) (look_mem hx)
  have ok : ∀ base : Heap, (progOf l.prog w K mg base G ent tab).Ok := fun base => prog_ok KX Gns cf cd ex.1 eb gb pb (ri_ok KX Gns ci ex.2 it ig xc ai) (ni_ok KX Gns ci ex.2 it ig xc ai xi)
  obtain ⟨h1, h2⟩ := entOf_is hent
  have fin : ∀ base : Heap, (progOf l.prog w K mg base G ent tab).fa L = fa ∧ (progOf l.prog w K mg base G ent tab).fd L = fdOf K e.at_ ∧ (progOf l.prog w K mg base G ent tab).ps L = [x] := fun base => by
    refine ⟨?_, ?_, ?_⟩
    · have z := ((ok base).fn _ _ hG).1
      have z2 : mg ("law" : Str) = some (.ref ((progOf l.prog w K mg base G ent tab).fa L)) := z
      rw [hmg] at z2
      cases z2
      rfl
    · show (match entOf ent L with | some e => fdOf K e.at_ | none => fdOf K ("", none)) = _
      rw [hent]
    · show (match entOf ent L with | some e => e.ps | none => []) = _
      rw [hent]
      exact hps
  refine ⟨K, fdOf K e.at_, spLaw (txOf G K) (run (defsOf tab) 688 L), KX, fun s u => ?_, fun H a ns hl _ hS => ?_, fun base _ _ => ?_⟩
  · obtain ⟨fd, F⟩ := cd e h1
    have : fdOf K e.at_ = fd := by
      obtain ⟨oc, od, dV, kV, doc, pm, an, cdv, ct, osl, e1, e2, _⟩ := F.ex
      unfold fdOf
      rw [e2]
    rw [this]
    have b := F.bindsA (ps := e.ps) (fun kV doc pm an cdv ct us hl => pb.mem e h1 _ _ _ _ kV doc pm an cdv ct us hl) s [u] (by rw [hps]; rfl)
    rw [hps] at b
    exact b
  · obtain ⟨st, hg⟩ := hrun ns hl
    exact law_sp rfl hg hS
  · have F := fn_all (ok base) 688 688 (Nat.le_refl _) L
    obtain ⟨f1, f2, f3⟩ := fin base
    rw [f1, f2, f3] at F
    exact law_fn F (Nat.le_refl _)
end
end Iv
end
section
set_option Elab.async false
set_option linter.all false
set_option maxRecDepth 100000
/-! evaluation rules of the interpreter, for simp: what goes on is always a name that isn't applied yet -/
namespace Iv
def rIf {α : Type} (t : Bool) (a b : Store → Res α) (st : Store) : Res α := match t with
  | true => a st
  | false => b st
@[simp] theorem rIf_true {α : Type} (a b : Store → Res α) (st : Store) : rIf true a b st = a st := rfl
@[simp] theorem rIf_false {α : Type} (a b : Store → Res α) (st : Store) : rIf false a b st = b st := rfl
def oIf (t : Bool) (a b : Env → Store → Out) (env : Env) (st : Store) : Out := match t with
  | true => a env st
  | false => b env st
@[simp] theorem oIf_true (a b : Env → Store → Out) (env : Env) (st : Store) : oIf true a b env st = a env st := rfl
@[simp] theorem oIf_false (a b : Env → Store → Out) (env : Env) (st : Store) : oIf false a b env st = b env st := rfl
def rBad {α : Type} (_ : Store) : Res α := .bad
@[simp] theorem rBad_eq {α : Type} (st : Store) : (rBad st : Res α) = .bad := rfl
def D.isNon : D → Bool
  | .non => true
  | _ => false
def okD (d : D) (st : Store) : Res D := .ok d st
@[simp] theorem okD_eq (d : D) (st : Store) : okD d st = .ok d st := rfl
def kNeg2 (i : Int) (st : Store) : Res D := .ok (.int (-i)) st
def kNeg (x : D) (st : Store) : Res D := (asInt x st).bind kNeg2
def kIsN (x : D) (st : Store) : Res D := .ok (.bl x.isNon) st
def kNotN (x : D) (st : Store) : Res D := .ok (.bl (!x.isNon)) st
def kBl (t : Bool) (st : Store) : Res D := .ok (.bl t) st
def kT (x : D) (st : Store) : Res D := (isT x st).bind kBl
def kNot2 (t : Bool) (st : Store) : Res D := .ok (.bl (!t)) st
def kNot (x : D) (st : Store) : Res D := (isT x st).bind kNot2
def okTup (ds : List D) (st : Store) : Res D := if ds.length ≤ line then .ok (.tup ds) st else .bad
def okLst (ds : List D) (st : Store) : Res D := if ds.length ≤ line then .ok (.lst ds) st else .bad
def okMake (n : Nat) (r : D) (st : Store) : Res D := match r with
  | .non => .ok (.ref n) st
  | _ => .bad
@[simp] theorem okMake_non (n : Nat) (st : Store) : okMake n .non st = .ok (.ref n) st := rfl
def okNew (d : D) (st : Store) : Res D := match newO d with
  | some o => alloc o st
  | none => .bad
def okDct (ks vs : List D) (st : Store) : Res D := match dictOf ks vs with
    | some kv => if kv.length ≤ 32 then .ok (.dct (mergeKd [] kv)) st else .bad
    | none => .bad
def okRaise (c : Nat) (ds : List D) (env : Env) (st : Store) : Out := match excFields c ds with
    | some fs => .exn ⟨c, fs⟩ env st
    | none => .bad
def kNewX (k : Nat) (ds : List D) (st : Store) : Res D := mkX k ds st
def kIsV (k : Nat) (x : D) (st : Store) : Res D := opIsV x k st
def kFld (f : Nat) (x : D) (st : Store) : Res D := opFld x f st
def kCut11 (x : D) (i j : Int) (st : Store) : Res D := opCut x (some i) (some j) st
def kCut10 (x : D) (i : Int) (st : Store) : Res D := opCut x (some i) none st
def kCut01 (x : D) (j : Int) (st : Store) : Res D := opCut x none (some j) st
def kCons (x : D) (xs : List D) (st : Store) : Res (List D) := .ok (x :: xs) st
section
variable (cs : Calls) (env : Env)
def kBin (op : BOp) (b : E) (x : D) (st : Store) : Res D := (evalE cs b env st).bind (opBin op x)
def kCmp (op : COp) (b : E) (x : D) (st : Store) : Res D := (evalE cs b env st).bind (opCmp op x)
def kChain4 (op' : COp) (c : E) (y : D) (st : Store) : Res D := (evalE cs c env st).bind (opCmp op' y)
def kChain3 (op' : COp) (c : E) (y : D) (t : Bool) (st : Store) : Res D := rIf t (kChain4 cs env op' c y) (okD (.bl false)) st
def kChain2 (op' : COp) (c : E) (y r : D) (st : Store) : Res D := (isT r st).bind (kChain3 cs env op' c y)
def kChain1 (op op' : COp) (c : E) (x y : D) (st : Store) : Res D := (opCmp op x y st).bind (kChain2 cs env op' c y)
def kChain (op op' : COp) (b c : E) (x : D) (st : Store) : Res D := (evalE cs b env st).bind (kChain1 cs env op op' c x)
def kAnd3 (b : E) (st : Store) : Res D := (evalE cs b env st).bind kT
def kAnd2 (b : E) (t : Bool) (st : Store) : Res D := rIf t (kAnd3 cs env b) (okD (.bl false)) st
def kAnd (b : E) (x : D) (st : Store) : Res D := (isT x st).bind (kAnd2 cs env b)
def kOr2 (b : E) (t : Bool) (st : Store) : Res D := rIf t (okD (.bl true)) (kAnd3 cs env b) st
def kOr (b : E) (x : D) (st : Store) : Res D := (isT x st).bind (kOr2 cs env b)
def kIfe2 (a b : E) (t : Bool) (st : Store) : Res D := rIf t (evalE cs a env) (evalE cs b env) st
def kIfe (a b : E) (x : D) (st : Store) : Res D := (isT x st).bind (kIfe2 cs env a b)
def kIdx (i : E) (x : D) (st : Store) : Res D := (evalE cs i env st).bind (opIdx x)
def kS4 (x : D) (i : Int) (y : D) (st : Store) : Res D := (asInt y st).bind (kCut11 x i)
def kS3 (h : E) (x : D) (i : Int) (st : Store) : Res D := (evalE cs h env st).bind (kS4 x i)
def kS2 (h : E) (x y : D) (st : Store) : Res D := (asInt y st).bind (kS3 cs env h x)
def kS11 (l h : E) (x : D) (st : Store) : Res D := (evalE cs l env st).bind (kS2 cs env h x)
def kS10b (x y : D) (st : Store) : Res D := (asInt y st).bind (kCut10 x)
def kS10 (l : E) (x : D) (st : Store) : Res D := (evalE cs l env st).bind (kS10b x)
def kS01b (x y : D) (st : Store) : Res D := (asInt y st).bind (kCut01 x)
def kS01 (l : E) (x : D) (st : Store) : Res D := (evalE cs l env st).bind (kS01b x)
def kMeth3 (f : Nat) (x : D) (ds : List D) (st : Store) : Res D := cs.fn f (x :: ds) st
def kMeth2 (f : Nat) (es : List E) (x : D) (st : Store) : Res D := (evalL cs es env st).bind (kMeth3 cs f x)
def kMeth (c f : Nat) (es : List E) (x : D) (st : Store) : Res D := rIf (isIns x c st) (kMeth2 cs env f es x) rBad st
def kMake (c f : Nat) (ds : List D) (st : Store) : Res D := (cs.mak f (.ref st.length :: ds) (st ++ [.ins c []])).bind (okMake st.length)
def kB2b (k : BK) (b : E) (x : D) (st : Store) : Res D := (evalE cs b env st).bind (opB2 k x)
def kB2 (k : BK) (b : E) (x : D) (st : Store) : Res D := rIf (recvOk k x st) (kB2b cs env k b x) rBad st
def kCons1 (es : List E) (x : D) (st : Store) : Res (List D) := (evalL cs es env st).bind (kCons x)
def kDct (vs : List E) (ks : List D) (st : Store) : Res D := (evalL cs vs env st).bind (okDct ks)
def kG3 (a k : D) (x : D) (st : Store) : Res D := opGet2 a k x st
def kG2 (x : E) (a k : D) (st : Store) : Res D := (evalE cs x env st).bind (kG3 a k)
def kG1 (k x : E) (a : D) (st : Store) : Res D := (evalE cs k env st).bind (kG2 cs env x a)
def kG (k x : E) (a : D) (st : Store) : Res D := rIf (asD a st).isSome (kG1 cs env k x a) rBad st
def kComp (elt : E) (tg : List Nat) (k : IK) (cond : List E) (ds : List D) (st : Store) : Res D := match mkSrc k ds with
    | none => .bad
    | some src => noexn (compL tg (evalC cs cond) (evalE cs elt) (wipeE env tg) src LF 0 st [])
/-- an expression, a name at its head: simp evaluates it only where the store is there -/
@[simp] theorem ev_var (i st) : evalE cs (.var i) env st = Res.opt (getV env i) st := by rw [evalE]
@[simp] theorem ev_own (i st) : evalE cs (.own i) env st = Res.opt (getO env i) st := by rw [evalE]
@[simp] theorem ev_int (n st) : evalE cs (.int n) env st = .ok (.int n) st := by rw [evalE]
@[simp] theorem ev_bl (n st) : evalE cs (.bl n) env st = .ok (.bl n) st := by rw [evalE]
@[simp] theorem ev_non (st) : evalE cs .non env st = .ok .non st := by rw [evalE]
@[simp] theorem ev_str (n st) : evalE cs (.str n) env st = .ok (.str n) st := by rw [evalE]
@[simp] theorem ev_glob (n st) : evalE cs (.glob n) env st = .ok (gval n) st := by rw [evalE]
@[simp] theorem ev_neg (a st) : evalE cs (.neg a) env st = (evalE cs a env st).bind kNeg := by rw [evalE]; rfl
@[simp] theorem ev_bin (op a b st) : evalE cs (.bin op a b) env st = (evalE cs a env st).bind (kBin cs env op b) := by rw [evalE]; rfl
@[simp] theorem ev_cmp (op a b st) : evalE cs (.cmp op a b) env st = (evalE cs a env st).bind (kCmp cs env op b) := by rw [evalE]; rfl
@[simp] theorem ev_chain (op op' a b c st) : evalE cs (.chain op op' a b c) env st = (evalE cs a env st).bind (kChain cs env op op' b c) := by
  rw [evalE]
  congr 1
@[simp] theorem ev_isN (a st) : evalE cs (.isN a) env st = (evalE cs a env st).bind kIsN := by rw [evalE]; rfl
@[simp] theorem ev_notN (a st) : evalE cs (.notN a) env st = (evalE cs a env st).bind kNotN := by
  rw [evalE]; congr 1; funext x st; cases x <;> rfl
@[simp] theorem ev_band (a b st) : evalE cs (.band a b) env st = (evalE cs a env st).bind (kAnd cs env b) := by
  rw [evalE]; congr 1
@[simp] theorem ev_bor (a b st) : evalE cs (.bor a b) env st = (evalE cs a env st).bind (kOr cs env b) := by
  rw [evalE]; congr 1
@[simp] theorem ev_bnot (a st) : evalE cs (.bnot a) env st = (evalE cs a env st).bind kNot := by rw [evalE]; rfl
@[simp] theorem ev_ife (c a b st) : evalE cs (.ife c a b) env st = (evalE cs c env st).bind (kIfe cs env a b) := by
  rw [evalE]; congr 1
@[simp] theorem ev_idx (a i st) : evalE cs (.idx a i) env st = (evalE cs a env st).bind (kIdx cs env i) := by rw [evalE]; rfl
@[simp] theorem ev_slc11 (a l h st) : evalE cs (.slc true true a l h) env st = (evalE cs a env st).bind (kS11 cs env l h) := by
  rw [evalE]; congr 1; funext x st; unfold kS11; simp only [Res.bind_assoc, Res.bind_ok]; congr 1
@[simp] theorem ev_slc10 (a l h st) : evalE cs (.slc true false a l h) env st = (evalE cs a env st).bind (kS10 cs env l) := by
  rw [evalE]; congr 1; funext x st; unfold kS10; simp only [Res.bind_assoc, Res.bind_ok]; congr 1
@[simp] theorem ev_slc01 (a l h st) : evalE cs (.slc false true a l h) env st = (evalE cs a env st).bind (kS01 cs env h) := by
  rw [evalE]; congr 1; funext x st; unfold kS01; simp only [Res.bind_assoc, Res.bind_ok]; congr 1
@[simp] theorem ev_tup (es st) : evalE cs (.tup es) env st = (evalL cs es env st).bind okTup := by rw [evalE]; rfl
@[simp] theorem ev_lst (es st) : evalE cs (.lst es) env st = (evalL cs es env st).bind okLst := by rw [evalE]; rfl
@[simp] theorem ev_dct (ks vs st) : evalE cs (.dct ks vs) env st = (evalL cs ks env st).bind (kDct cs env vs) := by rw [evalE]; rfl
@[simp] theorem ev_call (f es st) : evalE cs (.call f es) env st = (evalL cs es env st).bind (cs.fn f) := by rw [evalE]
@[simp] theorem ev_meth (o c f es st) : evalE cs (.meth o c f es) env st = (evalE cs o env st).bind (kMeth cs env c f es) := by
  rw [evalE]; congr 1; funext x st; unfold kMeth; cases h : isIns x c st <;> simp <;> rfl
@[simp] theorem ev_make (c f es st) : evalE cs (.make c f es) env st = (evalL cs es env st).bind (kMake cs c f) := by rw [evalE]; rfl
@[simp] theorem ev_newX (k es st) : evalE cs (.newX k es) env st = (evalL cs es env st).bind (kNewX k) := by rw [evalE]; rfl
@[simp] theorem ev_isV (a k st) : evalE cs (.isV a k) env st = (evalE cs a env st).bind (kIsV k) := by rw [evalE]; rfl
@[simp] theorem ev_fld (o f st) : evalE cs (.fld o f) env st = (evalE cs o env st).bind (kFld f) := by rw [evalE]; rfl
@[simp] theorem ev_un (k a st) : evalE cs (.un k a) env st = (evalE cs a env st).bind (opUn k) := by rw [evalE]
@[simp] theorem ev_b2 (k a b st) : evalE cs (.b2 k a b) env st = (evalE cs a env st).bind (kB2 cs env k b) := by
  rw [evalE]; congr 1; funext x st; unfold kB2; cases h : recvOk k x st <;> simp <;> rfl
@[simp] theorem ev_get2 (a k x st) : evalE cs (.get2 a k x) env st = (evalE cs a env st).bind (kG cs env k x) := by
  rw [evalE]; congr 1; funext x st; unfold kG; cases h : (asD x st).isSome <;> simp <;> rfl
@[simp] theorem ev_mk (e st) : evalE cs (.mk e) env st = (evalE cs e env st).bind okNew := by rw [evalE]; rfl
@[simp] theorem ev_comp (elt tg k es cond st) : evalE cs (.comp elt tg k es cond) env st = (evalL cs es env st).bind (kComp cs env elt tg k cond) := by rw [evalE]; rfl
@[simp] theorem evl_nil (st) : evalL cs [] env st = .ok [] st := by rw [evalL]
@[simp] theorem evl_cons (e es st) : evalL cs (e :: es) env st = (evalE cs e env st).bind (kCons1 cs env es) := by rw [evalL]; rfl
@[simp] theorem evc_nil (st) : evalC cs [] env st = .ok true st := by rw [evalC]
@[simp] theorem evc_one (e st) : evalC cs [e] env st = (evalE cs e env st).bind isT := by rw [evalC]
end
section
variable (cs : Calls) (env : Env)
def oSet (i : Nat) (d : D) (st : Store) : Out := .nx (env.set i (.val d)) st
def oSetOwn (i : Nat) (d : D) (st : Store) : Out := match newO d with
    | some o => .nx (env.set i (.own o)) st
    | none => .bad
def oSetT (tg : List Nat) (d : D) (st : Store) : Out := match bindT tg d env with
      | some env' => .nx env' st
      | none => .bad
def oSetFF (o f g : Nat) (d : D) (st : Store) : Out := match d with
    | .tup [x, y] => (match getV env o with
      | some ov => (match setFldO ov f x st with
        | some st1 => Out.opt (setFldO ov g y st1) env
        | none => .bad)
      | none => .bad)
    | _ => .bad
def oSetF2 (f : Nat) (d ov : D) (st : Store) : Out := Out.opt (setFldO ov f d st) env
def oSetF (o : E) (f : Nat) (d : D) (st : Store) : Out := (evalE cs o env st).then env (oSetF2 env f d)
def oSetI3 (d ov iv : D) (st : Store) : Out := Out.opt (setIxO ov iv d st) env
def oSetI2 (i : E) (d ov : D) (st : Store) : Out := (evalE cs i env st).then env (oSetI3 env d ov)
def oSetI (o i : E) (d : D) (st : Store) : Out := (evalE cs o env st).then env (oSetI2 cs env i d)
def oExpr (_ : D) (st : Store) : Out := .nx env st
def oApp2 (ov d : D) (st : Store) : Out := Out.opt (appO ov d st) env
def oApp (e : E) (ov : D) (st : Store) : Out := if (asL ov st).isSome then (evalE cs e env st).then env (oApp2 env ov) else .bad
def oClear (ov : D) (st : Store) : Out := Out.opt (clearO ov st) env
def oRt (d : D) (st : Store) : Out := .rt d st
def oIte (a b : List S) (t : Bool) (st : Store) : Out := oIf t (execL cs a) (execL cs b) env st
def oRaise (c : Nat) (ds : List D) (st : Store) : Out := okRaise c ds env st
def oAppOwn (j : Nat) (ds : List D) (d : D) (st : Store) : Out := if ds.length < line then .nx (env.set j (.own (.lst (ds ++ [d])))) st else .bad
def oExtOwn (j : Nat) (ds : List D) (d : D) (st : Store) : Out := match asL d st with
      | some ds' => if ds.length + ds'.length ≤ line then .nx (env.set j (.own (.lst (ds ++ ds')))) st else .bad
      | none => .bad
def oSetIOwn2 (j : Nat) (kv : List (KD × D)) (d kd : D) (st : Store) : Out := match keyOf kd with
      | some kk => if kv.length < line then .nx (env.set j (.own (.dct (putKd kv kk d)))) st else .bad
      | none => .bad
def oSetIOwn (j : Nat) (k : E) (d : D) (st : Store) : Out := match env[j]? with
    | some (.own (.dct kv)) => (evalE cs k env st).then env (oSetIOwn2 env j kv d)
    | _ => .bad
def oFor (tg : List Nat) (k : IK) (b : List S) (ds : List D) (st : Store) : Out := match mkSrc k ds with
    | some src => forL tg src (execL cs b) LF 0 env st
    | none => .bad
def rCond (c : E) (env : Env) (st : Store) : Res Bool := (evalE cs c env st).bind isT
@[simp] theorem ex_set (i e st) : execS cs (.set i e) env st = (evalE cs e env st).then env (oSet env i) := by rw [execS]; rfl
@[simp] theorem ex_setOwn (i e st) : execS cs (.setOwn i e) env st = (evalE cs e env st).then env (oSetOwn env i) := by rw [execS]; rfl
@[simp] theorem ex_setT (i j r e st) : execS cs (.setT (i :: j :: r) e) env st = (evalE cs e env st).then env (oSetT env (i :: j :: r)) := by rw [execS]; rfl
@[simp] theorem ex_setFF (o f g e st) : execS cs (.setFF o f g e) env st = (evalE cs e env st).then env (oSetFF env o f g) := by rw [execS]; rfl
@[simp] theorem ex_setF (o f e st) : execS cs (.setF o f e) env st = (evalE cs e env st).then env (oSetF cs env o f) := by rw [execS]; rfl
@[simp] theorem ex_setI (o i e st) : execS cs (.setI o i e) env st = (evalE cs e env st).then env (oSetI cs env o i) := by rw [execS]; rfl
@[simp] theorem ex_setIOwn (j k e st) : execS cs (.setIOwn j k e) env st = (evalE cs e env st).then env (oSetIOwn cs env j k) := by rw [execS]; rfl
@[simp] theorem ex_expr (e st) : execS cs (.expr e) env st = (evalE cs e env st).then env (oExpr env) := by rw [execS]; rfl
@[simp] theorem ex_app (o e st) : execS cs (.app o e) env st = (evalE cs o env st).then env (oApp cs env e) := by rw [execS]; rfl
def appGo (j : Nat) (e : E) (st : Store) (o : Option Slot) : Out := match o with
  | some (.own (.lst ds)) => (evalE cs e env st).then env (oAppOwn env j ds)
  | _ => .bad
def extGo (j : Nat) (e : E) (st : Store) (o : Option Slot) : Out := match o with
  | some (.own (.lst ds)) => (evalE cs e env st).then env (oExtOwn env j ds)
  | _ => .bad
def frzGo (j : Nat) (st : Store) (o : Option Slot) : Out := match o with
  | some (.own (.lst ds)) => .nx (env.set j (.val (.lst ds))) st
  | some (.own (.dct ds)) => .nx (env.set j (.val (.dct ds))) st
  | _ => .bad
@[simp] theorem ex_appOwn (j : Nat) (e : E) (st : Store) : execS cs (.appOwn j e) env st = appGo cs env j e st env[j]? := by rw [execS]; rfl
@[simp] theorem ex_extOwn (j : Nat) (e : E) (st : Store) : execS cs (.extOwn j e) env st = extGo cs env j e st env[j]? := by rw [execS]; rfl
@[simp] theorem ex_frz (j : Nat) (st : Store) : execS cs (.frz j) env st = frzGo env j st env[j]? := by rw [execS]; rfl
@[simp] theorem appGo_lst (j : Nat) (e : E) (st : Store) (ds : List D) : appGo cs env j e st (some (.own (.lst ds))) = (evalE cs e env st).then env (oAppOwn env j ds) := rfl
@[simp] theorem extGo_lst (j : Nat) (e : E) (st : Store) (ds : List D) : extGo cs env j e st (some (.own (.lst ds))) = (evalE cs e env st).then env (oExtOwn env j ds) := rfl
@[simp] theorem frzGo_lst (j : Nat) (st : Store) (ds : List D) : frzGo env j st (some (.own (.lst ds))) = .nx (env.set j (.val (.lst ds))) st := rfl
@[simp] theorem frzGo_dct (j : Nat) (st : Store) (ds : List (KD × D)) : frzGo env j st (some (.own (.dct ds))) = .nx (env.set j (.val (.dct ds))) st := rfl
@[simp] theorem ex_clear (o st) : execS cs (.clear o) env st = (evalE cs o env st).then env (oClear env) := by rw [execS]; rfl
@[simp] theorem ex_ite (c a b st) : execS cs (.ite c a b) env st = ((evalE cs c env st).bind isT).then env (oIte cs env a b) := by
  rw [execS]; congr 1
@[simp] theorem ex_whl (c b st) : execS cs (.whl c b) env st = whileL (rCond cs c) (execL cs b) LF env st := by rw [execS]; rfl
@[simp] theorem ex_for (tg k es b st) : execS cs (.forS tg k es b) env st = (evalL cs es env st).then env (oFor cs env tg k b) := by rw [execS]; rfl
@[simp] theorem ex_ret (e st) : execS cs (.ret e) env st = (evalE cs e env st).then env oRt := by rw [execS]; rfl
@[simp] theorem ex_retN (st) : execS cs .retN env st = .rt .non st := by rw [execS]
@[simp] theorem ex_brk (st) : execS cs .brk env st = .bk env st := by rw [execS]
@[simp] theorem ex_cnt (st) : execS cs .cnt env st = .ct env st := by rw [execS]
@[simp] theorem ex_pass (st) : execS cs .pass env st = .nx env st := by rw [execS]
@[simp] theorem ex_raise (c es st) : execS cs (.raise c es) env st = (evalL cs es env st).then env (oRaise env c) := by rw [execS]; rfl
@[simp] theorem exl_nil (st) : execL cs [] env st = .nx env st := by rw [execL]
@[simp] theorem exl_cons (s r st) : execL cs (s :: r) env st = (execS cs s env st).andThen (execL cs r) := by rw [execL]
end
@[simp] theorem getV_zero (d : D) (env : Env) : getV (.val d :: env) 0 = some d := rfl
@[simp] theorem getV_succ (s : Slot) (env : Env) (i : Nat) : getV (s :: env) (i + 1) = getV env i := by simp [getV]
@[simp] theorem getO_lst (d : List D) (env : Env) : getO (.own (.lst d) :: env) 0 = some (.lst d) := rfl
@[simp] theorem getO_dct (d : List (KD × D)) (env : Env) : getO (.own (.dct d) :: env) 0 = some (.dct d) := rfl
@[simp] theorem getO_succ (s : Slot) (env : Env) (i : Nat) : getO (s :: env) (i + 1) = getO env i := by simp [getO]
@[simp] theorem res_nx (env : Env) (st : Store) : (Out.nx env st).res = .ok .non st := rfl
@[simp] theorem res_rt (d : D) (st : Store) : (Out.rt d st).res = .ok d st := rfl
@[simp] theorem res_exn (x : Exc) (env : Env) (st : Store) : (Out.exn x env st).res = .exn x st := rfl
@[simp] theorem callsAt_fn (ds : Nat → Option Def) (n : Nat) : (callsAt ds n).fn = run ds n := rfl
@[simp] theorem callsAt_mak (ds : Nat → Option Def) (n : Nat) : (callsAt ds n).mak = runM ds n := rfl
@[simp] theorem kNeg2_eq (i : Int) (st : Store) : kNeg2 i st = .ok (.int (-i)) st := rfl
@[simp] theorem kNeg_eq (x : D) (st : Store) : kNeg x st = (asInt x st).bind kNeg2 := rfl
@[simp] theorem kIsN_eq (x : D) (st : Store) : kIsN x st = .ok (.bl x.isNon) st := rfl
@[simp] theorem kNotN_eq (x : D) (st : Store) : kNotN x st = .ok (.bl (!x.isNon)) st := rfl
@[simp] theorem kBl_eq (t : Bool) (st : Store) : kBl t st = .ok (.bl t) st := rfl
@[simp] theorem kT_eq (x : D) (st : Store) : kT x st = (isT x st).bind kBl := rfl
@[simp] theorem kNot2_eq (t : Bool) (st : Store) : kNot2 t st = .ok (.bl (!t)) st := rfl
@[simp] theorem kNot_eq (x : D) (st : Store) : kNot x st = (isT x st).bind kNot2 := rfl
@[simp] theorem okTup_eq (ds : List D) (st : Store) : okTup ds st = if ds.length ≤ line then .ok (.tup ds) st else .bad := rfl
@[simp] theorem okLst_eq (ds : List D) (st : Store) : okLst ds st = if ds.length ≤ line then .ok (.lst ds) st else .bad := rfl
@[simp] theorem okNew_eq (d : D) (st : Store) : okNew d st = match newO d with | some o => alloc o st | none => .bad := rfl
@[simp] theorem okDct_eq (ks vs : List D) (st : Store) : okDct ks vs st = match dictOf ks vs with
    | some kv => if kv.length ≤ 32 then .ok (.dct (mergeKd [] kv)) st else .bad
    | none => .bad := rfl
@[simp] theorem okRaise_eq (c : Nat) (ds : List D) (env : Env) (st : Store) : okRaise c ds env st = match excFields c ds with
    | some fs => .exn ⟨c, fs⟩ env st
    | none => .bad := rfl
@[simp] theorem kNewX_eq (k : Nat) (ds : List D) (st : Store) : kNewX k ds st = mkX k ds st := rfl
@[simp] theorem kIsV_eq (k : Nat) (x : D) (st : Store) : kIsV k x st = opIsV x k st := rfl
@[simp] theorem kFld_eq (f : Nat) (x : D) (st : Store) : kFld f x st = opFld x f st := rfl
@[simp] theorem kCut11_eq (x : D) (i j : Int) (st : Store) : kCut11 x i j st = opCut x (some i) (some j) st := rfl
@[simp] theorem kCut10_eq (x : D) (i : Int) (st : Store) : kCut10 x i st = opCut x (some i) none st := rfl
@[simp] theorem kCut01_eq (x : D) (j : Int) (st : Store) : kCut01 x j st = opCut x none (some j) st := rfl
@[simp] theorem kCons_eq (x : D) (xs : List D) (st : Store) : kCons x xs st = .ok (x :: xs) st := rfl
@[simp] theorem kBin_eq (cs : Calls) (env : Env) (op : BOp) (b : E) (x : D) (st : Store) : kBin cs env op b x st = (evalE cs b env st).bind (opBin op x) := rfl
@[simp] theorem kCmp_eq (cs : Calls) (env : Env) (op : COp) (b : E) (x : D) (st : Store) : kCmp cs env op b x st = (evalE cs b env st).bind (opCmp op x) := rfl
@[simp] theorem kChain4_eq (cs : Calls) (env : Env) (op' : COp) (c : E) (y : D) (st : Store) : kChain4 cs env op' c y st = (evalE cs c env st).bind (opCmp op' y) := rfl
@[simp] theorem kChain3_eq (cs : Calls) (env : Env) (op' : COp) (c : E) (y : D) (t : Bool) (st : Store) : kChain3 cs env op' c y t st = rIf t (kChain4 cs env op' c y) (okD (.bl false)) st := rfl
@[simp] theorem kChain2_eq (cs : Calls) (env : Env) (op' : COp) (c : E) (y r : D) (st : Store) : kChain2 cs env op' c y r st = (isT r st).bind (kChain3 cs env op' c y) := rfl
@[simp] theorem kChain1_eq (cs : Calls) (env : Env) (op op' : COp) (c : E) (x y : D) (st : Store) : kChain1 cs env op op' c x y st = (opCmp op x y st).bind (kChain2 cs env op' c y) := rfl
@[simp] theorem kChain_eq (cs : Calls) (env : Env) (op op' : COp) (b c : E) (x : D) (st : Store) : kChain cs env op op' b c x st = (evalE cs b env st).bind (kChain1 cs env op op' c x) := rfl
@[simp] theorem kAnd3_eq (cs : Calls) (env : Env) (b : E) (st : Store) : kAnd3 cs env b st = (evalE cs b env st).bind kT := rfl
@[simp] theorem kAnd2_eq (cs : Calls) (env : Env) (b : E) (t : Bool) (st : Store) : kAnd2 cs env b t st = rIf t (kAnd3 cs env b) (okD (.bl false)) st := rfl
@[simp] theorem kAnd_eq (cs : Calls) (env : Env) (b : E) (x : D) (st : Store) : kAnd cs env b x st = (isT x st).bind (kAnd2 cs env b) := rfl
@[simp] theorem kOr2_eq (cs : Calls) (env : Env) (b : E) (t : Bool) (st : Store) : kOr2 cs env b t st = rIf t (okD (.bl true)) (kAnd3 cs env b) st := rfl
@[simp] theorem kOr_eq (cs : Calls) (env : Env) (b : E) (x : D) (st : Store) : kOr cs env b x st = (isT x st).bind (kOr2 cs env b) := rfl
@[simp] theorem kIfe2_eq (cs : Calls) (env : Env) (a b : E) (t : Bool) (st : Store) : kIfe2 cs env a b t st = rIf t (evalE cs a env) (evalE cs b env) st := rfl
@[simp] theorem kIfe_eq (cs : Calls) (env : Env) (a b : E) (x : D) (st : Store) : kIfe cs env a b x st = (isT x st).bind (kIfe2 cs env a b) := rfl
@[simp] theorem kIdx_eq (cs : Calls) (env : Env) (i : E) (x : D) (st : Store) : kIdx cs env i x st = (evalE cs i env st).bind (opIdx x) := rfl
@[simp] theorem kS4_eq (x : D) (i : Int) (y : D) (st : Store) : kS4 x i y st = (asInt y st).bind (kCut11 x i) := rfl
@[simp] theorem kS3_eq (cs : Calls) (env : Env) (h : E) (x : D) (i : Int) (st : Store) : kS3 cs env h x i st = (evalE cs h env st).bind (kS4 x i) := rfl
@[simp] theorem kS2_eq (cs : Calls) (env : Env) (h : E) (x y : D) (st : Store) : kS2 cs env h x y st = (asInt y st).bind (kS3 cs env h x) := rfl
@[simp] theorem kS11_eq (cs : Calls) (env : Env) (l h : E) (x : D) (st : Store) : kS11 cs env l h x st = (evalE cs l env st).bind (kS2 cs env h x) := rfl
@[simp] theorem kS10b_eq (x y : D) (st : Store) : kS10b x y st = (asInt y st).bind (kCut10 x) := rfl
@[simp] theorem kS10_eq (cs : Calls) (env : Env) (l : E) (x : D) (st : Store) : kS10 cs env l x st = (evalE cs l env st).bind (kS10b x) := rfl
@[simp] theorem kS01b_eq (x y : D) (st : Store) : kS01b x y st = (asInt y st).bind (kCut01 x) := rfl
@[simp] theorem kS01_eq (cs : Calls) (env : Env) (l : E) (x : D) (st : Store) : kS01 cs env l x st = (evalE cs l env st).bind (kS01b x) := rfl
@[simp] theorem kMeth3_eq (cs : Calls) (f : Nat) (x : D) (ds : List D) (st : Store) : kMeth3 cs f x ds st = cs.fn f (x :: ds) st := rfl
@[simp] theorem kMeth2_eq (cs : Calls) (env : Env) (f : Nat) (es : List E) (x : D) (st : Store) : kMeth2 cs env f es x st = (evalL cs es env st).bind (kMeth3 cs f x) := rfl
@[simp] theorem kMeth_eq (cs : Calls) (env : Env) (c f : Nat) (es : List E) (x : D) (st : Store) : kMeth cs env c f es x st = rIf (isIns x c st) (kMeth2 cs env f es x) rBad st := rfl
@[simp] theorem kMake_eq (cs : Calls) (c f : Nat) (ds : List D) (st : Store) : kMake cs c f ds st = (cs.mak f (.ref st.length :: ds) (st ++ [.ins c []])).bind (okMake st.length) := rfl
@[simp] theorem kB2b_eq (cs : Calls) (env : Env) (k : BK) (b : E) (x : D) (st : Store) : kB2b cs env k b x st = (evalE cs b env st).bind (opB2 k x) := rfl
@[simp] theorem kB2_eq (cs : Calls) (env : Env) (k : BK) (b : E) (x : D) (st : Store) : kB2 cs env k b x st = rIf (recvOk k x st) (kB2b cs env k b x) rBad st := rfl
@[simp] theorem kCons1_eq (cs : Calls) (env : Env) (es : List E) (x : D) (st : Store) : kCons1 cs env es x st = (evalL cs es env st).bind (kCons x) := rfl
@[simp] theorem kDct_eq (cs : Calls) (env : Env) (vs : List E) (ks : List D) (st : Store) : kDct cs env vs ks st = (evalL cs vs env st).bind (okDct ks) := rfl
@[simp] theorem kG3_eq (a k : D) (x : D) (st : Store) : kG3 a k x st = opGet2 a k x st := rfl
@[simp] theorem kG2_eq (cs : Calls) (env : Env) (x : E) (a k : D) (st : Store) : kG2 cs env x a k st = (evalE cs x env st).bind (kG3 a k) := rfl
@[simp] theorem kG1_eq (cs : Calls) (env : Env) (k x : E) (a : D) (st : Store) : kG1 cs env k x a st = (evalE cs k env st).bind (kG2 cs env x a) := rfl
@[simp] theorem kG_eq (cs : Calls) (env : Env) (k x : E) (a : D) (st : Store) : kG cs env k x a st = rIf (asD a st).isSome (kG1 cs env k x a) rBad st := rfl
theorem kComp_eq (cs : Calls) (env : Env) (elt : E) (tg : List Nat) (k : IK) (cond : List E) (ds : List D) (st : Store) : kComp cs env elt tg k cond ds st = match mkSrc k ds with
    | none => .bad
    | some src => noexn (compL tg (evalC cs cond) (evalE cs elt) (wipeE env tg) src LF 0 st []) := rfl
@[simp] theorem oSet_eq (env : Env) (i : Nat) (d : D) (st : Store) : oSet env i d st = .nx (env.set i (.val d)) st := rfl
@[simp] theorem oSetOwn_eq (env : Env) (i : Nat) (d : D) (st : Store) : oSetOwn env i d st = match newO d with
    | some o => .nx (env.set i (.own o)) st
    | none => .bad := rfl
@[simp] theorem oSetT_eq (env : Env) (tg : List Nat) (d : D) (st : Store) : oSetT env tg d st = match bindT tg d env with
      | some env' => .nx env' st
      | none => .bad := rfl
@[simp] theorem oSetFF_eq (env : Env) (o f g : Nat) (d : D) (st : Store) : oSetFF env o f g d st = match d with
    | .tup [x, y] => (match getV env o with
      | some ov => (match setFldO ov f x st with
        | some st1 => Out.opt (setFldO ov g y st1) env
        | none => .bad)
      | none => .bad)
    | _ => .bad := rfl
@[simp] theorem oSetF2_eq (env : Env) (f : Nat) (d ov : D) (st : Store) : oSetF2 env f d ov st = Out.opt (setFldO ov f d st) env := rfl
@[simp] theorem oSetF_eq (cs : Calls) (env : Env) (o : E) (f : Nat) (d : D) (st : Store) : oSetF cs env o f d st = (evalE cs o env st).then env (oSetF2 env f d) := rfl
@[simp] theorem oSetI3_eq (env : Env) (d ov iv : D) (st : Store) : oSetI3 env d ov iv st = Out.opt (setIxO ov iv d st) env := rfl
@[simp] theorem oSetI2_eq (cs : Calls) (env : Env) (i : E) (d ov : D) (st : Store) : oSetI2 cs env i d ov st = (evalE cs i env st).then env (oSetI3 env d ov) := rfl
@[simp] theorem oSetI_eq (cs : Calls) (env : Env) (o i : E) (d : D) (st : Store) : oSetI cs env o i d st = (evalE cs o env st).then env (oSetI2 cs env i d) := rfl
@[simp] theorem oExpr_eq (env : Env) (z0 : D) (st : Store) : oExpr env z0 st = .nx env st := rfl
@[simp] theorem oApp2_eq (env : Env) (ov d : D) (st : Store) : oApp2 env ov d st = Out.opt (appO ov d st) env := rfl
@[simp] theorem oApp_eq (cs : Calls) (env : Env) (e : E) (ov : D) (st : Store) : oApp cs env e ov st = if (asL ov st).isSome then (evalE cs e env st).then env (oApp2 env ov) else .bad := rfl
@[simp] theorem oClear_eq (env : Env) (ov : D) (st : Store) : oClear env ov st = Out.opt (clearO ov st) env := rfl
@[simp] theorem oRt_eq (d : D) (st : Store) : oRt d st = .rt d st := rfl
@[simp] theorem oIte_eq (cs : Calls) (env : Env) (a b : List S) (t : Bool) (st : Store) : oIte cs env a b t st = oIf t (execL cs a) (execL cs b) env st := rfl
@[simp] theorem oRaise_eq (env : Env) (c : Nat) (ds : List D) (st : Store) : oRaise env c ds st = okRaise c ds env st := rfl
@[simp] theorem oAppOwn_eq (env : Env) (j : Nat) (ds : List D) (d : D) (st : Store) : oAppOwn env j ds d st = if ds.length < line then .nx (env.set j (.own (.lst (ds ++ [d])))) st else .bad := rfl
@[simp] theorem oExtOwn_eq (env : Env) (j : Nat) (ds : List D) (d : D) (st : Store) : oExtOwn env j ds d st = match asL d st with
      | some ds' => if ds.length + ds'.length ≤ line then .nx (env.set j (.own (.lst (ds ++ ds')))) st else .bad
      | none => .bad := rfl
@[simp] theorem oSetIOwn_eq (cs : Calls) (env : Env) (j : Nat) (k : E) (d : D) (st : Store) : oSetIOwn cs env j k d st = match env[j]? with
    | some (.own (.dct kv)) => (evalE cs k env st).then env (oSetIOwn2 env j kv d)
    | _ => .bad := rfl
theorem oFor_eq (cs : Calls) (env : Env) (tg : List Nat) (k : IK) (b : List S) (ds : List D) (st : Store) : oFor cs env tg k b ds st = match mkSrc k ds with
    | some src => forL tg src (execL cs b) LF 0 env st
    | none => .bad := rfl
@[simp] theorem oSetIOwn2_eq (env : Env) (j : Nat) (kv : List (KD × D)) (d kd : D) (st : Store) : oSetIOwn2 env j kv d kd st = match keyOf kd with
      | some kk => if kv.length < line then .nx (env.set j (.own (.dct (putKd kv kk d)))) st else .bad
      | none => .bad := rfl
/-- a call of a def -/
theorem run_def {ds : Nat → Option Def} {f : Nat} {d : Def} (h : ds f = some d) (n : Nat) (as : List D) (st : Store) (hh : d.hot = false) (hl : as.length = d.np) :
    run ds (n + 1) f as st = (execL (callsAt ds n) d.body (startE d.nn (as.map .val)) st).res := by
  rw [run_succ, h]
  simp only [hh, hl, Bool.not_false, beq_self_eq_true, Bool.and_self, if_true]
end Iv
end
section
namespace Iv
/-! ### the texts of the defs, printed by gen.py and mkdefs.py from the program and the laws -/
@[reducible] def wd_a : List Nat := [97]
@[reducible] def wd_abcdefgh : List Nat := [97, 98, 99, 100, 101, 102, 103, 104]
@[reducible] def wd_abcdefghi : List Nat := [97, 98, 99, 100, 101, 102, 103, 104, 105]
@[reducible] def wd_and : List Nat := [97, 110, 100]
@[reducible] def wd_at : List Nat := [97, 116]
@[reducible] def wd_b : List Nat := [98]
@[reducible] def wd_back : List Nat := [98, 97, 99, 107]
@[reducible] def wd_begin : List Nat := [98, 101, 103, 105, 110]
@[reducible] def wd_bind : List Nat := [98, 105, 110, 100]
@[reducible] def wd_bool : List Nat := [98, 111, 111, 108]
@[reducible] def wd_branch : List Nat := [98, 114, 97, 110, 99, 104]
@[reducible] def wd_call : List Nat := [99, 97, 108, 108]
@[reducible] def wd_cell : List Nat := [99, 101, 108, 108]
@[reducible] def wd_cons : List Nat := [99, 111, 110, 115]
@[reducible] def wd_done : List Nat := [100, 111, 110, 101]
@[reducible] def wd_empty : List Nat := [101, 109, 112, 116, 121]
@[reducible] def wd_f : List Nat := [102]
@[reducible] def wd_false : List Nat := [102, 97, 108, 115, 101]
@[reducible] def wd_first : List Nat := [102, 105, 114, 115, 116]
@[reducible] def wd_fn : List Nat := [102, 110]
@[reducible] def wd_fun : List Nat := [102, 117, 110]
@[reducible] def wd_g : List Nat := [103]
@[reducible] def wd_go : List Nat := [103, 111]
@[reducible] def wd_head : List Nat := [104, 101, 97, 100]
@[reducible] def wd_if : List Nat := [105, 102]
@[reducible] def wd_int : List Nat := [105, 110, 116]
@[reducible] def wd_jump : List Nat := [106, 117, 109, 112]
@[reducible] def wd_k : List Nat := [107]
@[reducible] def wd_kind : List Nat := [107, 105, 110, 100]
@[reducible] def wd_last : List Nat := [108, 97, 115, 116]
@[reducible] def wd_leap : List Nat := [108, 101, 97, 112]
@[reducible] def wd_less : List Nat := [108, 101, 115, 115]
@[reducible] def wd_let : List Nat := [108, 101, 116]
@[reducible] def wd_list : List Nat := [108, 105, 115, 116]
@[reducible] def wd_load : List Nat := [108, 111, 97, 100]
@[reducible] def wd_m : List Nat := [109]
@[reducible] def wd_made : List Nat := [109, 97, 100, 101]
@[reducible] def wd_make : List Nat := [109, 97, 107, 101]
@[reducible] def wd_minus : List Nat := [109, 105, 110, 117, 115]
@[reducible] def wd_most : List Nat := [109, 111, 115, 116]
@[reducible] def wd_move : List Nat := [109, 111, 118, 101]
@[reducible] def wd_n : List Nat := [110]
@[reducible] def wd_name : List Nat := [110, 97, 109, 101]
@[reducible] def wd_nil : List Nat := [110, 105, 108]
@[reducible] def wd_nkp : List Nat := [110, 107, 112]
@[reducible] def wd_nnkkp : List Nat := [110, 110, 107, 107, 112]
@[reducible] def wd_noname : List Nat := [110, 111, 110, 97, 109, 101]
@[reducible] def wd_none : List Nat := [110, 111, 110, 101]
@[reducible] def wd_not : List Nat := [110, 111, 116]
@[reducible] def wd_nowhere : List Nat := [110, 111, 119, 104, 101, 114, 101]
@[reducible] def wd_npp : List Nat := [110, 112, 112]
@[reducible] def wd_num : List Nat := [110, 117, 109]
@[reducible] def wd_ok : List Nat := [111, 107]
@[reducible] def wd_or : List Nat := [111, 114]
@[reducible] def wd_other : List Nat := [111, 116, 104, 101, 114]
@[reducible] def wd_other1 : List Nat := [111, 116, 104, 101, 114, 49]
@[reducible] def wd_over : List Nat := [111, 118, 101, 114]
@[reducible] def wd_p : List Nat := [112]
@[reducible] def wd_p1 : List Nat := [112, 49]
@[reducible] def wd_pair : List Nat := [112, 97, 105, 114]
@[reducible] def wd_parts : List Nat := [112, 97, 114, 116, 115]
@[reducible] def wd_plus : List Nat := [112, 108, 117, 115]
@[reducible] def wd_pp : List Nat := [112, 112]
@[reducible] def wd_ppp : List Nat := [112, 112, 112]
@[reducible] def wd_push : List Nat := [112, 117, 115, 104]
@[reducible] def wd_rec : List Nat := [114, 101, 99]
@[reducible] def wd_rest : List Nat := [114, 101, 115, 116]
@[reducible] def wd_room : List Nat := [114, 111, 111, 109]
@[reducible] def wd_run : List Nat := [114, 117, 110]
@[reducible] def wd_running : List Nat := [114, 117, 110, 110, 105, 110, 103]
@[reducible] def wd_s : List Nat := [115]
@[reducible] def wd_same : List Nat := [115, 97, 109, 101]
@[reducible] def wd_second : List Nat := [115, 101, 99, 111, 110, 100]
@[reducible] def wd_show : List Nat := [115, 104, 111, 119]
@[reducible] def wd_stop : List Nat := [115, 116, 111, 112]
@[reducible] def wd_tail : List Nat := [116, 97, 105, 108]
@[reducible] def wd_times : List Nat := [116, 105, 109, 101, 115]
@[reducible] def wd_tired : List Nat := [116, 105, 114, 101, 100]
@[reducible] def wd_trap : List Nat := [116, 114, 97, 112]
@[reducible] def wd_true : List Nat := [116, 114, 117, 101]
@[reducible] def wd_truth : List Nat := [116, 114, 117, 116, 104]
@[reducible] def wd_u : List Nat := [117]
@[reducible] def wd_unbind : List Nat := [117, 110, 98, 105, 110, 100]
@[reducible] def wd_unfit : List Nat := [117, 110, 102, 105, 116]
@[reducible] def wd_unused1 : List Nat := [117, 110, 117, 115, 101, 100, 49]
@[reducible] def wd_used : List Nat := [117, 115, 101, 100]
@[reducible] def wd_x : List Nat := [120]
@[reducible] def wd_y : List Nat := [121]
@[reducible] def wd_z : List Nat := [122]
/-- is_word -/
def f0_0_0 : List S := .ret (.bor (.cmp .mem (.var 0) (.glob 9)) (.bor (.cmp .mem (.var 0) (.glob 10)) (.bor (.cmp .mem (.var 0) (.glob 11)) (.cmp .mem (.var 0) (.glob 12))))) :: []
@[simp] theorem f0_0_0_e (cs : Calls) (env : Env) (st : Store) : execL cs f0_0_0 env st = (execS cs (.ret (.bor (.cmp .mem (.var 0) (.glob 9)) (.bor (.cmp .mem (.var 0) (.glob 10)) (.bor (.cmp .mem (.var 0) (.glob 11)) (.cmp .mem (.var 0) (.glob 12)))))) env st).andThen (execL cs []) := exl_cons ..
def f0 : Def := ⟨1, 1, f0_0_0, false⟩
/-- is_name -/
def f1_0_0 : List S := .ret (.bl false) :: []
@[simp] theorem f1_0_0_e (cs : Calls) (env : Env) (st : Store) : execL cs f1_0_0 env st = (execS cs (.ret (.bl false)) env st).andThen (execL cs []) := exl_cons ..
def f1_1_1 : List S := .ret (.un .all (.comp (.bor (.cmp .mem (.var 1) (.glob 7)) (.cmp .mem (.var 1) (.glob 8))) [1] .str [.var 0] [])) :: []
@[simp] theorem f1_1_1_e (cs : Calls) (env : Env) (st : Store) : execL cs f1_1_1 env st = (execS cs (.ret (.un .all (.comp (.bor (.cmp .mem (.var 1) (.glob 7)) (.cmp .mem (.var 1) (.glob 8))) [1] .str [.var 0] []))) env st).andThen (execL cs []) := exl_cons ..
def f1_1_0 : List S := .ite (.bor (.bnot (.chain .le .le (.int 1) (.un .len (.var 0)) (.glob 3))) (.bor (.cmp .nmem (.idx (.var 0) (.int 0)) (.glob 7)) (.call 0 [.var 0]))) f1_0_0 [] :: f1_1_1
@[simp] theorem f1_1_0_e (cs : Calls) (env : Env) (st : Store) : execL cs f1_1_0 env st = (execS cs (.ite (.bor (.bnot (.chain .le .le (.int 1) (.un .len (.var 0)) (.glob 3))) (.bor (.cmp .nmem (.idx (.var 0) (.int 0)) (.glob 7)) (.call 0 [.var 0]))) f1_0_0 []) env st).andThen (execL cs f1_1_1) := exl_cons ..
def f1 : Def := ⟨1, 2, f1_1_0, false⟩
/-- number_in -/
def f2_0_0 : List S := .set 1 (.slc true false (.var 0) (.int 1) (.non)) :: []
@[simp] theorem f2_0_0_e (cs : Calls) (env : Env) (st : Store) : execL cs f2_0_0 env st = (execS cs (.set 1 (.slc true false (.var 0) (.int 1) (.non))) env st).andThen (execL cs []) := exl_cons ..
def f2_1_0 : List S := .ret (.non) :: []
@[simp] theorem f2_1_0_e (cs : Calls) (env : Env) (st : Store) : execL cs f2_1_0 env st = (execS cs (.ret (.non)) env st).andThen (execL cs []) := exl_cons ..
def f2_2_0 : List S := .ret (.non) :: []
@[simp] theorem f2_2_0_e (cs : Calls) (env : Env) (st : Store) : execL cs f2_2_0 env st = (execS cs (.ret (.non)) env st).andThen (execL cs []) := exl_cons ..
def f2_3_5 : List S := .ret (.var 2) :: []
@[simp] theorem f2_3_5_e (cs : Calls) (env : Env) (st : Store) : execL cs f2_3_5 env st = (execS cs (.ret (.var 2)) env st).andThen (execL cs []) := exl_cons ..
def f2_3_4 : List S := .ite (.bor (.cmp .lt (.var 2) (.glob 5)) (.cmp .gt (.var 2) (.glob 6))) f2_2_0 [] :: f2_3_5
@[simp] theorem f2_3_4_e (cs : Calls) (env : Env) (st : Store) : execL cs f2_3_4 env st = (execS cs (.ite (.bor (.cmp .lt (.var 2) (.glob 5)) (.cmp .gt (.var 2) (.glob 6))) f2_2_0 []) env st).andThen (execL cs f2_3_5) := exl_cons ..
def f2_3_3 : List S := .set 2 (.un .int (.var 0)) :: f2_3_4
@[simp] theorem f2_3_3_e (cs : Calls) (env : Env) (st : Store) : execL cs f2_3_3 env st = (execS cs (.set 2 (.un .int (.var 0))) env st).andThen (execL cs f2_3_4) := exl_cons ..
def f2_3_2 : List S := .ite (.bor (.bnot (.chain .le .le (.int 1) (.un .len (.var 1)) (.glob 4))) (.bnot (.un .all (.comp (.cmp .mem (.var 3) (.glob 8)) [3] .str [.var 1] [])))) f2_1_0 [] :: f2_3_3
@[simp] theorem f2_3_2_e (cs : Calls) (env : Env) (st : Store) : execL cs f2_3_2 env st = (execS cs (.ite (.bor (.bnot (.chain .le .le (.int 1) (.un .len (.var 1)) (.glob 4))) (.bnot (.un .all (.comp (.cmp .mem (.var 3) (.glob 8)) [3] .str [.var 1] [])))) f2_1_0 []) env st).andThen (execL cs f2_3_3) := exl_cons ..
def f2_3_1 : List S := .ite (.cmp .eq (.slc false true (.var 0) (.non) (.int 1)) (.str [45])) f2_0_0 [] :: f2_3_2
@[simp] theorem f2_3_1_e (cs : Calls) (env : Env) (st : Store) : execL cs f2_3_1 env st = (execS cs (.ite (.cmp .eq (.slc false true (.var 0) (.non) (.int 1)) (.str [45])) f2_0_0 []) env st).andThen (execL cs f2_3_2) := exl_cons ..
def f2_3_0 : List S := .set 1 (.var 0) :: f2_3_1
@[simp] theorem f2_3_0_e (cs : Calls) (env : Env) (st : Store) : execL cs f2_3_0 env st = (execS cs (.set 1 (.var 0)) env st).andThen (execL cs f2_3_1) := exl_cons ..
def f2 : Def := ⟨1, 4, f2_3_0, false⟩
/-- kind_from -/
def f3_0_0 : List S := .raise 1 [.str [110, 111, 32, 107, 105, 110, 100], .var 4] :: []
@[simp] theorem f3_0_0_e (cs : Calls) (env : Env) (st : Store) : execL cs f3_0_0 env st = (execS cs (.raise 1 [.str [110, 111, 32, 107, 105, 110, 100], .var 4]) env st).andThen (execL cs []) := exl_cons ..
def f3_1_2 : List S := .ret (.var 3) :: []
@[simp] theorem f3_1_2_e (cs : Calls) (env : Env) (st : Store) : execL cs f3_1_2 env st = (execS cs (.ret (.var 3)) env st).andThen (execL cs []) := exl_cons ..
def f3_1_1 : List S := .ite (.cmp .nmem (.var 3) (.tup [.str wd_int, .str wd_bool])) f3_0_0 [] :: f3_1_2
@[simp] theorem f3_1_1_e (cs : Calls) (env : Env) (st : Store) : execL cs f3_1_1 env st = (execS cs (.ite (.cmp .nmem (.var 3) (.tup [.str wd_int, .str wd_bool])) f3_0_0 []) env st).andThen (execL cs f3_1_2) := exl_cons ..
def f3_1_0 : List S := .setT [3, 4] (.meth (.var 0) 0 13 []) :: f3_1_1
@[simp] theorem f3_1_0_e (cs : Calls) (env : Env) (st : Store) : execL cs f3_1_0 env st = (execS cs (.setT [3, 4] (.meth (.var 0) 0 13 [])) env st).andThen (execL cs f3_1_1) := exl_cons ..
def f3_2_0 : List S := .raise 1 [.str [110, 111, 32, 107, 105, 110, 100], .var 4] :: []
@[simp] theorem f3_2_0_e (cs : Calls) (env : Env) (st : Store) : execL cs f3_2_0 env st = (execS cs (.raise 1 [.str [110, 111, 32, 107, 105, 110, 100], .var 4]) env st).andThen (execL cs []) := exl_cons ..
def f3_3_0 : List S := .appOwn 2 (.call 3 [.var 0, .bin .sub (.var 1) (.int 1)]) :: []
@[simp] theorem f3_3_0_e (cs : Calls) (env : Env) (st : Store) : execL cs f3_3_0 env st = (execS cs (.appOwn 2 (.call 3 [.var 0, .bin .sub (.var 1) (.int 1)])) env st).andThen (execL cs []) := exl_cons ..
def f3_4_6 : List S := .ret (.un .tuple (.own 2)) :: []
@[simp] theorem f3_4_6_e (cs : Calls) (env : Env) (st : Store) : execL cs f3_4_6 env st = (execS cs (.ret (.un .tuple (.own 2))) env st).andThen (execL cs []) := exl_cons ..
def f3_4_5 : List S := .expr (.meth (.var 0) 0 14 [.str [41]]) :: f3_4_6
@[simp] theorem f3_4_5_e (cs : Calls) (env : Env) (st : Store) : execL cs f3_4_5 env st = (execS cs (.expr (.meth (.var 0) 0 14 [.str [41]])) env st).andThen (execL cs f3_4_6) := exl_cons ..
def f3_4_4 : List S := .ite (.cmp .ne (.var 3) (.str wd_list)) f3_3_0 [] :: f3_4_5
@[simp] theorem f3_4_4_e (cs : Calls) (env : Env) (st : Store) : execL cs f3_4_4 env st = (execS cs (.ite (.cmp .ne (.var 3) (.str wd_list)) f3_3_0 []) env st).andThen (execL cs f3_4_5) := exl_cons ..
def f3_4_3 : List S := .setOwn 2 (.lst [.var 3, .call 3 [.var 0, .bin .sub (.var 1) (.int 1)]]) :: f3_4_4
@[simp] theorem f3_4_3_e (cs : Calls) (env : Env) (st : Store) : execL cs f3_4_3 env st = (execS cs (.setOwn 2 (.lst [.var 3, .call 3 [.var 0, .bin .sub (.var 1) (.int 1)]])) env st).andThen (execL cs f3_4_4) := exl_cons ..
def f3_4_2 : List S := .ite (.bor (.cmp .nmem (.var 3) (.tup [.str wd_list, .str wd_pair, .str wd_fun])) (.cmp .eq (.var 1) (.int 0))) f3_2_0 [] :: f3_4_3
@[simp] theorem f3_4_2_e (cs : Calls) (env : Env) (st : Store) : execL cs f3_4_2 env st = (execS cs (.ite (.bor (.cmp .nmem (.var 3) (.tup [.str wd_list, .str wd_pair, .str wd_fun])) (.cmp .eq (.var 1) (.int 0))) f3_2_0 []) env st).andThen (execL cs f3_4_3) := exl_cons ..
def f3_4_1 : List S := .setT [3, 4] (.meth (.var 0) 0 13 []) :: f3_4_2
@[simp] theorem f3_4_1_e (cs : Calls) (env : Env) (st : Store) : execL cs f3_4_1 env st = (execS cs (.setT [3, 4] (.meth (.var 0) 0 13 [])) env st).andThen (execL cs f3_4_2) := exl_cons ..
def f3_4_0 : List S := .ite (.bnot (.meth (.var 0) 0 15 [])) f3_1_0 [] :: f3_4_1
@[simp] theorem f3_4_0_e (cs : Calls) (env : Env) (st : Store) : execL cs f3_4_0 env st = (execS cs (.ite (.bnot (.meth (.var 0) 0 15 [])) f3_1_0 []) env st).andThen (execL cs f3_4_1) := exl_cons ..
def f3 : Def := ⟨2, 5, f3_4_0, false⟩
/-- leaf_from -/
def f4_0_0 : List S := .ret (.tup [.str wd_truth, .cmp .eq (.var 2) (.str wd_true)]) :: []
@[simp] theorem f4_0_0_e (cs : Calls) (env : Env) (st : Store) : execL cs f4_0_0 env st = (execS cs (.ret (.tup [.str wd_truth, .cmp .eq (.var 2) (.str wd_true)])) env st).andThen (execL cs []) := exl_cons ..
def f4_1_0 : List S := .ret (.tup [.str wd_name, .var 2]) :: []
@[simp] theorem f4_1_0_e (cs : Calls) (env : Env) (st : Store) : execL cs f4_1_0 env st = (execS cs (.ret (.tup [.str wd_name, .var 2])) env st).andThen (execL cs []) := exl_cons ..
def f4_2_0 : List S := .raise 1 [.str [110, 111, 32, 112, 97, 114, 116], .var 3] :: []
@[simp] theorem f4_2_0_e (cs : Calls) (env : Env) (st : Store) : execL cs f4_2_0 env st = (execS cs (.raise 1 [.str [110, 111, 32, 112, 97, 114, 116], .var 3]) env st).andThen (execL cs []) := exl_cons ..
def f4_3_5 : List S := .ret (.tup [.str wd_num, .var 1]) :: []
@[simp] theorem f4_3_5_e (cs : Calls) (env : Env) (st : Store) : execL cs f4_3_5 env st = (execS cs (.ret (.tup [.str wd_num, .var 1])) env st).andThen (execL cs []) := exl_cons ..
def f4_3_4 : List S := .ite (.isN (.var 1)) f4_2_0 [] :: f4_3_5
@[simp] theorem f4_3_4_e (cs : Calls) (env : Env) (st : Store) : execL cs f4_3_4 env st = (execS cs (.ite (.isN (.var 1)) f4_2_0 []) env st).andThen (execL cs f4_3_5) := exl_cons ..
def f4_3_3 : List S := .set 1 (.call 2 [.var 2]) :: f4_3_4
@[simp] theorem f4_3_3_e (cs : Calls) (env : Env) (st : Store) : execL cs f4_3_3 env st = (execS cs (.set 1 (.call 2 [.var 2])) env st).andThen (execL cs f4_3_4) := exl_cons ..
def f4_3_2 : List S := .ite (.call 1 [.var 2]) f4_1_0 [] :: f4_3_3
@[simp] theorem f4_3_2_e (cs : Calls) (env : Env) (st : Store) : execL cs f4_3_2 env st = (execS cs (.ite (.call 1 [.var 2]) f4_1_0 []) env st).andThen (execL cs f4_3_3) := exl_cons ..
def f4_3_1 : List S := .ite (.bor (.cmp .eq (.var 2) (.str wd_true)) (.cmp .eq (.var 2) (.str wd_false))) f4_0_0 [] :: f4_3_2
@[simp] theorem f4_3_1_e (cs : Calls) (env : Env) (st : Store) : execL cs f4_3_1 env st = (execS cs (.ite (.bor (.cmp .eq (.var 2) (.str wd_true)) (.cmp .eq (.var 2) (.str wd_false))) f4_0_0 []) env st).andThen (execL cs f4_3_2) := exl_cons ..
def f4_3_0 : List S := .setT [2, 3] (.meth (.var 0) 0 13 []) :: f4_3_1
@[simp] theorem f4_3_0_e (cs : Calls) (env : Env) (st : Store) : execL cs f4_3_0 env st = (execS cs (.setT [2, 3] (.meth (.var 0) 0 13 [])) env st).andThen (execL cs f4_3_1) := exl_cons ..
def f4 : Def := ⟨1, 4, f4_3_0, false⟩
/-- part_from -/
def f5_0_0 : List S := .ret (.call 4 [.var 0]) :: []
@[simp] theorem f5_0_0_e (cs : Calls) (env : Env) (st : Store) : execL cs f5_0_0 env st = (execS cs (.ret (.call 4 [.var 0])) env st).andThen (execL cs []) := exl_cons ..
def f5_1_0 : List S := .raise 1 [.str [116, 111, 111, 32, 100, 101, 101, 112], .var 3] :: []
@[simp] theorem f5_1_0_e (cs : Calls) (env : Env) (st : Store) : execL cs f5_1_0 env st = (execS cs (.raise 1 [.str [116, 111, 111, 32, 100, 101, 101, 112], .var 3]) env st).andThen (execL cs []) := exl_cons ..
def f5_2_0 : List S := .set 4 (.tup [.str wd_nil, .call 3 [.var 0, .glob 2]]) :: []
@[simp] theorem f5_2_0_e (cs : Calls) (env : Env) (st : Store) : execL cs f5_2_0 env st = (execS cs (.set 4 (.tup [.str wd_nil, .call 3 [.var 0, .glob 2]])) env st).andThen (execL cs []) := exl_cons ..
def f5_3_0 : List S := .set 4 (.tup [.var 2, .call 5 [.var 0, .bin .sub (.var 1) (.int 1)]]) :: []
@[simp] theorem f5_3_0_e (cs : Calls) (env : Env) (st : Store) : execL cs f5_3_0 env st = (execS cs (.set 4 (.tup [.var 2, .call 5 [.var 0, .bin .sub (.var 1) (.int 1)]])) env st).andThen (execL cs []) := exl_cons ..
def f5_4_0 : List S := .set 4 (.tup [.var 2, .call 5 [.var 0, .bin .sub (.var 1) (.int 1)], .call 5 [.var 0, .bin .sub (.var 1) (.int 1)]]) :: []
@[simp] theorem f5_4_0_e (cs : Calls) (env : Env) (st : Store) : execL cs f5_4_0 env st = (execS cs (.set 4 (.tup [.var 2, .call 5 [.var 0, .bin .sub (.var 1) (.int 1)], .call 5 [.var 0, .bin .sub (.var 1) (.int 1)]])) env st).andThen (execL cs []) := exl_cons ..
def f5_5_0 : List S := .set 4 (.tup [.var 2, .call 5 [.var 0, .bin .sub (.var 1) (.int 1)], .call 5 [.var 0, .bin .sub (.var 1) (.int 1)], .call 5 [.var 0, .bin .sub (.var 1) (.int 1)]]) :: []
@[simp] theorem f5_5_0_e (cs : Calls) (env : Env) (st : Store) : execL cs f5_5_0 env st = (execS cs (.set 4 (.tup [.var 2, .call 5 [.var 0, .bin .sub (.var 1) (.int 1)], .call 5 [.var 0, .bin .sub (.var 1) (.int 1)], .call 5 [.var 0, .bin .sub (.var 1) (.int 1)]])) env st).andThen (execL cs []) := exl_cons ..
def f5_6_0 : List S := .set 4 (.tup [.var 2, .meth (.var 0) 0 16 [], .call 5 [.var 0, .bin .sub (.var 1) (.int 1)], .call 5 [.var 0, .bin .sub (.var 1) (.int 1)]]) :: []
@[simp] theorem f5_6_0_e (cs : Calls) (env : Env) (st : Store) : execL cs f5_6_0 env st = (execS cs (.set 4 (.tup [.var 2, .meth (.var 0) 0 16 [], .call 5 [.var 0, .bin .sub (.var 1) (.int 1)], .call 5 [.var 0, .bin .sub (.var 1) (.int 1)]])) env st).andThen (execL cs []) := exl_cons ..
def f5_7_0 : List S := .set 4 (.tup [.var 2, .meth (.var 0) 0 16 [], .call 3 [.var 0, .glob 2], .call 5 [.var 0, .bin .sub (.var 1) (.int 1)]]) :: []
@[simp] theorem f5_7_0_e (cs : Calls) (env : Env) (st : Store) : execL cs f5_7_0 env st = (execS cs (.set 4 (.tup [.var 2, .meth (.var 0) 0 16 [], .call 3 [.var 0, .glob 2], .call 5 [.var 0, .bin .sub (.var 1) (.int 1)]])) env st).andThen (execL cs []) := exl_cons ..
def f5_8_2 : List S := .set 4 (.bin .add (.bin .add (.bin .add (.tup [.var 2]) (.var 5)) (.var 6)) (.tup [.call 5 [.var 0, .bin .sub (.var 1) (.int 1)]])) :: []
@[simp] theorem f5_8_2_e (cs : Calls) (env : Env) (st : Store) : execL cs f5_8_2 env st = (execS cs (.set 4 (.bin .add (.bin .add (.bin .add (.tup [.var 2]) (.var 5)) (.var 6)) (.tup [.call 5 [.var 0, .bin .sub (.var 1) (.int 1)]]))) env st).andThen (execL cs []) := exl_cons ..
def f5_8_1 : List S := .set 6 (.tup [.call 3 [.var 0, .glob 2], .call 3 [.var 0, .glob 2]]) :: f5_8_2
@[simp] theorem f5_8_1_e (cs : Calls) (env : Env) (st : Store) : execL cs f5_8_1 env st = (execS cs (.set 6 (.tup [.call 3 [.var 0, .glob 2], .call 3 [.var 0, .glob 2]])) env st).andThen (execL cs f5_8_2) := exl_cons ..
def f5_8_0 : List S := .set 5 (.tup [.meth (.var 0) 0 16 [], .meth (.var 0) 0 16 []]) :: f5_8_1
@[simp] theorem f5_8_0_e (cs : Calls) (env : Env) (st : Store) : execL cs f5_8_0 env st = (execS cs (.set 5 (.tup [.meth (.var 0) 0 16 [], .meth (.var 0) 0 16 []])) env st).andThen (execL cs f5_8_1) := exl_cons ..
def f5_9_0 : List S := .raise 1 [.str [110, 111, 32, 115, 117, 99, 104, 32, 119, 111, 114, 100], .var 3] :: []
@[simp] theorem f5_9_0_e (cs : Calls) (env : Env) (st : Store) : execL cs f5_9_0 env st = (execS cs (.raise 1 [.str [110, 111, 32, 115, 117, 99, 104, 32, 119, 111, 114, 100], .var 3]) env st).andThen (execL cs []) := exl_cons ..
def f5_10_0 : List S := .ite (.cmp .eq (.var 2) (.str wd_rec)) f5_8_0 f5_9_0 :: []
@[simp] theorem f5_10_0_e (cs : Calls) (env : Env) (st : Store) : execL cs f5_10_0 env st = (execS cs (.ite (.cmp .eq (.var 2) (.str wd_rec)) f5_8_0 f5_9_0) env st).andThen (execL cs []) := exl_cons ..
def f5_11_0 : List S := .ite (.cmp .eq (.var 2) (.str wd_fn)) f5_7_0 f5_10_0 :: []
@[simp] theorem f5_11_0_e (cs : Calls) (env : Env) (st : Store) : execL cs f5_11_0 env st = (execS cs (.ite (.cmp .eq (.var 2) (.str wd_fn)) f5_7_0 f5_10_0) env st).andThen (execL cs []) := exl_cons ..
def f5_12_0 : List S := .ite (.cmp .eq (.var 2) (.str wd_let)) f5_6_0 f5_11_0 :: []
@[simp] theorem f5_12_0_e (cs : Calls) (env : Env) (st : Store) : execL cs f5_12_0 env st = (execS cs (.ite (.cmp .eq (.var 2) (.str wd_let)) f5_6_0 f5_11_0) env st).andThen (execL cs []) := exl_cons ..
def f5_13_0 : List S := .ite (.cmp .eq (.var 2) (.str wd_if)) f5_5_0 f5_12_0 :: []
@[simp] theorem f5_13_0_e (cs : Calls) (env : Env) (st : Store) : execL cs f5_13_0 env st = (execS cs (.ite (.cmp .eq (.var 2) (.str wd_if)) f5_5_0 f5_12_0) env st).andThen (execL cs []) := exl_cons ..
def f5_14_0 : List S := .ite (.cmp .mem (.var 2) (.glob 10)) f5_4_0 f5_13_0 :: []
@[simp] theorem f5_14_0_e (cs : Calls) (env : Env) (st : Store) : execL cs f5_14_0 env st = (execS cs (.ite (.cmp .mem (.var 2) (.glob 10)) f5_4_0 f5_13_0) env st).andThen (execL cs []) := exl_cons ..
def f5_15_0 : List S := .ite (.cmp .mem (.var 2) (.glob 9)) f5_3_0 f5_14_0 :: []
@[simp] theorem f5_15_0_e (cs : Calls) (env : Env) (st : Store) : execL cs f5_15_0 env st = (execS cs (.ite (.cmp .mem (.var 2) (.glob 9)) f5_3_0 f5_14_0) env st).andThen (execL cs []) := exl_cons ..
def f5_16_5 : List S := .ret (.var 4) :: []
@[simp] theorem f5_16_5_e (cs : Calls) (env : Env) (st : Store) : execL cs f5_16_5 env st = (execS cs (.ret (.var 4)) env st).andThen (execL cs []) := exl_cons ..
def f5_16_4 : List S := .expr (.meth (.var 0) 0 14 [.str [41]]) :: f5_16_5
@[simp] theorem f5_16_4_e (cs : Calls) (env : Env) (st : Store) : execL cs f5_16_4 env st = (execS cs (.expr (.meth (.var 0) 0 14 [.str [41]])) env st).andThen (execL cs f5_16_5) := exl_cons ..
def f5_16_3 : List S := .ite (.cmp .eq (.var 2) (.str wd_nil)) f5_2_0 f5_15_0 :: f5_16_4
@[simp] theorem f5_16_3_e (cs : Calls) (env : Env) (st : Store) : execL cs f5_16_3 env st = (execS cs (.ite (.cmp .eq (.var 2) (.str wd_nil)) f5_2_0 f5_15_0) env st).andThen (execL cs f5_16_4) := exl_cons ..
def f5_16_2 : List S := .ite (.cmp .eq (.var 1) (.int 0)) f5_1_0 [] :: f5_16_3
@[simp] theorem f5_16_2_e (cs : Calls) (env : Env) (st : Store) : execL cs f5_16_2 env st = (execS cs (.ite (.cmp .eq (.var 1) (.int 0)) f5_1_0 []) env st).andThen (execL cs f5_16_3) := exl_cons ..
def f5_16_1 : List S := .setT [2, 3] (.meth (.var 0) 0 13 []) :: f5_16_2
@[simp] theorem f5_16_1_e (cs : Calls) (env : Env) (st : Store) : execL cs f5_16_1 env st = (execS cs (.setT [2, 3] (.meth (.var 0) 0 13 [])) env st).andThen (execL cs f5_16_2) := exl_cons ..
def f5_16_0 : List S := .ite (.bnot (.meth (.var 0) 0 15 [])) f5_0_0 [] :: f5_16_1
@[simp] theorem f5_16_0_e (cs : Calls) (env : Env) (st : Store) : execL cs f5_16_0 env st = (execS cs (.ite (.bnot (.meth (.var 0) 0 15 [])) f5_0_0 []) env st).andThen (execL cs f5_16_1) := exl_cons ..
def f5 : Def := ⟨2, 7, f5_16_0, false⟩
/-- read -/
def f6_0_0 : List S := .raise 1 [.str [116, 111, 111, 32, 108, 111, 110, 103], .glob 0] :: []
@[simp] theorem f6_0_0_e (cs : Calls) (env : Env) (st : Store) : execL cs f6_0_0 env st = (execS cs (.raise 1 [.str [116, 111, 111, 32, 108, 111, 110, 103], .glob 0]) env st).andThen (execL cs []) := exl_cons ..
def f6_1_0 : List S := .raise 1 [.str [115, 111, 109, 101, 116, 104, 105, 110, 103, 32, 98, 101, 104, 105, 110, 100], .fld (.var 1) 0] :: []
@[simp] theorem f6_1_0_e (cs : Calls) (env : Env) (st : Store) : execL cs f6_1_0 env st = (execS cs (.raise 1 [.str [115, 111, 109, 101, 116, 104, 105, 110, 103, 32, 98, 101, 104, 105, 110, 100], .fld (.var 1) 0]) env st).andThen (execL cs []) := exl_cons ..
def f6_2_5 : List S := .ret (.var 2) :: []
@[simp] theorem f6_2_5_e (cs : Calls) (env : Env) (st : Store) : execL cs f6_2_5 env st = (execS cs (.ret (.var 2)) env st).andThen (execL cs []) := exl_cons ..
def f6_2_4 : List S := .ite (.cmp .lt (.fld (.var 1) 0) (.un .len (.var 0))) f6_1_0 [] :: f6_2_5
@[simp] theorem f6_2_4_e (cs : Calls) (env : Env) (st : Store) : execL cs f6_2_4 env st = (execS cs (.ite (.cmp .lt (.fld (.var 1) 0) (.un .len (.var 0))) f6_1_0 []) env st).andThen (execL cs f6_2_5) := exl_cons ..
def f6_2_3 : List S := .expr (.meth (.var 1) 0 12 []) :: f6_2_4
@[simp] theorem f6_2_3_e (cs : Calls) (env : Env) (st : Store) : execL cs f6_2_3 env st = (execS cs (.expr (.meth (.var 1) 0 12 [])) env st).andThen (execL cs f6_2_4) := exl_cons ..
def f6_2_2 : List S := .set 2 (.call 5 [.var 1, .glob 1]) :: f6_2_3
@[simp] theorem f6_2_2_e (cs : Calls) (env : Env) (st : Store) : execL cs f6_2_2 env st = (execS cs (.set 2 (.call 5 [.var 1, .glob 1])) env st).andThen (execL cs f6_2_3) := exl_cons ..
def f6_2_1 : List S := .set 1 (.make 0 11 [.var 0]) :: f6_2_2
@[simp] theorem f6_2_1_e (cs : Calls) (env : Env) (st : Store) : execL cs f6_2_1 env st = (execS cs (.set 1 (.make 0 11 [.var 0])) env st).andThen (execL cs f6_2_2) := exl_cons ..
def f6_2_0 : List S := .ite (.cmp .gt (.un .len (.var 0)) (.glob 0)) f6_0_0 [] :: f6_2_1
@[simp] theorem f6_2_0_e (cs : Calls) (env : Env) (st : Store) : execL cs f6_2_0 env st = (execS cs (.ite (.cmp .gt (.un .len (.var 0)) (.glob 0)) f6_0_0 []) env st).andThen (execL cs f6_2_1) := exl_cons ..
def f6 : Def := ⟨1, 3, f6_2_0, false⟩
/-- _law_cell -/
def f7_0_0 : List S := .ret (.bin .mul (.var 1) (.int 7919)) :: []
@[simp] theorem f7_0_0_e (cs : Calls) (env : Env) (st : Store) : execL cs f7_0_0 env st = (execS cs (.ret (.bin .mul (.var 1) (.int 7919))) env st).andThen (execL cs []) := exl_cons ..
def f7_1_1 : List S := .ret (.bin .add (.idx (.var 0) (.bin .mod (.var 1) (.un .len (.var 0)))) (.bin .mul (.bin .fdiv (.var 1) (.un .len (.var 0))) (.int 104729))) :: []
@[simp] theorem f7_1_1_e (cs : Calls) (env : Env) (st : Store) : execL cs f7_1_1 env st = (execS cs (.ret (.bin .add (.idx (.var 0) (.bin .mod (.var 1) (.un .len (.var 0)))) (.bin .mul (.bin .fdiv (.var 1) (.un .len (.var 0))) (.int 104729)))) env st).andThen (execL cs []) := exl_cons ..
def f7_1_0 : List S := .ite (.cmp .eq (.var 0) (.lst [])) f7_0_0 [] :: f7_1_1
@[simp] theorem f7_1_0_e (cs : Calls) (env : Env) (st : Store) : execL cs f7_1_0 env st = (execS cs (.ite (.cmp .eq (.var 0) (.lst [])) f7_0_0 []) env st).andThen (execL cs f7_1_1) := exl_cons ..
def f7 : Def := ⟨2, 2, f7_1_0, false⟩
/-- _law_drawn -/
def f8_0_1 : List S := .ret (.bin .mod (.bin .mul (.var 2) (.var 2)) (.int 340282366920938463463374607431768211297)) :: []
@[simp] theorem f8_0_1_e (cs : Calls) (env : Env) (st : Store) : execL cs f8_0_1 env st = (execS cs (.ret (.bin .mod (.bin .mul (.var 2) (.var 2)) (.int 340282366920938463463374607431768211297))) env st).andThen (execL cs []) := exl_cons ..
def f8_0_0 : List S := .set 2 (.bin .mod (.bin .add (.bin .mul (.var 0) (.int 6364136223846793005)) (.bin .mul (.bin .add (.var 1) (.int 1)) (.int 1442695040888963407))) (.int 340282366920938463463374607431768211507)) :: f8_0_1
@[simp] theorem f8_0_0_e (cs : Calls) (env : Env) (st : Store) : execL cs f8_0_0 env st = (execS cs (.set 2 (.bin .mod (.bin .add (.bin .mul (.var 0) (.int 6364136223846793005)) (.bin .mul (.bin .add (.var 1) (.int 1)) (.int 1442695040888963407))) (.int 340282366920938463463374607431768211507))) env st).andThen (execL cs f8_0_1) := exl_cons ..
def f8 : Def := ⟨2, 3, f8_0_0, false⟩
/-- _law_alone -/
def f9_0_2 : List S := .ret (.band (.cmp .eq (.b2 .count (.var 1) (.bl true)) (.int 1)) (.band (.isExc 0 0) (.isExc 0 9))) :: []
@[simp] theorem f9_0_2_e (cs : Calls) (env : Env) (st : Store) : execL cs f9_0_2 env st = (execS cs (.ret (.band (.cmp .eq (.b2 .count (.var 1) (.bl true)) (.int 1)) (.band (.isExc 0 0) (.isExc 0 9)))) env st).andThen (execL cs []) := exl_cons ..
def f9_0_1 : List S := .set 1 (.bin .add (.var 1) (.lst [.isExc 0 5, .isExc 0 6, .isExc 0 7, .isExc 0 8])) :: f9_0_2
@[simp] theorem f9_0_1_e (cs : Calls) (env : Env) (st : Store) : execL cs f9_0_1 env st = (execS cs (.set 1 (.bin .add (.var 1) (.lst [.isExc 0 5, .isExc 0 6, .isExc 0 7, .isExc 0 8]))) env st).andThen (execL cs f9_0_2) := exl_cons ..
def f9_0_0 : List S := .set 1 (.lst [.isExc 0 1, .isExc 0 2, .isExc 0 3, .isExc 0 4]) :: f9_0_1
@[simp] theorem f9_0_0_e (cs : Calls) (env : Env) (st : Store) : execL cs f9_0_0 env st = (execS cs (.set 1 (.lst [.isExc 0 1, .isExc 0 2, .isExc 0 3, .isExc 0 4])) env st).andThen (execL cs f9_0_1) := exl_cons ..
def f9 : Def := ⟨1, 2, f9_0_0, true⟩
/-- _law_place -/
def f10_0_0 : List S := .expr (.call 6 [.var 0]) :: []
@[simp] theorem f10_0_0_e (cs : Calls) (env : Env) (st : Store) : execL cs f10_0_0 env st = (execS cs (.expr (.call 6 [.var 0])) env st).andThen (execL cs []) := exl_cons ..
def f10_1_0 : List S := .ret (.idx (.lst [.neg (.int 1), .excFld 1 0]) (.un .int (.hcall 9 1))) :: []
@[simp] theorem f10_1_0_e (cs : Calls) (env : Env) (st : Store) : execL cs f10_1_0 env st = (execS cs (.ret (.idx (.lst [.neg (.int 1), .excFld 1 0]) (.un .int (.hcall 9 1)))) env st).andThen (execL cs []) := exl_cons ..
def f10_2_1 : List S := .ret (.neg (.int 1)) :: []
@[simp] theorem f10_2_1_e (cs : Calls) (env : Env) (st : Store) : execL cs f10_2_1 env st = (execS cs (.ret (.neg (.int 1))) env st).andThen (execL cs []) := exl_cons ..
def f10_2_0 : List S := .tryS f10_0_0 [1] [some 1] [f10_1_0] :: f10_2_1
@[simp] theorem f10_2_0_e (cs : Calls) (env : Env) (st : Store) : execL cs f10_2_0 env st = (execS cs (.tryS f10_0_0 [1] [some 1] [f10_1_0]) env st).andThen (execL cs f10_2_1) := exl_cons ..
def f10 : Def := ⟨1, 2, f10_2_0, false⟩
/-- Reader.__init__ -/
def f11_0_1 : List S := .setF (.var 0) 0 (.int 0) :: []
@[simp] theorem f11_0_1_e (cs : Calls) (env : Env) (st : Store) : execL cs f11_0_1 env st = (execS cs (.setF (.var 0) 0 (.int 0)) env st).andThen (execL cs []) := exl_cons ..
def f11_0_0 : List S := .setF (.var 0) 2 (.var 1) :: f11_0_1
@[simp] theorem f11_0_0_e (cs : Calls) (env : Env) (st : Store) : execL cs f11_0_0 env st = (execS cs (.setF (.var 0) 2 (.var 1)) env st).andThen (execL cs f11_0_1) := exl_cons ..
def f11 : Def := ⟨2, 2, f11_0_0, false⟩
/-- Reader.skip -/
def f12_0_0 : List S := .setF (.var 0) 0 (.bin .add (.fld (.var 0) 0) (.int 1)) :: []
@[simp] theorem f12_0_0_e (cs : Calls) (env : Env) (st : Store) : execL cs f12_0_0 env st = (execS cs (.setF (.var 0) 0 (.bin .add (.fld (.var 0) 0) (.int 1))) env st).andThen (execL cs []) := exl_cons ..
def f12_1_0 : List S := .whl (.band (.cmp .lt (.fld (.var 0) 0) (.un .len (.fld (.var 0) 2))) (.cmp .mem (.idx (.fld (.var 0) 2) (.fld (.var 0) 0)) (.glob 14))) f12_0_0 :: []
@[simp] theorem f12_1_0_e (cs : Calls) (env : Env) (st : Store) : execL cs f12_1_0 env st = (execS cs (.whl (.band (.cmp .lt (.fld (.var 0) 0) (.un .len (.fld (.var 0) 2))) (.cmp .mem (.idx (.fld (.var 0) 2) (.fld (.var 0) 0)) (.glob 14))) f12_0_0) env st).andThen (execL cs []) := exl_cons ..
def f12 : Def := ⟨1, 1, f12_1_0, false⟩
/-- Reader.run -/
def f13_0_0 : List S := .setF (.var 0) 0 (.bin .add (.fld (.var 0) 0) (.int 1)) :: []
@[simp] theorem f13_0_0_e (cs : Calls) (env : Env) (st : Store) : execL cs f13_0_0 env st = (execS cs (.setF (.var 0) 0 (.bin .add (.fld (.var 0) 0) (.int 1))) env st).andThen (execL cs []) := exl_cons ..
def f13_1_3 : List S := .ret (.tup [.slc true true (.fld (.var 0) 2) (.var 1) (.fld (.var 0) 0), .var 1]) :: []
@[simp] theorem f13_1_3_e (cs : Calls) (env : Env) (st : Store) : execL cs f13_1_3 env st = (execS cs (.ret (.tup [.slc true true (.fld (.var 0) 2) (.var 1) (.fld (.var 0) 0), .var 1])) env st).andThen (execL cs []) := exl_cons ..
def f13_1_2 : List S := .whl (.band (.cmp .lt (.fld (.var 0) 0) (.un .len (.fld (.var 0) 2))) (.bor (.cmp .mem (.idx (.fld (.var 0) 2) (.fld (.var 0) 0)) (.glob 7)) (.bor (.cmp .mem (.idx (.fld (.var 0) 2) (.fld (.var 0) 0)) (.glob 8)) (.cmp .eq (.idx (.fld (.var 0) 2) (.fld (.var 0) 0)) (.str [45]))))) f13_0_0 :: f13_1_3
@[simp] theorem f13_1_2_e (cs : Calls) (env : Env) (st : Store) : execL cs f13_1_2 env st = (execS cs (.whl (.band (.cmp .lt (.fld (.var 0) 0) (.un .len (.fld (.var 0) 2))) (.bor (.cmp .mem (.idx (.fld (.var 0) 2) (.fld (.var 0) 0)) (.glob 7)) (.bor (.cmp .mem (.idx (.fld (.var 0) 2) (.fld (.var 0) 0)) (.glob 8)) (.cmp .eq (.idx (.fld (.var 0) 2) (.fld (.var 0) 0)) (.str [45]))))) f13_0_0) env st).andThen (execL cs f13_1_3) := exl_cons ..
def f13_1_1 : List S := .set 1 (.fld (.var 0) 0) :: f13_1_2
@[simp] theorem f13_1_1_e (cs : Calls) (env : Env) (st : Store) : execL cs f13_1_1 env st = (execS cs (.set 1 (.fld (.var 0) 0)) env st).andThen (execL cs f13_1_2) := exl_cons ..
def f13_1_0 : List S := .expr (.meth (.var 0) 0 12 []) :: f13_1_1
@[simp] theorem f13_1_0_e (cs : Calls) (env : Env) (st : Store) : execL cs f13_1_0 env st = (execS cs (.expr (.meth (.var 0) 0 12 [])) env st).andThen (execL cs f13_1_1) := exl_cons ..
def f13 : Def := ⟨1, 2, f13_1_0, false⟩
/-- Reader.mark -/
def f14_0_0 : List S := .raise 1 [.str [97, 110, 111, 116, 104, 101, 114, 32, 115, 105, 103, 110, 32, 105, 115, 32, 100, 117, 101], .fld (.var 0) 0] :: []
@[simp] theorem f14_0_0_e (cs : Calls) (env : Env) (st : Store) : execL cs f14_0_0 env st = (execS cs (.raise 1 [.str [97, 110, 111, 116, 104, 101, 114, 32, 115, 105, 103, 110, 32, 105, 115, 32, 100, 117, 101], .fld (.var 0) 0]) env st).andThen (execL cs []) := exl_cons ..
def f14_1_2 : List S := .setF (.var 0) 0 (.bin .add (.fld (.var 0) 0) (.int 1)) :: []
@[simp] theorem f14_1_2_e (cs : Calls) (env : Env) (st : Store) : execL cs f14_1_2 env st = (execS cs (.setF (.var 0) 0 (.bin .add (.fld (.var 0) 0) (.int 1))) env st).andThen (execL cs []) := exl_cons ..
def f14_1_1 : List S := .ite (.cmp .ne (.slc true true (.fld (.var 0) 2) (.fld (.var 0) 0) (.bin .add (.fld (.var 0) 0) (.int 1))) (.var 1)) f14_0_0 [] :: f14_1_2
@[simp] theorem f14_1_1_e (cs : Calls) (env : Env) (st : Store) : execL cs f14_1_1 env st = (execS cs (.ite (.cmp .ne (.slc true true (.fld (.var 0) 2) (.fld (.var 0) 0) (.bin .add (.fld (.var 0) 0) (.int 1))) (.var 1)) f14_0_0 []) env st).andThen (execL cs f14_1_2) := exl_cons ..
def f14_1_0 : List S := .expr (.meth (.var 0) 0 12 []) :: f14_1_1
@[simp] theorem f14_1_0_e (cs : Calls) (env : Env) (st : Store) : execL cs f14_1_0 env st = (execS cs (.expr (.meth (.var 0) 0 12 [])) env st).andThen (execL cs f14_1_1) := exl_cons ..
def f14 : Def := ⟨2, 2, f14_1_0, false⟩
/-- Reader.opens -/
def f15_0_0 : List S := .ret (.bl false) :: []
@[simp] theorem f15_0_0_e (cs : Calls) (env : Env) (st : Store) : execL cs f15_0_0 env st = (execS cs (.ret (.bl false)) env st).andThen (execL cs []) := exl_cons ..
def f15_1_3 : List S := .ret (.bl true) :: []
@[simp] theorem f15_1_3_e (cs : Calls) (env : Env) (st : Store) : execL cs f15_1_3 env st = (execS cs (.ret (.bl true)) env st).andThen (execL cs []) := exl_cons ..
def f15_1_2 : List S := .setF (.var 0) 0 (.bin .add (.fld (.var 0) 0) (.int 1)) :: f15_1_3
@[simp] theorem f15_1_2_e (cs : Calls) (env : Env) (st : Store) : execL cs f15_1_2 env st = (execS cs (.setF (.var 0) 0 (.bin .add (.fld (.var 0) 0) (.int 1))) env st).andThen (execL cs f15_1_3) := exl_cons ..
def f15_1_1 : List S := .ite (.cmp .ne (.slc true true (.fld (.var 0) 2) (.fld (.var 0) 0) (.bin .add (.fld (.var 0) 0) (.int 1))) (.str [40])) f15_0_0 [] :: f15_1_2
@[simp] theorem f15_1_1_e (cs : Calls) (env : Env) (st : Store) : execL cs f15_1_1 env st = (execS cs (.ite (.cmp .ne (.slc true true (.fld (.var 0) 2) (.fld (.var 0) 0) (.bin .add (.fld (.var 0) 0) (.int 1))) (.str [40])) f15_0_0 []) env st).andThen (execL cs f15_1_2) := exl_cons ..
def f15_1_0 : List S := .expr (.meth (.var 0) 0 12 []) :: f15_1_1
@[simp] theorem f15_1_0_e (cs : Calls) (env : Env) (st : Store) : execL cs f15_1_0 env st = (execS cs (.expr (.meth (.var 0) 0 12 [])) env st).andThen (execL cs f15_1_1) := exl_cons ..
def f15 : Def := ⟨1, 1, f15_1_0, false⟩
/-- Reader.bound_name -/
def f16_0_0 : List S := .raise 1 [.str [110, 111, 32, 110, 97, 109, 101], .var 2] :: []
@[simp] theorem f16_0_0_e (cs : Calls) (env : Env) (st : Store) : execL cs f16_0_0 env st = (execS cs (.raise 1 [.str [110, 111, 32, 110, 97, 109, 101], .var 2]) env st).andThen (execL cs []) := exl_cons ..
def f16_1_2 : List S := .ret (.var 1) :: []
@[simp] theorem f16_1_2_e (cs : Calls) (env : Env) (st : Store) : execL cs f16_1_2 env st = (execS cs (.ret (.var 1)) env st).andThen (execL cs []) := exl_cons ..
def f16_1_1 : List S := .ite (.bnot (.call 1 [.var 1])) f16_0_0 [] :: f16_1_2
@[simp] theorem f16_1_1_e (cs : Calls) (env : Env) (st : Store) : execL cs f16_1_1 env st = (execS cs (.ite (.bnot (.call 1 [.var 1])) f16_0_0 []) env st).andThen (execL cs f16_1_2) := exl_cons ..
def f16_1_0 : List S := .setT [1, 2] (.meth (.var 0) 0 13 []) :: f16_1_1
@[simp] theorem f16_1_0_e (cs : Calls) (env : Env) (st : Store) : execL cs f16_1_0 env st = (execS cs (.setT [1, 2] (.meth (.var 0) 0 13 [])) env st).andThen (execL cs f16_1_1) := exl_cons ..
def f16 : Def := ⟨1, 3, f16_1_0, false⟩
/-- list_of -/
def f46_0_0 : List S := .ret (.tup [.str wd_list, .var 0]) :: []
@[simp] theorem f46_0_0_e (cs : Calls) (env : Env) (st : Store) : execL cs f46_0_0 env st = (execS cs (.ret (.tup [.str wd_list, .var 0])) env st).andThen (execL cs []) := exl_cons ..
def f46 : Def := ⟨1, 1, f46_0_0, false⟩
/-- pair_of -/
def f47_0_0 : List S := .ret (.tup [.str wd_pair, .var 0, .var 1]) :: []
@[simp] theorem f47_0_0_e (cs : Calls) (env : Env) (st : Store) : execL cs f47_0_0 env st = (execS cs (.ret (.tup [.str wd_pair, .var 0, .var 1])) env st).andThen (execL cs []) := exl_cons ..
def f47 : Def := ⟨2, 2, f47_0_0, false⟩
/-- fun_of -/
def f48_0_0 : List S := .ret (.tup [.str wd_fun, .var 0, .var 1]) :: []
@[simp] theorem f48_0_0_e (cs : Calls) (env : Env) (st : Store) : execL cs f48_0_0 env st = (execS cs (.ret (.tup [.str wd_fun, .var 0, .var 1])) env st).andThen (execL cs []) := exl_cons ..
def f48 : Def := ⟨2, 2, f48_0_0, false⟩
/-- need -/
def f49_0_0 : List S := .raise 3 [.str [107, 105, 110, 100, 115, 32, 116, 104, 97, 116, 32, 100, 111, 110, 39, 116, 32, 102, 105, 116]] :: []
@[simp] theorem f49_0_0_e (cs : Calls) (env : Env) (st : Store) : execL cs f49_0_0 env st = (execS cs (.raise 3 [.str [107, 105, 110, 100, 115, 32, 116, 104, 97, 116, 32, 100, 111, 110, 39, 116, 32, 102, 105, 116]]) env st).andThen (execL cs []) := exl_cons ..
def f49_1_0 : List S := .ite (.cmp .ne (.var 0) (.var 1)) f49_0_0 [] :: []
@[simp] theorem f49_1_0_e (cs : Calls) (env : Env) (st : Store) : execL cs f49_1_0 env st = (execS cs (.ite (.cmp .ne (.var 0) (.var 1)) f49_0_0 []) env st).andThen (execL cs []) := exl_cons ..
def f49 : Def := ⟨2, 2, f49_1_0, false⟩
/-- need_form -/
def f50_0_0 : List S := .raise 3 [.str [107, 105, 110, 100, 115, 32, 116, 104, 97, 116, 32, 100, 111, 110, 39, 116, 32, 102, 105, 116]] :: []
@[simp] theorem f50_0_0_e (cs : Calls) (env : Env) (st : Store) : execL cs f50_0_0 env st = (execS cs (.raise 3 [.str [107, 105, 110, 100, 115, 32, 116, 104, 97, 116, 32, 100, 111, 110, 39, 116, 32, 102, 105, 116]]) env st).andThen (execL cs []) := exl_cons ..
def f50_1_0 : List S := .ite (.bor (.un .isStr (.var 0)) (.cmp .ne (.idx (.var 0) (.int 0)) (.var 1))) f50_0_0 [] :: []
@[simp] theorem f50_1_0_e (cs : Calls) (env : Env) (st : Store) : execL cs f50_1_0 env st = (execS cs (.ite (.bor (.un .isStr (.var 0)) (.cmp .ne (.idx (.var 0) (.int 0)) (.var 1))) f50_0_0 []) env st).andThen (execL cs []) := exl_cons ..
def f50 : Def := ⟨2, 2, f50_1_0, false⟩
/-- of_one -/
def f51_0_1 : List S := .ret (.str wd_bool) :: []
@[simp] theorem f51_0_1_e (cs : Calls) (env : Env) (st : Store) : execL cs f51_0_1 env st = (execS cs (.ret (.str wd_bool)) env st).andThen (execL cs []) := exl_cons ..
def f51_0_0 : List S := .expr (.call 49 [.var 1, .str wd_bool]) :: f51_0_1
@[simp] theorem f51_0_0_e (cs : Calls) (env : Env) (st : Store) : execL cs f51_0_0 env st = (execS cs (.expr (.call 49 [.var 1, .str wd_bool])) env st).andThen (execL cs f51_0_1) := exl_cons ..
def f51_1_1 : List S := .ret (.idx (.var 1) (.bin .add (.int 1) (.un .int (.cmp .eq (.var 0) (.str wd_second))))) :: []
@[simp] theorem f51_1_1_e (cs : Calls) (env : Env) (st : Store) : execL cs f51_1_1 env st = (execS cs (.ret (.idx (.var 1) (.bin .add (.int 1) (.un .int (.cmp .eq (.var 0) (.str wd_second)))))) env st).andThen (execL cs []) := exl_cons ..
def f51_1_0 : List S := .expr (.call 50 [.var 1, .str wd_pair]) :: f51_1_1
@[simp] theorem f51_1_0_e (cs : Calls) (env : Env) (st : Store) : execL cs f51_1_0 env st = (execS cs (.expr (.call 50 [.var 1, .str wd_pair])) env st).andThen (execL cs f51_1_1) := exl_cons ..
def f51_2_0 : List S := .ret (.idx (.var 1) (.int 1)) :: []
@[simp] theorem f51_2_0_e (cs : Calls) (env : Env) (st : Store) : execL cs f51_2_0 env st = (execS cs (.ret (.idx (.var 1) (.int 1))) env st).andThen (execL cs []) := exl_cons ..
def f51_3_0 : List S := .ret (.var 1) :: []
@[simp] theorem f51_3_0_e (cs : Calls) (env : Env) (st : Store) : execL cs f51_3_0 env st = (execS cs (.ret (.var 1)) env st).andThen (execL cs []) := exl_cons ..
def f51_4_5 : List S := .ret (.str wd_bool) :: []
@[simp] theorem f51_4_5_e (cs : Calls) (env : Env) (st : Store) : execL cs f51_4_5 env st = (execS cs (.ret (.str wd_bool)) env st).andThen (execL cs []) := exl_cons ..
def f51_4_4 : List S := .ite (.cmp .eq (.var 0) (.str wd_tail)) f51_3_0 [] :: f51_4_5
@[simp] theorem f51_4_4_e (cs : Calls) (env : Env) (st : Store) : execL cs f51_4_4 env st = (execS cs (.ite (.cmp .eq (.var 0) (.str wd_tail)) f51_3_0 []) env st).andThen (execL cs f51_4_5) := exl_cons ..
def f51_4_3 : List S := .ite (.cmp .eq (.var 0) (.str wd_head)) f51_2_0 [] :: f51_4_4
@[simp] theorem f51_4_3_e (cs : Calls) (env : Env) (st : Store) : execL cs f51_4_3 env st = (execS cs (.ite (.cmp .eq (.var 0) (.str wd_head)) f51_2_0 []) env st).andThen (execL cs f51_4_4) := exl_cons ..
def f51_4_2 : List S := .expr (.call 50 [.var 1, .str wd_list]) :: f51_4_3
@[simp] theorem f51_4_2_e (cs : Calls) (env : Env) (st : Store) : execL cs f51_4_2 env st = (execS cs (.expr (.call 50 [.var 1, .str wd_list])) env st).andThen (execL cs f51_4_3) := exl_cons ..
def f51_4_1 : List S := .ite (.bor (.cmp .eq (.var 0) (.str wd_first)) (.cmp .eq (.var 0) (.str wd_second))) f51_1_0 [] :: f51_4_2
@[simp] theorem f51_4_1_e (cs : Calls) (env : Env) (st : Store) : execL cs f51_4_1 env st = (execS cs (.ite (.bor (.cmp .eq (.var 0) (.str wd_first)) (.cmp .eq (.var 0) (.str wd_second))) f51_1_0 []) env st).andThen (execL cs f51_4_2) := exl_cons ..
def f51_4_0 : List S := .ite (.cmp .eq (.var 0) (.str wd_not)) f51_0_0 [] :: f51_4_1
@[simp] theorem f51_4_0_e (cs : Calls) (env : Env) (st : Store) : execL cs f51_4_0 env st = (execS cs (.ite (.cmp .eq (.var 0) (.str wd_not)) f51_0_0 []) env st).andThen (execL cs f51_4_1) := exl_cons ..
def f51 : Def := ⟨2, 2, f51_4_0, false⟩
/-- of_two -/
def f52_0_0 : List S := .ret (.call 47 [.var 1, .var 2]) :: []
@[simp] theorem f52_0_0_e (cs : Calls) (env : Env) (st : Store) : execL cs f52_0_0 env st = (execS cs (.ret (.call 47 [.var 1, .var 2])) env st).andThen (execL cs []) := exl_cons ..
def f52_1_1 : List S := .ret (.var 2) :: []
@[simp] theorem f52_1_1_e (cs : Calls) (env : Env) (st : Store) : execL cs f52_1_1 env st = (execS cs (.ret (.var 2)) env st).andThen (execL cs []) := exl_cons ..
def f52_1_0 : List S := .expr (.call 49 [.var 2, .call 46 [.var 1]]) :: f52_1_1
@[simp] theorem f52_1_0_e (cs : Calls) (env : Env) (st : Store) : execL cs f52_1_0 env st = (execS cs (.expr (.call 49 [.var 2, .call 46 [.var 1]])) env st).andThen (execL cs f52_1_1) := exl_cons ..
def f52_2_2 : List S := .ret (.idx (.var 1) (.int 2)) :: []
@[simp] theorem f52_2_2_e (cs : Calls) (env : Env) (st : Store) : execL cs f52_2_2 env st = (execS cs (.ret (.idx (.var 1) (.int 2))) env st).andThen (execL cs []) := exl_cons ..
def f52_2_1 : List S := .expr (.call 49 [.var 2, .idx (.var 1) (.int 1)]) :: f52_2_2
@[simp] theorem f52_2_1_e (cs : Calls) (env : Env) (st : Store) : execL cs f52_2_1 env st = (execS cs (.expr (.call 49 [.var 2, .idx (.var 1) (.int 1)])) env st).andThen (execL cs f52_2_2) := exl_cons ..
def f52_2_0 : List S := .expr (.call 50 [.var 1, .str wd_fun]) :: f52_2_1
@[simp] theorem f52_2_0_e (cs : Calls) (env : Env) (st : Store) : execL cs f52_2_0 env st = (execS cs (.expr (.call 50 [.var 1, .str wd_fun])) env st).andThen (execL cs f52_2_1) := exl_cons ..
def f52_3_2 : List S := .ret (.str wd_bool) :: []
@[simp] theorem f52_3_2_e (cs : Calls) (env : Env) (st : Store) : execL cs f52_3_2 env st = (execS cs (.ret (.str wd_bool)) env st).andThen (execL cs []) := exl_cons ..
def f52_3_1 : List S := .expr (.call 49 [.var 2, .str wd_bool]) :: f52_3_2
@[simp] theorem f52_3_1_e (cs : Calls) (env : Env) (st : Store) : execL cs f52_3_1 env st = (execS cs (.expr (.call 49 [.var 2, .str wd_bool])) env st).andThen (execL cs f52_3_2) := exl_cons ..
def f52_3_0 : List S := .expr (.call 49 [.var 1, .str wd_bool]) :: f52_3_1
@[simp] theorem f52_3_0_e (cs : Calls) (env : Env) (st : Store) : execL cs f52_3_0 env st = (execS cs (.expr (.call 49 [.var 1, .str wd_bool])) env st).andThen (execL cs f52_3_1) := exl_cons ..
def f52_4_0 : List S := .ret (.str wd_int) :: []
@[simp] theorem f52_4_0_e (cs : Calls) (env : Env) (st : Store) : execL cs f52_4_0 env st = (execS cs (.ret (.str wd_int)) env st).andThen (execL cs []) := exl_cons ..
def f52_5_7 : List S := .ret (.str wd_bool) :: []
@[simp] theorem f52_5_7_e (cs : Calls) (env : Env) (st : Store) : execL cs f52_5_7 env st = (execS cs (.ret (.str wd_bool)) env st).andThen (execL cs []) := exl_cons ..
def f52_5_6 : List S := .ite (.cmp .mem (.var 0) (.glob 13)) f52_4_0 [] :: f52_5_7
@[simp] theorem f52_5_6_e (cs : Calls) (env : Env) (st : Store) : execL cs f52_5_6 env st = (execS cs (.ite (.cmp .mem (.var 0) (.glob 13)) f52_4_0 []) env st).andThen (execL cs f52_5_7) := exl_cons ..
def f52_5_5 : List S := .expr (.call 49 [.var 2, .str wd_int]) :: f52_5_6
@[simp] theorem f52_5_5_e (cs : Calls) (env : Env) (st : Store) : execL cs f52_5_5 env st = (execS cs (.expr (.call 49 [.var 2, .str wd_int])) env st).andThen (execL cs f52_5_6) := exl_cons ..
def f52_5_4 : List S := .expr (.call 49 [.var 1, .str wd_int]) :: f52_5_5
@[simp] theorem f52_5_4_e (cs : Calls) (env : Env) (st : Store) : execL cs f52_5_4 env st = (execS cs (.expr (.call 49 [.var 1, .str wd_int])) env st).andThen (execL cs f52_5_5) := exl_cons ..
def f52_5_3 : List S := .ite (.bor (.cmp .eq (.var 0) (.str wd_and)) (.cmp .eq (.var 0) (.str wd_or))) f52_3_0 [] :: f52_5_4
@[simp] theorem f52_5_3_e (cs : Calls) (env : Env) (st : Store) : execL cs f52_5_3 env st = (execS cs (.ite (.bor (.cmp .eq (.var 0) (.str wd_and)) (.cmp .eq (.var 0) (.str wd_or))) f52_3_0 []) env st).andThen (execL cs f52_5_4) := exl_cons ..
def f52_5_2 : List S := .ite (.cmp .eq (.var 0) (.str wd_call)) f52_2_0 [] :: f52_5_3
@[simp] theorem f52_5_2_e (cs : Calls) (env : Env) (st : Store) : execL cs f52_5_2 env st = (execS cs (.ite (.cmp .eq (.var 0) (.str wd_call)) f52_2_0 []) env st).andThen (execL cs f52_5_3) := exl_cons ..
def f52_5_1 : List S := .ite (.cmp .eq (.var 0) (.str wd_cons)) f52_1_0 [] :: f52_5_2
@[simp] theorem f52_5_1_e (cs : Calls) (env : Env) (st : Store) : execL cs f52_5_1 env st = (execS cs (.ite (.cmp .eq (.var 0) (.str wd_cons)) f52_1_0 []) env st).andThen (execL cs f52_5_2) := exl_cons ..
def f52_5_0 : List S := .ite (.cmp .eq (.var 0) (.str wd_pair)) f52_0_0 [] :: f52_5_1
@[simp] theorem f52_5_0_e (cs : Calls) (env : Env) (st : Store) : execL cs f52_5_0 env st = (execS cs (.ite (.cmp .eq (.var 0) (.str wd_pair)) f52_0_0 []) env st).andThen (execL cs f52_5_1) := exl_cons ..
def f52 : Def := ⟨3, 3, f52_5_0, false⟩
/-- of_name -/
def f53_0_0 : List S := .ret (.idx (.idx (.var 1) (.var 2)) (.int 1)) :: []
@[simp] theorem f53_0_0_e (cs : Calls) (env : Env) (st : Store) : execL cs f53_0_0 env st = (execS cs (.ret (.idx (.idx (.var 1) (.var 2)) (.int 1))) env st).andThen (execL cs []) := exl_cons ..
def f53_1_0 : List S := .ite (.cmp .eq (.idx (.idx (.var 1) (.var 2)) (.int 0)) (.var 0)) f53_0_0 [] :: []
@[simp] theorem f53_1_0_e (cs : Calls) (env : Env) (st : Store) : execL cs f53_1_0 env st = (execS cs (.ite (.cmp .eq (.idx (.idx (.var 1) (.var 2)) (.int 0)) (.var 0)) f53_0_0 []) env st).andThen (execL cs []) := exl_cons ..
def f53_2_1 : List S := .raise 2 [.str [97, 32, 110, 97, 109, 101, 32, 116, 104, 97, 116, 32, 105, 115, 110, 39, 116, 32, 98, 111, 117, 110, 100], .var 0] :: []
@[simp] theorem f53_2_1_e (cs : Calls) (env : Env) (st : Store) : execL cs f53_2_1 env st = (execS cs (.raise 2 [.str [97, 32, 110, 97, 109, 101, 32, 116, 104, 97, 116, 32, 105, 115, 110, 39, 116, 32, 98, 111, 117, 110, 100], .var 0]) env st).andThen (execL cs []) := exl_cons ..
def f53_2_0 : List S := .forS [2] .rng3 [.bin .sub (.un .len (.var 1)) (.int 1), .neg (.int 1), .neg (.int 1)] f53_1_0 :: f53_2_1
@[simp] theorem f53_2_0_e (cs : Calls) (env : Env) (st : Store) : execL cs f53_2_0 env st = (execS cs (.forS [2] .rng3 [.bin .sub (.un .len (.var 1)) (.int 1), .neg (.int 1), .neg (.int 1)] f53_1_0) env st).andThen (execL cs f53_2_1) := exl_cons ..
def f53 : Def := ⟨2, 3, f53_2_0, false⟩
/-- of_function -/
def f54_0_0 : List S := .ret (.call 48 [.idx (.var 0) (.int 2), .call 55 [.idx (.var 0) (.int 3), .bin .add (.var 1) (.lst [.tup [.idx (.var 0) (.int 1), .idx (.var 0) (.int 2)]])]]) :: []
@[simp] theorem f54_0_0_e (cs : Calls) (env : Env) (st : Store) : execL cs f54_0_0 env st = (execS cs (.ret (.call 48 [.idx (.var 0) (.int 2), .call 55 [.idx (.var 0) (.int 3), .bin .add (.var 1) (.lst [.tup [.idx (.var 0) (.int 1), .idx (.var 0) (.int 2)]])]])) env st).andThen (execL cs []) := exl_cons ..
def f54_1_3 : List S := .ret (.var 2) :: []
@[simp] theorem f54_1_3_e (cs : Calls) (env : Env) (st : Store) : execL cs f54_1_3 env st = (execS cs (.ret (.var 2)) env st).andThen (execL cs []) := exl_cons ..
def f54_1_2 : List S := .expr (.call 49 [.call 55 [.idx (.var 0) (.int 5), .bin .add (.var 1) (.lst [.tup [.idx (.var 0) (.int 1), .var 2], .tup [.idx (.var 0) (.int 2), .idx (.var 0) (.int 3)]])], .idx (.var 0) (.int 4)]) :: f54_1_3
@[simp] theorem f54_1_2_e (cs : Calls) (env : Env) (st : Store) : execL cs f54_1_2 env st = (execS cs (.expr (.call 49 [.call 55 [.idx (.var 0) (.int 5), .bin .add (.var 1) (.lst [.tup [.idx (.var 0) (.int 1), .var 2], .tup [.idx (.var 0) (.int 2), .idx (.var 0) (.int 3)]])], .idx (.var 0) (.int 4)])) env st).andThen (execL cs f54_1_3) := exl_cons ..
def f54_1_1 : List S := .set 2 (.call 48 [.idx (.var 0) (.int 3), .idx (.var 0) (.int 4)]) :: f54_1_2
@[simp] theorem f54_1_1_e (cs : Calls) (env : Env) (st : Store) : execL cs f54_1_1 env st = (execS cs (.set 2 (.call 48 [.idx (.var 0) (.int 3), .idx (.var 0) (.int 4)])) env st).andThen (execL cs f54_1_2) := exl_cons ..
def f54_1_0 : List S := .ite (.cmp .eq (.idx (.var 0) (.int 0)) (.str wd_fn)) f54_0_0 [] :: f54_1_1
@[simp] theorem f54_1_0_e (cs : Calls) (env : Env) (st : Store) : execL cs f54_1_0 env st = (execS cs (.ite (.cmp .eq (.idx (.var 0) (.int 0)) (.str wd_fn)) f54_0_0 []) env st).andThen (execL cs f54_1_1) := exl_cons ..
def f54 : Def := ⟨2, 3, f54_1_0, false⟩
/-- kind_in -/
def f55_0_0 : List S := .ret (.str wd_int) :: []
@[simp] theorem f55_0_0_e (cs : Calls) (env : Env) (st : Store) : execL cs f55_0_0 env st = (execS cs (.ret (.str wd_int)) env st).andThen (execL cs []) := exl_cons ..
def f55_1_0 : List S := .ret (.str wd_bool) :: []
@[simp] theorem f55_1_0_e (cs : Calls) (env : Env) (st : Store) : execL cs f55_1_0 env st = (execS cs (.ret (.str wd_bool)) env st).andThen (execL cs []) := exl_cons ..
def f55_2_0 : List S := .ret (.call 53 [.idx (.var 0) (.int 1), .var 1]) :: []
@[simp] theorem f55_2_0_e (cs : Calls) (env : Env) (st : Store) : execL cs f55_2_0 env st = (execS cs (.ret (.call 53 [.idx (.var 0) (.int 1), .var 1])) env st).andThen (execL cs []) := exl_cons ..
def f55_3_0 : List S := .ret (.call 46 [.idx (.var 0) (.int 1)]) :: []
@[simp] theorem f55_3_0_e (cs : Calls) (env : Env) (st : Store) : execL cs f55_3_0 env st = (execS cs (.ret (.call 46 [.idx (.var 0) (.int 1)])) env st).andThen (execL cs []) := exl_cons ..
def f55_4_5 : List S := .ret (.var 4) :: []
@[simp] theorem f55_4_5_e (cs : Calls) (env : Env) (st : Store) : execL cs f55_4_5 env st = (execS cs (.ret (.var 4)) env st).andThen (execL cs []) := exl_cons ..
def f55_4_4 : List S := .expr (.call 49 [.var 5, .var 4]) :: f55_4_5
@[simp] theorem f55_4_4_e (cs : Calls) (env : Env) (st : Store) : execL cs f55_4_4 env st = (execS cs (.expr (.call 49 [.var 5, .var 4])) env st).andThen (execL cs f55_4_5) := exl_cons ..
def f55_4_3 : List S := .expr (.call 49 [.var 3, .str wd_bool]) :: f55_4_4
@[simp] theorem f55_4_3_e (cs : Calls) (env : Env) (st : Store) : execL cs f55_4_3 env st = (execS cs (.expr (.call 49 [.var 3, .str wd_bool])) env st).andThen (execL cs f55_4_4) := exl_cons ..
def f55_4_2 : List S := .set 5 (.call 55 [.idx (.var 0) (.int 3), .var 1]) :: f55_4_3
@[simp] theorem f55_4_2_e (cs : Calls) (env : Env) (st : Store) : execL cs f55_4_2 env st = (execS cs (.set 5 (.call 55 [.idx (.var 0) (.int 3), .var 1])) env st).andThen (execL cs f55_4_3) := exl_cons ..
def f55_4_1 : List S := .set 4 (.call 55 [.idx (.var 0) (.int 2), .var 1]) :: f55_4_2
@[simp] theorem f55_4_1_e (cs : Calls) (env : Env) (st : Store) : execL cs f55_4_1 env st = (execS cs (.set 4 (.call 55 [.idx (.var 0) (.int 2), .var 1])) env st).andThen (execL cs f55_4_2) := exl_cons ..
def f55_4_0 : List S := .set 3 (.call 55 [.idx (.var 0) (.int 1), .var 1]) :: f55_4_1
@[simp] theorem f55_4_0_e (cs : Calls) (env : Env) (st : Store) : execL cs f55_4_0 env st = (execS cs (.set 3 (.call 55 [.idx (.var 0) (.int 1), .var 1])) env st).andThen (execL cs f55_4_1) := exl_cons ..
def f55_5_0 : List S := .ret (.call 55 [.idx (.var 0) (.int 3), .bin .add (.var 1) (.lst [.tup [.idx (.var 0) (.int 1), .call 55 [.idx (.var 0) (.int 2), .var 1]]])]) :: []
@[simp] theorem f55_5_0_e (cs : Calls) (env : Env) (st : Store) : execL cs f55_5_0 env st = (execS cs (.ret (.call 55 [.idx (.var 0) (.int 3), .bin .add (.var 1) (.lst [.tup [.idx (.var 0) (.int 1), .call 55 [.idx (.var 0) (.int 2), .var 1]]])])) env st).andThen (execL cs []) := exl_cons ..
def f55_6_0 : List S := .ret (.call 54 [.var 0, .var 1]) :: []
@[simp] theorem f55_6_0_e (cs : Calls) (env : Env) (st : Store) : execL cs f55_6_0 env st = (execS cs (.ret (.call 54 [.var 0, .var 1])) env st).andThen (execL cs []) := exl_cons ..
def f55_7_0 : List S := .ret (.call 51 [.var 2, .call 55 [.idx (.var 0) (.int 1), .var 1]]) :: []
@[simp] theorem f55_7_0_e (cs : Calls) (env : Env) (st : Store) : execL cs f55_7_0 env st = (execS cs (.ret (.call 51 [.var 2, .call 55 [.idx (.var 0) (.int 1), .var 1]])) env st).andThen (execL cs []) := exl_cons ..
def f55_8_10 : List S := .ret (.call 52 [.var 2, .var 3, .call 55 [.idx (.var 0) (.int 2), .var 1]]) :: []
@[simp] theorem f55_8_10_e (cs : Calls) (env : Env) (st : Store) : execL cs f55_8_10 env st = (execS cs (.ret (.call 52 [.var 2, .var 3, .call 55 [.idx (.var 0) (.int 2), .var 1]])) env st).andThen (execL cs []) := exl_cons ..
def f55_8_9 : List S := .set 3 (.call 55 [.idx (.var 0) (.int 1), .var 1]) :: f55_8_10
@[simp] theorem f55_8_9_e (cs : Calls) (env : Env) (st : Store) : execL cs f55_8_9 env st = (execS cs (.set 3 (.call 55 [.idx (.var 0) (.int 1), .var 1])) env st).andThen (execL cs f55_8_10) := exl_cons ..
def f55_8_8 : List S := .ite (.cmp .eq (.un .len (.var 0)) (.int 2)) f55_7_0 [] :: f55_8_9
@[simp] theorem f55_8_8_e (cs : Calls) (env : Env) (st : Store) : execL cs f55_8_8 env st = (execS cs (.ite (.cmp .eq (.un .len (.var 0)) (.int 2)) f55_7_0 []) env st).andThen (execL cs f55_8_9) := exl_cons ..
def f55_8_7 : List S := .ite (.bor (.cmp .eq (.var 2) (.str wd_fn)) (.cmp .eq (.var 2) (.str wd_rec))) f55_6_0 [] :: f55_8_8
@[simp] theorem f55_8_7_e (cs : Calls) (env : Env) (st : Store) : execL cs f55_8_7 env st = (execS cs (.ite (.bor (.cmp .eq (.var 2) (.str wd_fn)) (.cmp .eq (.var 2) (.str wd_rec))) f55_6_0 []) env st).andThen (execL cs f55_8_8) := exl_cons ..
def f55_8_6 : List S := .ite (.cmp .eq (.var 2) (.str wd_let)) f55_5_0 [] :: f55_8_7
@[simp] theorem f55_8_6_e (cs : Calls) (env : Env) (st : Store) : execL cs f55_8_6 env st = (execS cs (.ite (.cmp .eq (.var 2) (.str wd_let)) f55_5_0 []) env st).andThen (execL cs f55_8_7) := exl_cons ..
def f55_8_5 : List S := .ite (.cmp .eq (.var 2) (.str wd_if)) f55_4_0 [] :: f55_8_6
@[simp] theorem f55_8_5_e (cs : Calls) (env : Env) (st : Store) : execL cs f55_8_5 env st = (execS cs (.ite (.cmp .eq (.var 2) (.str wd_if)) f55_4_0 []) env st).andThen (execL cs f55_8_6) := exl_cons ..
def f55_8_4 : List S := .ite (.cmp .eq (.var 2) (.str wd_nil)) f55_3_0 [] :: f55_8_5
@[simp] theorem f55_8_4_e (cs : Calls) (env : Env) (st : Store) : execL cs f55_8_4 env st = (execS cs (.ite (.cmp .eq (.var 2) (.str wd_nil)) f55_3_0 []) env st).andThen (execL cs f55_8_5) := exl_cons ..
def f55_8_3 : List S := .ite (.cmp .eq (.var 2) (.str wd_name)) f55_2_0 [] :: f55_8_4
@[simp] theorem f55_8_3_e (cs : Calls) (env : Env) (st : Store) : execL cs f55_8_3 env st = (execS cs (.ite (.cmp .eq (.var 2) (.str wd_name)) f55_2_0 []) env st).andThen (execL cs f55_8_4) := exl_cons ..
def f55_8_2 : List S := .ite (.cmp .eq (.var 2) (.str wd_truth)) f55_1_0 [] :: f55_8_3
@[simp] theorem f55_8_2_e (cs : Calls) (env : Env) (st : Store) : execL cs f55_8_2 env st = (execS cs (.ite (.cmp .eq (.var 2) (.str wd_truth)) f55_1_0 []) env st).andThen (execL cs f55_8_3) := exl_cons ..
def f55_8_1 : List S := .ite (.cmp .eq (.var 2) (.str wd_num)) f55_0_0 [] :: f55_8_2
@[simp] theorem f55_8_1_e (cs : Calls) (env : Env) (st : Store) : execL cs f55_8_1 env st = (execS cs (.ite (.cmp .eq (.var 2) (.str wd_num)) f55_0_0 []) env st).andThen (execL cs f55_8_2) := exl_cons ..
def f55_8_0 : List S := .set 2 (.idx (.var 0) (.int 0)) :: f55_8_1
@[simp] theorem f55_8_0_e (cs : Calls) (env : Env) (st : Store) : execL cs f55_8_0 env st = (execS cs (.set 2 (.idx (.var 0) (.int 0))) env st).andThen (execL cs f55_8_1) := exl_cons ..
def f55 : Def := ⟨2, 6, f55_8_0, false⟩
/-- kind_of -/
def f56_0_0 : List S := .ret (.call 55 [.var 0, .lst []]) :: []
@[simp] theorem f56_0_0_e (cs : Calls) (env : Env) (st : Store) : execL cs f56_0_0 env st = (execS cs (.ret (.call 55 [.var 0, .lst []])) env st).andThen (execL cs []) := exl_cons ..
def f56 : Def := ⟨1, 1, f56_0_0, false⟩
/-- outside -/
def f57_0_0 : List S := .ret (.bin .mul (.lst [.idx (.var 0) (.int 1)]) (.un .int (.cmp .nmem (.idx (.var 0) (.int 1)) (.var 1)))) :: []
@[simp] theorem f57_0_0_e (cs : Calls) (env : Env) (st : Store) : execL cs f57_0_0 env st = (execS cs (.ret (.bin .mul (.lst [.idx (.var 0) (.int 1)]) (.un .int (.cmp .nmem (.idx (.var 0) (.int 1)) (.var 1))))) env st).andThen (execL cs []) := exl_cons ..
def f57_1_0 : List S := .ret (.call 58 [.call 57 [.idx (.var 0) (.int 2), .var 1], .call 57 [.idx (.var 0) (.int 3), .bin .add (.var 1) (.lst [.idx (.var 0) (.int 1)])]]) :: []
@[simp] theorem f57_1_0_e (cs : Calls) (env : Env) (st : Store) : execL cs f57_1_0 env st = (execS cs (.ret (.call 58 [.call 57 [.idx (.var 0) (.int 2), .var 1], .call 57 [.idx (.var 0) (.int 3), .bin .add (.var 1) (.lst [.idx (.var 0) (.int 1)])]])) env st).andThen (execL cs []) := exl_cons ..
def f57_2_0 : List S := .ret (.call 57 [.idx (.var 0) (.int 3), .bin .add (.var 1) (.lst [.idx (.var 0) (.int 1)])]) :: []
@[simp] theorem f57_2_0_e (cs : Calls) (env : Env) (st : Store) : execL cs f57_2_0 env st = (execS cs (.ret (.call 57 [.idx (.var 0) (.int 3), .bin .add (.var 1) (.lst [.idx (.var 0) (.int 1)])])) env st).andThen (execL cs []) := exl_cons ..
def f57_3_0 : List S := .ret (.call 57 [.idx (.var 0) (.int 5), .bin .add (.var 1) (.lst [.idx (.var 0) (.int 1), .idx (.var 0) (.int 2)])]) :: []
@[simp] theorem f57_3_0_e (cs : Calls) (env : Env) (st : Store) : execL cs f57_3_0 env st = (execS cs (.ret (.call 57 [.idx (.var 0) (.int 5), .bin .add (.var 1) (.lst [.idx (.var 0) (.int 1), .idx (.var 0) (.int 2)])])) env st).andThen (execL cs []) := exl_cons ..
def f57_4_0 : List S := .ret (.lst []) :: []
@[simp] theorem f57_4_0_e (cs : Calls) (env : Env) (st : Store) : execL cs f57_4_0 env st = (execS cs (.ret (.lst [])) env st).andThen (execL cs []) := exl_cons ..
def f57_5_0 : List S := .set 3 (.call 58 [.var 3, .call 57 [.var 4, .var 1]]) :: []
@[simp] theorem f57_5_0_e (cs : Calls) (env : Env) (st : Store) : execL cs f57_5_0 env st = (execS cs (.set 3 (.call 58 [.var 3, .call 57 [.var 4, .var 1]])) env st).andThen (execL cs []) := exl_cons ..
def f57_6_8 : List S := .ret (.var 3) :: []
@[simp] theorem f57_6_8_e (cs : Calls) (env : Env) (st : Store) : execL cs f57_6_8 env st = (execS cs (.ret (.var 3)) env st).andThen (execL cs []) := exl_cons ..
def f57_6_7 : List S := .forS [4] .seq [.slc true false (.var 0) (.int 1) (.non)] f57_5_0 :: f57_6_8
@[simp] theorem f57_6_7_e (cs : Calls) (env : Env) (st : Store) : execL cs f57_6_7 env st = (execS cs (.forS [4] .seq [.slc true false (.var 0) (.int 1) (.non)] f57_5_0) env st).andThen (execL cs f57_6_8) := exl_cons ..
def f57_6_6 : List S := .set 3 (.lst []) :: f57_6_7
@[simp] theorem f57_6_6_e (cs : Calls) (env : Env) (st : Store) : execL cs f57_6_6 env st = (execS cs (.set 3 (.lst [])) env st).andThen (execL cs f57_6_7) := exl_cons ..
def f57_6_5 : List S := .ite (.cmp .mem (.var 2) (.tup [.str wd_num, .str wd_truth, .str wd_nil])) f57_4_0 [] :: f57_6_6
@[simp] theorem f57_6_5_e (cs : Calls) (env : Env) (st : Store) : execL cs f57_6_5 env st = (execS cs (.ite (.cmp .mem (.var 2) (.tup [.str wd_num, .str wd_truth, .str wd_nil])) f57_4_0 []) env st).andThen (execL cs f57_6_6) := exl_cons ..
def f57_6_4 : List S := .ite (.cmp .eq (.var 2) (.str wd_rec)) f57_3_0 [] :: f57_6_5
@[simp] theorem f57_6_4_e (cs : Calls) (env : Env) (st : Store) : execL cs f57_6_4 env st = (execS cs (.ite (.cmp .eq (.var 2) (.str wd_rec)) f57_3_0 []) env st).andThen (execL cs f57_6_5) := exl_cons ..
def f57_6_3 : List S := .ite (.cmp .eq (.var 2) (.str wd_fn)) f57_2_0 [] :: f57_6_4
@[simp] theorem f57_6_3_e (cs : Calls) (env : Env) (st : Store) : execL cs f57_6_3 env st = (execS cs (.ite (.cmp .eq (.var 2) (.str wd_fn)) f57_2_0 []) env st).andThen (execL cs f57_6_4) := exl_cons ..
def f57_6_2 : List S := .ite (.cmp .eq (.var 2) (.str wd_let)) f57_1_0 [] :: f57_6_3
@[simp] theorem f57_6_2_e (cs : Calls) (env : Env) (st : Store) : execL cs f57_6_2 env st = (execS cs (.ite (.cmp .eq (.var 2) (.str wd_let)) f57_1_0 []) env st).andThen (execL cs f57_6_3) := exl_cons ..
def f57_6_1 : List S := .ite (.cmp .eq (.var 2) (.str wd_name)) f57_0_0 [] :: f57_6_2
@[simp] theorem f57_6_1_e (cs : Calls) (env : Env) (st : Store) : execL cs f57_6_1 env st = (execS cs (.ite (.cmp .eq (.var 2) (.str wd_name)) f57_0_0 []) env st).andThen (execL cs f57_6_2) := exl_cons ..
def f57_6_0 : List S := .set 2 (.idx (.var 0) (.int 0)) :: f57_6_1
@[simp] theorem f57_6_0_e (cs : Calls) (env : Env) (st : Store) : execL cs f57_6_0 env st = (execS cs (.set 2 (.idx (.var 0) (.int 0))) env st).andThen (execL cs f57_6_1) := exl_cons ..
def f57 : Def := ⟨2, 5, f57_6_0, false⟩
/-- joined -/
def f58_0_0 : List S := .ret (.bin .add (.var 0) (.comp (.var 2) [2] .seq [.var 1] [.cmp .nmem (.var 2) (.var 0)])) :: []
@[simp] theorem f58_0_0_e (cs : Calls) (env : Env) (st : Store) : execL cs f58_0_0 env st = (execS cs (.ret (.bin .add (.var 0) (.comp (.var 2) [2] .seq [.var 1] [.cmp .nmem (.var 2) (.var 0)]))) env st).andThen (execL cs []) := exl_cons ..
def f58 : Def := ⟨2, 3, f58_0_0, false⟩
/-- slot_of -/
def f59_0_0 : List S := .set 2 (.bin .sub (.var 2) (.int 1)) :: []
@[simp] theorem f59_0_0_e (cs : Calls) (env : Env) (st : Store) : execL cs f59_0_0 env st = (execS cs (.set 2 (.bin .sub (.var 2) (.int 1))) env st).andThen (execL cs []) := exl_cons ..
def f59_1_2 : List S := .ret (.var 2) :: []
@[simp] theorem f59_1_2_e (cs : Calls) (env : Env) (st : Store) : execL cs f59_1_2 env st = (execS cs (.ret (.var 2)) env st).andThen (execL cs []) := exl_cons ..
def f59_1_1 : List S := .whl (.cmp .ne (.idx (.var 1) (.var 2)) (.var 0)) f59_0_0 :: f59_1_2
@[simp] theorem f59_1_1_e (cs : Calls) (env : Env) (st : Store) : execL cs f59_1_1 env st = (execS cs (.whl (.cmp .ne (.idx (.var 1) (.var 2)) (.var 0)) f59_0_0) env st).andThen (execL cs f59_1_2) := exl_cons ..
def f59_1_0 : List S := .set 2 (.bin .sub (.un .len (.var 1)) (.int 1)) :: f59_1_1
@[simp] theorem f59_1_0_e (cs : Calls) (env : Env) (st : Store) : execL cs f59_1_0 env st = (execS cs (.set 2 (.bin .sub (.un .len (.var 1)) (.int 1))) env st).andThen (execL cs f59_1_1) := exl_cons ..
def f59 : Def := ⟨2, 3, f59_1_0, false⟩
/-- ended -/
def f60_0_0 : List S := .expr (.meth (.var 0) 1 70 [.tup [.str wd_back]]) :: []
@[simp] theorem f60_0_0_e (cs : Calls) (env : Env) (st : Store) : execL cs f60_0_0 env st = (execS cs (.expr (.meth (.var 0) 1 70 [.tup [.str wd_back]])) env st).andThen (execL cs []) := exl_cons ..
def f60_1_0 : List S := .ite (.var 1) f60_0_0 [] :: []
@[simp] theorem f60_1_0_e (cs : Calls) (env : Env) (st : Store) : execL cs f60_1_0 env st = (execS cs (.ite (.var 1) f60_0_0 []) env st).andThen (execL cs []) := exl_cons ..
def f60 : Def := ⟨2, 2, f60_1_0, false⟩
/-- put_function -/
def f61_0_2 : List S := .set 7 (.idx (.var 1) (.int 5)) :: []
@[simp] theorem f61_0_2_e (cs : Calls) (env : Env) (st : Store) : execL cs f61_0_2 env st = (execS cs (.set 7 (.idx (.var 1) (.int 5))) env st).andThen (execL cs []) := exl_cons ..
def f61_0_1 : List S := .appOwn 4 (.idx (.var 1) (.int 2)) :: f61_0_2
@[simp] theorem f61_0_1_e (cs : Calls) (env : Env) (st : Store) : execL cs f61_0_1 env st = (execS cs (.appOwn 4 (.idx (.var 1) (.int 2))) env st).andThen (execL cs f61_0_2) := exl_cons ..
def f61_0_0 : List S := .appOwn 4 (.idx (.var 1) (.int 1)) :: f61_0_1
@[simp] theorem f61_0_0_e (cs : Calls) (env : Env) (st : Store) : execL cs f61_0_0 env st = (execS cs (.appOwn 4 (.idx (.var 1) (.int 1))) env st).andThen (execL cs f61_0_1) := exl_cons ..
def f61_1_1 : List S := .set 7 (.idx (.var 1) (.int 3)) :: []
@[simp] theorem f61_1_1_e (cs : Calls) (env : Env) (st : Store) : execL cs f61_1_1 env st = (execS cs (.set 7 (.idx (.var 1) (.int 3))) env st).andThen (execL cs []) := exl_cons ..
def f61_1_0 : List S := .appOwn 4 (.idx (.var 1) (.int 1)) :: f61_1_1
@[simp] theorem f61_1_0_e (cs : Calls) (env : Env) (st : Store) : execL cs f61_1_0 env st = (execS cs (.appOwn 4 (.idx (.var 1) (.int 1))) env st).andThen (execL cs f61_1_1) := exl_cons ..
def f61_2_8 : List S := .expr (.meth (.var 0) 1 72 [.var 6]) :: []
@[simp] theorem f61_2_8_e (cs : Calls) (env : Env) (st : Store) : execL cs f61_2_8 env st = (execS cs (.expr (.meth (.var 0) 1 72 [.var 6])) env st).andThen (execL cs []) := exl_cons ..
def f61_2_7 : List S := .expr (.call 65 [.var 0, .var 7, .var 4, .bl true]) :: f61_2_8
@[simp] theorem f61_2_7_e (cs : Calls) (env : Env) (st : Store) : execL cs f61_2_7 env st = (execS cs (.expr (.call 65 [.var 0, .var 7, .var 4, .bl true])) env st).andThen (execL cs f61_2_8) := exl_cons ..
def f61_2_6 : List S := .frz 4 :: f61_2_7
@[simp] theorem f61_2_6_e (cs : Calls) (env : Env) (st : Store) : execL cs f61_2_6 env st = (execS cs (.frz 4) env st).andThen (execL cs f61_2_7) := exl_cons ..
def f61_2_5 : List S := .set 6 (.meth (.var 0) 1 71 [.str wd_jump]) :: f61_2_6
@[simp] theorem f61_2_5_e (cs : Calls) (env : Env) (st : Store) : execL cs f61_2_5 env st = (execS cs (.set 6 (.meth (.var 0) 1 71 [.str wd_jump])) env st).andThen (execL cs f61_2_6) := exl_cons ..
def f61_2_4 : List S := .expr (.meth (.var 0) 1 70 [.tup [.str wd_make, .bin .add (.un .len (.fld (.var 0) 3)) (.int 2), .un .tuple (.var 5), .cmp .eq (.idx (.var 1) (.int 0)) (.str wd_rec)]]) :: f61_2_5
@[simp] theorem f61_2_4_e (cs : Calls) (env : Env) (st : Store) : execL cs f61_2_4 env st = (execS cs (.expr (.meth (.var 0) 1 70 [.tup [.str wd_make, .bin .add (.un .len (.fld (.var 0) 3)) (.int 2), .un .tuple (.var 5), .cmp .eq (.idx (.var 1) (.int 0)) (.str wd_rec)]])) env st).andThen (execL cs f61_2_5) := exl_cons ..
def f61_2_3 : List S := .set 5 (.comp (.call 59 [.var 8, .var 2]) [8] .seq [.var 3] []) :: f61_2_4
@[simp] theorem f61_2_3_e (cs : Calls) (env : Env) (st : Store) : execL cs f61_2_3 env st = (execS cs (.set 5 (.comp (.call 59 [.var 8, .var 2]) [8] .seq [.var 3] [])) env st).andThen (execL cs f61_2_4) := exl_cons ..
def f61_2_2 : List S := .ite (.cmp .eq (.idx (.var 1) (.int 0)) (.str wd_rec)) f61_0_0 f61_1_0 :: f61_2_3
@[simp] theorem f61_2_2_e (cs : Calls) (env : Env) (st : Store) : execL cs f61_2_2 env st = (execS cs (.ite (.cmp .eq (.idx (.var 1) (.int 0)) (.str wd_rec)) f61_0_0 f61_1_0) env st).andThen (execL cs f61_2_3) := exl_cons ..
def f61_2_1 : List S := .setOwn 4 (.un .lof (.var 3)) :: f61_2_2
@[simp] theorem f61_2_1_e (cs : Calls) (env : Env) (st : Store) : execL cs f61_2_1 env st = (execS cs (.setOwn 4 (.un .lof (.var 3))) env st).andThen (execL cs f61_2_2) := exl_cons ..
def f61_2_0 : List S := .set 3 (.call 57 [.var 1, .lst []]) :: f61_2_1
@[simp] theorem f61_2_0_e (cs : Calls) (env : Env) (st : Store) : execL cs f61_2_0 env st = (execS cs (.set 3 (.call 57 [.var 1, .lst []])) env st).andThen (execL cs f61_2_1) := exl_cons ..
def f61 : Def := ⟨3, 9, f61_2_0, false⟩
/-- put_choice -/
def f62_0_1 : List S := .expr (.call 60 [.var 0, .var 3]) :: []
@[simp] theorem f62_0_1_e (cs : Calls) (env : Env) (st : Store) : execL cs f62_0_1 env st = (execS cs (.expr (.call 60 [.var 0, .var 3])) env st).andThen (execL cs []) := exl_cons ..
def f62_0_0 : List S := .expr (.meth (.var 0) 1 70 [.tup [.str wd_push, .tup [.str wd_truth, .bl true]]]) :: f62_0_1
@[simp] theorem f62_0_0_e (cs : Calls) (env : Env) (st : Store) : execL cs f62_0_0 env st = (execS cs (.expr (.meth (.var 0) 1 70 [.tup [.str wd_push, .tup [.str wd_truth, .bl true]]])) env st).andThen (execL cs f62_0_1) := exl_cons ..
def f62_1_0 : List S := .expr (.call 65 [.var 0, .idx (.var 1) (.int 2), .var 2, .var 3]) :: []
@[simp] theorem f62_1_0_e (cs : Calls) (env : Env) (st : Store) : execL cs f62_1_0 env st = (execS cs (.expr (.call 65 [.var 0, .idx (.var 1) (.int 2), .var 2, .var 3])) env st).andThen (execL cs []) := exl_cons ..
def f62_2_0 : List S := .expr (.call 65 [.var 0, .idx (.var 1) (.int 3), .var 2, .var 3]) :: []
@[simp] theorem f62_2_0_e (cs : Calls) (env : Env) (st : Store) : execL cs f62_2_0 env st = (execS cs (.expr (.call 65 [.var 0, .idx (.var 1) (.int 3), .var 2, .var 3])) env st).andThen (execL cs []) := exl_cons ..
def f62_3_0 : List S := .expr (.call 65 [.var 0, .idx (.var 1) (.int 2), .var 2, .var 3]) :: []
@[simp] theorem f62_3_0_e (cs : Calls) (env : Env) (st : Store) : execL cs f62_3_0 env st = (execS cs (.expr (.call 65 [.var 0, .idx (.var 1) (.int 2), .var 2, .var 3])) env st).andThen (execL cs []) := exl_cons ..
def f62_4_1 : List S := .expr (.call 60 [.var 0, .var 3]) :: []
@[simp] theorem f62_4_1_e (cs : Calls) (env : Env) (st : Store) : execL cs f62_4_1 env st = (execS cs (.expr (.call 60 [.var 0, .var 3])) env st).andThen (execL cs []) := exl_cons ..
def f62_4_0 : List S := .expr (.meth (.var 0) 1 70 [.tup [.str wd_push, .tup [.str wd_truth, .bl false]]]) :: f62_4_1
@[simp] theorem f62_4_0_e (cs : Calls) (env : Env) (st : Store) : execL cs f62_4_0 env st = (execS cs (.expr (.meth (.var 0) 1 70 [.tup [.str wd_push, .tup [.str wd_truth, .bl false]]])) env st).andThen (execL cs f62_4_1) := exl_cons ..
def f62_5_0 : List S := .ite (.cmp .eq (.idx (.var 1) (.int 0)) (.str wd_or)) f62_3_0 f62_4_0 :: []
@[simp] theorem f62_5_0_e (cs : Calls) (env : Env) (st : Store) : execL cs f62_5_0 env st = (execS cs (.ite (.cmp .eq (.idx (.var 1) (.int 0)) (.str wd_or)) f62_3_0 f62_4_0) env st).andThen (execL cs []) := exl_cons ..
def f62_6_6 : List S := .expr (.meth (.var 0) 1 72 [.var 5]) :: []
@[simp] theorem f62_6_6_e (cs : Calls) (env : Env) (st : Store) : execL cs f62_6_6 env st = (execS cs (.expr (.meth (.var 0) 1 72 [.var 5])) env st).andThen (execL cs []) := exl_cons ..
def f62_6_5 : List S := .ite (.cmp .eq (.idx (.var 1) (.int 0)) (.str wd_if)) f62_2_0 f62_5_0 :: f62_6_6
@[simp] theorem f62_6_5_e (cs : Calls) (env : Env) (st : Store) : execL cs f62_6_5 env st = (execS cs (.ite (.cmp .eq (.idx (.var 1) (.int 0)) (.str wd_if)) f62_2_0 f62_5_0) env st).andThen (execL cs f62_6_6) := exl_cons ..
def f62_6_4 : List S := .expr (.meth (.var 0) 1 72 [.var 4]) :: f62_6_5
@[simp] theorem f62_6_4_e (cs : Calls) (env : Env) (st : Store) : execL cs f62_6_4 env st = (execS cs (.expr (.meth (.var 0) 1 72 [.var 4])) env st).andThen (execL cs f62_6_5) := exl_cons ..
def f62_6_3 : List S := .set 5 (.meth (.var 0) 1 71 [.str wd_jump]) :: f62_6_4
@[simp] theorem f62_6_3_e (cs : Calls) (env : Env) (st : Store) : execL cs f62_6_3 env st = (execS cs (.set 5 (.meth (.var 0) 1 71 [.str wd_jump])) env st).andThen (execL cs f62_6_4) := exl_cons ..
def f62_6_2 : List S := .ite (.cmp .eq (.idx (.var 1) (.int 0)) (.str wd_or)) f62_0_0 f62_1_0 :: f62_6_3
@[simp] theorem f62_6_2_e (cs : Calls) (env : Env) (st : Store) : execL cs f62_6_2 env st = (execS cs (.ite (.cmp .eq (.idx (.var 1) (.int 0)) (.str wd_or)) f62_0_0 f62_1_0) env st).andThen (execL cs f62_6_3) := exl_cons ..
def f62_6_1 : List S := .set 4 (.meth (.var 0) 1 71 [.str wd_branch]) :: f62_6_2
@[simp] theorem f62_6_1_e (cs : Calls) (env : Env) (st : Store) : execL cs f62_6_1 env st = (execS cs (.set 4 (.meth (.var 0) 1 71 [.str wd_branch])) env st).andThen (execL cs f62_6_2) := exl_cons ..
def f62_6_0 : List S := .expr (.call 65 [.var 0, .idx (.var 1) (.int 1), .var 2, .bl false]) :: f62_6_1
@[simp] theorem f62_6_0_e (cs : Calls) (env : Env) (st : Store) : execL cs f62_6_0 env st = (execS cs (.expr (.call 65 [.var 0, .idx (.var 1) (.int 1), .var 2, .bl false])) env st).andThen (execL cs f62_6_1) := exl_cons ..
def f62 : Def := ⟨4, 6, f62_6_0, false⟩
/-- put_let -/
def f63_0_0 : List S := .expr (.meth (.var 0) 1 70 [.tup [.str wd_unbind]]) :: []
@[simp] theorem f63_0_0_e (cs : Calls) (env : Env) (st : Store) : execL cs f63_0_0 env st = (execS cs (.expr (.meth (.var 0) 1 70 [.tup [.str wd_unbind]])) env st).andThen (execL cs []) := exl_cons ..
def f63_1_3 : List S := .ite (.bnot (.var 3)) f63_0_0 [] :: []
@[simp] theorem f63_1_3_e (cs : Calls) (env : Env) (st : Store) : execL cs f63_1_3 env st = (execS cs (.ite (.bnot (.var 3)) f63_0_0 []) env st).andThen (execL cs []) := exl_cons ..
def f63_1_2 : List S := .expr (.call 65 [.var 0, .idx (.var 1) (.int 3), .bin .add (.var 2) (.lst [.idx (.var 1) (.int 1)]), .var 3]) :: f63_1_3
@[simp] theorem f63_1_2_e (cs : Calls) (env : Env) (st : Store) : execL cs f63_1_2 env st = (execS cs (.expr (.call 65 [.var 0, .idx (.var 1) (.int 3), .bin .add (.var 2) (.lst [.idx (.var 1) (.int 1)]), .var 3])) env st).andThen (execL cs f63_1_3) := exl_cons ..
def f63_1_1 : List S := .expr (.meth (.var 0) 1 70 [.tup [.str wd_bind]]) :: f63_1_2
@[simp] theorem f63_1_1_e (cs : Calls) (env : Env) (st : Store) : execL cs f63_1_1 env st = (execS cs (.expr (.meth (.var 0) 1 70 [.tup [.str wd_bind]])) env st).andThen (execL cs f63_1_2) := exl_cons ..
def f63_1_0 : List S := .expr (.call 65 [.var 0, .idx (.var 1) (.int 2), .var 2, .bl false]) :: f63_1_1
@[simp] theorem f63_1_0_e (cs : Calls) (env : Env) (st : Store) : execL cs f63_1_0 env st = (execS cs (.expr (.call 65 [.var 0, .idx (.var 1) (.int 2), .var 2, .bl false])) env st).andThen (execL cs f63_1_1) := exl_cons ..
def f63 : Def := ⟨4, 4, f63_1_0, false⟩
/-- put_plain -/
def f64_0_0 : List S := .expr (.meth (.var 0) 1 70 [.tup [.str wd_push, .var 1]]) :: []
@[simp] theorem f64_0_0_e (cs : Calls) (env : Env) (st : Store) : execL cs f64_0_0 env st = (execS cs (.expr (.meth (.var 0) 1 70 [.tup [.str wd_push, .var 1]])) env st).andThen (execL cs []) := exl_cons ..
def f64_1_0 : List S := .expr (.meth (.var 0) 1 70 [.tup [.str wd_push, .tup [.str wd_nil]]]) :: []
@[simp] theorem f64_1_0_e (cs : Calls) (env : Env) (st : Store) : execL cs f64_1_0 env st = (execS cs (.expr (.meth (.var 0) 1 70 [.tup [.str wd_push, .tup [.str wd_nil]]])) env st).andThen (execL cs []) := exl_cons ..
def f64_2_0 : List S := .expr (.meth (.var 0) 1 70 [.tup [.str wd_load, .call 59 [.idx (.var 1) (.int 1), .var 2]]]) :: []
@[simp] theorem f64_2_0_e (cs : Calls) (env : Env) (st : Store) : execL cs f64_2_0 env st = (execS cs (.expr (.meth (.var 0) 1 70 [.tup [.str wd_load, .call 59 [.idx (.var 1) (.int 1), .var 2]]])) env st).andThen (execL cs []) := exl_cons ..
def f64_3_0 : List S := .expr (.call 61 [.var 0, .var 1, .var 2]) :: []
@[simp] theorem f64_3_0_e (cs : Calls) (env : Env) (st : Store) : execL cs f64_3_0 env st = (execS cs (.expr (.call 61 [.var 0, .var 1, .var 2])) env st).andThen (execL cs []) := exl_cons ..
def f64_4_0 : List S := .expr (.call 65 [.var 0, .idx (.var 1) (.int 2), .var 2, .bl false]) :: []
@[simp] theorem f64_4_0_e (cs : Calls) (env : Env) (st : Store) : execL cs f64_4_0 env st = (execS cs (.expr (.call 65 [.var 0, .idx (.var 1) (.int 2), .var 2, .bl false])) env st).andThen (execL cs []) := exl_cons ..
def f64_5_2 : List S := .expr (.meth (.var 0) 1 70 [.tup [.var 3]]) :: []
@[simp] theorem f64_5_2_e (cs : Calls) (env : Env) (st : Store) : execL cs f64_5_2 env st = (execS cs (.expr (.meth (.var 0) 1 70 [.tup [.var 3]])) env st).andThen (execL cs []) := exl_cons ..
def f64_5_1 : List S := .ite (.cmp .nmem (.var 3) (.glob 9)) f64_4_0 [] :: f64_5_2
@[simp] theorem f64_5_1_e (cs : Calls) (env : Env) (st : Store) : execL cs f64_5_1 env st = (execS cs (.ite (.cmp .nmem (.var 3) (.glob 9)) f64_4_0 []) env st).andThen (execL cs f64_5_2) := exl_cons ..
def f64_5_0 : List S := .expr (.call 65 [.var 0, .idx (.var 1) (.int 1), .var 2, .bl false]) :: f64_5_1
@[simp] theorem f64_5_0_e (cs : Calls) (env : Env) (st : Store) : execL cs f64_5_0 env st = (execS cs (.expr (.call 65 [.var 0, .idx (.var 1) (.int 1), .var 2, .bl false])) env st).andThen (execL cs f64_5_1) := exl_cons ..
def f64_6_0 : List S := .ite (.bor (.cmp .eq (.var 3) (.str wd_fn)) (.cmp .eq (.var 3) (.str wd_rec))) f64_3_0 f64_5_0 :: []
@[simp] theorem f64_6_0_e (cs : Calls) (env : Env) (st : Store) : execL cs f64_6_0 env st = (execS cs (.ite (.bor (.cmp .eq (.var 3) (.str wd_fn)) (.cmp .eq (.var 3) (.str wd_rec))) f64_3_0 f64_5_0) env st).andThen (execL cs []) := exl_cons ..
def f64_7_0 : List S := .ite (.cmp .eq (.var 3) (.str wd_name)) f64_2_0 f64_6_0 :: []
@[simp] theorem f64_7_0_e (cs : Calls) (env : Env) (st : Store) : execL cs f64_7_0 env st = (execS cs (.ite (.cmp .eq (.var 3) (.str wd_name)) f64_2_0 f64_6_0) env st).andThen (execL cs []) := exl_cons ..
def f64_8_0 : List S := .ite (.cmp .eq (.var 3) (.str wd_nil)) f64_1_0 f64_7_0 :: []
@[simp] theorem f64_8_0_e (cs : Calls) (env : Env) (st : Store) : execL cs f64_8_0 env st = (execS cs (.ite (.cmp .eq (.var 3) (.str wd_nil)) f64_1_0 f64_7_0) env st).andThen (execL cs []) := exl_cons ..
def f64_9_1 : List S := .ite (.bor (.cmp .eq (.var 3) (.str wd_num)) (.cmp .eq (.var 3) (.str wd_truth))) f64_0_0 f64_8_0 :: []
@[simp] theorem f64_9_1_e (cs : Calls) (env : Env) (st : Store) : execL cs f64_9_1 env st = (execS cs (.ite (.bor (.cmp .eq (.var 3) (.str wd_num)) (.cmp .eq (.var 3) (.str wd_truth))) f64_0_0 f64_8_0) env st).andThen (execL cs []) := exl_cons ..
def f64_9_0 : List S := .set 3 (.idx (.var 1) (.int 0)) :: f64_9_1
@[simp] theorem f64_9_0_e (cs : Calls) (env : Env) (st : Store) : execL cs f64_9_0 env st = (execS cs (.set 3 (.idx (.var 1) (.int 0))) env st).andThen (execL cs f64_9_1) := exl_cons ..
def f64 : Def := ⟨3, 4, f64_9_0, false⟩
/-- put_part -/
def f65_0_0 : List S := .expr (.call 62 [.var 0, .var 1, .var 2, .var 3]) :: []
@[simp] theorem f65_0_0_e (cs : Calls) (env : Env) (st : Store) : execL cs f65_0_0 env st = (execS cs (.expr (.call 62 [.var 0, .var 1, .var 2, .var 3])) env st).andThen (execL cs []) := exl_cons ..
def f65_1_0 : List S := .expr (.call 63 [.var 0, .var 1, .var 2, .var 3]) :: []
@[simp] theorem f65_1_0_e (cs : Calls) (env : Env) (st : Store) : execL cs f65_1_0 env st = (execS cs (.expr (.call 63 [.var 0, .var 1, .var 2, .var 3])) env st).andThen (execL cs []) := exl_cons ..
def f65_2_2 : List S := .expr (.meth (.var 0) 1 70 [.tup [.str wd_last]]) :: []
@[simp] theorem f65_2_2_e (cs : Calls) (env : Env) (st : Store) : execL cs f65_2_2 env st = (execS cs (.expr (.meth (.var 0) 1 70 [.tup [.str wd_last]])) env st).andThen (execL cs []) := exl_cons ..
def f65_2_1 : List S := .expr (.call 65 [.var 0, .idx (.var 1) (.int 2), .var 2, .bl false]) :: f65_2_2
@[simp] theorem f65_2_1_e (cs : Calls) (env : Env) (st : Store) : execL cs f65_2_1 env st = (execS cs (.expr (.call 65 [.var 0, .idx (.var 1) (.int 2), .var 2, .bl false])) env st).andThen (execL cs f65_2_2) := exl_cons ..
def f65_2_0 : List S := .expr (.call 65 [.var 0, .idx (.var 1) (.int 1), .var 2, .bl false]) :: f65_2_1
@[simp] theorem f65_2_0_e (cs : Calls) (env : Env) (st : Store) : execL cs f65_2_0 env st = (execS cs (.expr (.call 65 [.var 0, .idx (.var 1) (.int 1), .var 2, .bl false])) env st).andThen (execL cs f65_2_1) := exl_cons ..
def f65_3_1 : List S := .expr (.call 60 [.var 0, .var 3]) :: []
@[simp] theorem f65_3_1_e (cs : Calls) (env : Env) (st : Store) : execL cs f65_3_1 env st = (execS cs (.expr (.call 60 [.var 0, .var 3])) env st).andThen (execL cs []) := exl_cons ..
def f65_3_0 : List S := .expr (.call 64 [.var 0, .var 1, .var 2]) :: f65_3_1
@[simp] theorem f65_3_0_e (cs : Calls) (env : Env) (st : Store) : execL cs f65_3_0 env st = (execS cs (.expr (.call 64 [.var 0, .var 1, .var 2])) env st).andThen (execL cs f65_3_1) := exl_cons ..
def f65_4_0 : List S := .ite (.band (.cmp .eq (.var 4) (.str wd_call)) (.var 3)) f65_2_0 f65_3_0 :: []
@[simp] theorem f65_4_0_e (cs : Calls) (env : Env) (st : Store) : execL cs f65_4_0 env st = (execS cs (.ite (.band (.cmp .eq (.var 4) (.str wd_call)) (.var 3)) f65_2_0 f65_3_0) env st).andThen (execL cs []) := exl_cons ..
def f65_5_0 : List S := .ite (.cmp .eq (.var 4) (.str wd_let)) f65_1_0 f65_4_0 :: []
@[simp] theorem f65_5_0_e (cs : Calls) (env : Env) (st : Store) : execL cs f65_5_0 env st = (execS cs (.ite (.cmp .eq (.var 4) (.str wd_let)) f65_1_0 f65_4_0) env st).andThen (execL cs []) := exl_cons ..
def f65_6_1 : List S := .ite (.cmp .mem (.var 4) (.tup [.str wd_if, .str wd_and, .str wd_or])) f65_0_0 f65_5_0 :: []
@[simp] theorem f65_6_1_e (cs : Calls) (env : Env) (st : Store) : execL cs f65_6_1 env st = (execS cs (.ite (.cmp .mem (.var 4) (.tup [.str wd_if, .str wd_and, .str wd_or])) f65_0_0 f65_5_0) env st).andThen (execL cs []) := exl_cons ..
def f65_6_0 : List S := .set 4 (.idx (.var 1) (.int 0)) :: f65_6_1
@[simp] theorem f65_6_0_e (cs : Calls) (env : Env) (st : Store) : execL cs f65_6_0 env st = (execS cs (.set 4 (.idx (.var 1) (.int 0))) env st).andThen (execL cs f65_6_1) := exl_cons ..
def f65 : Def := ⟨4, 5, f65_6_0, false⟩
/-- compiled -/
def f66_0_4 : List S := .ret (.un .lof (.fld (.var 1) 3)) :: []
@[simp] theorem f66_0_4_e (cs : Calls) (env : Env) (st : Store) : execL cs f66_0_4 env st = (execS cs (.ret (.un .lof (.fld (.var 1) 3))) env st).andThen (execL cs []) := exl_cons ..
def f66_0_3 : List S := .expr (.call 65 [.var 1, .var 0, .lst [], .bl true]) :: f66_0_4
@[simp] theorem f66_0_3_e (cs : Calls) (env : Env) (st : Store) : execL cs f66_0_3 env st = (execS cs (.expr (.call 65 [.var 1, .var 0, .lst [], .bl true])) env st).andThen (execL cs f66_0_4) := exl_cons ..
def f66_0_2 : List S := .expr (.meth (.var 1) 1 70 [.tup [.str wd_stop]]) :: f66_0_3
@[simp] theorem f66_0_2_e (cs : Calls) (env : Env) (st : Store) : execL cs f66_0_2 env st = (execS cs (.expr (.meth (.var 1) 1 70 [.tup [.str wd_stop]])) env st).andThen (execL cs f66_0_3) := exl_cons ..
def f66_0_1 : List S := .set 1 (.make 1 69 []) :: f66_0_2
@[simp] theorem f66_0_1_e (cs : Calls) (env : Env) (st : Store) : execL cs f66_0_1 env st = (execS cs (.set 1 (.make 1 69 [])) env st).andThen (execL cs f66_0_2) := exl_cons ..
def f66_0_0 : List S := .expr (.call 56 [.var 0]) :: f66_0_1
@[simp] theorem f66_0_0_e (cs : Calls) (env : Env) (st : Store) : execL cs f66_0_0 env st = (execS cs (.expr (.call 56 [.var 0])) env st).andThen (execL cs f66_0_1) := exl_cons ..
def f66 : Def := ⟨1, 2, f66_0_0, false⟩
/-- Code.__init__ -/
def f69_0_0 : List S := .setF (.var 0) 3 (.mk (.lst [])) :: []
@[simp] theorem f69_0_0_e (cs : Calls) (env : Env) (st : Store) : execL cs f69_0_0 env st = (execS cs (.setF (.var 0) 3 (.mk (.lst []))) env st).andThen (execL cs []) := exl_cons ..
def f69 : Def := ⟨1, 1, f69_0_0, false⟩
/-- Code.put -/
def f70_0_0 : List S := .app (.fld (.var 0) 3) (.var 1) :: []
@[simp] theorem f70_0_0_e (cs : Calls) (env : Env) (st : Store) : execL cs f70_0_0 env st = (execS cs (.app (.fld (.var 0) 3) (.var 1)) env st).andThen (execL cs []) := exl_cons ..
def f70 : Def := ⟨2, 2, f70_0_0, false⟩
/-- Code.hole -/
def f71_0_1 : List S := .ret (.bin .sub (.un .len (.fld (.var 0) 3)) (.int 1)) :: []
@[simp] theorem f71_0_1_e (cs : Calls) (env : Env) (st : Store) : execL cs f71_0_1 env st = (execS cs (.ret (.bin .sub (.un .len (.fld (.var 0) 3)) (.int 1))) env st).andThen (execL cs []) := exl_cons ..
def f71_0_0 : List S := .app (.fld (.var 0) 3) (.tup [.var 1, .neg (.int 1)]) :: f71_0_1
@[simp] theorem f71_0_0_e (cs : Calls) (env : Env) (st : Store) : execL cs f71_0_0 env st = (execS cs (.app (.fld (.var 0) 3) (.tup [.var 1, .neg (.int 1)])) env st).andThen (execL cs f71_0_1) := exl_cons ..
def f71 : Def := ⟨2, 2, f71_0_0, false⟩
/-- Code.fill -/
def f72_0_0 : List S := .setI (.fld (.var 0) 3) (.var 1) (.tup [.idx (.idx (.fld (.var 0) 3) (.var 1)) (.int 0), .un .len (.fld (.var 0) 3)]) :: []
@[simp] theorem f72_0_0_e (cs : Calls) (env : Env) (st : Store) : execL cs f72_0_0 env st = (execS cs (.setI (.fld (.var 0) 3) (.var 1) (.tup [.idx (.idx (.fld (.var 0) 3) (.var 1)) (.int 0), .un .len (.fld (.var 0) 3)])) env st).andThen (execL cs []) := exl_cons ..
def f72 : Def := ⟨2, 2, f72_0_0, false⟩
/-- law -/
def f191_0_0 : List S := .ret (.bl false) :: []
@[simp] theorem f191_0_0_e (cs : Calls) (env : Env) (st : Store) : execL cs f191_0_0 env st = (execS cs (.ret (.bl false)) env st).andThen (execL cs []) := exl_cons ..
def f191_1_0 : List S := .ite (.bor (.bnot (.call 192 [.var 3])) (.cmp .ne (.un .str (.var 3)) (.var 1))) f191_0_0 [] :: []
@[simp] theorem f191_1_0_e (cs : Calls) (env : Env) (st : Store) : execL cs f191_1_0 env st = (execS cs (.ite (.bor (.bnot (.call 192 [.var 3])) (.cmp .ne (.un .str (.var 3)) (.var 1))) f191_0_0 []) env st).andThen (execL cs []) := exl_cons ..
def f191_2_0 : List S := .ret (.bl false) :: []
@[simp] theorem f191_2_0_e (cs : Calls) (env : Env) (st : Store) : execL cs f191_2_0 env st = (execS cs (.ret (.bl false)) env st).andThen (execL cs []) := exl_cons ..
def f191_3_0 : List S := .ret (.bl false) :: []
@[simp] theorem f191_3_0_e (cs : Calls) (env : Env) (st : Store) : execL cs f191_3_0 env st = (execS cs (.ret (.bl false)) env st).andThen (execL cs []) := exl_cons ..
def f191_4_7 : List S := .ret (.band (.cmp .eq (.call 10 [.bin .add (.bin .add (.bin .mul (.str [32]) (.var 5)) (.str [41])) (.var 1)]) (.var 5)) (.cmp .eq (.call 10 [.bin .mul (.str [10]) (.var 5)]) (.var 5))) :: []
@[simp] theorem f191_4_7_e (cs : Calls) (env : Env) (st : Store) : execL cs f191_4_7 env st = (execS cs (.ret (.band (.cmp .eq (.call 10 [.bin .add (.bin .add (.bin .mul (.str [32]) (.var 5)) (.str [41])) (.var 1)]) (.var 5)) (.cmp .eq (.call 10 [.bin .mul (.str [10]) (.var 5)]) (.var 5)))) env st).andThen (execL cs []) := exl_cons ..
def f191_4_6 : List S := .set 5 (.bin .mod (.call 7 [.var 0, .int 2]) (.int 7)) :: f191_4_7
@[simp] theorem f191_4_6_e (cs : Calls) (env : Env) (st : Store) : execL cs f191_4_6 env st = (execS cs (.set 5 (.bin .mod (.call 7 [.var 0, .int 2]) (.int 7))) env st).andThen (execL cs f191_4_7) := exl_cons ..
def f191_4_5 : List S := .ite (.bor (.cmp .ne (.fld (.newX 1 [.var 1, .var 4]) 0) (.var 4)) (.bor (.cmp .ne (.fld (.newX 2 [.var 1, .var 1]) 1) (.var 1)) (.cmp .ne (.un .str (.newX 2 [.var 1, .str wd_a])) (.var 1)))) f191_3_0 [] :: f191_4_6
@[simp] theorem f191_4_5_e (cs : Calls) (env : Env) (st : Store) : execL cs f191_4_5 env st = (execS cs (.ite (.bor (.cmp .ne (.fld (.newX 1 [.var 1, .var 4]) 0) (.var 4)) (.bor (.cmp .ne (.fld (.newX 2 [.var 1, .var 1]) 1) (.var 1)) (.cmp .ne (.un .str (.newX 2 [.var 1, .str wd_a])) (.var 1)))) f191_3_0 []) env st).andThen (execL cs f191_4_6) := exl_cons ..
def f191_4_4 : List S := .set 4 (.bin .mod (.call 7 [.var 0, .int 1]) (.int 50)) :: f191_4_5
@[simp] theorem f191_4_4_e (cs : Calls) (env : Env) (st : Store) : execL cs f191_4_4 env st = (execS cs (.set 4 (.bin .mod (.call 7 [.var 0, .int 1]) (.int 50))) env st).andThen (execL cs f191_4_5) := exl_cons ..
def f191_4_3 : List S := .ite (.bor (.cmp .ne (.fld (.idx (.var 2) (.int 0)) 0) (.int 0)) (.cmp .ne (.fld (.idx (.var 2) (.int 1)) 1) (.str []))) f191_2_0 [] :: f191_4_4
@[simp] theorem f191_4_3_e (cs : Calls) (env : Env) (st : Store) : execL cs f191_4_3 env st = (execS cs (.ite (.bor (.cmp .ne (.fld (.idx (.var 2) (.int 0)) 0) (.int 0)) (.cmp .ne (.fld (.idx (.var 2) (.int 1)) 1) (.str []))) f191_2_0 []) env st).andThen (execL cs f191_4_4) := exl_cons ..
def f191_4_2 : List S := .forS [3] .seq [.bin .add (.var 2) (.lst [.newX 7 [.var 1], .newX 8 [.var 1]])] f191_1_0 :: f191_4_3
@[simp] theorem f191_4_2_e (cs : Calls) (env : Env) (st : Store) : execL cs f191_4_2 env st = (execS cs (.forS [3] .seq [.bin .add (.var 2) (.lst [.newX 7 [.var 1], .newX 8 [.var 1]])] f191_1_0) env st).andThen (execL cs f191_4_3) := exl_cons ..
def f191_4_1 : List S := .set 2 (.lst [.newX 1 [.var 1], .newX 2 [.var 1], .newX 3 [.var 1], .newX 4 [.var 1], .newX 5 [.var 1], .newX 6 [.var 1]]) :: f191_4_2
@[simp] theorem f191_4_1_e (cs : Calls) (env : Env) (st : Store) : execL cs f191_4_1 env st = (execS cs (.set 2 (.lst [.newX 1 [.var 1], .newX 2 [.var 1], .newX 3 [.var 1], .newX 4 [.var 1], .newX 5 [.var 1], .newX 6 [.var 1]])) env st).andThen (execL cs f191_4_2) := exl_cons ..
def f191_4_0 : List S := .set 1 (.b2 .join (.str []) (.comp (.idx (.str [97, 98, 99, 32, 45, 39, 120]) (.bin .mod (.call 8 [.call 7 [.var 0, .var 6], .var 6]) (.int 7))) [6] .rng1 [.bin .mod (.call 7 [.var 0, .int 0]) (.int 9)] [])) :: f191_4_1
@[simp] theorem f191_4_0_e (cs : Calls) (env : Env) (st : Store) : execL cs f191_4_0 env st = (execS cs (.set 1 (.b2 .join (.str []) (.comp (.idx (.str [97, 98, 99, 32, 45, 39, 120]) (.bin .mod (.call 8 [.call 7 [.var 0, .var 6], .var 6]) (.int 7))) [6] .rng1 [.bin .mod (.call 7 [.var 0, .int 0]) (.int 9)] []))) env st).andThen (execL cs f191_4_1) := exl_cons ..
def f191 : Def := ⟨1, 7, f191_4_0, false⟩
/-- _law_alone+ -/
def f192_0_2 : List S := .ret (.band (.cmp .eq (.b2 .count (.var 1) (.bl true)) (.int 1)) (.band (.isV (.var 0) 0) (.isV (.var 0) 9))) :: []
@[simp] theorem f192_0_2_e (cs : Calls) (env : Env) (st : Store) : execL cs f192_0_2 env st = (execS cs (.ret (.band (.cmp .eq (.b2 .count (.var 1) (.bl true)) (.int 1)) (.band (.isV (.var 0) 0) (.isV (.var 0) 9)))) env st).andThen (execL cs []) := exl_cons ..
def f192_0_1 : List S := .set 1 (.bin .add (.var 1) (.lst [.isV (.var 0) 5, .isV (.var 0) 6, .isV (.var 0) 7, .isV (.var 0) 8])) :: f192_0_2
@[simp] theorem f192_0_1_e (cs : Calls) (env : Env) (st : Store) : execL cs f192_0_1 env st = (execS cs (.set 1 (.bin .add (.var 1) (.lst [.isV (.var 0) 5, .isV (.var 0) 6, .isV (.var 0) 7, .isV (.var 0) 8]))) env st).andThen (execL cs f192_0_2) := exl_cons ..
def f192_0_0 : List S := .set 1 (.lst [.isV (.var 0) 1, .isV (.var 0) 2, .isV (.var 0) 3, .isV (.var 0) 4]) :: f192_0_1
@[simp] theorem f192_0_0_e (cs : Calls) (env : Env) (st : Store) : execL cs f192_0_0 env st = (execS cs (.set 1 (.lst [.isV (.var 0) 1, .isV (.var 0) 2, .isV (.var 0) 3, .isV (.var 0) 4])) env st).andThen (execL cs f192_0_1) := exl_cons ..
def f192 : Def := ⟨1, 2, f192_0_0, false⟩
def defs : Nat → Option Def
  | 0 => some f0
  | 1 => some f1
  | 2 => some f2
  | 3 => some f3
  | 4 => some f4
  | 5 => some f5
  | 6 => some f6
  | 7 => some f7
  | 8 => some f8
  | 9 => some f9
  | 10 => some f10
  | 11 => some f11
  | 12 => some f12
  | 13 => some f13
  | 14 => some f14
  | 15 => some f15
  | 16 => some f16
  | 46 => some f46
  | 47 => some f47
  | 48 => some f48
  | 49 => some f49
  | 50 => some f50
  | 51 => some f51
  | 52 => some f52
  | 53 => some f53
  | 54 => some f54
  | 55 => some f55
  | 56 => some f56
  | 57 => some f57
  | 58 => some f58
  | 59 => some f59
  | 60 => some f60
  | 61 => some f61
  | 62 => some f62
  | 63 => some f63
  | 64 => some f64
  | 65 => some f65
  | 66 => some f66
  | 69 => some f69
  | 70 => some f70
  | 71 => some f71
  | 72 => some f72
  | 191 => some f191
  | 192 => some f192
  | _ => none
end Iv
end
section
set_option Elab.async false
set_option linter.all false
set_option maxRecDepth 100000
set_option maxHeartbeats 0
namespace IvLaw
open PySem PySem.Spec PySem.Calls PyProof.Rows L2 Iv
/-! ### the text of the top -/
abbrev R : PySem.W.OpenRow := PySem.W.OpenLaw.row PySem.Challenge.rw_plainspeak_k10_refusals_apart
def noStmt : Stmt := .Pass ⟨0, 0, 0, 0⟩
def top (i : Nat) : Stmt := PySem.Challenge.pw_plainspeak_k10_refusals_apart.main.body.getD i noStmt
def inn (i j : Nat) : Stmt := clsStmt (top i) j
/-- the defs: number, place, text, names -/
def ent0 : List Ent := [⟨0, (("is_word" : Str), none), ("is_word" : Str), ("is_word" : Str), top 24, [("name" : Str)], 1⟩,
  ⟨1, (("is_name" : Str), none), ("is_name" : Str), ("is_name" : Str), top 25, [("name" : Str), ("sign" : Str)], 1⟩,
  ⟨2, (("number_in" : Str), none), ("number_in" : Str), ("number_in" : Str), top 29, [("word" : Str), ("figures" : Str), ("number" : Str), ("sign" : Str)], 1⟩,
  ⟨3, (("kind_from" : Str), none), ("kind_from" : Str), ("kind_from" : Str), top 30, [("reader" : Str), ("left" : Str), ("parts" : Str), ("word" : Str), ("start" : Str)], 2⟩,
  ⟨4, (("leaf_from" : Str), none), ("leaf_from" : Str), ("leaf_from" : Str), top 31, [("reader" : Str), ("number" : Str), ("word" : Str), ("start" : Str)], 1⟩,
  ⟨5, (("part_from" : Str), none), ("part_from" : Str), ("part_from" : Str), top 32, [("reader" : Str), ("left" : Str), ("word" : Str), ("start" : Str), ("found" : Str), ("names" : Str), ("kinds" : Str)], 2⟩,
  ⟨6, (("read" : Str), none), ("read" : Str), ("read" : Str), top 33, [("text" : Str), ("reader" : Str), ("found" : Str)], 1⟩,
  ⟨7, (("_law_cell" : Str), none), ("_law_cell" : Str), ("_law_cell" : Str), top 35, [("_law_script" : Str), ("_law_k" : Str)], 2⟩,
  ⟨8, (("_law_drawn" : Str), none), ("_law_drawn" : Str), ("_law_drawn" : Str), top 36, [("_law_cell_here" : Str), ("_law_k" : Str), ("_law_more" : Str)], 2⟩,
  ⟨9, (("_law_alone" : Str), none), ("_law_alone" : Str), ("_law_alone" : Str), top 37, [("_law_e" : Str), ("_law_flags" : Str)], 1⟩,
  ⟨10, (("_law_place" : Str), none), ("_law_place" : Str), ("_law_place" : Str), top 38, [("_law_text" : Str), ("_law_e" : Str)], 1⟩,
  ⟨191, (("law" : Str), none), ("law" : Str), ("law" : Str), top 39, [("_law_script" : Str), ("_law_words" : Str), ("_law_made" : Str), ("_law_e" : Str), ("_law_place_here" : Str), ("_law_many" : Str), ("_law_k" : Str)], 1⟩,
  ⟨11, (("Reader" : Str), some ("__init__" : Str)), ("__init__" : Str), ("Reader.__init__" : Str), inn 28 0, [("self" : Str), ("text" : Str)], 2⟩,
  ⟨12, (("Reader" : Str), some ("skip" : Str)), ("skip" : Str), ("Reader.skip" : Str), inn 28 1, [("self" : Str)], 1⟩,
  ⟨13, (("Reader" : Str), some ("run" : Str)), ("run" : Str), ("Reader.run" : Str), inn 28 2, [("self" : Str), ("start" : Str)], 1⟩,
  ⟨14, (("Reader" : Str), some ("mark" : Str)), ("mark" : Str), ("Reader.mark" : Str), inn 28 3, [("self" : Str), ("sign" : Str)], 2⟩,
  ⟨15, (("Reader" : Str), some ("opens" : Str)), ("opens" : Str), ("Reader.opens" : Str), inn 28 4, [("self" : Str)], 1⟩,
  ⟨16, (("Reader" : Str), some ("bound_name" : Str)), ("bound_name" : Str), ("Reader.bound_name" : Str), inn 28 5, [("self" : Str), ("word" : Str), ("start" : Str)], 1⟩,
  ⟨192, (("_law_alone" : Str), none), ("_law_alone" : Str), ("_law_alone" : Str), top 37, [("_law_e" : Str), ("_law_flags" : Str)], 1⟩]
def ent : List Ent := ent0
def gt : Gt where
  fn := [(("is_word" : Str), 0), (("is_name" : Str), 1), (("number_in" : Str), 2), (("kind_from" : Str), 3), (("leaf_from" : Str), 4), (("part_from" : Str), 5), (("read" : Str), 6), (("_law_cell" : Str), 7), (("_law_drawn" : Str), 8), (("_law_place" : Str), 10), (("law" : Str), 191), (("_law_alone" : Str), 192)]
  cst := [(("MOST_SIGNS" : Str), 0), (("MOST_DEPTH" : Str), 1), (("MOST_KIND" : Str), 2), (("MOST_NAME" : Str), 3), (("MOST_FIGURES" : Str), 4), (("LEAST" : Str), 5), (("GREATEST" : Str), 6), (("LETTERS" : Str), 7), (("FIGURES" : Str), 8), (("OF_ONE" : Str), 9), (("OF_TWO" : Str), 10), (("KINDS" : Str), 11), (("OTHERS" : Str), 12), (("WHITE" : Str), 14)]
  cl := [(("Reader" : Str), (0, 11))]
  xc := [(("SpeakError" : Str), 0), (("BadText" : Str), 1), (("NoName" : Str), 2), (("Unfit" : Str), 3), (("TooLong" : Str), 4), (("NotDone" : Str), 5), (("NoRoom" : Str), 6), (("NoMachine" : Str), 7), (("BadRow" : Str), 8)]
  hx := [1]
  hf := [(("_law_alone" : Str), 9)]
  me := [((0, ("skip" : Str)), 12), ((0, ("run" : Str)), 13), ((0, ("mark" : Str)), 14), ((0, ("opens" : Str)), 15), ((0, ("bound_name" : Str)), 16)]
  xv := true
def ini : List Ini := [⟨1, ("BadText" : Str), inn 2 0, [("self" : Str), ("words" : Str), ("at" : Str)], .int 0⟩, ⟨2, ("NoName" : Str), inn 3 0, [("self" : Str), ("words" : Str), ("name" : Str)], .str ""⟩]
def tab0 : List (Nat × Def) := [(0, f0),
  (1, f1),
  (2, f2),
  (3, f3),
  (4, f4),
  (5, f5),
  (6, f6),
  (7, f7),
  (8, f8),
  (9, f9),
  (10, f10),
  (11, f11),
  (12, f12),
  (13, f13),
  (14, f14),
  (15, f15),
  (16, f16),
  (191, f191),
  (192, f192)]
def tab : List (Nat × Def) := tab0
def loose_ : List Str := []
def loose0 : List Str := [("SpeakError" : Str),
  ("BadText" : Str),
  ("NoName" : Str),
  ("Unfit" : Str),
  ("TooLong" : Str),
  ("NotDone" : Str),
  ("NoRoom" : Str),
  ("NoMachine" : Str),
  ("BadRow" : Str),
  ("MOST_SIGNS" : Str),
  ("MOST_DEPTH" : Str),
  ("MOST_KIND" : Str),
  ("MOST_NAME" : Str),
  ("MOST_FIGURES" : Str),
  ("LEAST" : Str),
  ("GREATEST" : Str),
  ("LETTERS" : Str),
  ("FIGURES" : Str),
  ("OF_ONE" : Str),
  ("OF_TWO" : Str),
  ("KINDS" : Str),
  ("OTHERS" : Str),
  ("is_word" : Str),
  ("is_name" : Str),
  ("WHITE" : Str),
  ("Reader" : Str),
  ("number_in" : Str),
  ("kind_from" : Str),
  ("leaf_from" : Str),
  ("part_from" : Str)]
def loose1 : List Str := [("read" : Str),
  ("_law_cell" : Str),
  ("_law_drawn" : Str),
  ("_law_alone" : Str),
  ("_law_place" : Str)]
def loose : List Str := loose0 ++ loose1
theorem par0 : AllP ent0 := ⟨fun x ql b sc kV doc pm an cdv ct us hl => (match us, hl with | [_], _ => rfl),
  fun x ql b sc kV doc pm an cdv ct us hl => (match us, hl with | [_], _ => rfl),
  fun x ql b sc kV doc pm an cdv ct us hl => (match us, hl with | [_], _ => rfl),
  fun x ql b sc kV doc pm an cdv ct us hl => (match us, hl with | [_, _], _ => rfl),
  fun x ql b sc kV doc pm an cdv ct us hl => (match us, hl with | [_], _ => rfl),
  fun x ql b sc kV doc pm an cdv ct us hl => (match us, hl with | [_, _], _ => rfl),
  fun x ql b sc kV doc pm an cdv ct us hl => (match us, hl with | [_], _ => rfl),
  fun x ql b sc kV doc pm an cdv ct us hl => (match us, hl with | [_, _], _ => rfl),
  fun x ql b sc kV doc pm an cdv ct us hl => (match us, hl with | [_, _], _ => rfl),
  fun x ql b sc kV doc pm an cdv ct us hl => (match us, hl with | [_], _ => rfl),
  fun x ql b sc kV doc pm an cdv ct us hl => (match us, hl with | [_], _ => rfl),
  fun x ql b sc kV doc pm an cdv ct us hl => (match us, hl with | [_], _ => rfl),
  fun x ql b sc kV doc pm an cdv ct us hl => (match us, hl with | [_, _], _ => rfl),
  fun x ql b sc kV doc pm an cdv ct us hl => (match us, hl with | [_], _ => rfl),
  fun x ql b sc kV doc pm an cdv ct us hl => (match us, hl with | [_], _ => rfl),
  fun x ql b sc kV doc pm an cdv ct us hl => (match us, hl with | [_, _], _ => rfl),
  fun x ql b sc kV doc pm an cdv ct us hl => (match us, hl with | [_], _ => rfl),
  fun x ql b sc kV doc pm an cdv ct us hl => (match us, hl with | [_], _ => rfl),
  fun x ql b sc kV doc pm an cdv ct us hl => (match us, hl with | [_], _ => rfl), trivial⟩
theorem par_ok : AllP ent := par0
theorem ini_ok : AllI ini := ⟨fun T x ql b sc kV doc pm an cdv ct us its h1 h2 => (match us, its, h1, h2 with | [_, _, _], [_], _, _ => ⟨_, rfl, rfl⟩), fun T x ql b sc kV doc pm an cdv ct us its h1 h2 => (match us, its, h1, h2 with | [_, _, _], [_], _, _ => ⟨_, rfl, rfl⟩), trivial⟩
theorem ini_ok2 : AllI2 ini := ⟨⟨fun T x ql b sc kV doc pm an cdv ct us its h1 h2 => (match us, its, h1, h2 with | [_, _], [_], _, _ => ⟨_, rfl, rfl⟩), fun K => rfl⟩, ⟨fun T x ql b sc kV doc pm an cdv ct us its h1 h2 => (match us, its, h1, h2 with | [_, _], [_], _, _ => ⟨_, rfl, rfl⟩), fun K => rfl⟩, trivial⟩
theorem ent_ok : (ent.all (entB gt (defsOf tab))) = true := by decide +kernel
theorem gt_ok : gtB gt ent tab = true := by decide +kernel
theorem ini_t : (ini.all iniT) = true := by decide +kernel
theorem ini_g : iniG gt ini = true := by decide +kernel
abbrev hk : PySem.W.Hook := hookOf gt ent ini
def ob (s : PySem.W.SharedT) : He.AlD × Bool := obsV gt ent ini (HandSHeadRun.getT s)
theorem ob_eq (s : PySem.W.SharedT) : ob s = hk.obs s.abs := obsV_eq (HandSHeadRun.getT_eq s)
abbrev lastQ : PySem.Program := PySem.W.view R.prog [39]
noncomputable def lastS (w : World) (os : OsState) : Option PySem.W.SharedT := HandSHeadRun.endF (HandSHeadRun.stepQ (HandSHeadRun.denQ HandSHeadRun.tabQ) R.prog w) 6000 R.prog w os
def lastK (s : PySem.W.SharedT) : PySem.W.Frag := He.frG (HandSHeadRun.getT s) (asV (HandSHeadRun.getT s))
theorem run_l (w : World) (os : OsState) : (lastS w os).map (fun s => (HandSHeadRun.looksF R.prog (PySem.W.boot_heap w.params) s.abs, HandSHeadRun.seenQ lastQ loose (importedModules R.prog.main.body) (fun s => PySem.W.xlAt lastQ [] s && PySem.W.recOk R.toRowW.records s) s.abs)) = some (true, PySem.W.openGood lastQ loose) := by kernel_rfl
theorem run_1 (w : World) (os : OsState) : (lastS w os).map (fun s => ((faOf gt).all fun f => f.ok (lastK s), exB2 gt ini (lastK s))) = some (true, true) := by kernel_rfl
theorem run_2 (w : World) (os : OsState) : (lastS w os).map (fun s => (fnsOf ent ini).all fun d => d.ok (lastK s)) = some true := by kernel_rfl
theorem run_3 (w : World) (os : OsState) : (lastS w os).map (fun s => (fnsOf ent ini).map fun d => He.fnW (lastK s) d.at_) = some ((fnsOf ent ini).map He.DefD.val) := by kernel_rfl
theorem four {α β γ : Type} {o : Option α} {l a b d : α → Bool} {s : α → β} {c : α → γ} {sv : β} {cv : γ} (h1 : o.map (fun x => (l x, s x)) = some (true, sv)) (h2 : o.map (fun x => (a x, d x)) = some (true, true)) (h3 : o.map b = some true) (h4 : o.map c = some cv) :
    o.map (fun x => (l x, s x, ((a x && b x, c x), d x))) = some (true, sv, ((true, cv), true)) := by
  cases o with
  | none => cases h3
  | some x =>
    simp only [Option.map_some, Option.some.injEq, Prod.mk.injEq] at h1 h2 h3 h4 ⊢
    rw [h1.1, h1.2, h2.1, h2.2, h3, h4]; exact ⟨rfl, rfl, ⟨rfl, rfl⟩, rfl⟩
theorem run_top (w : World) : HandSHeadRun.RunEq R lastQ hk ob 6000 loose w := fun os => four (run_l w os) (run_1 w os) (run_2 w os) (run_3 w os)
def entL : Ent := (entOf ent 191).getD ⟨0, ("", none), "", "", noStmt, [], 0⟩
end IvLaw
open PySem PySem.W PySem.Calls PyProof.Rows
theorem the_end (hrun : ∀ ns : List Int, ns.length ≤ 63 → ∃ st, Iv.run (Iv.defsOf IvLaw.tab) 688 191 [.scr ns] [] = .ok (.bl true) st) : PySem.Challenge.rw_plainspeak_k10_refusals_apart.Holds := by
  w_on; o_law
  refine HandSHeadRun.head_any (r := OpenLaw.row PySem.Challenge.rw_plainspeak_k10_refusals_apart) (q := view (OpenLaw.row PySem.Challenge.rw_plainspeak_k10_refusals_apart).prog [39]) (H := IvLaw.hk) (ob := IvLaw.ob) (M := 6000) (loose := IvLaw.loose) (d := HandSHeadRun.topDef (OpenLaw.row PySem.Challenge.rw_plainspeak_k10_refusals_apart).prog 39) (kwd := []) IvLaw.ob_eq
    (by kernel_rfl) (fun s => by kernel_rfl) IvLaw.run_top (by kernel_rfl) (by kernel_rfl) (by kernel_rfl) (by rfl) (by first | assumption | decide +kernel) (by decide +kernel) ⟨rfl, rfl, rfl, rfl, rfl, by decide +kernel⟩ ?hw ?hc
  case hw => w_witness2
  case hc => exact Iv.walk_law (L := 191) (e := IvLaw.entL) (x := "_law_script") rfl (by kernel_rfl) ⟨rfl, by decide, by decide⟩ (by kernel_rfl) (by kernel_rfl) (by kernel_rfl) (by kernel_rfl) IvLaw.ent_ok IvLaw.gt_ok IvLaw.par_ok IvLaw.ini_t IvLaw.ini_g IvLaw.ini_ok hrun (fun _ => ⟨rfl, IvLaw.ini_ok2⟩)
end
section
set_option Elab.async false
set_option linter.all false
set_option maxRecDepth 100000
/-! operations on data of a known form, for simp -/
namespace Iv
@[simp] theorem line_val : line = 16777216 := rfl
@[simp] theorem opBin_add : opBin .add = opAdd := rfl
@[simp] theorem opBin_sub : opBin .sub = opSub := rfl
@[simp] theorem opBin_mul : opBin .mul = opMul := rfl
@[simp] theorem opBin_fdiv : opBin .fdiv = opFdiv := rfl
@[simp] theorem opBin_mod : opBin .mod = opMod := rfl
@[simp] theorem opBin_shl : opBin .shl = opShl := rfl
section
variable (st : Store)
@[simp] theorem opAdd_int (i j) : opAdd (.int i) (.int j) st = .ok (.int (i + j)) st := rfl
@[simp] theorem opSub_int (i j) : opSub (.int i) (.int j) st = .ok (.int (i - j)) st := rfl
theorem opAdd_str (a b) (h : a.length + b.length ≤ line) : opAdd (.str a) (.str b) st = .ok (.str (a ++ b)) st := by simp only [opAdd, if_pos h]
theorem opAdd_tup (a b) (h : a.length + b.length ≤ line) : opAdd (.tup a) (.tup b) st = .ok (.tup (a ++ b)) st := by simp only [opAdd, if_pos h]
theorem opAdd_lst (a b) (h : a.length + b.length ≤ line) : opAdd (.lst a) (.lst b) st = .ok (.lst (a ++ b)) st := by simp only [opAdd, asL, if_pos h]
theorem opMul_int (i j) (h : mulOk i j = true) : opMul (.int i) (.int j) st = .ok (.int (i * j)) st := by simp only [opMul, if_pos h]
theorem opMod_int (i j : Int) (h : 0 < j) : opMod (.int i) (.int j) st = .ok (.int (i % j)) st := by simp only [opMod, if_pos h]
theorem opFdiv_int (i j : Int) (h : 0 < j) (h2 : j.natAbs.log2 < 9000) : opFdiv (.int i) (.int j) st = .ok (.int (i / j)) st := by
  have : j ≠ 0 := by omega
  simp only [opFdiv, this, h2, h, if_true, ne_eq, not_false_eq_true, decide_true, Bool.and_self]
def rOpt (o : Option Bool) (st : Store) : Res D := match o with
  | some b => .ok (.bl b) st
  | none => .bad
@[simp] theorem rOpt_some (b : Bool) : rOpt (some b) st = .ok (.bl b) st := rfl
@[simp] theorem opCmp_eq (op x y) : opCmp op x y st = rOpt (cmpD op x y st) st := by unfold opCmp; cases cmpD op x y st <;> rfl
@[simp] theorem cmp_lt (i j) : cmpD .lt (.int i) (.int j) st = some (decide (i < j)) := rfl
@[simp] theorem cmp_le (i j) : cmpD .le (.int i) (.int j) st = some (decide (i ≤ j)) := rfl
@[simp] theorem cmp_gt (i j) : cmpD .gt (.int i) (.int j) st = some (decide (j < i)) := rfl
@[simp] theorem cmp_ge (i j) : cmpD .ge (.int i) (.int j) st = some (decide (j ≤ i)) := rfl
@[simp] theorem cmp_eq_str (a b) : cmpD .eq (.str a) (.str b) st = some (a == b) := rfl
@[simp] theorem cmp_ne_str (a b) : cmpD .ne (.str a) (.str b) st = some (!(a == b)) := rfl
@[simp] theorem cmp_eq_int (i j) : cmpD .eq (.int i) (.int j) st = some (i == j) := rfl
@[simp] theorem cmp_ne_int (i j) : cmpD .ne (.int i) (.int j) st = some (!(i == j)) := rfl
@[simp] theorem cmp_mem (x y) : cmpD .mem x y st = memD x y st := by cases x <;> cases y <;> rfl
@[simp] theorem cmp_nmem (x y) : cmpD .nmem x y st = (memD x y st).map not := by cases x <;> cases y <;> rfl
@[simp] theorem mem_tup (x ys) : memD x (.tup ys) st = inSeq x ys := by
  unfold memD; split <;> first | rfl | (rename_i h; cases h)
@[simp] theorem mem_lst (x ys) : memD x (.lst ys) st = inSeq x ys := by
  unfold memD; split <;> first | rfl | (rename_i h; cases h)
theorem inSeq_strs (a : List Nat) (l : List (List Nat)) : inSeq (.str a) (l.map .str) = some (l.contains a) := by
  have h : (l.map D.str).all D.flat = true := by simp [List.all_eq_true, D.flat]
  simp only [inSeq, D.flat, h, Bool.and_self, if_true]
  congr 1
  induction l with
  | nil => rfl
  | cons x l ih => simp only [List.map_cons, List.any_cons, List.contains_cons, D.eqv]; rw [ih (by simp [List.all_eq_true, D.flat])]; congr 1; exact Bool.beq_comm ..
def strsL : List D → Option (List (List Nat)) := strsOf
@[simp] theorem strsOf_nil : strsOf [] = some [] := rfl
@[simp] theorem strsOf_cons (a : List Nat) (r : List D) : strsOf (.str a :: r) = (strsOf r).map (a :: ·) := rfl
theorem strsOf_map (l : List (List Nat)) : strsOf (l.map .str) = some l := by
  induction l with
  | nil => rfl
  | cons a l ih => simp [ih]
theorem strsOf_some {l : List D} {z : List (List Nat)} (h : strsOf l = some z) : l = z.map .str := by
  induction l generalizing z with
  | nil => cases h; rfl
  | cons a l ih =>
    cases a <;> try (cases h; done)
    simp only [strsOf_cons, Option.map_eq_some_iff] at h
    obtain ⟨y, hy, rfl⟩ := h
    simp [ih hy]
theorem inSeq_str {ys : List D} {l : List (List Nat)} (a : List Nat) (h : strsOf ys = some l) : inSeq (.str a) ys = some (decide (a ∈ l)) := by
  rw [strsOf_some h, inSeq_strs, List.contains_eq_mem]
@[simp] theorem opIdx_tup (ds i) : opIdx (.tup ds) (.int i) st = Res.opt (atI ds i) st := rfl
@[simp] theorem opIdx_lst (ds i) : opIdx (.lst ds) (.int i) st = Res.opt (atI ds i) st := rfl
@[simp] theorem opIdx_dctI (kv) (k : Int) : opIdx (.dct kv) (.int k) st = Res.opt (lookK kv (.inl k)) st := rfl
@[simp] theorem opIdx_dctS (kv) (k : List Nat) : opIdx (.dct kv) (.str k) st = Res.opt (lookK kv (.inr k)) st := rfl
@[simp] theorem keyOf_int (i : Int) : keyOf (.int i) = some (.inl i) := rfl
@[simp] theorem keyOf_str (i : List Nat) : keyOf (.str i) = some (.inr i) := rfl
@[simp] theorem opUn_isStr : opUn .isStr = opIsStr := rfl
@[simp] theorem opUn_len : opUn .len = opLen := rfl
@[simp] theorem opUn_int : opUn .int = opInt := rfl
@[simp] theorem opUn_str : opUn .str = opStr := rfl
@[simp] theorem opUn_abs : opUn .abs = opAbs := rfl
@[simp] theorem opUn_tuple : opUn .tuple = opTuple := rfl
@[simp] theorem opUn_lof : opUn .lof = opLof := rfl
@[simp] theorem opUn_isTup : opUn .isTup = opIsTup := rfl
@[simp] theorem opUn_isLst : opUn .isLst = opIsLst := rfl
@[simp] theorem opUn_all : opUn .all = opAll := rfl
@[simp] theorem opUn_max : opUn .max = opMax := rfl
@[simp] theorem opUn_sum : opUn .sum = opSum := rfl
@[simp] theorem opUn_pop : opUn .pop = opPop := rfl
@[simp] theorem opIsStr_str (s) : opIsStr (.str s) st = .ok (.bl true) st := rfl
@[simp] theorem opIsStr_tup (s) : opIsStr (.tup s) st = .ok (.bl false) st := rfl
@[simp] theorem opLen_tup (ds) : opLen (.tup ds) st = .ok (.int ds.length) st := rfl
@[simp] theorem opLen_lst (ds) : opLen (.lst ds) st = .ok (.int ds.length) st := rfl
@[simp] theorem opInt_bl (b) : opInt (.bl b) st = .ok (.int (if b then 1 else 0)) st := rfl
@[simp] theorem opInt_int (b) : opInt (.int b) st = .ok (.int b) st := rfl
@[simp] theorem opLof_tup (ds) : opLof (.tup ds) st = .ok (.lst ds) st := rfl
@[simp] theorem opLof_lst (ds) : opLof (.lst ds) st = .ok (.lst ds) st := rfl
@[simp] theorem opTuple_tup (ds) : opTuple (.tup ds) st = .ok (.tup ds) st := rfl
@[simp] theorem opTuple_lst (ds) : opTuple (.lst ds) st = .ok (.tup ds) st := rfl
end
@[simp] theorem opCut_tup (ds : List D) (lo hi) (st : Store) : opCut (.tup ds) lo hi st = .ok (.tup (cut ds lo hi)) st := rfl
@[simp] theorem opCut_lst (ds : List D) (lo hi) (st : Store) : opCut (.lst ds) lo hi st = .ok (.lst (cut ds lo hi)) st := rfl
@[simp] theorem cut_1 {α : Type} (a : α) (l : List α) : cut (a :: l) (some 1) none = l := by
  simp [cut, sIx]
theorem cut_from {α : Type} (l : List α) (n : Nat) : cut l (some (n : Int)) none = l.drop n := by
  simp only [cut, sIx]
  rw [if_neg (by omega), Int.toNat_natCast, List.take_of_length_le (by simp)]
  by_cases h : n ≤ l.length
  · rw [Nat.min_eq_left h]
  · rw [Nat.min_eq_right (by omega), List.drop_length, List.drop_eq_nil_of_le (by omega)]
theorem cut_nat {α : Type} (l : List α) (n m : Nat) : cut l (some (n : Int)) (some (m : Int)) = (l.drop n).take (m - n) := by
  simp only [cut, sIx]
  rw [if_neg (by omega), if_neg (by omega), Int.toNat_natCast, Int.toNat_natCast]
  by_cases h : n ≤ l.length
  · rw [Nat.min_eq_left h]
    by_cases h2 : m ≤ l.length
    · rw [Nat.min_eq_left h2]
    · rw [Nat.min_eq_right (a := m) (by omega), List.take_of_length_le (by simp), List.take_of_length_le (by simp; omega)]
  · rw [Nat.min_eq_right (a := n) (by omega), List.drop_length, List.drop_eq_nil_of_le (by omega)]; simp
theorem cut_to {α : Type} (l : List α) (m : Nat) : cut l none (some (m : Int)) = l.take m := by
  have := cut_nat l 0 m
  simpa [cut, sIx] using this
@[simp] theorem atI_zero {α : Type} (a : α) (l : List α) : atI (a :: l) 0 = some a := by simp [atI, ixN]
theorem atI_succ {α : Type} (a : α) (l : List α) (n : Nat) : atI (a :: l) ((n : Int) + 1) = atI l n := by
  simp only [atI, ixN]
  have h1 : (0 : Int) ≤ (n : Int) + 1 := by omega
  have h2 : (0 : Int) ≤ (n : Int) := by omega
  simp only [h1, h2, if_true, List.length_cons]
  by_cases h : n < l.length
  · have h3 : (n : Int) + 1 < ((l.length + 1 : Nat) : Int) := by omega
    have h4 : (n : Int) < (l.length : Int) := by omega
    have h5 : ((n : Int) + 1).toNat = n + 1 := by omega
    simp only [h3, h4, if_true, Option.bind_some, h5, Int.toNat_natCast, List.getElem?_cons_succ]
  · have h3 : ¬ (n : Int) + 1 < ((l.length + 1 : Nat) : Int) := by omega
    have h4 : ¬ (n : Int) < (l.length : Int) := by omega
    simp only [h3, h4, if_false, Option.bind_none]
@[simp] theorem atI_1 {α : Type} (a b : α) (l : List α) : atI (a :: b :: l) 1 = some b := by
  rw [show (1 : Int) = ((0 : Nat) : Int) + 1 from rfl, atI_succ]; exact atI_zero b l
@[simp] theorem atI_2 {α : Type} (a b c : α) (l : List α) : atI (a :: b :: c :: l) 2 = some c := by
  rw [show (2 : Int) = ((1 : Nat) : Int) + 1 from rfl, atI_succ]; exact atI_1 b c l
@[simp] theorem atI_3 {α : Type} (a b c d : α) (l : List α) : atI (a :: b :: c :: d :: l) 3 = some d := by
  rw [show (3 : Int) = ((2 : Nat) : Int) + 1 from rfl, atI_succ]; exact atI_2 b c d l
@[simp] theorem atI_4 {α : Type} (a b c d e : α) (l : List α) : atI (a :: b :: c :: d :: e :: l) 4 = some e := by
  rw [show (4 : Int) = ((3 : Nat) : Int) + 1 from rfl, atI_succ]; exact atI_3 b c d e l
@[simp] theorem atI_5 {α : Type} (a b c d e f : α) (l : List α) : atI (a :: b :: c :: d :: e :: f :: l) 5 = some f := by
  rw [show (5 : Int) = ((4 : Nat) : Int) + 1 from rfl, atI_succ]; exact atI_4 b c d e f l
theorem atI_nat {α : Type} (l : List α) (n : Nat) : atI l (n : Int) = l[n]? := by
  simp only [atI, ixN]
  have h2 : (0 : Int) ≤ (n : Int) := by omega
  simp only [h2, if_true]
  by_cases h : n < l.length
  · have h4 : (n : Int) < (l.length : Int) := by omega
    simp only [h4, if_true, Option.bind_some, Int.toNat_natCast]
  · have h4 : ¬ (n : Int) < (l.length : Int) := by omega
    simp only [h4, if_false, Option.bind_none]
    rw [List.getElem?_eq_none (by omega)]
end Iv
end
section
set_option Elab.async false
set_option linter.all false
set_option maxRecDepth 100000
/-! loops over what is walked item by item -/
namespace Iv
def forK (go : Env → Store → Out) (r : Out) : Out := match r with
  | .nx env st => go env st
  | .ct env st => go env st
  | .bk env st => .nx env st
  | r => r
@[simp] theorem forK_nx (go env st) : forK go (.nx env st) = go env st := rfl
@[simp] theorem forK_ct (go env st) : forK go (.ct env st) = go env st := rfl
@[simp] theorem forK_bk (go env st) : forK go (.bk env st) = .nx env st := rfl
@[simp] theorem forK_rt (go d st) : forK go (.rt d st) = .rt d st := rfl
@[simp] theorem forK_exn (go x env st) : forK go (.exn x env st) = .exn x env st := rfl
@[simp] theorem forK_bad (go) : forK go .bad = .bad := rfl
def forB (b : Env → Store → Out) (go : Env → Store → Out) (st : Store) (o : Option Env) : Out := match o with
  | none => .bad
  | some env => forK go (b env st)
@[simp] theorem forB_some (b go st env) : forB b go st (some env) = forK go (b env st) := rfl
def forD (tg : List Nat) (b : Env → Store → Out) : List D → Env → Store → Out
  | [], env, st => .nx env st
  | d :: r, env, st => forB b (forD tg b r) st (bindT tg d env)
@[simp] theorem forD_nil (tg b env st) : forD tg b [] env st = .nx env st := rfl
@[simp] theorem forD_cons (tg b d r env st) : forD tg b (d :: r) env st = forB b (forD tg b r) st (bindT tg d env) := rfl
theorem forL_items (tg : List Nat) (b : Env → Store → Out) (ds : List D) (n i : Nat) (env : Env) (st : Store) (h : ds.length < i + n) (h2 : i ≤ ds.length) :
    forL tg (.items ds) b n i env st = forD tg b (ds.drop i) env st := by
  induction n generalizing i env st with
  | zero => 
    omega
  | succ n ih =>
    unfold forL
    by_cases hi : i < ds.length
    · rw [List.drop_eq_getElem_cons hi]
      simp only [Src.get, List.getElem?_eq_getElem hi, forD_cons]
      cases bindT tg ds[i] env with
      | none => rfl
      | some env1 =>
        simp only [forB_some]
        cases b env1 st <;> simp only [forK_nx, forK_ct, forK_bk, forK_rt, forK_exn, forK_bad] <;> exact ih _ _ _ (by omega) (by omega)
    · rw [List.drop_eq_nil_of_le (by omega)]
      simp only [Src.get]
      rw [List.getElem?_eq_none (by omega)]
      rfl
def compB (cond : Env → Store → Res Bool) (elt : Env → Store → Res D) (go : Store → List D → Res D) (acc : List D) (st : Store) (o : Option Env) : Res D := match o with
  | none => .bad
  | some env1 => (cond env1 st).bind fun b st1 => match b with
        | true => (elt env1 st1).bind fun x st2 => if acc.length < line then go st2 (acc ++ [x]) else .bad
        | false => go st1 acc
def compD (tg : List Nat) (cond : Env → Store → Res Bool) (elt : Env → Store → Res D) (env : Env) : List D → Store → List D → Res D
  | [], st, acc => .ok (.lst acc) st
  | d :: r, st, acc => compB cond elt (compD tg cond elt env r) acc st (bindT tg d env)
theorem compL_items (tg : List Nat) (cond : Env → Store → Res Bool) (elt : Env → Store → Res D) (env : Env) (ds : List D) (n i : Nat) (st : Store) (acc : List D) (h : ds.length < i + n) (h2 : i ≤ ds.length) :
    compL tg cond elt env (.items ds) n i st acc = compD tg cond elt env (ds.drop i) st acc := by
  induction n generalizing i st acc with
  | zero => omega
  | succ n ih =>
    unfold compL
    by_cases hi : i < ds.length
    · rw [List.drop_eq_getElem_cons hi]
      simp only [Src.get, List.getElem?_eq_getElem hi, compD]
      cases bindT tg ds[i] env with
      | none => rfl
      | some env1 =>
        simp only [compB]
        congr 1; funext b st1; cases b
        · exact ih _ _ _ (by omega) (by omega)
        · simp only
          congr 1; funext x st2
          split
          · exact ih _ _ _ (by omega) (by omega)
          · rfl
    · rw [List.drop_eq_nil_of_le (by omega)]
      simp only [Src.get]
      rw [List.getElem?_eq_none (by omega)]
      rfl
/-- a comprehension whose turns change nothing -/
theorem compD_pure {α : Type} (tg : List Nat) (cond : Env → Store → Res Bool) (elt : Env → Store → Res D) (env : Env) (g : α → D) (p : α → Bool) (f : α → D) (xs : List α) (st : Store) (acc : List D)
    (hb : ∀ x ∈ xs, ∃ e, bindT tg (g x) env = some e ∧ cond e st = .ok (p x) st ∧ (p x = true → elt e st = .ok (f x) st)) (hl : acc.length + xs.length ≤ line) :
    compD tg cond elt env (xs.map g) st acc = .ok (.lst (acc ++ (xs.filter p).map f)) st := by
  induction xs generalizing acc with
  | nil => simp [compD]
  | cons x xs ih =>
    obtain ⟨e, h1, h2, h3⟩ := hb x (by simp)
    simp only [List.length_cons] at hl
    simp only [List.map_cons, compD, h1, compB, h2, Res.bind_ok]
    cases hp : p x with
    | false =>
      simp only
      rw [ih acc (fun y hy => hb y (by simp [hy])) (by omega)]
      simp [List.filter_cons, hp]
    | true =>
      simp only [h3 hp, Res.bind_ok]
      rw [if_pos (by omega), ih (acc ++ [f x]) (fun y hy => hb y (by simp [hy])) (by simp only [List.length_append, List.length_cons, List.length_nil]; omega)]
      simp [List.filter_cons, hp]
/-- .. without a condition -/
theorem compD_map {α : Type} (tg : List Nat) (elt : Env → Store → Res D) (cs : Calls) (env : Env) (g : α → D) (f : α → D) (xs : List α) (st : Store)
    (hb : ∀ x ∈ xs, ∃ e, bindT tg (g x) env = some e ∧ elt e st = .ok (f x) st) (hl : xs.length ≤ line) :
    noexn (compD tg (evalC cs []) elt env (xs.map g) st []) = .ok (.lst (xs.map f)) st := by
  rw [compD_pure tg _ elt env g (fun _ => true) f xs st [] (fun x hx => by obtain ⟨e, h1, h2⟩ := hb x hx; exact ⟨e, h1, evc_nil _ _ _, fun _ => h2⟩) (by simpa using hl)]
  have : xs.filter (fun _ => true) = xs := by induction xs <;> simp_all
  simp [noexn, this]
@[simp] theorem mkSrc_seq_lst (ds) : mkSrc .seq [.lst ds] = some (.items ds) := rfl
@[simp] theorem mkSrc_seq_tup (ds) : mkSrc .seq [.tup ds] = some (.items ds) := rfl
@[simp] theorem mkSrc_seq_scr (ds) : mkSrc .seq [.scr ds] = some (.items (ds.map .int)) := rfl
@[simp] theorem mkSrc_str (s) : mkSrc .str [.str s] = some (.items (s.map fun c => .str [c])) := rfl
@[simp] theorem mkSrc_rev (ds) : mkSrc .rev [.lst ds] = some (.items ds.reverse) := rfl
theorem mkSrc_r1 (j : Int) (h : smallI j = true) : mkSrc .rng1 [.int j] = some (.items ((List.range j.toNat).map fun (i : Nat) => .int (i : Int))) := by
  simp only [mkSrc, src1, srcR1, h, if_true]
theorem mkSrc_r2 (a b : Int) (h : smallI a = true) (h2 : smallI b = true) : mkSrc .rng2 [.int a, .int b] = some (.items ((List.range (b - a).toNat).map fun (i : Nat) => .int (a + (i : Int)))) := by
  simp only [mkSrc, src2, srcR2, h, h2, Bool.and_self, if_true]
theorem mkSrc_r3d (a b : Int) (h : smallI a = true) (h2 : smallI b = true) : mkSrc .rng3 [.int a, .int b, .int (-1)] = some (.items ((List.range (a - b).toNat).map fun (i : Nat) => .int (a - (i : Int)))) := by
  simp only [mkSrc, src3, srcR3, h, h2, Bool.and_self, if_true]
theorem mkSrc_r3u (a b : Int) (h : smallI a = true) (h2 : smallI b = true) : mkSrc .rng3 [.int a, .int b, .int 2] = some (.items ((List.range ((b - a + 1) / 2).toNat).map fun (i : Nat) => .int (a + (i : Int) * 2))) := by
  simp only [mkSrc, src3, srcR3, h, h2, Bool.and_self, if_true]; rfl
theorem oFor_items (cs : Calls) (env : Env) (tg : List Nat) (k : IK) (b : List S) (as ds : List D) (st : Store) (h : mkSrc k as = some (.items ds)) (hl : ds.length < LF) :
    oFor cs env tg k b as st = forD tg (execL cs b) ds env st := by
  simp only [oFor, h]
  rw [forL_items _ _ _ _ _ _ _ (by omega) (by omega), List.drop_zero]
theorem kComp_items (cs : Calls) (env : Env) (elt : E) (tg : List Nat) (k : IK) (cond : List E) (as ds : List D) (st : Store) (h : mkSrc k as = some (.items ds)) (hl : ds.length < LF) :
    kComp cs env elt tg k cond as st = noexn (compD tg (evalC cs cond) (evalE cs elt) (wipeE env tg) ds st []) := by
  simp only [kComp, h]
  rw [compL_items _ _ _ _ _ _ _ _ _ (by omega) (by omega), List.drop_zero]
@[simp] theorem bindT_one (i : Nat) (d : D) (env : Env) : bindT [i] d env = some (env.set i (.val d)) := rfl
@[simp] theorem bindT_two (i j : Nat) (d e : D) (env : Env) : bindT [i, j] (.tup [d, e]) env = some ((env.set i (.val d)).set j (.val e)) := rfl
@[simp] theorem wipeE_one (i : Nat) (env : Env) : wipeE env [i] = env.set i .none := rfl
@[simp] theorem wipeE_two (i j : Nat) (env : Env) : wipeE env [i, j] = (env.set j .none).set i .none := rfl
end Iv
end
section
set_option Elab.async false
set_option linter.all false
set_option maxRecDepth 100000
/-! loops by what each turn does -/
namespace Iv
theorem compL_seq (tg : List Nat) (cond : Env → Store → Res Bool) (elt : Env → Store → Res D) (env : Env) (src : Src) (len : Nat) (stf : Nat → Store) (xf : Nat → D) (df : Nat → D) (ef : Nat → Env)
    (h : ∀ i, i < len → src.get i (stf i) = some (some (df i)) ∧ bindT tg (df i) env = some (ef i) ∧ cond (ef i) (stf i) = .ok true (stf i) ∧ elt (ef i) (stf i) = .ok (xf i) (stf (i + 1)))
    (hend : src.get len (stf len) = some none) (hl : len ≤ line) : ∀ (k i n : Nat), i + k = len → k < n →
    compL tg cond elt env src n i (stf i) ((List.range i).map xf) = .ok (.lst ((List.range len).map xf)) (stf len) := by
  intro k
  induction k with
  | zero =>
    intro i n hi hn
    obtain ⟨n, rfl⟩ : ∃ m, n = m + 1 := ⟨n - 1, by omega⟩
    have : i = len := by omega
    subst this
    rw [compL, hend]
  | succ k ih =>
    intro i n hi hn
    obtain ⟨n, rfl⟩ : ∃ m, n = m + 1 := ⟨n - 1, by omega⟩
    obtain ⟨h1, h2, h3, h4⟩ := h i (by omega)
    rw [compL, h1]
    simp only [h2, h3, Res.bind_ok, h4]
    rw [if_pos (by simp only [List.length_map, List.length_range]; omega)]
    have := ih (i + 1) n (by omega) (by omega)
    rw [List.range_succ, List.map_append] at this
    exact this
/-- a comprehension over a list of the store whose turns change nothing -/
theorem compL_cell {α : Type} (cs : Calls) (tg : List Nat) (elt : E) (env : Env) (r : Nat) (st : Store) (xs : List α) (g f : α → D) (hr : st[r]? = some (.lst (xs.map g)))
    (hb : ∀ x ∈ xs, ∃ e, bindT tg (g x) env = some e ∧ evalE cs elt e st = .ok (f x) st) (hl : xs.length < 900000) :
    noexn (compL tg (evalC cs []) (evalE cs elt) env (.cell r) LF 0 st []) = .ok (.lst (xs.map f)) st := by
  have key := compL_seq tg (evalC cs []) (evalE cs elt) env (.cell r) xs.length (fun _ => st) (fun i => (xs.map f).getD i .non) (fun i => (xs.map g).getD i .non) (fun i => (bindT tg ((xs.map g).getD i .non) env).getD [])
    (fun i hi => by
      obtain ⟨e, h1, h2⟩ := hb _ (List.getElem_mem hi)
      have g1 : (xs.map g).getD i .non = g xs[i] := by simp [hi]
      have g2 : (xs.map f).getD i .non = f xs[i] := by simp [hi]
      refine ⟨?_, ?_, evc_nil _ _ _, ?_⟩
      · simp only [Src.get, hr, g1]; simp [hi]
      · rw [g1, h1]; rfl
      · rw [g1, g2, h1]; exact h2)
    (by simp only [Src.get, hr]; rw [List.getElem?_eq_none (by simp)]) (by simp only [line]; omega) xs.length 0 LF (by omega) (by simp only [LF]; omega)
  have e : (List.range xs.length).map (fun i => (xs.map f).getD i .non) = xs.map f := by
    apply List.ext_getElem
    · simp
    · intro i h1 h2
      simp at h1 h2
      simp [h1]
  rw [show (List.map (fun i => (xs.map f).getD i .non) (List.range 0)) = [] from rfl, e] at key
  rw [key]; rfl
/-- a loop by an invariant -/
theorem forL_inv (tg : List Nat) (b : Env → Store → Out) (src : Src) (ds : List D) (I : Nat → Env → Store → Prop) (hg : ∀ i env st, I i env st → src.get i st = some ds[i]?)
    (hs : ∀ i (hi : i < ds.length) env st, I i env st → ∃ env1, bindT tg ds[i] env = some env1 ∧ ∃ env' st', (b env1 st = .nx env' st' ∨ b env1 st = .ct env' st') ∧ I (i + 1) env' st') :
    ∀ (k i n : Nat) (env : Env) (st : Store), i + k = ds.length → k < n → I i env st → ∃ env' st', forL tg src b n i env st = .nx env' st' ∧ I ds.length env' st' := by
  intro k
  induction k with
  | zero =>
    intro i n env st hi hn h
    obtain ⟨n, rfl⟩ : ∃ m, n = m + 1 := ⟨n - 1, by omega⟩
    have : i = ds.length := by omega
    subst this
    refine ⟨env, st, ?_, h⟩
    rw [forL, hg _ _ _ h, List.getElem?_eq_none (Nat.le_refl _)]
  | succ k ih =>
    intro i n env st hi hn h
    obtain ⟨n, rfl⟩ : ∃ m, n = m + 1 := ⟨n - 1, by omega⟩
    obtain ⟨e, h2, env', st', h3, h4⟩ := hs i (by omega) env st h
    obtain ⟨env2, st2, h5, h6⟩ := ih (i + 1) n env' st' (by omega) (by omega) h4
    refine ⟨env2, st2, ?_, h6⟩
    rw [forL, hg _ _ _ h, List.getElem?_eq_getElem (by omega)]
    rcases h3 with h3 | h3 <;> simp only [h2, h3] <;> exact h5
theorem oFor_inv (cs : Calls) (env : Env) (tg : List Nat) (k : IK) (b : List S) (as : List D) (st : Store) (src : Src) (ds : List D) (I : Nat → Env → Store → Prop) (hm : mkSrc k as = some src) (hl : ds.length < 900000) (hg : ∀ i env st, I i env st → src.get i st = some ds[i]?)
    (hs : ∀ i (hi : i < ds.length) env st, I i env st → ∃ env1, bindT tg ds[i] env = some env1 ∧ ∃ env' st', (execL cs b env1 st = .nx env' st' ∨ execL cs b env1 st = .ct env' st') ∧ I (i + 1) env' st') (h0 : I 0 env st) :
    ∃ env' st', oFor cs env tg k b as st = .nx env' st' ∧ I ds.length env' st' := by
  simp only [oFor, hm]
  exact forL_inv tg _ src ds I hg hs ds.length 0 LF env st (by omega) (by simp only [LF]; omega) h0
end Iv
end
section
set_option Elab.async false
set_option linter.all false
/-! Plainspeak in plain Lean: kinds, parts, kinds that fit, names of outside, resolved parts, code. -/
namespace Pl
abbrev Nm := List Nat
inductive K where
  | int
  | bool
  | list (k : K)
  | pair (k l : K)
  | fn (k l : K)
deriving DecidableEq
inductive W1 where
  | head | tail | empty | first | second | not
deriving DecidableEq
inductive W2 where
  | cons | pair | call | plus | minus | times | over | rest | less | same | and | or
deriving DecidableEq
inductive P where
  | num (i : Int)
  | truth (b : Bool)
  | name (x : Nm)
  | nil (k : K)
  | one (w : W1) (p : P)
  | two (w : W2) (p q : P)
  | ite (c a b : P)
  | letp (x : Nm) (a b : P)
  | fn (x : Nm) (k : K) (b : P)
  | recf (f x : Nm) (k l : K) (b : P)
deriving DecidableEq
/-! ### kinds that fit -/
inductive KR where
  | ok (k : K)
  | unfit
  | noname (x : Nm)
def KR.bind (r : KR) (f : K → KR) : KR :=
  match r with
  | .ok k => f k
  | .unfit => .unfit
  | .noname x => .noname x
@[simp] theorem KR.bind_ok (k : K) (f : K → KR) : (KR.ok k).bind f = f k := rfl
@[simp] theorem KR.bind_unfit (f : K → KR) : KR.unfit.bind f = .unfit := rfl
@[simp] theorem KR.bind_noname (x : Nm) (f : K → KR) : (KR.noname x).bind f = .noname x := rfl
theorem KR.bind_eq_ok {r : KR} {f : K → KR} {k : K} : r.bind f = .ok k ↔ ∃ l, r = .ok l ∧ f l = .ok k := by
  cases r <;> simp
abbrev Sc := List (Nm × K)
/-- the innermost binding -/
def look (sc : Sc) (x : Nm) : Option K := (sc.reverse.find? fun p => p.1 == x).map (·.2)
def need (k d : K) (r : KR) : KR := if k = d then r else .unfit
def kin1 (w : W1) (k : K) : KR :=
  match w, k with
  | .not, .bool => .ok .bool
  | .first, .pair a _ => .ok a
  | .second, .pair _ b => .ok b
  | .head, .list a => .ok a
  | .tail, .list a => .ok (.list a)
  | .empty, .list _ => .ok .bool
  | _, _ => .unfit
def kin2 (w : W2) (k l : K) : KR :=
  match w with
  | .pair => .ok (.pair k l)
  | .cons => if l = .list k then .ok l else .unfit
  | .call => match k with
    | .fn a b => if l = a then .ok b else .unfit
    | _ => .unfit
  | .and => if k = .bool ∧ l = .bool then .ok .bool else .unfit
  | .or => if k = .bool ∧ l = .bool then .ok .bool else .unfit
  | .less => if k = .int ∧ l = .int then .ok .bool else .unfit
  | .same => if k = .int ∧ l = .int then .ok .bool else .unfit
  | _ => if k = .int ∧ l = .int then .ok .int else .unfit
def kin : P → Sc → KR
  | .num _, _ => .ok .int
  | .truth _, _ => .ok .bool
  | .name x, sc => match look sc x with
    | some k => .ok k
    | none => .noname x
  | .nil k, _ => .ok (.list k)
  | .one w p, sc => (kin p sc).bind fun k => kin1 w k
  | .two w p q, sc => (kin p sc).bind fun k => (kin q sc).bind fun l => kin2 w k l
  | .ite c a b, sc => (kin c sc).bind fun k => (kin a sc).bind fun l => (kin b sc).bind fun m => if k = .bool ∧ m = l then .ok l else .unfit
  | .letp x a b, sc => (kin a sc).bind fun k => kin b (sc ++ [(x, k)])
  | .fn x k b, sc => (kin b (sc ++ [(x, k)])).bind fun l => .ok (.fn k l)
  | .recf f x k l b, sc => (kin b (sc ++ [(f, .fn k l), (x, k)])).bind fun m => if m = l then .ok (.fn k l) else .unfit
/-! ### names of outside, code -/
def joined (a b : List Nm) : List Nm := a ++ b.filter fun x => !decide (x ∈ a)
def outs : P → List Nm → List Nm
  | .num _, _ => []
  | .truth _, _ => []
  | .name x, bd => if x ∈ bd then [] else [x]
  | .nil _, _ => []
  | .one _ p, bd => joined [] (outs p bd)
  | .two _ p q, bd => joined (joined [] (outs p bd)) (outs q bd)
  | .ite c a b, bd => joined (joined (joined [] (outs c bd)) (outs a bd)) (outs b bd)
  | .letp x a b, bd => joined (outs a bd) (outs b (bd ++ [x]))
  | .fn x _ b, bd => outs b (bd ++ [x])
  | .recf f x _ _ b, bd => outs b (bd ++ [f, x])
inductive R where
  | num (i : Int)
  | truth (b : Bool)
  | nil
  | load (i : Nat)
  | one (w : W1) (r : R)
  | two (w : W2) (r s : R)
  | ite (c a b : R)
  | letr (a b : R)
  | make (sl : List Nat) (rc : Bool) (b : R)
/-- the innermost place -/
def slot (x : Nm) (sc : List Nm) : Nat := sc.length - 1 - (sc.reverse.idxOf x)
def rs : P → List Nm → R
  | .num i, _ => .num i
  | .truth b, _ => .truth b
  | .nil _, _ => .nil
  | .name x, sc => .load (slot x sc)
  | .one w p, sc => .one w (rs p sc)
  | .two w p q, sc => .two w (rs p sc) (rs q sc)
  | .ite c a b, sc => .ite (rs c sc) (rs a sc) (rs b sc)
  | .letp x a b, sc => .letr (rs a sc) (rs b (sc ++ [x]))
  | .fn x k b, sc => .make ((outs b [x]).map fun y => slot y sc) false (rs b (outs b [x] ++ [x]))
  | .recf f x k l b, sc => .make ((outs b [f, x]).map fun y => slot y sc) true (rs b (outs b [f, x] ++ [f, x]))
inductive Ins where
  | stop
  | num (i : Int)
  | truth (b : Bool)
  | nil
  | load (i : Nat)
  | bind
  | unbind
  | one (w : W1)
  | two (w : W2)
  | make (g : Nat) (sl : List Nat) (rc : Bool)
  | jump (a : Nat)
  | branch (a : Nat)
  | last
  | back
def bk (last : Bool) : List Ins := if last then [.back] else []
/-- the code of a part that begins at a place -/
def gen : R → Nat → Bool → List Ins
  | .num i, _, l => .num i :: bk l
  | .truth b, _, l => .truth b :: bk l
  | .nil, _, l => .nil :: bk l
  | .load i, _, l => .load i :: bk l
  | .one w r, n, l => gen r n false ++ (.one w :: bk l)
  | .two w r s, n, l =>
    let a := gen r n false
    match w with
    | .call => let b := gen s (n + a.length) false
      a ++ (b ++ [if l then .last else .two .call])
    | .and => let b := gen s (n + a.length + 1) l
      a ++ (.branch (n + a.length + 1 + b.length + 1) :: (b ++ (.jump (n + a.length + 1 + b.length + 1 + 1 + (bk l).length) :: .truth false :: bk l)))
    | .or => let b := gen s (n + a.length + 1 + 1 + (bk l).length + 1) l
      a ++ (.branch (n + a.length + 1 + 1 + (bk l).length + 1) :: .truth true :: (bk l ++ (.jump (n + a.length + 1 + 1 + (bk l).length + 1 + b.length) :: b)))
    | w => let b := gen s (n + a.length) false
      a ++ (b ++ (.two w :: bk l))
  | .ite c a b, n, l =>
    let x := gen c n false
    let y := gen a (n + x.length + 1) l
    let z := gen b (n + x.length + 1 + y.length + 1) l
    x ++ (.branch (n + x.length + 1 + y.length + 1) :: (y ++ (.jump (n + x.length + 1 + y.length + 1 + z.length) :: z)))
  | .letr a b, n, l =>
    let x := gen a n false
    let y := gen b (n + x.length + 1) l
    x ++ (.bind :: (y ++ if l then [] else [.unbind]))
  | .make sl rc b, n, l =>
    let y := gen b (n + 2) true
    .make (n + 2) sl rc :: .jump (n + 2 + y.length) :: (y ++ bk l)
def prog (p : P) : List Ins := .stop :: gen (rs p []) 1 true
/-! ### numbers -/
def wrap (n : Int) : Int := (n + 9223372036854775808) % 18446744073709551616 - 9223372036854775808
/-- over and rest -/
def quo (n m : Int) : Int := let q := (if n < 0 then -n else n) / (if m < 0 then -m else m); if (decide (n < 0)) != (decide (m < 0)) then 0 - q else q
/-! ### values, what a part comes to -/
inductive Trap where
  | nought | empty | deep
deriving DecidableEq
inductive V where
  | num (i : Int)
  | truth (b : Bool)
  | nil
  | cell (a b : V)
  | pair (a b : V)
  | clo (rc : Bool) (b : R) (held : List V)
inductive Oc where
  | val (v : V)
  | trap (t : Trap)
  | tired
  | bad
def V.nums : V → V → Option (Int × Int)
  | .num i, .num j => some (i, j)
  | _, _ => none
/-- what a word makes of two numbers -/
def sum2 (w : W2) (n m : Int) : Oc :=
  match w with
  | .plus => .val (.num (wrap (n + m)))
  | .minus => .val (.num (wrap (n - m)))
  | .times => .val (.num (wrap (n * m)))
  | .over => if m = 0 then .trap .nought else .val (.num (wrap (quo n m)))
  | .rest => if m = 0 then .trap .nought else .val (.num (wrap (n - quo n m * m)))
  | .less => .val (.truth (decide (n < m)))
  | .same => .val (.truth (decide (n = m)))
  | _ => .bad
def op1 (w : W1) (v : V) : Oc :=
  match w, v with
  | .head, .nil => .trap .empty
  | .tail, .nil => .trap .empty
  | .head, .cell a _ => .val a
  | .tail, .cell _ b => .val b
  | .empty, .nil => .val (.truth true)
  | .empty, .cell _ _ => .val (.truth false)
  | .first, .pair a _ => .val a
  | .second, .pair _ b => .val b
  | .not, .truth b => .val (.truth (!b))
  | _, _ => .bad
/-- what was left, how many were made -/
structure Ct where
  left : Nat
  made : Nat
def evb (r : Oc × Ct) (f : V → Ct → Oc × Ct) : Oc × Ct :=
  match r with
  | (.val v, c) => f v c
  | r => r
@[simp] theorem evb_val (v : V) (c : Ct) (f : V → Ct → Oc × Ct) : evb (.val v, c) f = f v c := rfl
@[simp] theorem evb_trap (t : Trap) (c : Ct) (f : V → Ct → Oc × Ct) : evb (.trap t, c) f = (.trap t, c) := rfl
@[simp] theorem evb_tired (c : Ct) (f : V → Ct → Oc × Ct) : evb (.tired, c) f = (.tired, c) := rfl
@[simp] theorem evb_bad (c : Ct) (f : V → Ct → Oc × Ct) : evb (.bad, c) f = (.bad, c) := rfl
/-- a part reckoned: env, how many pend, whether in last place; n: at least what is left -/
def ev : Nat → R → List V → Nat → Bool → Ct → Oc × Ct
  | 0, _, _, _, _, ct => (.tired, ct)
  | n + 1, r, env, pd, lt, ⟨left, made⟩ =>
    match left with
    | 0 => (.tired, ⟨0, made⟩)
    | left + 1 =>
      let ct : Ct := ⟨left, made⟩
      match r with
      | .num i => (.val (.num i), ct)
      | .truth b => (.val (.truth b), ct)
      | .nil => (.val .nil, ct)
      | .load i => match env[i]? with
        | some v => (.val v, ct)
        | none => (.bad, ct)
      | .one w r => evb (ev n r env pd false ct) fun v ct => (op1 w v, ct)
      | .two .cons r s => evb (ev n r env pd false ct) fun v ct => evb (ev n s env pd false ct) fun u ct => (.val (.cell v u), ⟨ct.left, ct.made + 1⟩)
      | .two .pair r s => evb (ev n r env pd false ct) fun v ct => evb (ev n s env pd false ct) fun u ct => (.val (.pair v u), ⟨ct.left, ct.made + 1⟩)
      | .two .and r s => evb (ev n r env pd false ct) fun v ct => match v with
        | .truth true => ev n s env pd lt ct
        | .truth false => (.val (.truth false), ct)
        | _ => (.bad, ct)
      | .two .or r s => evb (ev n r env pd false ct) fun v ct => match v with
        | .truth false => ev n s env pd lt ct
        | .truth true => (.val (.truth true), ct)
        | _ => (.bad, ct)
      | .two .call r s => evb (ev n r env pd false ct) fun v ct => evb (ev n s env pd false ct) fun u ct => match v with
        | .clo rc b held => if !lt && pd == 40 then (.trap .deep, ct) else ev n b (held ++ ((if rc then [v] else []) ++ [u])) (if lt then pd else pd + 1) true ct
        | _ => (.bad, ct)
      | .two w r s => evb (ev n r env pd false ct) fun v ct => evb (ev n s env pd false ct) fun u ct => match v.nums u with
        | some (i, j) => (sum2 w i j, ct)
        | none => (.bad, ct)
      | .ite c a b => evb (ev n c env pd false ct) fun v ct => match v with
        | .truth true => ev n a env pd lt ct
        | .truth false => ev n b env pd lt ct
        | _ => (.bad, ct)
      | .letr a b => evb (ev n a env pd false ct) fun v ct => ev n b (env ++ [v]) pd lt ct
      | .make sl rc b => match sl.mapM fun i => env[i]? with
        | some held => (.val (.clo rc b held), ⟨ct.left, ct.made + 1⟩)
        | none => (.bad, ct)
end Pl
end
section
set_option Elab.async false
set_option linter.all false
set_option maxRecDepth 100000
/-! kinds, parts as data -/
namespace Pl
open Iv
def W1.txt : W1 → List Nat
  | .head => wd_head
  | .tail => wd_tail
  | .empty => wd_empty
  | .first => wd_first
  | .second => wd_second
  | .not => wd_not
def W2.txt : W2 → List Nat
  | .cons => wd_cons
  | .pair => wd_pair
  | .call => wd_call
  | .plus => wd_plus
  | .minus => wd_minus
  | .times => wd_times
  | .over => wd_over
  | .rest => wd_rest
  | .less => wd_less
  | .same => wd_same
  | .and => wd_and
  | .or => wd_or
def K.toD : K → D
  | .int => .str wd_int
  | .bool => .str wd_bool
  | .list k => .tup [.str wd_list, k.toD]
  | .pair k l => .tup [.str wd_pair, k.toD, l.toD]
  | .fn k l => .tup [.str wd_fun, k.toD, l.toD]
def K.deep : K → Nat
  | .list k => k.deep + 1
  | .pair k l => max k.deep l.deep + 1
  | .fn k l => max k.deep l.deep + 1
  | _ => 0
theorem K.depth_toD (k : K) : k.toD.depth = k.deep := by
  induction k <;> simp_all [K.toD, K.deep, D.depth, D.depthL]
theorem K.plain_toD (k : K) : k.toD.plain = true := by
  induction k <;> simp_all [K.toD, D.plain, D.plainL]
theorem K.eqv_toD (a b : K) : a.toD.eqv b.toD = decide (a = b) := by
  induction a generalizing b with
  | int => cases b <;> rfl
  | bool => cases b <;> rfl
  | list k ih => cases b <;> simp [K.toD, D.eqv, D.eqvL, ih]
  | pair k l ih ih2 => cases b <;> simp [K.toD, D.eqv, D.eqvL, ih, ih2]
  | fn k l ih ih2 => cases b <;> simp [K.toD, D.eqv, D.eqvL, ih, ih2]
def P.toD : P → D
  | .num i => .tup [.str wd_num, .int i]
  | .truth b => .tup [.str wd_truth, .bl b]
  | .name x => .tup [.str wd_name, .str x]
  | .nil k => .tup [.str wd_nil, k.toD]
  | .one w p => .tup [.str w.txt, p.toD]
  | .two w p q => .tup [.str w.txt, p.toD, q.toD]
  | .ite c a b => .tup [.str wd_if, c.toD, a.toD, b.toD]
  | .letp x a b => .tup [.str wd_let, .str x, a.toD, b.toD]
  | .fn x k b => .tup [.str wd_fn, .str x, k.toD, b.toD]
  | .recf f x k l b => .tup [.str wd_rec, .str f, .str x, k.toD, l.toD, b.toD]
theorem deref_K (k : K) (st : Store) : deref k.toD st = k.toD := by cases k <;> rfl
theorem K.ne_scr (k : K) (ns : List Int) : k.toD ≠ .scr ns := by cases k <;> (intro h; cases h)
theorem eq_K (a b : K) (h : min a.deep b.deep ≤ 600) : D.eq? a.toD b.toD = some (decide (a = b)) := by
  have key : (if a.toD.plain && (b.toD.plain && decide (min a.toD.depth b.toD.depth ≤ 600)) then some (a.toD.eqv b.toD) else none) = some (decide (a = b)) := by
    simp [K.plain_toD, K.depth_toD, K.eqv_toD, h]
  rw [← key]
  cases a <;> cases b <;> first | rfl | (simp only [K.toD, D.eq?, D.plain, D.plainL, D.depth, D.depthL]; rfl)
theorem cmp_eq_K (a b : K) (st : Store) (h : min a.deep b.deep ≤ 600) : cmpD .eq a.toD b.toD st = some (decide (a = b)) := by
  have : cmpD .eq a.toD b.toD st = (deref a.toD st).eq? (deref b.toD st) := by cases a <;> cases b <;> rfl
  rw [this, deref_K, deref_K, eq_K a b h]
theorem cmp_ne_K (a b : K) (st : Store) (h : min a.deep b.deep ≤ 600) : cmpD .ne a.toD b.toD st = some (!decide (a = b)) := by
  have : cmpD .ne a.toD b.toD st = ((deref a.toD st).eq? (deref b.toD st)).map not := by cases a <;> cases b <;> rfl
  rw [this, deref_K, deref_K, eq_K a b h]; rfl
/-- what a kind comes to -/
def KR.res (r : KR) (st : Store) : Res D := match r with
  | .ok k => .ok k.toD st
  | .unfit => .exn ⟨3, []⟩ st
  | .noname x => .exn ⟨2, [(1, .str x)]⟩ st
@[simp] theorem KR.res_ok (k : K) (st : Store) : (KR.ok k).res st = .ok k.toD st := rfl
@[simp] theorem KR.res_unfit (st : Store) : KR.unfit.res st = .exn ⟨3, []⟩ st := rfl
@[simp] theorem KR.res_noname (x : Nm) (st : Store) : (KR.noname x).res st = .exn ⟨2, [(1, .str x)]⟩ st := rfl
def scD (sc : Sc) : D := .lst (sc.map fun p => .tup [.str p.1, p.2.toD])
structure HasFit (ds : Nat → Option Def) : Prop where
  h46 : ds 46 = some f46
  h47 : ds 47 = some f47
  h48 : ds 48 = some f48
  h49 : ds 49 = some f49
  h50 : ds 50 = some f50
  h51 : ds 51 = some f51
  h52 : ds 52 = some f52
  h53 : ds 53 = some f53
  h54 : ds 54 = some f54
  h55 : ds 55 = some f55
  h56 : ds 56 = some f56
section
variable {ds : Nat → Option Def} (H : HasFit ds)
include H
theorem run49 (n : Nat) (a b : K) (st : Store) (h : min a.deep b.deep ≤ 600) : run ds (n + 1) 49 [a.toD, b.toD] st = if a = b then .ok .non st else .exn ⟨3, []⟩ st := by
  rw [run_def H.h49 _ _ _ rfl rfl]
  simp [f49, startE, cmp_ne_K a b _ h]
  by_cases e : a = b <;> simp [e, excFields]
end
end Pl
end
section
set_option Elab.async false
set_option linter.all false
set_option maxRecDepth 100000
namespace Pl
open Iv
def K.form : K → List Nat
  | .int => []
  | .bool => []
  | .list _ => wd_list
  | .pair _ _ => wd_pair
  | .fn _ _ => wd_fun
theorem look_snoc (sc : Sc) (p : Nm × K) (x : Nm) : look (sc ++ [p]) x = if p.1 = x then some p.2 else look sc x := by
  unfold look
  rw [List.reverse_append]
  simp only [List.reverse_cons, List.reverse_nil, List.nil_append, List.cons_append, List.find?_cons]
  by_cases e : p.1 = x
  · simp -implicitDefEqProofs [e]
  · simp -implicitDefEqProofs [beq_eq_false_iff_ne.mpr e, if_neg e]
def downs (k : Nat) : List D := (List.range k).map fun (i : Nat) => .int ((k : Int) - 1 - (i : Int))
theorem downs_succ (k : Nat) : downs (k + 1) = .int k :: downs k := by
  unfold downs
  rw [List.range_succ_eq_map]
  simp only [List.map_cons, List.map_map]
  congr 1
  · congr 1; omega
  · apply List.map_congr_left
    intro i _
    simp only [Function.comp, D.int.injEq]
    omega
def P.ht : P → Nat
  | .one _ p => p.ht + 1
  | .two _ p q => max p.ht q.ht + 1
  | .ite c a b => max c.ht (max a.ht b.ht) + 1
  | .letp _ a b => max a.ht b.ht + 1
  | .fn _ _ b => b.ht + 1
  | .recf _ _ _ _ b => b.ht + 1
  | _ => 0
/-- how much deeper than those in scope a part's kind may be -/
def P.kd : P → Nat
  | .nil k => k.deep + 1
  | .one _ p => p.kd
  | .two _ p q => max p.kd q.kd + 1
  | .ite c a b => max c.kd (max a.kd b.kd)
  | .letp _ a b => a.kd + b.kd
  | .fn _ k b => k.deep + b.kd + 1
  | .recf _ _ k l b => max k.deep l.deep + 1 + b.kd
  | _ => 0
def scB (sc : Sc) (B : Nat) : Prop := ∀ e ∈ sc, e.2.deep ≤ B
theorem scB.add {sc : Sc} {B : Nat} (h : scB sc B) (x : Nm) (k : K) (C : Nat) : scB (sc ++ [(x, k)]) (max B (max k.deep C)) := by
  intro e he
  rw [List.mem_append] at he
  rcases he with he | he
  · have := h e he; omega
  · simp only [List.mem_singleton] at he; subst he; simp only; omega
theorem scB.mono {sc : Sc} {B C : Nat} (h : scB sc B) (hc : B ≤ C) : scB sc C := fun e he => Nat.le_trans (h e he) hc
theorem look_mem {sc : Sc} {x : Nm} {k : K} (h : look sc x = some k) : (x, k) ∈ sc := by
  unfold look at h
  rw [Option.map_eq_some_iff] at h
  obtain ⟨⟨y, l⟩, h1, h2⟩ := h
  have h3 := List.find?_some h1
  have h4 := List.mem_of_find?_eq_some h1
  simp only [beq_iff_eq] at h3
  subst h3 h2
  exact List.mem_reverse.mp h4
theorem kin_deep (p : P) : ∀ (sc : Sc) (B : Nat) (k : K), scB sc B → kin p sc = .ok k → k.deep ≤ B + p.kd := by
  induction p with
  | num i => intro sc B k _ h; cases h; simp -implicitDefEqProofs [K.deep]
  | truth i => intro sc B k _ h; cases h; simp -implicitDefEqProofs [K.deep]
  | name x =>
    intro sc B k hB h
    simp only [kin] at h
    cases e : look sc x with
    | none => rw [e] at h; cases h
    | some l => rw [e] at h; cases h; have := hB _ (look_mem e); simp only at this; omega
  | nil k => intro sc B l _ h; cases h; simp only [K.deep, P.kd]; omega
  | one w p ih =>
    intro sc B k hB h
    simp only [kin, KR.bind_eq_ok] at h
    obtain ⟨l, h1, h2⟩ := h
    have := ih sc B l hB h1
    simp only [P.kd]
    cases w <;> cases l <;> simp only [kin1, KR.ok.injEq, reduceCtorEq] at h2 <;> subst h2 <;> simp only [K.deep] at * <;> omega
  | two w p q ih ih2 =>
    intro sc B k hB h
    simp only [kin, KR.bind_eq_ok] at h
    obtain ⟨l, h1, m, h2, h3⟩ := h
    have a1 := ih sc B l hB h1
    have a2 := ih2 sc B m hB h2
    simp only [P.kd]
    cases w <;> simp only [kin2] at h3
    case cons => split at h3 <;> cases h3; (try omega)
    case pair => cases h3; simp only [K.deep]; omega
    case call => cases l <;> simp only [reduceCtorEq] at h3; split at h3 <;> cases h3; simp only [K.deep] at a1; omega
    all_goals (split at h3 <;> cases h3; simp only [K.deep]; omega)
  | ite c a b _ ih1 ih2 =>
    intro sc B k hB h
    simp only [kin, KR.bind_eq_ok] at h
    obtain ⟨l, _, m, h2, o, _, h3⟩ := h
    split at h3 <;> cases h3
    have := ih1 sc B _ hB h2
    simp only [P.kd]; omega
  | letp x a b ih ih2 =>
    intro sc B k hB h
    simp only [kin, KR.bind_eq_ok] at h
    obtain ⟨l, h1, h2⟩ := h
    have a1 := ih sc B l hB h1
    have a2 := ih2 _ _ k (hB.add x l (B + a.kd)) h2
    simp only [P.kd]; omega
  | fn x k b ih =>
    intro sc B m hB h
    simp only [kin, KR.bind_eq_ok] at h
    obtain ⟨l, h1, h2⟩ := h
    cases h2
    have a2 := ih _ _ l (hB.add x k 0) h1
    simp only [P.kd, K.deep]; omega
  | recf f x k l b ih =>
    intro sc B m hB h
    simp only [kin, KR.bind_eq_ok] at h
    obtain ⟨o, h1, h2⟩ := h
    split at h2 <;> cases h2
    simp only [P.kd, K.deep]; omega
section
variable {ds : Nat → Option Def} (H : HasFit ds)
include H
theorem run46 (n : Nat) (a : K) (st : Store) : run ds (n + 1) 46 [a.toD] st = .ok (K.list a).toD st := by
  rw [run_def H.h46 _ _ _ rfl rfl]
  simp -implicitDefEqProofs [f46, startE, line, K.toD]
theorem run47 (n : Nat) (a b : K) (st : Store) : run ds (n + 1) 47 [a.toD, b.toD] st = .ok (K.pair a b).toD st := by
  rw [run_def H.h47 _ _ _ rfl rfl]
  simp -implicitDefEqProofs [f47, startE, line, K.toD]
theorem run48 (n : Nat) (a b : K) (st : Store) : run ds (n + 1) 48 [a.toD, b.toD] st = .ok (K.fn a b).toD st := by
  rw [run_def H.h48 _ _ _ rfl rfl]
  simp -implicitDefEqProofs [f48, startE, line, K.toD]
theorem run50 (n : Nat) (a : K) (w : List Nat) (hw : w ≠ []) (st : Store) : run ds (n + 1) 50 [a.toD, .str w] st = if a.form = w then .ok .non st else .exn ⟨3, []⟩ st := by
  rw [run_def H.h50 _ _ _ rfl rfl]
  cases a <;> simp -implicitDefEqProofs [f50, startE, K.toD, K.form, excFields, hw.symm]
  all_goals (refine iteInduction (fun e => ?_) (fun e => ?_) <;> first | (subst e; simp; done) | (rw [beq_eq_false_iff_ne.mpr e]; simp -implicitDefEqProofs [excFields]))
theorem run51 (n : Nat) (w : W1) (k : K) (st : Store) (h : k.deep ≤ 600) : run ds (n + 2) 51 [.str w.txt, k.toD] st = (kin1 w k).res st := by
  rw [run_def H.h51 _ _ _ rfl rfl]
  have h50 := fun w hw => run50 H n k w hw st
  have hb := run49 H n k .bool st (by omega)
  rw [show K.bool.toD = .str wd_bool from rfl] at hb
  cases w <;> simp -implicitDefEqProofs [f51, startE, W1.txt, h50, hb] <;> cases k <;> simp -implicitDefEqProofs [K.form, kin1, K.toD]
theorem run52 (n : Nat) (w : W2) (k l : K) (st : Store) (h : k.deep ≤ 600) (h2 : l.deep ≤ 600) : run ds (n + 2) 52 [.str w.txt, k.toD, l.toD] st = (kin2 w k l).res st := by
  rw [run_def H.h52 _ _ _ rfl rfl]
  have h50 := fun w hw => run50 H n k w hw st
  have hb := run49 H n k .bool st (by simp only [K.deep]; omega)
  have hb2 := run49 H n l .bool st (by simp only [K.deep]; omega)
  have hi := run49 H n k .int st (by simp only [K.deep]; omega)
  have hi2 := run49 H n l .int st (by simp only [K.deep]; omega)
  have h46 := run46 H n k st
  have h47 := run47 H n k l st
  have hc := run49 H n l (.list k) st (by simp only [K.deep]; omega)
  rw [show K.bool.toD = .str wd_bool from rfl] at hb hb2
  rw [show K.int.toD = .str wd_int from rfl] at hi hi2
  have hs : strsOf [D.str wd_plus, D.str wd_minus, D.str wd_times, D.str wd_over, D.str wd_rest] = some [wd_plus, wd_minus, wd_times, wd_over, wd_rest] := rfl
  cases w <;> simp -implicitDefEqProofs [f52, startE, W2.txt, h50, hb, hb2, h46, h47, hc, hi, hi2, gval, kin2, inSeq_str _ hs]
  · by_cases e : l = .list k
    · simp -implicitDefEqProofs [if_pos e]
    · simp -implicitDefEqProofs [if_neg e]
  · cases k <;> simp -implicitDefEqProofs [K.form]
    rename_i a b
    have hc := run49 H n l a st (by simp only [K.deep] at h; omega)
    simp -implicitDefEqProofs [K.toD, hc]
    by_cases e2 : l = a
    · simp -implicitDefEqProofs [if_pos e2]
    · simp -implicitDefEqProofs [if_neg e2]
  all_goals (first
    | (by_cases e : k = .int
       · by_cases e2 : l = .int
         · simp -implicitDefEqProofs [if_pos e, if_pos e2, if_pos (And.intro e e2), K.toD, gval, inSeq_str _ hs, hi2]
         · simp -implicitDefEqProofs [if_pos e, if_neg e2, if_neg (fun z : k = K.int ∧ l = K.int => e2 z.2), hi2]
       · simp -implicitDefEqProofs [if_neg e, if_neg (fun z : k = K.int ∧ l = K.int => e z.1)]
       done)
    | (by_cases e : k = .bool
       · by_cases e2 : l = .bool
         · simp -implicitDefEqProofs [if_pos e, if_pos e2, if_pos (And.intro e e2), K.toD, hb2]
         · simp -implicitDefEqProofs [if_pos e, if_neg e2, if_neg (fun z : k = K.bool ∧ l = K.bool => e2 z.2), hb2]
       · simp -implicitDefEqProofs [if_neg e, if_neg (fun z : k = K.bool ∧ l = K.bool => e z.1)]
       done))
theorem run53 (n : Nat) (x : Nm) (sc : Sc) (st : Store) (h : sc.length < 1000000) : run ds (n + 1) 53 [.str x, scD sc] st = match look sc x with
    | some k => .ok k.toD st
    | none => .exn ⟨2, [(1, .str x)]⟩ st := by
  rw [run_def H.h53 _ _ _ rfl rfl]
  have hs := mkSrc_r3d ((sc.length : Int) - 1) (-1) (by simp -implicitDefEqProofs [smallI]; omega) (by simp -implicitDefEqProofs [smallI])
  rw [show ((sc.length : Int) - 1 - -1).toNat = sc.length by omega, show ((List.range sc.length).map fun (i : Nat) => D.int ((sc.length : Int) - 1 - (i : Int))) = downs sc.length from rfl] at hs
  simp -implicitDefEqProofs [f53, startE, scD]
  rw [oFor_items (h := hs) (hl := by simp -implicitDefEqProofs [downs, LF]; omega)]
  have loop : ∀ k, k ≤ sc.length → ∀ z st, ((forD [2] (execL (callsAt ds n) [.ite (.cmp .eq (.idx (.idx (.var 1) (.var 2)) (.int 0)) (.var 0)) [.ret (.idx (.idx (.var 1) (.var 2)) (.int 1))] []]) (downs k) [.val (.str x), .val (scD sc), z] st).andThen (execL (callsAt ds n) [.raise 2 [.str [97, 32, 110, 97, 109, 101, 32, 116, 104, 97, 116, 32, 105, 115, 110, 39, 116, 32, 98, 111, 117, 110, 100], .var 0]])).res = match look (sc.take k) x with
    | some k => .ok k.toD st
    | none => .exn ⟨2, [(1, .str x)]⟩ st := by
    intro k
    induction k with
    | zero => intro _ z st; simp -implicitDefEqProofs [downs, look, excFields]
    | succ k ih =>
      intro hk z st
      have hk' : k < sc.length := by omega
      rw [downs_succ, List.take_succ_eq_append_getElem hk', look_snoc]
      have h1 : atI (sc.map fun p => D.tup [.str p.1, p.2.toD]) (k : Int) = some (.tup [.str sc[k].1, sc[k].2.toD]) := by
        rw [atI_nat]; simp -implicitDefEqProofs [hk']
      by_cases e : sc[k].1 = x
      · simp -implicitDefEqProofs [scD, h1, e]
      · have := ih (by omega) (.val (.int k)) st
        simp -implicitDefEqProofs [scD] at this
        simp -implicitDefEqProofs [scD, h1, beq_eq_false_iff_ne.mpr e, if_neg e, this]
  have := loop sc.length (Nat.le_refl _) .none st
  rw [List.take_length] at this
  exact this
theorem run54f (n : Nat) (x : Nm) (k : K) (b : P) (sc : Sc) (st : Store) (hl : sc.length < 1000000) (ih : run ds (n + 1) 55 [b.toD, scD (sc ++ [(x, k)])] st = (kin b (sc ++ [(x, k)])).res st) :
    run ds (n + 2) 54 [(P.fn x k b).toD, scD sc] st = (kin (.fn x k b) sc).res st := by
  rw [run_def H.h54 _ _ _ rfl rfl]
  have a : ((sc.map fun p => D.tup [.str p.1, p.2.toD]).length + [D.tup [.str x, k.toD]].length ≤ line) := by simp -implicitDefEqProofs [line]; omega
  simp only [scD, List.map_append, List.map_cons, List.map_nil] at ih
  simp -implicitDefEqProofs [f54, startE, P.toD, scD, line, opAdd_lst _ _ _ a, ih, kin]
  cases kin b (sc ++ [(x, k)]) <;> simp -implicitDefEqProofs [run48 H]
theorem run54r (n : Nat) (f x : Nm) (k l : K) (b : P) (sc : Sc) (st : Store) (hl : sc.length < 1000000) (hd : l.deep ≤ 600) (ih : run ds (n + 1) 55 [b.toD, scD (sc ++ [(f, .fn k l), (x, k)])] st = (kin b (sc ++ [(f, .fn k l), (x, k)])).res st) :
    run ds (n + 2) 54 [(P.recf f x k l b).toD, scD sc] st = (kin (.recf f x k l b) sc).res st := by
  rw [run_def H.h54 _ _ _ rfl rfl]
  have a : ((sc.map fun p => D.tup [.str p.1, p.2.toD]).length + [D.tup [.str f, (K.fn k l).toD], D.tup [.str x, k.toD]].length ≤ line) := by simp -implicitDefEqProofs [line]; omega
  simp only [scD, List.map_append, List.map_cons, List.map_nil] at ih
  simp -implicitDefEqProofs [f54, startE, P.toD, scD, line, run48 H, opAdd_lst _ _ _ a, ih, kin]
  cases kin b (sc ++ [(f, .fn k l), (x, k)]) with
  | ok m =>
    simp -implicitDefEqProofs [run49 H n m l st (by omega)]
    by_cases e : m = l
    · simp -implicitDefEqProofs [if_pos e]
    · simp -implicitDefEqProofs [if_neg e]
  | unfit => simp -implicitDefEqProofs
  | noname y => simp -implicitDefEqProofs
theorem run55 (p : P) : ∀ (n : Nat) (sc : Sc) (st : Store) (B : Nat), 2 * p.ht + 3 ≤ n → scB sc B → B + p.kd ≤ 600 → sc.length + 2 * p.ht < 1000000 → run ds n 55 [p.toD, scD sc] st = (kin p sc).res st := by
  induction p with
  | num i =>
    intro n sc st B hn hB hk hl
    obtain ⟨n, rfl⟩ : ∃ m, n = m + 1 := ⟨n - 1, by omega⟩
    rw [run_def H.h55 _ _ _ rfl rfl]
    simp -implicitDefEqProofs [f55, startE, P.toD, kin, K.toD]
  | truth i =>
    intro n sc st B hn hB hk hl
    obtain ⟨n, rfl⟩ : ∃ m, n = m + 1 := ⟨n - 1, by omega⟩
    rw [run_def H.h55 _ _ _ rfl rfl]
    simp -implicitDefEqProofs [f55, startE, P.toD, kin, K.toD]
  | name x =>
    intro n sc st B hn hB hk hl
    obtain ⟨n, rfl⟩ : ∃ m, n = m + 2 := ⟨n - 2, by omega⟩
    rw [run_def H.h55 _ _ _ rfl rfl]
    simp -implicitDefEqProofs [f55, startE, P.toD, kin, run53 H n x sc st (by omega)]
    cases look sc x <;> simp -implicitDefEqProofs
  | nil k =>
    intro n sc st B hn hB hk hl
    obtain ⟨n, rfl⟩ : ∃ m, n = m + 2 := ⟨n - 2, by omega⟩
    rw [run_def H.h55 _ _ _ rfl rfl]
    simp -implicitDefEqProofs [f55, startE, P.toD, kin, run46 H]
  | one w p ih =>
    intro n sc st B hn hB hk hl
    obtain ⟨n, rfl⟩ : ∃ m, n = m + 3 := ⟨n - 3, by omega⟩
    rw [run_def H.h55 _ _ _ rfl rfl]
    simp only [P.ht, P.kd] at hn hk hl
    have i1 := ih (n + 2) sc st B (by omega) hB (by omega) (by omega)
    have dk := fun k e => kin_deep p sc B k hB e
    have i2 := fun k (e : kin p sc = .ok k) => run51 H n w k st (by have := dk k e; omega)
    cases w <;> simp only [W1.txt] at i2 <;> simp -implicitDefEqProofs [f55, startE, P.toD, kin, W1.txt, i1] <;> cases e : kin p sc <;> simp -implicitDefEqProofs <;> (rw [i2 _ e]; cases kin1 _ _ <;> simp -implicitDefEqProofs)
  | two w p q ih1 ih2 =>
    intro n sc st B hn hB hk hl
    obtain ⟨n, rfl⟩ : ∃ m, n = m + 3 := ⟨n - 3, by omega⟩
    rw [run_def H.h55 _ _ _ rfl rfl]
    simp only [P.ht, P.kd] at hn hk hl
    have i1 := ih1 (n + 2) sc st B (by omega) hB (by omega) (by omega)
    have i2 := ih2 (n + 2) sc st B (by omega) hB (by omega) (by omega)
    have dk := fun k e => kin_deep p sc B k hB e
    have dl := fun k e => kin_deep q sc B k hB e
    have i3 := fun k l (e : kin p sc = .ok k) (e2 : kin q sc = .ok l) => run52 H n w k l st (by have := dk k e; omega) (by have := dl l e2; omega)
    cases w <;> simp only [W2.txt] at i3 <;> simp -implicitDefEqProofs [f55, startE, P.toD, kin, W2.txt, i1] <;> cases e : kin p sc <;> simp -implicitDefEqProofs [i2] <;> cases e2 : kin q sc <;> simp -implicitDefEqProofs <;> (rw [i3 _ _ e e2]; cases kin2 _ _ _ <;> simp -implicitDefEqProofs)
  | ite c a b ih1 ih2 ih3 =>
    intro n sc st B hn hB hk hl
    obtain ⟨n, rfl⟩ : ∃ m, n = m + 3 := ⟨n - 3, by omega⟩
    rw [run_def H.h55 _ _ _ rfl rfl]
    simp only [P.ht, P.kd] at hn hk hl
    have i1 := ih1 (n + 2) sc st B (by omega) hB (by omega) (by omega)
    have i2 := ih2 (n + 2) sc st B (by omega) hB (by omega) (by omega)
    have i3 := ih3 (n + 2) sc st B (by omega) hB (by omega) (by omega)
    have hb := fun k => run49 H (n + 1) k .bool st (by simp only [K.deep]; omega)
    rw [show K.bool.toD = .str wd_bool from rfl] at hb
    simp -implicitDefEqProofs [f55, startE, P.toD, kin, i1]
    cases e : kin c sc <;> simp -implicitDefEqProofs [i2]
    cases e2 : kin a sc <;> simp -implicitDefEqProofs [i3]
    cases e3 : kin b sc <;> simp -implicitDefEqProofs [hb]
    rename_i k l m
    have hc := run49 H (n + 1) m l st (by have := kin_deep a sc B l hB e2; omega)
    by_cases e4 : k = .bool
    · simp -implicitDefEqProofs [if_pos e4, hc]
      by_cases e5 : m = l
      · simp -implicitDefEqProofs [if_pos e5, if_pos (And.intro e4 e5)]
      · simp -implicitDefEqProofs [if_neg e5, if_neg (fun z : k = K.bool ∧ m = l => e5 z.2)]
    · simp -implicitDefEqProofs [if_neg e4, if_neg (fun z : k = K.bool ∧ m = l => e4 z.1)]
  | letp x a b ih1 ih2 =>
    intro n sc st B hn hB hk hl
    obtain ⟨n, rfl⟩ : ∃ m, n = m + 3 := ⟨n - 3, by omega⟩
    rw [run_def H.h55 _ _ _ rfl rfl]
    simp only [P.ht, P.kd] at hn hk hl
    have i1 := ih1 (n + 2) sc st B (by omega) hB (by omega) (by omega)
    simp -implicitDefEqProofs [f55, startE, P.toD, kin, i1]
    cases e : kin a sc <;> simp -implicitDefEqProofs
    rename_i k
    have i2 := ih2 (n + 2) (sc ++ [(x, k)]) st (B + a.kd) (by omega) ((hB.add x k (B + a.kd)).mono (by have := kin_deep a sc B k hB e; omega)) (by omega) (by simp; omega)
    have hz : ((sc.map fun p => D.tup [.str p.1, p.2.toD]).length + [D.tup [.str x, k.toD]].length ≤ line) := by simp -implicitDefEqProofs [line]; omega
    simp only [scD, List.map_append, List.map_cons, List.map_nil] at i2
    simp -implicitDefEqProofs [scD, line, opAdd_lst _ _ _ hz, i2]
    cases kin b (sc ++ [(x, k)]) <;> simp -implicitDefEqProofs
  | fn x k b ih =>
    intro n sc st B hn hB hk hl
    obtain ⟨n, rfl⟩ : ∃ m, n = m + 3 := ⟨n - 3, by omega⟩
    rw [run_def H.h55 _ _ _ rfl rfl]
    simp only [P.ht, P.kd] at hn hk hl
    have i1 := run54f H n x k b sc st (by omega) (ih (n + 1) (sc ++ [(x, k)]) st _ (by omega) (hB.add x k 0) (by omega) (by simp; omega))
    simp only [P.toD] at i1
    simp -implicitDefEqProofs [f55, startE, P.toD, i1]
    cases kin (.fn x k b) sc <;> simp -implicitDefEqProofs
  | recf f x k l b ih =>
    intro n sc st B hn hB hk hl
    obtain ⟨n, rfl⟩ : ∃ m, n = m + 3 := ⟨n - 3, by omega⟩
    rw [run_def H.h55 _ _ _ rfl rfl]
    simp only [P.ht, P.kd] at hn hk hl
    have hB2 := (hB.add f (.fn k l) 0).add x k 0
    rw [List.append_assoc] at hB2
    have i1 := run54r H n f x k l b sc st (by omega) (by omega) (ih (n + 1) _ st (max B (max k.deep l.deep + 1)) (by omega) (hB2.mono (by simp only [K.deep]; omega)) (by omega) (by simp; omega))
    simp only [P.toD] at i1
    simp -implicitDefEqProofs [f55, startE, P.toD, i1]
    cases kin (.recf f x k l b) sc <;> simp -implicitDefEqProofs
theorem run56 (p : P) (n : Nat) (st : Store) (hn : 2 * p.ht + 4 ≤ n) (hk : p.kd ≤ 600) (hl : p.ht ≤ 100000) : run ds n 56 [p.toD] st = (kin p []).res st := by
  obtain ⟨n, rfl⟩ : ∃ m, n = m + 1 := ⟨n - 1, by omega⟩
  rw [run_def H.h56 _ _ _ rfl rfl]
  have i := run55 H p n [] st 0 (by omega) (fun e he => by cases he) (by omega) (by simp; omega)
  simp only [scD, List.map_nil] at i
  simp -implicitDefEqProofs [f56, startE, line, i]
  cases kin p [] <;> simp -implicitDefEqProofs
end
end Pl
end
section
set_option Elab.async false
set_option linter.all false
set_option maxRecDepth 100000
namespace Iv
theorem opMul_lst1 (a : D) (k : Int) (st : Store) (h : repOk 1 k = true) : opMul (.lst [a]) (.int k) st = .ok (.lst (List.replicate k.toNat a)) st := by
  have : (List.replicate k.toNat [a]).flatten = List.replicate k.toNat a := by
    induction k.toNat with
    | zero => rfl
    | succ n ih => simp only [List.replicate_succ, List.flatten_cons, ih]; rfl
  simp only [opMul, asL, List.length_cons, List.length_nil, Nat.zero_add, h, if_true, this]
theorem whileL_succ (c : Env → Store → Res Bool) (b : Env → Store → Out) (n : Nat) (env : Env) (st : Store) :
    whileL c b (n + 1) env st = (c env st).then env fun t st1 => oIf t (fun env st1 => forK (whileL c b n) (b env st1)) (fun env st => .nx env st) env st1 := by
  rw [whileL]
  congr 1
theorem whileL_true (c : Env → Store → Res Bool) (b : Env → Store → Out) (n : Nat) (env : Env) (st st1 : Store) (h : c env st = .ok true st1) :
    whileL c b (n + 1) env st = forK (whileL c b n) (b env st1) := by rw [whileL_succ, h]; rfl
theorem whileL_false (c : Env → Store → Res Bool) (b : Env → Store → Out) (n : Nat) (env : Env) (st st1 : Store) (h : c env st = .ok false st1) :
    whileL c b (n + 1) env st = .nx env st1 := by rw [whileL_succ, h]; rfl
theorem rCond_eq (cs : Calls) (c : E) (env : Env) (st : Store) : rCond cs c env st = (evalE cs c env st).bind isT := rfl
theorem ixN_nat (n i : Nat) (h : i < n) : ixN n (i : Int) = some i := by
  unfold ixN
  have h1 : (0 : Int) ≤ (i : Int) := by omega
  have h2 : (i : Int) < (n : Int) := by omega
  simp only [h1, h2, if_true, Int.toNat_natCast]
theorem noexn_of {α : Type} {r : Res α} {a : α} {st : Store} (h : r = .ok a st) : noexn r = .ok a st := by rw [h]; rfl
end Iv
namespace Pl
open Iv
theorem snoc_ind {α : Type} {Q : List α → Prop} (h0 : Q []) (h1 : ∀ l a, Q l → Q (l ++ [a])) (l : List α) : Q l := by
  have : ∀ r : List α, Q r.reverse := by
    intro r
    induction r with
    | nil => exact h0
    | cons a r ih => rw [List.reverse_cons]; exact h1 _ _ ih
  have z := this l.reverse
  rwa [List.reverse_reverse] at z
def Ins.toD : Ins → D
  | .stop => .tup [.str wd_stop]
  | .num i => .tup [.str wd_push, .tup [.str wd_num, .int i]]
  | .truth b => .tup [.str wd_push, .tup [.str wd_truth, .bl b]]
  | .nil => .tup [.str wd_push, .tup [.str wd_nil]]
  | .load i => .tup [.str wd_load, .int i]
  | .bind => .tup [.str wd_bind]
  | .unbind => .tup [.str wd_unbind]
  | .one w => .tup [.str w.txt]
  | .two w => .tup [.str w.txt]
  | .make g sl rc => .tup [.str wd_make, .int g, .tup (sl.map fun i => .int (i : Nat)), .bl rc]
  | .jump a => .tup [.str wd_jump, .int a]
  | .branch a => .tup [.str wd_branch, .int a]
  | .last => .tup [.str wd_last]
  | .back => .tup [.str wd_back]
abbrev nms (l : List Nm) : D := .lst (l.map .str)
structure HasComp (ds : Nat → Option Def) : Prop where
  h57 : ds 57 = some f57
  h58 : ds 58 = some f58
  h59 : ds 59 = some f59
  h60 : ds 60 = some f60
  h61 : ds 61 = some f61
  h62 : ds 62 = some f62
  h63 : ds 63 = some f63
  h64 : ds 64 = some f64
  h65 : ds 65 = some f65
  h69 : ds 69 = some f69
  h70 : ds 70 = some f70
  h71 : ds 71 = some f71
  h72 : ds 72 = some f72
def P.sz : P → Nat
  | .one _ p => p.sz + 1
  | .two _ p q => p.sz + q.sz + 1
  | .ite c a b => c.sz + a.sz + b.sz + 1
  | .letp _ a b => a.sz + b.sz + 1
  | .fn _ _ b => b.sz + 1
  | .recf _ _ _ _ b => b.sz + 1
  | _ => 1
theorem joined_len (a b : List Nm) : (joined a b).length ≤ a.length + b.length := by
  unfold joined
  have := List.length_filter_le (fun x => !decide (x ∈ a)) b
  simp only [List.length_append]; omega
theorem outs_len (p : P) : ∀ bd, (outs p bd).length ≤ p.sz := by
  induction p with
  | num _ => intro bd; simp [outs]
  | truth _ => intro bd; simp [outs]
  | nil _ => intro bd; simp [outs]
  | name x => intro bd; simp only [outs, P.sz]; split <;> simp
  | one w p ih => intro bd; have := joined_len [] (outs p bd); have := ih bd; simp only [outs, P.sz, List.length_nil] at *; omega
  | two w p q i1 i2 => intro bd; have := joined_len [] (outs p bd); have := joined_len (joined [] (outs p bd)) (outs q bd); have := i1 bd; have := i2 bd; simp only [outs, P.sz, List.length_nil] at *; omega
  | ite c a b i1 i2 i3 => intro bd; have := joined_len [] (outs c bd); have := joined_len (joined [] (outs c bd)) (outs a bd); have := joined_len (joined (joined [] (outs c bd)) (outs a bd)) (outs b bd); have := i1 bd; have := i2 bd; have := i3 bd; simp only [outs, P.sz, List.length_nil] at *; omega
  | letp x a b i1 i2 => intro bd; have := joined_len (outs a bd) (outs b (bd ++ [x])); have := i1 bd; have := i2 (bd ++ [x]); simp only [outs, P.sz] at *; omega
  | fn x k b ih => intro bd; have := ih (bd ++ [x]); simp only [outs, P.sz]; omega
  | recf f x k l b ih => intro bd; have := ih (bd ++ [f, x]); simp only [outs, P.sz]; omega
section
variable {ds : Nat → Option Def} (H : HasComp ds)
include H
theorem run58 (n : Nat) (a b : List Nm) (st : Store) (h : a.length + b.length < 900000) : run ds (n + 1) 58 [nms a, nms b] st = .ok (nms (joined a b)) st := by
  rw [run_def H.h58 _ _ _ rfl rfl]
  have hc := compD_pure [2] (evalC (callsAt ds n) [.cmp .nmem (.var 2) (.var 0)]) (evalE (callsAt ds n) (.var 2)) [.val (nms a), .val (nms b), .none] D.str (fun x => !decide (x ∈ a)) D.str b st [] (fun x _ => ⟨_, rfl, by simp -implicitDefEqProofs [inSeq_str _ (strsOf_map a)], fun _ => by simp -implicitDefEqProofs⟩) (by simp [line]; omega)
  have hz : ((a.map D.str).length + ((b.filter fun x => !decide (x ∈ a)).map D.str).length ≤ line) := by
    have := List.length_filter_le (fun x => !decide (x ∈ a)) b
    simp only [List.length_map, line]; omega
  simp -implicitDefEqProofs [f58, startE]
  rw [kComp_items (h := mkSrc_seq_lst _) (hl := by simp [LF]; omega)]
  simp -implicitDefEqProofs only [wipeE_one, List.set_cons_succ, List.set_cons_zero]
  rw [noexn_of hc]
  simp -implicitDefEqProofs [joined, opAdd_lst _ _ _ hz]
theorem run57 (p : P) : ∀ (n : Nat) (bd : List Nm) (st : Store), p.ht + 2 ≤ n → bd.length + 3 * p.sz < 900000 → run ds n 57 [p.toD, nms bd] st = .ok (nms (outs p bd)) st := by
  induction p with
  | num i =>
    intro n bd st hn hl
    obtain ⟨n, rfl⟩ : ∃ m, n = m + 1 := ⟨n - 1, by omega⟩
    rw [run_def H.h57 _ _ _ rfl rfl]
    simp -implicitDefEqProofs [f57, startE, P.toD, outs, line, inSeq, D.flat, D.eqv]
  | truth i =>
    intro n bd st hn hl
    obtain ⟨n, rfl⟩ : ∃ m, n = m + 1 := ⟨n - 1, by omega⟩
    rw [run_def H.h57 _ _ _ rfl rfl]
    simp -implicitDefEqProofs [f57, startE, P.toD, outs, line, inSeq, D.flat, D.eqv]
  | nil k =>
    intro n bd st hn hl
    obtain ⟨n, rfl⟩ : ∃ m, n = m + 1 := ⟨n - 1, by omega⟩
    rw [run_def H.h57 _ _ _ rfl rfl]
    simp -implicitDefEqProofs [f57, startE, P.toD, outs, line, inSeq, D.flat, D.eqv]
  | name x =>
    intro n bd st hn hl
    obtain ⟨n, rfl⟩ : ∃ m, n = m + 1 := ⟨n - 1, by omega⟩
    rw [run_def H.h57 _ _ _ rfl rfl]
    simp -implicitDefEqProofs [f57, startE, P.toD, outs, line, inSeq_str _ (strsOf_map bd)]
    by_cases e : x ∈ bd
    · simp -implicitDefEqProofs [e, opMul_lst1, repOk, line]
    · simp -implicitDefEqProofs [e, opMul_lst1, repOk, line]
  | one w p ih =>
    intro n bd st hn hl
    obtain ⟨n, rfl⟩ : ∃ m, n = m + 2 := ⟨n - 2, by omega⟩
    rw [run_def H.h57 _ _ _ rfl rfl]
    simp only [P.ht, P.sz] at hn hl
    have i1 := ih (n + 1) bd st (by omega) (by omega)
    have j1 := run58 H n [] (outs p bd) st (by have := outs_len p bd; simp only [List.length_nil]; omega)
    simp only [nms, List.map_nil] at j1
    cases w <;> simp -implicitDefEqProofs [f57, startE, P.toD, outs, W1.txt, line, inSeq, D.flat, D.eqv] <;> (rw [oFor_items (h := mkSrc_seq_tup _) (hl := by simp [LF])]; simp -implicitDefEqProofs [i1, j1])
  | two w p q h1 h2 =>
    intro n bd st hn hl
    obtain ⟨n, rfl⟩ : ∃ m, n = m + 2 := ⟨n - 2, by omega⟩
    rw [run_def H.h57 _ _ _ rfl rfl]
    simp only [P.ht, P.sz] at hn hl
    have i1 := h1 (n + 1) bd st (by omega) (by omega)
    have i2 := h2 (n + 1) bd st (by omega) (by omega)
    have l1 := outs_len p bd
    have l2 := outs_len q bd
    have l3 := joined_len [] (outs p bd)
    have j1 := run58 H n [] (outs p bd) st (by simp only [List.length_nil]; omega)
    have j2 := run58 H n (joined [] (outs p bd)) (outs q bd) st (by simp only [List.length_nil] at l3; omega)
    simp only [nms, List.map_nil] at j1
    cases w <;> simp -implicitDefEqProofs [f57, startE, P.toD, outs, W2.txt, line, inSeq, D.flat, D.eqv] <;> (rw [oFor_items (h := mkSrc_seq_tup _) (hl := by simp [LF])]; simp -implicitDefEqProofs [i1, j1, i2, j2])
  | ite c a b h1 h2 h3 =>
    intro n bd st hn hl
    obtain ⟨n, rfl⟩ : ∃ m, n = m + 2 := ⟨n - 2, by omega⟩
    rw [run_def H.h57 _ _ _ rfl rfl]
    simp only [P.ht, P.sz] at hn hl
    have i1 := h1 (n + 1) bd st (by omega) (by omega)
    have i2 := h2 (n + 1) bd st (by omega) (by omega)
    have i3 := h3 (n + 1) bd st (by omega) (by omega)
    have l1 := outs_len c bd
    have l2 := outs_len a bd
    have l3 := outs_len b bd
    have l4 := joined_len [] (outs c bd)
    have l5 := joined_len (joined [] (outs c bd)) (outs a bd)
    have j1 := run58 H n [] (outs c bd) st (by simp only [List.length_nil]; omega)
    have j2 := run58 H n (joined [] (outs c bd)) (outs a bd) st (by simp only [List.length_nil] at l4; omega)
    have j3 := run58 H n (joined (joined [] (outs c bd)) (outs a bd)) (outs b bd) st (by simp only [List.length_nil] at l4; omega)
    simp only [nms, List.map_nil] at j1
    simp -implicitDefEqProofs [f57, startE, P.toD, outs, line, inSeq, D.flat, D.eqv]
    rw [oFor_items (h := mkSrc_seq_tup _) (hl := by simp [LF])]; simp -implicitDefEqProofs [i1, j1, i2, j2, i3, j3]
  | letp x a b h1 h2 =>
    intro n bd st hn hl
    obtain ⟨n, rfl⟩ : ∃ m, n = m + 2 := ⟨n - 2, by omega⟩
    rw [run_def H.h57 _ _ _ rfl rfl]
    simp only [P.ht, P.sz] at hn hl
    have i1 := h1 (n + 1) bd st (by omega) (by omega)
    have i2 := h2 (n + 1) (bd ++ [x]) st (by omega) (by simp; omega)
    have l1 := outs_len a bd
    have l2 := outs_len b (bd ++ [x])
    have j1 := run58 H n (outs a bd) (outs b (bd ++ [x])) st (by omega)
    have z : (bd.map D.str).length + [D.str x].length ≤ line := by simp [line]; omega
    simp only [nms, List.map_append, List.map_cons, List.map_nil] at i2
    simp -implicitDefEqProofs [f57, startE, P.toD, outs, line, opAdd_lst _ _ _ z, i1, i2, j1]
  | fn x k b ih =>
    intro n bd st hn hl
    obtain ⟨n, rfl⟩ : ∃ m, n = m + 2 := ⟨n - 2, by omega⟩
    rw [run_def H.h57 _ _ _ rfl rfl]
    simp only [P.ht, P.sz] at hn hl
    have i1 := ih (n + 1) (bd ++ [x]) st (by omega) (by simp; omega)
    have z : (bd.map D.str).length + [D.str x].length ≤ line := by simp [line]; omega
    simp only [nms, List.map_append, List.map_cons, List.map_nil] at i1
    simp -implicitDefEqProofs [f57, startE, P.toD, outs, line, opAdd_lst _ _ _ z, i1]
  | recf f x k l b ih =>
    intro n bd st hn hl
    obtain ⟨n, rfl⟩ : ∃ m, n = m + 2 := ⟨n - 2, by omega⟩
    rw [run_def H.h57 _ _ _ rfl rfl]
    simp only [P.ht, P.sz] at hn hl
    have i1 := ih (n + 1) (bd ++ [f, x]) st (by omega) (by simp; omega)
    have z : (bd.map D.str).length + [D.str f, D.str x].length ≤ line := by simp [line]; omega
    simp only [nms, List.map_append, List.map_cons, List.map_nil] at i1
    simp -implicitDefEqProofs [f57, startE, P.toD, outs, line, opAdd_lst _ _ _ z, i1]
end
theorem slot_snoc (x y : Nm) (sc : List Nm) : slot x (sc ++ [y]) = if y = x then sc.length else slot x sc := by
  unfold slot
  simp only [List.reverse_append, List.reverse_cons, List.reverse_nil, List.nil_append, List.cons_append, List.length_append, List.length_cons, List.length_nil, List.idxOf_cons]
  by_cases e : y = x
  · simp [e]
  · rw [beq_eq_false_iff_ne.mpr e, if_neg e]; simp only [cond_false]; omega
theorem slot_lt (x : Nm) (sc : List Nm) (h : x ∈ sc) : slot x sc < sc.length := by
  have : 0 < sc.length := List.length_pos_of_mem h
  unfold slot; omega
section
variable {ds : Nat → Option Def} (H : HasComp ds)
include H
theorem run59 (n : Nat) (x : Nm) (sc : List Nm) (st : Store) (hx : x ∈ sc) (hl : sc.length < 900000) : run ds (n + 1) 59 [.str x, nms sc] st = .ok (.int (slot x sc)) st := by
  rw [run_def H.h59 _ _ _ rfl rfl]
  have loop : ∀ (l : List Nm) (r : List Nm) (m : Nat), l ++ r = sc → x ∈ l → l.length < m → whileL (rCond (callsAt ds n) (.cmp .ne (.idx (.var 1) (.var 2)) (.var 0))) (execL (callsAt ds n) f59_0_0) m [.val (.str x), .val (nms sc), .val (.int ((l.length : Int) - 1))] st = .nx [.val (.str x), .val (nms sc), .val (.int (slot x l))] st := by
    refine snoc_ind ?_ ?_
    · intro r m _ hm; cases hm
    · intro l y ih r m hsc hm hlt
      obtain ⟨m, rfl⟩ : ∃ k, m = k + 1 := ⟨m - 1, by omega⟩
      have e1 : (((l ++ [y]).length : Nat) : Int) - 1 = (l.length : Int) := by simp
      rw [e1]
      have h1 : atI (sc.map D.str) (l.length : Int) = some (.str y) := by
        rw [atI_nat, ← hsc]; simp
      by_cases e : y = x
      · have c : rCond (callsAt ds n) (.cmp .ne (.idx (.var 1) (.var 2)) (.var 0)) [.val (.str x), .val (nms sc), .val (.int (l.length : Int))] st = .ok false st := by simp -implicitDefEqProofs [rCond_eq, h1, e]
        rw [whileL_false _ _ _ _ _ _ c, slot_snoc, if_pos e]
      · have c : rCond (callsAt ds n) (.cmp .ne (.idx (.var 1) (.var 2)) (.var 0)) [.val (.str x), .val (nms sc), .val (.int (l.length : Int))] st = .ok true st := by simp -implicitDefEqProofs [rCond_eq, h1, beq_eq_false_iff_ne.mpr e]
        rw [whileL_true _ _ _ _ _ _ c, slot_snoc, if_neg e]
        simp -implicitDefEqProofs
        exact ih (y :: r) m (by rw [← hsc]; simp) (by rcases List.mem_append.mp hm with h | h; exact h; simp at h; exact absurd h.symm e) (by simp at hlt; omega)
  simp -implicitDefEqProofs [f59, startE]
  have := loop sc [] LF (by simp) hx (by simp [LF]; omega)
  simp only [nms] at this
  rw [this]
  simp -implicitDefEqProofs
end
end Pl
end
section
set_option Elab.async false
set_option linter.all false
set_option maxRecDepth 100000
namespace Pl
open Iv
/-- a code object at c, its rows at r -/
def CodeAt (st : Store) (c r : Nat) (rows : List D) : Prop := st[c]? = some (.ins 1 [(3, .ref r)]) ∧ st[r]? = some (.lst rows) ∧ c ≠ r
def wrt (st : Store) (r : Nat) (rows : List D) : Store := st.set r (.lst rows)
theorem CodeAt.wr {st : Store} {c r : Nat} {rows : List D} (h : CodeAt st c r rows) (rows' : List D) : CodeAt (wrt st r rows') c r rows' := by
  obtain ⟨h1, h2, h3⟩ := h
  have hr : r < st.length := by
    rw [List.getElem?_eq_some_iff] at h2; exact h2.1
  refine ⟨?_, ?_, h3⟩
  · unfold wrt; rw [List.getElem?_set_ne (fun e => h3 e.symm), h1]
  · unfold wrt; simp [hr]
@[simp] theorem wr_wr (st : Store) (r : Nat) (a b : List D) : wrt (wrt st r a) r b = wrt st r b := by simp [wrt]
theorem wr_self {st : Store} {c r : Nat} {rows : List D} (h : CodeAt st c r rows) : wrt st r rows = st := by
  unfold wrt
  apply List.ext_getElem?
  intro i
  by_cases e : r = i
  · subst e
    have hr : r < st.length := by
      have := h.2.1; rw [List.getElem?_eq_some_iff] at this; exact this.1
    rw [h.2.1]; simp [hr]
  · rw [List.getElem?_set_ne e]
theorem set_mid {α : Type} (a : List α) (x y : α) (b : List α) : (a ++ x :: b).set a.length y = a ++ y :: b := by simp
section
variable {st : Store} {c r : Nat} {rows : List D}
theorem CodeAt.ins (h : CodeAt st c r rows) : isIns (.ref c) 1 st = true := by simp [isIns, h.1]
theorem CodeAt.fld (h : CodeAt st c r rows) : opFld (.ref c) 3 st = .ok (.ref r) st := by simp [opFld, h.1]
theorem CodeAt.asL (h : CodeAt st c r rows) : Iv.asL (.ref r) st = some rows := by simp [Iv.asL, h.2.1]
theorem CodeAt.len (h : CodeAt st c r rows) : opLen (.ref r) st = .ok (.int rows.length) st := by simp [opLen, asSeq, h.asL]
theorem CodeAt.app (h : CodeAt st c r rows) (d : D) (hl : rows.length < 900000) : appO (.ref r) d st = some (wrt st r (rows ++ [d])) := by
  have : rows.length < 16777216 := by omega
  simp [appO, h.2.1, this, wrt]
theorem CodeAt.idx (h : CodeAt st c r rows) (i : Int) : opIdx (.ref r) (.int i) st = Res.opt (atI rows i) st := by simp [opIdx, asD, keyOf, h.2.1, asSeq, h.asL]
theorem CodeAt.set (h : CodeAt st c r rows) (i : Nat) (d : D) (hi : i < rows.length) : setIxO (.ref r) (.int i) d st = some (wrt st r (rows.set i d)) := by
  simp [setIxO, h.2.1, ixN_nat _ _ hi, wrt]
end
section
variable {ds : Nat → Option Def} (H : HasComp ds) {st : Store} {c r : Nat} {rows : List D}
include H
theorem run70 (h : CodeAt st c r rows) (n : Nat) (d : D) (hl : rows.length < 900000) : run ds (n + 1) 70 [.ref c, d] st = .ok .non (wrt st r (rows ++ [d])) := by
  rw [run_def H.h70 _ _ _ rfl rfl]
  simp -implicitDefEqProofs [f70, startE, h.fld, h.asL, h.app _ hl]
theorem run71 (h : CodeAt st c r rows) (n : Nat) (w : List Nat) (hl : rows.length < 900000) : run ds (n + 1) 71 [.ref c, .str w] st = .ok (.int rows.length) (wrt st r (rows ++ [.tup [.str w, .int (-1)]])) := by
  rw [run_def H.h71 _ _ _ rfl rfl]
  have h2 := h.wr (rows ++ [.tup [.str w, .int (-1)]])
  simp -implicitDefEqProofs [f71, startE, h.fld, h.asL, h.app _ hl, h2.fld, h2.len, line]
theorem run72 (h : CodeAt st c r rows) (n i : Nat) (w : List Nat) (d : D) (hr : rows[i]? = some (.tup [.str w, d])) : run ds (n + 1) 72 [.ref c, .int i] st = .ok .non (wrt st r (rows.set i (.tup [.str w, .int rows.length]))) := by
  rw [run_def H.h72 _ _ _ rfl rfl]
  have hi : i < rows.length := by rw [List.getElem?_eq_some_iff] at hr; exact hr.1
  simp -implicitDefEqProofs [f72, startE, h.fld, h.idx, atI_nat, hr, h.len, line, h.set _ _ hi]
theorem run60 (h : CodeAt st c r rows) (n : Nat) (last : Bool) (hl : rows.length < 900000) : run ds (n + 2) 60 [.ref c, .bl last] st = .ok .non (wrt st r (rows ++ (bk last).map Ins.toD)) := by
  rw [run_def H.h60 _ _ _ rfl rfl]
  have a := run70 H h n (.tup [.str wd_back]) hl
  cases last
  · simp -implicitDefEqProofs [f60, startE, bk, wr_self h]
  · simp -implicitDefEqProofs [f60, startE, bk, h.ins, line, a, Ins.toD]
end
def P.clo : P → List Nm → Prop
  | .name x, sc => x ∈ sc
  | .one _ p, sc => p.clo sc
  | .two _ p q, sc => p.clo sc ∧ q.clo sc
  | .ite c a b, sc => c.clo sc ∧ a.clo sc ∧ b.clo sc
  | .letp x a b, sc => a.clo sc ∧ b.clo (sc ++ [x])
  | .fn x _ b, sc => (∀ y ∈ outs b [x], y ∈ sc) ∧ b.clo (outs b [x] ++ [x])
  | .recf f x _ _ b, sc => (∀ y ∈ outs b [f, x], y ∈ sc) ∧ b.clo (outs b [f, x] ++ [f, x])
  | _, _ => True
theorem bk_len (l : Bool) : (bk l).length ≤ 1 := by cases l <;> simp [bk]
theorem gen_len (p : P) : ∀ sc n l, (gen (rs p sc) n l).length ≤ 4 * p.sz := by
  induction p with
  | num i => intro sc n l; have := bk_len l; simp only [rs, gen, P.sz, List.length_cons]; omega
  | truth i => intro sc n l; have := bk_len l; simp only [rs, gen, P.sz, List.length_cons]; omega
  | nil i => intro sc n l; have := bk_len l; simp only [rs, gen, P.sz, List.length_cons]; omega
  | name i => intro sc n l; have := bk_len l; simp only [rs, gen, P.sz, List.length_cons]; omega
  | one w p ih => intro sc n l; have := bk_len l; have := ih sc n false; simp only [rs, gen, P.sz, List.length_cons, List.length_append]; omega
  | two w p q i1 i2 =>
    intro sc n l
    have := bk_len l
    have := i1 sc n false
    have := fun m z => i2 sc m z
    cases w <;> simp only [rs, gen, P.sz, List.length_cons, List.length_append, List.length_nil]
    case and => have := this (n + (gen (rs p sc) n false).length + 1) l; omega
    case or => have := this (n + (gen (rs p sc) n false).length + 1 + 1 + (bk l).length + 1) l; omega
    all_goals (have := this (n + (gen (rs p sc) n false).length) false; omega)
  | ite c a b i1 i2 i3 =>
    intro sc n l
    have := i1 sc n false
    have := i2 sc (n + (gen (rs c sc) n false).length + 1) l
    have := i3 sc (n + (gen (rs c sc) n false).length + 1 + (gen (rs a sc) (n + (gen (rs c sc) n false).length + 1) l).length + 1) l
    simp only [rs, gen, P.sz, List.length_cons, List.length_append]; omega
  | letp x a b i1 i2 =>
    intro sc n l
    have := i1 sc n false
    have := i2 (sc ++ [x]) (n + (gen (rs a sc) n false).length + 1) l
    have : (if l = true then ([] : List Ins) else [.unbind]).length ≤ 1 := by cases l <;> simp
    simp only [rs, gen, P.sz, List.length_cons, List.length_append]; omega
  | fn x k b ih =>
    intro sc n l
    have := bk_len l
    have := ih (outs b [x] ++ [x]) (n + 2) true
    simp only [rs, gen, P.sz, List.length_cons, List.length_append]; omega
  | recf f x k m b ih =>
    intro sc n l
    have := bk_len l
    have := ih (outs b [f, x] ++ [f, x]) (n + 2) true
    simp only [rs, gen, P.sz, List.length_cons, List.length_append]; omega
theorem ht_sz (p : P) : p.ht ≤ p.sz := by
  induction p <;> simp only [P.ht, P.sz] <;> omega
/-- what putting a part does -/
def PutOk (ds : Nat → Option Def) (n : Nat) (p : P) (sc : List Nm) (last : Bool) : Prop :=
  ∀ st c r rows, CodeAt st c r rows → rows.length + 5 * p.sz < 800000 → run ds n 65 [.ref c, p.toD, nms sc, .bl last] st = .ok .non (wrt st r (rows ++ (gen (rs p sc) rows.length last).map Ins.toD))
section
variable {ds : Nat → Option Def} (H : HasComp ds)
include H
theorem put_leaf (n : Nat) (p : P) (sc : List Nm) (last : Bool) (w : List Nat) (i : Ins) (more : List D) (hp : p.toD = .tup (.str w :: more)) (hw : w ≠ wd_if ∧ w ≠ wd_and ∧ w ≠ wd_or ∧ w ≠ wd_let ∧ w ≠ wd_call) (hg : ∀ m, gen (rs p sc) m last = i :: bk last)
    (h64 : ∀ st c r rows, CodeAt st c r rows → rows.length + 5 * p.sz < 800000 → run ds (n + 2) 64 [.ref c, p.toD, nms sc] st = .ok .non (wrt st r (rows ++ [i.toD]))) : PutOk ds (n + 3) p sc last := by
  intro st c r rows h hl
  rw [run_def H.h65 _ _ _ rfl rfl]
  have a := h64 st c r rows h hl
  have b := run60 H (h.wr (rows ++ [i.toD])) n last (by simp only [List.length_append, List.length_cons, List.length_nil]; omega)
  have hs : strsOf [D.str wd_if, D.str wd_and, D.str wd_or] = some [wd_if, wd_and, wd_or] := rfl
  obtain ⟨h1, h2, h3, h4, h5⟩ := hw
  rw [hp] at a
  simp -implicitDefEqProofs [f65, startE, hp, inSeq_str _ hs, h1, h2, h3, beq_eq_false_iff_ne.mpr h4, beq_eq_false_iff_ne.mpr h5, a, b, hg]
theorem put_num (n : Nat) (i : Int) (sc : List Nm) (last : Bool) : PutOk ds (n + 3) (.num i) sc last := by
  refine put_leaf H n _ sc last wd_num (.num i) _ rfl (by decide) (fun m => rfl) ?_
  intro st c r rows h hl
  rw [run_def H.h64 _ _ _ rfl rfl]
  simp only [P.sz] at hl
  simp -implicitDefEqProofs [f64, startE, P.toD, Ins.toD, h.ins, line, run70 H h (n + 0) _ (by omega)]
theorem put_truth (n : Nat) (i : Bool) (sc : List Nm) (last : Bool) : PutOk ds (n + 3) (.truth i) sc last := by
  refine put_leaf H n _ sc last wd_truth (.truth i) _ rfl (by decide) (fun m => rfl) ?_
  intro st c r rows h hl
  rw [run_def H.h64 _ _ _ rfl rfl]
  simp only [P.sz] at hl
  simp -implicitDefEqProofs [f64, startE, P.toD, Ins.toD, h.ins, line, run70 H h n _ (by omega)]
theorem put_nil (n : Nat) (k : K) (sc : List Nm) (last : Bool) : PutOk ds (n + 3) (.nil k) sc last := by
  refine put_leaf H n _ sc last wd_nil .nil _ rfl (by decide) (fun m => rfl) ?_
  intro st c r rows h hl
  rw [run_def H.h64 _ _ _ rfl rfl]
  simp only [P.sz] at hl
  simp -implicitDefEqProofs [f64, startE, P.toD, Ins.toD, h.ins, line, run70 H h n _ (by omega)]
theorem put_name (n : Nat) (x : Nm) (sc : List Nm) (last : Bool) (hx : x ∈ sc) (hs : sc.length < 800000) : PutOk ds (n + 3) (.name x) sc last := by
  refine put_leaf H n _ sc last wd_name (.load (slot x sc)) _ rfl (by decide) (fun m => rfl) ?_
  intro st c r rows h hl
  rw [run_def H.h64 _ _ _ rfl rfl]
  simp only [P.sz] at hl
  simp -implicitDefEqProofs [f64, startE, P.toD, Ins.toD, h.ins, line, run59 H n x sc _ hx (by omega), run70 H h n _ (by omega)]
/-- an end in the last place -/
theorem put_plain (n : Nat) (p : P) (sc : List Nm) (last : Bool) (w : List Nat) (more : List D) (code : Nat → List Ins) (hp : p.toD = .tup (.str w :: more)) (hw : w ≠ wd_if ∧ w ≠ wd_and ∧ w ≠ wd_or ∧ w ≠ wd_let) (hc : w ≠ wd_call ∨ last = false) (hg : ∀ m, gen (rs p sc) m last = code m ++ bk last)
    (hlen : ∀ m, (code m).length ≤ 4 * p.sz) (h64 : ∀ st c r rows, CodeAt st c r rows → rows.length + 5 * p.sz < 800000 → run ds (n + 2) 64 [.ref c, p.toD, nms sc] st = .ok .non (wrt st r (rows ++ (code rows.length).map Ins.toD))) : PutOk ds (n + 3) p sc last := by
  intro st c r rows h hl
  rw [run_def H.h65 _ _ _ rfl rfl]
  have a := h64 st c r rows h hl
  have b := run60 H (h.wr (rows ++ (code rows.length).map Ins.toD)) n last (by have := hlen rows.length; simp only [List.length_append, List.length_map]; omega)
  have hs : strsOf [D.str wd_if, D.str wd_and, D.str wd_or] = some [wd_if, wd_and, wd_or] := rfl
  obtain ⟨h1, h2, h3, h4⟩ := hw
  rw [hp] at a
  rcases hc with h5 | h5
  · simp -implicitDefEqProofs [f65, startE, hp, inSeq_str _ hs, h1, h2, h3, beq_eq_false_iff_ne.mpr h4, beq_eq_false_iff_ne.mpr h5, a, b, hg]
  · subst h5
    cases e : w == wd_call <;> simp -implicitDefEqProofs [f65, startE, hp, inSeq_str _ hs, h1, h2, h3, beq_eq_false_iff_ne.mpr h4, e, a, b, hg]
theorem put_one (n : Nat) (w : W1) (p : P) (sc : List Nm) (last : Bool) (ih : PutOk ds (n + 1) p sc false) : PutOk ds (n + 3) (.one w p) sc last := by
  refine put_plain H n _ sc last w.txt [p.toD] (fun m => gen (rs p sc) m false ++ [.one w]) rfl (by cases w <;> decide) (.inl (by cases w <;> decide)) (fun m => by simp [rs, gen]) (fun m => by have := gen_len p sc m false; simp only [List.length_append, List.length_cons, List.length_nil, P.sz]; omega) ?_
  intro st c r rows h hl
  rw [run_def H.h64 _ _ _ rfl rfl]
  simp only [P.sz] at hl
  have a := ih st c r rows h (by omega)
  have h2 := h.wr (rows ++ (gen (rs p sc) rows.length false).map Ins.toD)
  have b := fun d => run70 H h2 n d (by have := gen_len p sc rows.length false; simp only [List.length_append, List.length_map]; omega)
  have hs : strsOf [D.str wd_head, D.str wd_tail, D.str wd_empty, D.str wd_first, D.str wd_second, D.str wd_not] = some [wd_head, wd_tail, wd_empty, wd_first, wd_second, wd_not] := rfl
  cases w <;> simp -implicitDefEqProofs [f64, startE, P.toD, Ins.toD, W1.txt, line, gval, inSeq_str _ hs, a, h2.ins, b]
theorem put_two (n : Nat) (w : W2) (p q : P) (sc : List Nm) (last : Bool) (hw : w ≠ .and ∧ w ≠ .or) (hc : w ≠ .call ∨ last = false) (ih : PutOk ds (n + 1) p sc false) (ih2 : PutOk ds (n + 1) q sc false) : PutOk ds (n + 3) (.two w p q) sc last := by
  have sz := fun m => gen_len p sc m false
  have sz2 := fun m => gen_len q sc m false
  refine put_plain H n _ sc last w.txt [p.toD, q.toD] (fun m => gen (rs p sc) m false ++ (gen (rs q sc) (m + (gen (rs p sc) m false).length) false ++ [.two w])) rfl ?_ ?_ ?_ ?_ ?_
  · obtain ⟨a, b⟩ := hw
    cases w <;> first | exact absurd rfl a | exact absurd rfl b | decide
  · rcases hc with h | h
    · left; cases w <;> first | exact absurd rfl h | decide
    · exact .inr h
  · intro m
    obtain ⟨a, b⟩ := hw
    rcases hc with h | h
    · cases w <;> first | exact absurd rfl a | exact absurd rfl b | exact absurd rfl h | simp [rs, gen]
    · subst h; cases w <;> first | exact absurd rfl a | exact absurd rfl b | simp [rs, gen, bk]
  · intro m
    have := sz m
    have := sz2 (m + (gen (rs p sc) m false).length)
    simp only [List.length_append, List.length_cons, List.length_nil, P.sz]; omega
  intro st c r rows h hl
  rw [run_def H.h64 _ _ _ rfl rfl]
  simp only [P.sz] at hl
  have s1 := sz rows.length
  have s2 := sz2 (rows.length + (gen (rs p sc) rows.length false).length)
  have a := ih st c r rows h (by omega)
  have h2 := h.wr (rows ++ (gen (rs p sc) rows.length false).map Ins.toD)
  have a2 := ih2 _ c r _ h2 (by simp only [List.length_append, List.length_map]; omega)
  simp only [List.length_append, List.length_map, wr_wr] at a2
  have h3 := h.wr (rows ++ (gen (rs p sc) rows.length false).map Ins.toD ++ (gen (rs q sc) (rows.length + (gen (rs p sc) rows.length false).length) false).map Ins.toD)
  have b := fun d => run70 H h3 n d (by simp only [List.length_append, List.length_map]; omega)
  have hs : strsOf [D.str wd_head, D.str wd_tail, D.str wd_empty, D.str wd_first, D.str wd_second, D.str wd_not] = some [wd_head, wd_tail, wd_empty, wd_first, wd_second, wd_not] := rfl
  simp only [List.append_assoc] at a2 h3 b
  obtain ⟨n1, n2⟩ := hw
  cases w <;> first | exact absurd rfl n1 | exact absurd rfl n2 | simp -implicitDefEqProofs [f64, startE, P.toD, Ins.toD, W2.txt, line, gval, inSeq_str _ hs, a, a2, h3.ins, b]
theorem put_call (n : Nat) (p q : P) (sc : List Nm) (ih : PutOk ds (n + 1) p sc false) (ih2 : PutOk ds (n + 1) q sc false) : PutOk ds (n + 2) (.two .call p q) sc true := by
  intro st c r rows h hl
  rw [run_def H.h65 _ _ _ rfl rfl]
  simp only [P.sz] at hl
  have s1 := gen_len p sc rows.length false
  have s2 := gen_len q sc (rows.length + (gen (rs p sc) rows.length false).length) false
  have a := ih st c r rows h (by omega)
  have h2 := h.wr (rows ++ (gen (rs p sc) rows.length false).map Ins.toD)
  have a2 := ih2 _ c r _ h2 (by simp only [List.length_append, List.length_map]; omega)
  simp only [List.length_append, List.length_map, wr_wr] at a2
  have h3 := h.wr (rows ++ (gen (rs p sc) rows.length false).map Ins.toD ++ (gen (rs q sc) (rows.length + (gen (rs p sc) rows.length false).length) false).map Ins.toD)
  have b := fun d => run70 H h3 n d (by simp only [List.length_append, List.length_map]; omega)
  have hs : strsOf [D.str wd_if, D.str wd_and, D.str wd_or] = some [wd_if, wd_and, wd_or] := rfl
  simp only [List.append_assoc] at a2 h3 b
  simp -implicitDefEqProofs [f65, startE, P.toD, Ins.toD, W2.txt, line, inSeq_str _ hs, a, a2, h3.ins, b, rs, gen]
theorem put_let (n : Nat) (x : Nm) (p q : P) (sc : List Nm) (last : Bool) (hs : sc.length < 800000) (ih : PutOk ds (n + 1) p sc false) (ih2 : PutOk ds (n + 1) q (sc ++ [x]) last) : PutOk ds (n + 3) (.letp x p q) sc last := by
  intro st c r rows h hl
  rw [run_def H.h65 _ _ _ rfl rfl]
  simp only [P.sz] at hl
  have s1 := gen_len p sc rows.length false
  have s2 := gen_len q (sc ++ [x]) (rows.length + (gen (rs p sc) rows.length false).length + 1) last
  have a := ih st c r rows h (by omega)
  have h2 := h.wr (rows ++ (gen (rs p sc) rows.length false).map Ins.toD)
  have b := run70 H h2 n (.tup [.str wd_bind]) (by simp only [List.length_append, List.length_map]; omega)
  have h2b := h.wr (rows ++ (gen (rs p sc) rows.length false).map Ins.toD ++ [.tup [.str wd_bind]])
  have a2 := ih2 _ c r _ h2b (by simp only [List.length_append, List.length_map, List.length_cons, List.length_nil]; omega)
  simp only [List.length_append, List.length_map, wr_wr, List.length_cons, List.length_nil] at a2
  have e : rows.length + (gen (rs p sc) rows.length false).length + (0 + 1) = rows.length + (gen (rs p sc) rows.length false).length + 1 := rfl
  rw [e] at a2
  have h3 := h.wr (rows ++ (gen (rs p sc) rows.length false).map Ins.toD ++ [.tup [.str wd_bind]] ++ (gen (rs q (sc ++ [x])) (rows.length + (gen (rs p sc) rows.length false).length + 1) last).map Ins.toD)
  have b2 := run70 H h3 n (.tup [.str wd_unbind]) (by simp only [List.length_append, List.length_map, List.length_cons, List.length_nil]; omega)
  have z : (sc.map D.str).length + [D.str x].length ≤ line := by simp [line]; omega
  have hs : strsOf [D.str wd_if, D.str wd_and, D.str wd_or] = some [wd_if, wd_and, wd_or] := rfl
  simp only [List.append_assoc, nms, List.map_append, List.map_cons, List.map_nil, List.cons_append, List.nil_append] at a2 h3 b b2
  have h63 : run ds (n + 2) 63 [.ref c, (P.letp x p q).toD, nms sc, .bl last] st = .ok .non (wrt st r (rows ++ (gen (rs (.letp x p q) sc) rows.length last).map Ins.toD)) := by
    rw [run_def H.h63 _ _ _ rfl rfl]
    cases last <;> simp -implicitDefEqProofs [f63, startE, P.toD, Ins.toD, line, a, h2.ins, b, opAdd_lst _ _ _ z, a2, h3.ins, b2, rs, gen]
  simp only [P.toD] at h63
  simp -implicitDefEqProofs [f65, startE, P.toD, inSeq_str _ hs, h63]
end
end Pl
end
section
set_option Elab.async false
set_option linter.all false
set_option maxRecDepth 100000
namespace Pl
open Iv
section
variable {ds : Nat → Option Def} (H : HasComp ds)
include H
theorem run72m {st : Store} {c r : Nat} {pre post : List D} {w : List Nat} {d : D} (h : CodeAt st c r (pre ++ .tup [.str w, d] :: post)) (n i g : Nat) (hi : i = pre.length) (hg : g = pre.length + 1 + post.length) :
    run ds (n + 1) 72 [.ref c, .int i] st = .ok .non (wrt st r (pre ++ .tup [.str w, .int g] :: post)) := by
  have := run72 H h n i w d (by rw [hi]; simp)
  rw [this, hi, set_mid]
  have e : (pre ++ D.tup [.str w, d] :: post).length = g := by rw [hg]; simp only [List.length_append, List.length_cons]; omega
  rw [e]
theorem run71i {st : Store} {c r : Nat} {rows : List D} (h : CodeAt st c r rows) (n : Nat) (w : List Nat) (i : Nat) (hi : i = rows.length) (hl : rows.length < 900000) : run ds (n + 1) 71 [.ref c, .str w] st = .ok (.int i) (wrt st r (rows ++ [.tup [.str w, .int (-1)]])) := by
  rw [run71 H h n w hl, hi]
theorem put_ite (n : Nat) (a b d : P) (sc : List Nm) (last : Bool) (ih : PutOk ds (n + 1) a sc false) (ih2 : PutOk ds (n + 1) b sc last) (ih3 : PutOk ds (n + 1) d sc last) : PutOk ds (n + 3) (.ite a b d) sc last := by
  intro st c r rows h hl
  rw [run_def H.h65 _ _ _ rfl rfl]
  simp only [P.sz] at hl
  have s1 := gen_len a sc rows.length false
  have a1 := ih st c r rows h (by omega)
  obtain ⟨A, hA⟩ : ∃ A, A = gen (rs a sc) rows.length false := ⟨_, rfl⟩
  rw [← hA] at s1 a1
  have c1 := h.wr (rows ++ A.map Ins.toD)
  have a2 := run71i H c1 n wd_branch (rows.length + A.length) (by simp) (by simp; omega)
  rw [wr_wr] at a2
  have c2 := h.wr (rows ++ A.map Ins.toD ++ [.tup [.str wd_branch, .int (-1)]])
  have a3 := ih2 _ c r _ c2 (by simp; omega)
  have e1 : (rows ++ A.map Ins.toD ++ [D.tup [.str wd_branch, .int (-1)]]).length = rows.length + A.length + 1 := by simp; omega
  rw [wr_wr, e1] at a3
  have s2 := gen_len b sc (rows.length + A.length + 1) last
  obtain ⟨B, hB⟩ : ∃ B, B = gen (rs b sc) (rows.length + A.length + 1) last := ⟨_, rfl⟩
  rw [← hB] at s2 a3
  have c3 := h.wr (rows ++ A.map Ins.toD ++ [.tup [.str wd_branch, .int (-1)]] ++ B.map Ins.toD)
  have a4 := run71i H c3 n wd_jump (rows.length + A.length + 1 + B.length) (by simp; omega) (by simp; omega)
  rw [wr_wr] at a4
  have c4 := h.wr ((rows ++ A.map Ins.toD) ++ .tup [.str wd_branch, .int (-1)] :: (B.map Ins.toD ++ [.tup [.str wd_jump, .int (-1)]]))
  have a5 := run72m H c4 n (rows.length + A.length) (rows.length + A.length + 1 + B.length + 1) (by simp) (by simp; omega)
  rw [wr_wr] at a5
  have c5 := h.wr ((rows ++ A.map Ins.toD) ++ .tup [.str wd_branch, .int ((rows.length + A.length + 1 + B.length + 1 : Nat) : Int)] :: (B.map Ins.toD ++ [.tup [.str wd_jump, .int (-1)]]))
  have a6 := ih3 _ c r _ c5 (by simp; omega)
  have e2 : ((rows ++ A.map Ins.toD) ++ D.tup [.str wd_branch, .int ((rows.length + A.length + 1 + B.length + 1 : Nat) : Int)] :: (B.map Ins.toD ++ [.tup [.str wd_jump, .int (-1)]])).length = rows.length + A.length + 1 + B.length + 1 := by simp; omega
  rw [wr_wr, e2] at a6
  obtain ⟨C, hC⟩ : ∃ C, C = gen (rs d sc) (rows.length + A.length + 1 + B.length + 1) last := ⟨_, rfl⟩
  rw [← hC] at a6
  have c6 := h.wr ((rows ++ A.map Ins.toD ++ .tup [.str wd_branch, .int ((rows.length + A.length + 1 + B.length + 1 : Nat) : Int)] :: B.map Ins.toD) ++ .tup [.str wd_jump, .int (-1)] :: C.map Ins.toD)
  have a7 := run72m H c6 n (rows.length + A.length + 1 + B.length) (rows.length + A.length + 1 + B.length + 1 + C.length) (by simp; omega) (by simp; omega)
  rw [wr_wr] at a7
  have hs : strsOf [D.str wd_if, D.str wd_and, D.str wd_or] = some [wd_if, wd_and, wd_or] := rfl
  simp only [List.append_assoc, List.cons_append, List.nil_append] at a1 a2 a3 a4 a5 a6 a7 c1 c2 c3 c4 c5 c6
  have h62 : run ds (n + 2) 62 [.ref c, (P.ite a b d).toD, nms sc, .bl last] st = .ok .non (wrt st r (rows ++ (gen (rs (.ite a b d) sc) rows.length last).map Ins.toD)) := by
    rw [run_def H.h62 _ _ _ rfl rfl]
    simp -implicitDefEqProofs only [rs, gen, ← hA, ← hB, ← hC]
    simp -implicitDefEqProofs [-Int.natCast_add, f62, startE, P.toD, Ins.toD, a1, c1.ins, a2, a3, c3.ins, a4, c4.ins, a5, a6, c6.ins, a7]
  simp only [P.toD] at h62
  simp -implicitDefEqProofs [f65, startE, P.toD, inSeq_str _ hs, h62]
theorem put_and (n : Nat) (a b : P) (sc : List Nm) (last : Bool) (ih : PutOk ds (n + 2) a sc false) (ih2 : PutOk ds (n + 2) b sc last) : PutOk ds (n + 4) (.two .and a b) sc last := by
  intro st c r rows h hl
  rw [run_def H.h65 _ _ _ rfl rfl]
  simp only [P.sz] at hl
  have s1 := gen_len a sc rows.length false
  have a1 := ih st c r rows h (by omega)
  obtain ⟨A, hA⟩ : ∃ A, A = gen (rs a sc) rows.length false := ⟨_, rfl⟩
  rw [← hA] at s1 a1
  have c1 := h.wr (rows ++ A.map Ins.toD)
  have a2 := run71i H c1 (n+1) wd_branch (rows.length + A.length) (by simp) (by simp; omega)
  rw [wr_wr] at a2
  have c2 := h.wr (rows ++ A.map Ins.toD ++ [.tup [.str wd_branch, .int (-1)]])
  have a3 := ih2 _ c r _ c2 (by simp; omega)
  have e1 : (rows ++ A.map Ins.toD ++ [D.tup [.str wd_branch, .int (-1)]]).length = rows.length + A.length + 1 := by simp; omega
  rw [wr_wr, e1] at a3
  have s2 := gen_len b sc (rows.length + A.length + 1) last
  obtain ⟨B, hB⟩ : ∃ B, B = gen (rs b sc) (rows.length + A.length + 1) last := ⟨_, rfl⟩
  rw [← hB] at s2 a3
  have c3 := h.wr (rows ++ A.map Ins.toD ++ [.tup [.str wd_branch, .int (-1)]] ++ B.map Ins.toD)
  have a4 := run71i H c3 (n+1) wd_jump (rows.length + A.length + 1 + B.length) (by simp; omega) (by simp; omega)
  rw [wr_wr] at a4
  have c4 := h.wr ((rows ++ A.map Ins.toD) ++ .tup [.str wd_branch, .int (-1)] :: (B.map Ins.toD ++ [.tup [.str wd_jump, .int (-1)]]))
  have a5 := run72m H c4 (n+1) (rows.length + A.length) (rows.length + A.length + 1 + B.length + 1) (by simp) (by simp; omega)
  rw [wr_wr] at a5
  have c5 := h.wr ((rows ++ A.map Ins.toD) ++ .tup [.str wd_branch, .int ((rows.length + A.length + 1 + B.length + 1 : Nat) : Int)] :: (B.map Ins.toD ++ [.tup [.str wd_jump, .int (-1)]]))
  have a6 := run70 H c5 (n+1) (.tup [.str wd_push, .tup [.str wd_truth, .bl false]]) (by simp; omega)
  rw [wr_wr] at a6
  have c6 := h.wr ((rows ++ A.map Ins.toD) ++ .tup [.str wd_branch, .int ((rows.length + A.length + 1 + B.length + 1 : Nat) : Int)] :: (B.map Ins.toD ++ [.tup [.str wd_jump, .int (-1)]]) ++ [.tup [.str wd_push, .tup [.str wd_truth, .bl false]]])
  have a7 := run60 H c6 (n - 0) last (by simp; omega)
  rw [wr_wr, Nat.sub_zero] at a7
  have c7 := h.wr ((rows ++ A.map Ins.toD ++ .tup [.str wd_branch, .int ((rows.length + A.length + 1 + B.length + 1 : Nat) : Int)] :: B.map Ins.toD) ++ .tup [.str wd_jump, .int (-1)] :: (.tup [.str wd_push, .tup [.str wd_truth, .bl false]] :: (bk last).map Ins.toD))
  have a8 := run72m H c7 (n+1) (rows.length + A.length + 1 + B.length) (rows.length + A.length + 1 + B.length + 1 + 1 + (bk last).length) (by simp; omega) (by simp; omega)
  rw [wr_wr] at a8
  have hs : strsOf [D.str wd_if, D.str wd_and, D.str wd_or] = some [wd_if, wd_and, wd_or] := rfl
  simp only [List.append_assoc, List.cons_append, List.nil_append] at a1 a2 a3 a4 a5 a6 a7 a8 c1 c2 c3 c4 c5 c6 c7
  have h62 : run ds (n + 3) 62 [.ref c, (P.two .and a b).toD, nms sc, .bl last] st = .ok .non (wrt st r (rows ++ (gen (rs (.two .and a b) sc) rows.length last).map Ins.toD)) := by
    rw [run_def H.h62 _ _ _ rfl rfl]
    simp -implicitDefEqProofs only [rs, gen, ← hA, ← hB]
    simp -implicitDefEqProofs [-Int.natCast_add, f62, startE, P.toD, W2.txt, Ins.toD, a1, c1.ins, a2, a3, c3.ins, a4, c4.ins, a5, a6, c5.ins, a7, c7.ins, a8]
  simp only [P.toD, W2.txt] at h62
  simp -implicitDefEqProofs [f65, startE, P.toD, W2.txt, inSeq_str _ hs, h62]
theorem put_or (n : Nat) (a b : P) (sc : List Nm) (last : Bool) (ih : PutOk ds (n + 2) a sc false) (ih2 : PutOk ds (n + 2) b sc last) : PutOk ds (n + 4) (.two .or a b) sc last := by
  intro st c r rows h hl
  rw [run_def H.h65 _ _ _ rfl rfl]
  simp only [P.sz] at hl
  have s1 := gen_len a sc rows.length false
  have sb := bk_len last
  have a1 := ih st c r rows h (by omega)
  obtain ⟨A, hA⟩ : ∃ A, A = gen (rs a sc) rows.length false := ⟨_, rfl⟩
  rw [← hA] at s1 a1
  obtain ⟨T, hT⟩ : ∃ T, T = (bk last).length := ⟨_, rfl⟩
  rw [← hT] at sb
  have c1 := h.wr (rows ++ A.map Ins.toD)
  have a2 := run71i H c1 (n+1) wd_branch (rows.length + A.length) (by simp) (by simp; omega)
  rw [wr_wr] at a2
  have c2 := h.wr (rows ++ A.map Ins.toD ++ [.tup [.str wd_branch, .int (-1)]])
  have a3 := run70 H c2 (n+1) (.tup [.str wd_push, .tup [.str wd_truth, .bl true]]) (by simp; omega)
  rw [wr_wr] at a3
  have c3 := h.wr (rows ++ A.map Ins.toD ++ [.tup [.str wd_branch, .int (-1)]] ++ [.tup [.str wd_push, .tup [.str wd_truth, .bl true]]])
  have a4 := run60 H c3 n last (by simp; omega)
  rw [wr_wr] at a4
  have c4 := h.wr (rows ++ A.map Ins.toD ++ [.tup [.str wd_branch, .int (-1)]] ++ [.tup [.str wd_push, .tup [.str wd_truth, .bl true]]] ++ (bk last).map Ins.toD)
  have a5 := run71i H c4 (n+1) wd_jump (rows.length + A.length + 1 + 1 + T) (by simp [hT]; omega) (by simp; omega)
  rw [wr_wr] at a5
  have c5 := h.wr ((rows ++ A.map Ins.toD) ++ .tup [.str wd_branch, .int (-1)] :: (.tup [.str wd_push, .tup [.str wd_truth, .bl true]] :: ((bk last).map Ins.toD ++ [.tup [.str wd_jump, .int (-1)]])))
  have a6 := run72m H c5 (n+1) (rows.length + A.length) (rows.length + A.length + 1 + 1 + T + 1) (by simp) (by simp; omega)
  rw [wr_wr] at a6
  have c6 := h.wr ((rows ++ A.map Ins.toD) ++ .tup [.str wd_branch, .int ((rows.length + A.length + 1 + 1 + T + 1 : Nat) : Int)] :: (.tup [.str wd_push, .tup [.str wd_truth, .bl true]] :: ((bk last).map Ins.toD ++ [.tup [.str wd_jump, .int (-1)]])))
  have a7 := ih2 _ c r _ c6 (by simp; omega)
  have e1 : ((rows ++ A.map Ins.toD) ++ D.tup [.str wd_branch, .int ((rows.length + A.length + 1 + 1 + T + 1 : Nat) : Int)] :: (.tup [.str wd_push, .tup [.str wd_truth, .bl true]] :: ((bk last).map Ins.toD ++ [.tup [.str wd_jump, .int (-1)]]))).length = rows.length + A.length + 1 + 1 + T + 1 := by simp; omega
  rw [wr_wr, e1] at a7
  obtain ⟨B, hB⟩ : ∃ B, B = gen (rs b sc) (rows.length + A.length + 1 + 1 + T + 1) last := ⟨_, rfl⟩
  rw [← hB] at a7
  have c7 := h.wr ((rows ++ A.map Ins.toD ++ .tup [.str wd_branch, .int ((rows.length + A.length + 1 + 1 + T + 1 : Nat) : Int)] :: .tup [.str wd_push, .tup [.str wd_truth, .bl true]] :: (bk last).map Ins.toD) ++ .tup [.str wd_jump, .int (-1)] :: B.map Ins.toD)
  have a8 := run72m H c7 (n+1) (rows.length + A.length + 1 + 1 + T) (rows.length + A.length + 1 + 1 + T + 1 + B.length) (by simp; omega) (by simp; omega)
  rw [wr_wr] at a8
  have hs : strsOf [D.str wd_if, D.str wd_and, D.str wd_or] = some [wd_if, wd_and, wd_or] := rfl
  simp only [List.append_assoc, List.cons_append, List.nil_append] at a1 a2 a3 a4 a5 a6 a7 a8 c1 c2 c3 c4 c5 c6 c7
  have h62 : run ds (n + 3) 62 [.ref c, (P.two .or a b).toD, nms sc, .bl last] st = .ok .non (wrt st r (rows ++ (gen (rs (.two .or a b) sc) rows.length last).map Ins.toD)) := by
    rw [run_def H.h62 _ _ _ rfl rfl]
    simp -implicitDefEqProofs only [rs, gen, ← hA, ← hT, ← hB]
    simp -implicitDefEqProofs [-Int.natCast_add, f62, startE, P.toD, W2.txt, Ins.toD, a1, c1.ins, a2, a3, c2.ins, a4, c4.ins, a5, c5.ins, a6, a7, c7.ins, a8]
  simp only [P.toD, W2.txt] at h62
  simp -implicitDefEqProofs [f65, startE, P.toD, W2.txt, inSeq_str _ hs, h62]
/-- a written function -/
theorem run61 (n : Nat) (p : P) (b : P) (sc held more : List Nm) (rc : Bool) (hsc : sc.length < 800000) (hheld : held.length + more.length < 400000)
    (ho : ∀ st, run ds (n + 2) 57 [p.toD, nms []] st = .ok (nms held) st) (hin : ∀ y ∈ held, y ∈ sc)
    (hp : (rc = false ∧ ∃ x k, p.toD = .tup [.str wd_fn, .str x, k, b.toD] ∧ more = [x]) ∨ (rc = true ∧ ∃ f x k l, p.toD = .tup [.str wd_rec, .str f, .str x, k, l, b.toD] ∧ more = [f, x]))
    (ih : PutOk ds (n + 2) b (held ++ more) true) :
    ∀ st c r rows, CodeAt st c r rows → rows.length + 5 * (b.sz + 1) < 800000 → run ds (n + 3) 61 [.ref c, p.toD, nms sc] st = .ok .non (wrt st r (rows ++ (gen (.make (held.map fun y => slot y sc) rc (rs b (held ++ more))) rows.length false).map Ins.toD)) := by
  intro st c r rows h hl
  rw [run_def H.h61 _ _ _ rfl rfl]
  have s1 := gen_len b (held ++ more) (rows.length + 2) true
  have ho1 := ho st
  obtain ⟨mk, hmk⟩ : ∃ d, d = (Ins.make (rows.length + 2) (held.map fun y => slot y sc) rc).toD := ⟨_, rfl⟩
  have c1 := h.wr (rows ++ [mk])
  have a1 := run70 H h (n + 1) mk (by omega)
  have a2 := run71i H c1 (n + 1) wd_jump (rows.length + 1) (by simp) (by simp; omega)
  rw [wr_wr] at a2
  have c2 := h.wr (rows ++ [mk] ++ [.tup [.str wd_jump, .int (-1)]])
  have a3 := ih _ c r _ c2 (by simp; omega)
  have e1 : (rows ++ [mk] ++ [D.tup [.str wd_jump, .int (-1)]]).length = rows.length + 2 := by simp
  rw [wr_wr, e1] at a3
  obtain ⟨B, hB⟩ : ∃ B, B = gen (rs b (held ++ more)) (rows.length + 2) true := ⟨_, rfl⟩
  rw [← hB] at a3
  have c3 := h.wr ((rows ++ [mk]) ++ .tup [.str wd_jump, .int (-1)] :: B.map Ins.toD)
  have a4 := run72m H c3 (n + 1) (rows.length + 1) (rows.length + 2 + B.length) (by simp) (by simp)
  rw [wr_wr] at a4
  simp only [nms, List.append_assoc, List.cons_append, List.nil_append, List.map_append, List.map_nil, List.map_cons] at a1 a2 a3 a4 c1 c2 c3 ho1
  have l1 : held.length < 16777216 := by omega
  have l2 : held.length + 1 < 16777216 := by omega
  have hm : (D.tup [.str wd_make, .int ((rows.length : Int) + 2), .tup (held.map fun y => .int (slot y sc)), .bl rc] : D) = mk := by rw [hmk]; simp [Ins.toD]
  have h59 := fun y hy => run59 H (n + 1) y sc st (hin y hy) (by omega)
  have c2i := c2.ins
  simp only [gen, ← hB, List.map_cons, ← hmk]
  rcases hp with ⟨hr, x, k, e, em⟩ | ⟨hr, f, x, k, l, e, em⟩ <;> subst hr em <;> rw [e] at ho1 ⊢ <;> simp only [List.map_cons, List.map_nil] at a3
  · simp -implicitDefEqProofs [-Int.natCast_add, f61, startE, ho1, newO, l1]
    rw [kComp_items (h := mkSrc_seq_lst _) (hl := by simp [LF]; omega)]
    rw [compD_map [8] _ _ _ D.str (fun y => .int (slot y sc)) held _ (fun y hy => ⟨_, bindT_one _ _ _, by simp -implicitDefEqProofs [h59 y hy]⟩) (by simp; omega)]
    simp -implicitDefEqProofs [-Int.natCast_add, h.fld, h.ins, h.len, hm, a1, c1.ins, a2, a3, c3.ins, a4, bk, Ins.toD]
  · simp -implicitDefEqProofs [-Int.natCast_add, f61, startE, ho1, newO, l1, l2]
    rw [kComp_items (h := mkSrc_seq_lst _) (hl := by simp [LF]; omega)]
    rw [compD_map [8] _ _ _ D.str (fun y => .int (slot y sc)) held _ (fun y hy => ⟨_, bindT_one _ _ _, by simp -implicitDefEqProofs [h59 y hy]⟩) (by simp; omega)]
    simp -implicitDefEqProofs [-Int.natCast_add, h.fld, h.ins, h.len, hm, a1, c1.ins, a2, a3, c3.ins, a4, bk, Ins.toD]
theorem put_fun (n : Nat) (p : P) (b : P) (sc held more : List Nm) (rc : Bool) (last : Bool) (hsc : sc.length < 800000) (hheld : held.length + more.length < 400000) (hsz : p.sz = b.sz + 1)
    (ho : ∀ st, run ds (n + 2) 57 [p.toD, nms []] st = .ok (nms held) st) (hin : ∀ y ∈ held, y ∈ sc)
    (hp : (rc = false ∧ ∃ x k, p.toD = .tup [.str wd_fn, .str x, k, b.toD] ∧ more = [x]) ∨ (rc = true ∧ ∃ f x k l, p.toD = .tup [.str wd_rec, .str f, .str x, k, l, b.toD] ∧ more = [f, x]))
    (hr : rs p sc = .make (held.map fun y => slot y sc) rc (rs b (held ++ more)))
    (ih : PutOk ds (n + 2) b (held ++ more) true) : PutOk ds (n + 5) p sc last := by
  have key := run61 H n p b sc held more rc hsc hheld ho hin hp ih
  have gl := fun m => gen_len b (held ++ more) m true
  have hgen : ∀ m, gen (rs p sc) m last = gen (rs p sc) m false ++ bk last := fun m => by rw [hr]; simp [gen, bk]
  have hlen : ∀ m, (gen (rs p sc) m false).length ≤ 4 * p.sz := fun m => gen_len p sc m false
  rcases hp with ⟨e1, x, k, e, em⟩ | ⟨e1, f, x, k, l, e, em⟩
  · refine put_plain H (n + 2) p sc last wd_fn _ (fun m => gen (rs p sc) m false) e (by decide) (.inl (by decide)) hgen hlen ?_
    intro st c r rows h hl
    rw [run_def H.h64 _ _ _ rfl rfl]
    have := key st c r rows h (by omega)
    rw [← hr, e] at this
    simp -implicitDefEqProofs [f64, startE, e, this]
  · refine put_plain H (n + 2) p sc last wd_rec _ (fun m => gen (rs p sc) m false) e (by decide) (.inl (by decide)) hgen hlen ?_
    intro st c r rows h hl
    rw [run_def H.h64 _ _ _ rfl rfl]
    have := key st c r rows h (by omega)
    rw [← hr, e] at this
    simp -implicitDefEqProofs [f64, startE, e, this]
theorem put_all (p : P) : ∀ (n : Nat) (sc : List Nm) (last : Bool), 3 * p.ht + 5 ≤ n → p.clo sc → sc.length + p.ht < 200000 → p.sz < 50000 → PutOk ds n p sc last := by
  induction p with
  | num i => intro n sc last hn _ _ _; obtain ⟨n, rfl⟩ : ∃ m, n = m + 3 := ⟨n - 3, by omega⟩; exact put_num H n i sc last
  | truth i => intro n sc last hn _ _ _; obtain ⟨n, rfl⟩ : ∃ m, n = m + 3 := ⟨n - 3, by omega⟩; exact put_truth H n i sc last
  | nil i => intro n sc last hn _ _ _; obtain ⟨n, rfl⟩ : ∃ m, n = m + 3 := ⟨n - 3, by omega⟩; exact put_nil H n i sc last
  | name x => intro n sc last hn hc hs _; obtain ⟨n, rfl⟩ : ∃ m, n = m + 3 := ⟨n - 3, by omega⟩; exact put_name H n x sc last hc (by omega)
  | one w p ih =>
    intro n sc last hn hc hs hz
    simp only [P.ht, P.sz, P.clo] at hn hc hs hz
    obtain ⟨n, rfl⟩ : ∃ m, n = m + 3 := ⟨n - 3, by omega⟩
    exact put_one H n w p sc last (ih _ _ _ (by omega) hc (by omega) (by omega))
  | two w p q i1 i2 =>
    intro n sc last hn hc hs hz
    simp only [P.ht, P.sz, P.clo] at hn hc hs hz
    obtain ⟨n, rfl⟩ : ∃ m, n = m + 4 := ⟨n - 4, by omega⟩
    have a := fun m l hm => i1 m sc l hm hc.1 (by omega) (by omega)
    have b := fun m l hm => i2 m sc l hm hc.2 (by omega) (by omega)
    by_cases e1 : w = .and
    · subst e1; exact put_and H n p q sc last (a _ _ (by omega)) (b _ _ (by omega))
    by_cases e2 : w = .or
    · subst e2; exact put_or H n p q sc last (a _ _ (by omega)) (b _ _ (by omega))
    by_cases e3 : w = .call ∧ last = true
    · obtain ⟨e3, e4⟩ := e3
      subst e3 e4; exact put_call H (n + 2) p q sc (a _ _ (by omega)) (b _ _ (by omega))
    · exact put_two H (n + 1) w p q sc last ⟨e1, e2⟩ (by by_cases e4 : w = .call; right; (cases last; rfl; exact absurd ⟨e4, rfl⟩ e3); exact .inl e4) (a _ _ (by omega)) (b _ _ (by omega))
  | ite c a b i1 i2 i3 =>
    intro n sc last hn hc hs hz
    simp only [P.ht, P.sz, P.clo] at hn hc hs hz
    obtain ⟨n, rfl⟩ : ∃ m, n = m + 3 := ⟨n - 3, by omega⟩
    exact put_ite H n c a b sc last (i1 _ _ _ (by omega) hc.1 (by omega) (by omega)) (i2 _ _ _ (by omega) hc.2.1 (by omega) (by omega)) (i3 _ _ _ (by omega) hc.2.2 (by omega) (by omega))
  | letp x a b i1 i2 =>
    intro n sc last hn hc hs hz
    simp only [P.ht, P.sz, P.clo] at hn hc hs hz
    obtain ⟨n, rfl⟩ : ∃ m, n = m + 3 := ⟨n - 3, by omega⟩
    exact put_let H n x a b sc last (by omega) (i1 _ _ _ (by omega) hc.1 (by omega) (by omega)) (i2 _ _ _ (by omega) hc.2 (by simp; omega) (by omega))
  | fn x k b ih =>
    intro n sc last hn hc hs hz
    simp only [P.ht, P.sz, P.clo] at hn hc hs hz
    obtain ⟨n, rfl⟩ : ∃ m, n = m + 5 := ⟨n - 5, by omega⟩
    have hz2 := ht_sz b
    have ol := outs_len b [x]
    refine put_fun H n _ b sc (outs b [x]) [x] false last (by omega) (by simp; omega) rfl (fun st => ?_) hc.1 (.inl ⟨rfl, x, k.toD, rfl, rfl⟩) rfl (ih _ _ _ (by omega) hc.2 (by simp; omega) (by omega))
    exact run57 H (.fn x k b) (n + 2) [] st (by simp only [P.ht]; omega) (by simp [P.sz]; omega)
  | recf f x k l b ih =>
    intro n sc last hn hc hs hz
    simp only [P.ht, P.sz, P.clo] at hn hc hs hz
    obtain ⟨n, rfl⟩ : ∃ m, n = m + 5 := ⟨n - 5, by omega⟩
    have hz2 := ht_sz b
    have ol := outs_len b [f, x]
    refine put_fun H n _ b sc (outs b [f, x]) [f, x] true last (by omega) (by simp; omega) rfl (fun st => ?_) hc.1 (.inr ⟨rfl, f, x, k.toD, l.toD, rfl, rfl⟩) rfl (ih _ _ _ (by omega) hc.2 (by simp; omega) (by omega))
    exact run57 H (.recf f x k l b) (n + 2) [] st (by simp only [P.ht]; omega) (by simp [P.sz]; omega)
end
end Pl
end
section
set_option Elab.async false
set_option linter.all false
set_option maxRecDepth 100000
namespace Pl
open Iv
theorem mem_joined {y : Nm} {a b : List Nm} : y ∈ joined a b ↔ y ∈ a ∨ y ∈ b := by
  unfold joined
  simp only [List.mem_append, List.mem_filter, Bool.not_eq_true', decide_eq_false_iff_not]
  constructor
  · rintro (h | h); exact .inl h; exact .inr h.1
  · rintro (h | h); exact .inl h
    by_cases e : y ∈ a; exact .inl e; exact .inr ⟨h, e⟩
theorem mem_outs (p : P) : ∀ (bd : List Nm) (y : Nm), y ∈ outs p bd ↔ y ∈ outs p [] ∧ y ∉ bd := by
  induction p with
  | num _ => intro bd y; simp [outs]
  | truth _ => intro bd y; simp [outs]
  | nil _ => intro bd y; simp [outs]
  | name x =>
    intro bd y; simp only [outs]
    by_cases e : x ∈ bd
    · rw [if_pos e]; simp; intro h; subst h; exact e
    · rw [if_neg e]; simp; intro h; subst h; exact e
  | one w p ih => intro bd y; simp only [outs, mem_joined, ih bd y]; simp
  | two w p q i1 i2 => intro bd y; simp only [outs, mem_joined, i1 bd y, i2 bd y]; simp; rw [or_and_right]
  | ite c a b i1 i2 i3 => intro bd y; simp only [outs, mem_joined, i1 bd y, i2 bd y, i3 bd y]; simp; rw [or_and_right, or_and_right]
  | letp x a b i1 i2 =>
    intro bd y; simp only [outs, mem_joined, i1 bd y, i2 (bd ++ [x]) y, i2 ([] ++ [x]) y]; simp
    constructor
    · rintro (⟨h, h2⟩ | ⟨h, h2, h3⟩); exact ⟨.inl h, h2⟩; exact ⟨.inr ⟨h, h3⟩, h2⟩
    · rintro ⟨h | ⟨h, h3⟩, h2⟩; exact .inl ⟨h, h2⟩; exact .inr ⟨h, h2, h3⟩
  | fn x k b ih =>
    intro bd y; simp only [outs, ih (bd ++ [x]) y, ih ([] ++ [x]) y]; simp
    constructor
    · rintro ⟨h, h2, h3⟩; exact ⟨⟨h, h3⟩, h2⟩
    · rintro ⟨⟨h, h3⟩, h2⟩; exact ⟨h, h2, h3⟩
  | recf f x k l b ih =>
    intro bd y; simp only [outs, ih (bd ++ [f, x]) y, ih ([] ++ [f, x]) y]; simp
    constructor
    · rintro ⟨h, h2, h3, h4⟩; exact ⟨⟨h, h3, h4⟩, h2⟩
    · rintro ⟨⟨h, h3, h4⟩, h2⟩; exact ⟨h, h2, h3, h4⟩
theorem mem_outs1 {p : P} {x y : Nm} (h : y ∈ outs p []) : y ∈ outs p [x] ++ [x] := by
  rw [List.mem_append, mem_outs p [x]]
  by_cases e : y = x
  · right; simp [e]
  · left; exact ⟨h, by simp [e]⟩
theorem mem_outs2 {p : P} {f x y : Nm} (h : y ∈ outs p []) : y ∈ outs p [f, x] ++ [f, x] := by
  rw [List.mem_append, mem_outs p [f, x]]
  by_cases e : y ∈ [f, x]
  · exact .inr e
  · exact .inl ⟨h, e⟩
theorem clo_of (p : P) : ∀ sc : List Nm, (∀ y ∈ outs p [], y ∈ sc) → p.clo sc := by
  induction p with
  | num _ => intro sc h; trivial
  | truth _ => intro sc h; trivial
  | nil _ => intro sc h; trivial
  | name x => intro sc h; exact h x (by simp [outs])
  | one w p ih => intro sc h; exact ih sc fun y hy => h y (by simp only [outs, mem_joined]; exact .inr hy)
  | two w p q i1 i2 =>
    intro sc h
    simp only [outs, mem_joined] at h
    exact ⟨i1 sc fun y hy => h y (.inl (.inr hy)), i2 sc fun y hy => h y (.inr hy)⟩
  | ite c a b i1 i2 i3 =>
    intro sc h
    simp only [outs, mem_joined] at h
    exact ⟨i1 sc fun y hy => h y (.inl (.inl (.inr hy))), i2 sc fun y hy => h y (.inl (.inr hy)), i3 sc fun y hy => h y (.inr hy)⟩
  | letp x a b i1 i2 =>
    intro sc h
    simp only [outs, mem_joined] at h
    refine ⟨i1 sc fun y hy => h y (.inl hy), i2 _ fun y hy => ?_⟩
    have := mem_outs1 (x := x) hy
    rw [List.mem_append] at this ⊢
    rcases this with z | z
    · exact .inl (h y (.inr z))
    · exact .inr z
  | fn x k b ih => intro sc h; exact ⟨h, ih _ fun y hy => mem_outs1 hy⟩
  | recf f x k l b ih => intro sc h; exact ⟨h, ih _ fun y hy => mem_outs2 hy⟩
theorem kin_outs (p : P) : ∀ (sc : Sc) (k : K), kin p sc = .ok k → ∀ y ∈ outs p [], y ∈ sc.map (·.1) := by
  induction p with
  | num _ => intro sc k h y hy; simp [outs] at hy
  | truth _ => intro sc k h y hy; simp [outs] at hy
  | nil _ => intro sc k h y hy; simp [outs] at hy
  | name x =>
    intro sc k h y hy
    simp [outs] at hy; subst hy
    simp only [kin] at h
    cases e : look sc y with
    | none => rw [e] at h; cases h
    | some l => exact List.mem_map.mpr ⟨_, look_mem e, rfl⟩
  | one w p ih =>
    intro sc k h y hy
    simp only [kin, KR.bind_eq_ok] at h
    obtain ⟨l, h1, _⟩ := h
    simp only [outs, mem_joined] at hy
    rcases hy with hy | hy; cases hy
    exact ih sc l h1 y hy
  | two w p q i1 i2 =>
    intro sc k h y hy
    simp only [kin, KR.bind_eq_ok] at h
    obtain ⟨l, h1, m, h2, _⟩ := h
    simp only [outs, mem_joined] at hy
    rcases hy with (hy | hy) | hy; cases hy
    exact i1 sc l h1 y hy; exact i2 sc m h2 y hy
  | ite c a b i1 i2 i3 =>
    intro sc k h y hy
    simp only [kin, KR.bind_eq_ok] at h
    obtain ⟨l, h1, m, h2, o, h3, _⟩ := h
    simp only [outs, mem_joined] at hy
    rcases hy with ((hy | hy) | hy) | hy; cases hy
    exact i1 sc l h1 y hy; exact i2 sc m h2 y hy; exact i3 sc o h3 y hy
  | letp x a b i1 i2 =>
    intro sc k h y hy
    simp only [kin, KR.bind_eq_ok] at h
    obtain ⟨l, h1, h2⟩ := h
    simp only [outs, mem_joined] at hy
    rcases hy with hy | hy
    · exact i1 sc l h1 y hy
    · rw [mem_outs] at hy
      have := i2 _ k h2 y hy.1
      simp at this hy
      rcases this with z | z
      · simpa using z
      · exact absurd z hy.2
  | fn x k b ih =>
    intro sc m h y hy
    simp only [kin, KR.bind_eq_ok] at h
    obtain ⟨l, h1, h2⟩ := h
    simp only [outs] at hy
    rw [mem_outs] at hy
    have := ih _ l h1 y hy.1
    simp at this hy
    rcases this with z | z
    · simpa using z
    · exact absurd z hy.2
  | recf f x k l b ih =>
    intro sc m h y hy
    simp only [kin, KR.bind_eq_ok] at h
    obtain ⟨o, h1, h2⟩ := h
    simp only [outs] at hy
    rw [mem_outs] at hy
    have := ih _ o h1 y hy.1
    simp at this hy
    rcases this with z | z | z
    · simpa using z
    · exact absurd z hy.2.1
    · exact absurd z hy.2.2
theorem kin_clo {p : P} {k : K} {sc : Sc} (h : kin p sc = .ok k) : p.clo (sc.map (·.1)) := clo_of p _ (kin_outs p sc k h)
section
variable {ds : Nat → Option Def} (F : HasFit ds) (H : HasComp ds)
include H
theorem run69 (n : Nat) (st : Store) : run ds (n + 1) 69 [.ref st.length] (st ++ [.ins 1 []]) = .ok .non (st ++ [.ins 1 [(3, .ref (st.length + 1))], .lst []]) := by
  rw [run_def H.h69 _ _ _ rfl rfl]
  simp -implicitDefEqProofs [f69, startE, newO, alloc, setFldO, putFd]
include F
theorem run66 (h66 : ds 66 = some f66) (p : P) (n : Nat) (st : Store) (hn : 3 * p.ht + 7 ≤ n) (hk : p.kd ≤ 600) (hz : p.sz < 50000) :
    run ds n 66 [p.toD] st = match kin p [] with
      | .ok _ => .ok (.lst ((prog p).map Ins.toD)) (st ++ [.ins 1 [(3, .ref (st.length + 1))], .lst ((prog p).map Ins.toD)])
      | r => r.res st := by
  obtain ⟨n, rfl⟩ : ∃ m, n = m + 3 := ⟨n - 3, by omega⟩
  rw [run_def h66 _ _ _ rfl rfl]
  have hz2 := ht_sz p
  have a1 := run56 F p (n + 2) st (by omega) hk (by omega)
  cases hk : kin p [] with
  | unfit => rw [hk] at a1; simp -implicitDefEqProofs [f66, startE, a1]
  | noname x => rw [hk] at a1; simp -implicitDefEqProofs [f66, startE, a1]
  | ok k =>
    rw [hk] at a1
    have a2 := run69 H n st
    have c0 : CodeAt (st ++ [.ins 1 [(3, .ref (st.length + 1))], .lst []]) st.length (st.length + 1) [] := ⟨by simp, by simp, by omega⟩
    have a3 := run70 H c0 (n + 1) (.tup [.str wd_stop]) (by simp)
    have c1 := c0.wr [.tup [.str wd_stop]]
    have hc : p.clo [] := kin_clo hk
    have a4 := put_all H p (n + 2) [] true (by omega) hc (by simp; omega) hz _ _ _ _ c1 (by simp; omega)
    rw [wr_wr] at a4
    have c2 := c0.wr ([.tup [.str wd_stop]] ++ (gen (rs p []) 1 true).map Ins.toD)
    simp only [nms, List.nil_append, List.length_cons, List.length_nil, Nat.zero_add, List.map_nil] at a3 a4
    have hw : wrt (st ++ [.ins 1 [(3, .ref (st.length + 1))], .lst []]) (st.length + 1) ([.tup [.str wd_stop]] ++ (gen (rs p []) 1 true).map Ins.toD) = st ++ [.ins 1 [(3, .ref (st.length + 1))], .lst ((prog p).map Ins.toD)] := by
      simp [wrt, prog, Ins.toD]
    rw [hw] at a4 c2
    have c2l := c2.asL
    simp -implicitDefEqProofs [f66, startE, a1, callsAt_mak, runM_succ, a2, c0.ins, a3, a4, c2.fld, opLof, c2l]
    rfl
end
end Pl
end
section
set_option Elab.async false
set_option linter.all false
/-! the machine in plain Lean: its heap, collecting, its steps -/
namespace Pl
inductive W where
  | num (i : Int)
  | truth (b : Bool)
  | nil
  | at (n : Nat)
deriving DecidableEq
inductive Th where
  | cell (a b : W)
  | pair (a b : W)
  | fn (g : Nat) (held : List W) (rc : Bool)
inductive Wd where
  | running | done | nought | empty | noroom | deep
deriving DecidableEq
structure Mach where
  code : List Ins
  room : Nat
  things : List Th
  stack : List W
  names : List W
  calls : List (Nat × List W)
  pc : Nat
  word : Wd
  many : Nat
def Mach.new (code : List Ins) (room : Nat) : Mach := ⟨code, room, [], [], [], [(0, [])], 1, .running, 0⟩
def Th.parts : Th → List W
  | .cell a b => [a, b]
  | .pair a b => [a, b]
  | .fn _ h _ => h
/-- what waits is looked at from the left; what is found is put behind -/
def reach (th : List Th) : Nat → List W → List Nat → List Nat
  | 0, _, o => o
  | _ + 1, [], o => o
  | n + 1, .at i :: r, o => if i ∈ o then reach th n r o else reach th n (r ++ (th[i]?.map Th.parts).getD []) (o ++ [i])
  | n + 1, _ :: r, o => reach th n r o
def ren (o : List Nat) : W → W
  | .at i => .at (o.idxOf i)
  | w => w
def moved (o : List Nat) : Th → Th
  | .cell a b => .cell (ren o a) (ren o b)
  | .pair a b => .pair (ren o a) (ren o b)
  | .fn g h rc => .fn g (h.map (ren o)) rc
def thAt (th : List Th) (i : Nat) : Th := th.getD i (.cell .nil .nil)
def Mach.roots (M : Mach) : List W := M.stack.reverse ++ M.names ++ (M.calls.reverse.map (·.2)).flatten
/-- how many are looked at -/
def Mach.fuel (M : Mach) : Nat := M.roots.length + (M.things.map fun t => t.parts.length).sum + 1
def Mach.order (M : Mach) : List Nat := reach M.things M.fuel M.roots []
def Mach.collect (M : Mach) : Mach :=
  let o := M.order
  { M with
    things := o.map fun i => moved o (thAt M.things i)
    stack := M.stack.map (ren o)
    names := M.names.map (ren o)
    calls := M.calls.map fun c => (c.1, c.2.map (ren o)) }
/-- room for one more, or the trap -/
def Mach.hasRoom (M : Mach) : Mach × Bool :=
  let M1 := if M.things.length = M.room then M.collect else M
  if M1.things.length = M1.room then ({ M1 with word := .noroom }, false) else (M1, true)
def Mach.keep (M : Mach) (t : Th) : Mach := { M with stack := .at M.things.length :: M.stack, things := M.things ++ [t], many := M.many + 1 }
def Mach.push (M : Mach) (w : W) : Mach := { M with stack := w :: M.stack }
def Mach.trap (M : Mach) (w : Wd) : Mach := { M with word := w }
def rng (i : Int) : Bool := decide (-9223372036854775808 ≤ i) && decide (i ≤ 9223372036854775807)
def numOp (w : W2) (n m : Int) : Option W :=
  match w with
  | .plus => some (.num (wrap (n + m)))
  | .minus => some (.num (wrap (n - m)))
  | .times => some (.num (wrap (n * m)))
  | .over => some (.num (wrap (quo n m)))
  | .rest => some (.num (wrap (n - quo n m * m)))
  | .less => some (.truth (decide (n < m)))
  | .same => some (.truth (decide (n = m)))
  | _ => none
/-- go into the function under the value on top -/
def Mach.enter (M : Mach) : Option Mach :=
  match M.stack with
  | v :: .at p :: r => match M.things[p]? with
    | some (.fn g held rc) => some { M with stack := r, names := held ++ ((if rc then [.at p] else []) ++ [v]), pc := g }
    | _ => none
  | _ => none
def Mach.two (M : Mach) (f : W → W → Th) : Option Mach :=
  match M.hasRoom with
  | (M1, true) => match M1.stack with
    | b :: a :: r => some ({ M1 with stack := r }.keep (f a b))
    | _ => none
  | (M1, false) => some M1
def Mach.exec (M : Mach) (i : Ins) : Option Mach :=
  match i with
  | .stop => some { M with word := .done }
  | .num i => some (M.push (.num i))
  | .truth b => some (M.push (.truth b))
  | .nil => some (M.push .nil)
  | .load i => (M.names[i]?).map M.push
  | .bind => match M.stack with
    | v :: r => some { M with stack := r, names := M.names ++ [v] }
    | _ => none
  | .unbind => if M.names = [] then none else some { M with names := M.names.dropLast }
  | .jump a => some { M with pc := a }
  | .branch a => match M.stack with
    | .truth b :: r => some { M with stack := r, pc := if b then M.pc else a }
    | _ => none
  | .make g sl rc => match M.hasRoom with
    | (M1, true) => (sl.mapM fun i => M1.names[i]?).map fun h => M1.keep (.fn g h rc)
    | (M1, false) => some M1
  | .one .not => match M.stack with
    | .truth b :: r => some { M with stack := .truth (!b) :: r }
    | _ => none
  | .one .empty => match M.stack with
    | .nil :: r => some { M with stack := .truth true :: r }
    | .at p :: r => (M.things[p]?).map fun _ => { M with stack := .truth false :: r }
    | _ => none
  | .one .head => match M.stack with
    | .nil :: r => some { M with stack := r, word := .empty }
    | .at p :: r => match M.things[p]? with
      | some (.cell a _) => some { M with stack := a :: r }
      | _ => none
    | _ => none
  | .one .tail => match M.stack with
    | .nil :: r => some { M with stack := r, word := .empty }
    | .at p :: r => match M.things[p]? with
      | some (.cell _ b) => some { M with stack := b :: r }
      | _ => none
    | _ => none
  | .one .first => match M.stack with
    | .at p :: r => match M.things[p]? with
      | some (.pair a _) => some { M with stack := a :: r }
      | _ => none
    | _ => none
  | .one .second => match M.stack with
    | .at p :: r => match M.things[p]? with
      | some (.pair _ b) => some { M with stack := b :: r }
      | _ => none
    | _ => none
  | .two .cons => M.two .cell
  | .two .pair => M.two .pair
  | .two .call => if M.calls.length > 40 then some { M with word := .deep } else { M with calls := (M.pc, M.names) :: M.calls }.enter
  | .last => M.enter
  | .back => match M.calls with
    | (a, n) :: r => some { M with calls := r, pc := a, names := n }
    | _ => none
  | .two w => match M.stack with
    | .num j :: .num i :: r => if (rng i && rng j) = false then none else if j = 0 ∧ (w = .over ∨ w = .rest) then some { M with stack := r, word := .nought } else (numOp w i j).map fun v => { M with stack := v :: r }
    | _ => none
def Mach.step (M : Mach) : Option Mach := (M.code[M.pc]?).bind fun i => { M with pc := M.pc + 1 }.exec i
/-- so many steps at most -/
def Mach.run : Nat → Mach → Option Mach
  | 0, M => some M
  | n + 1, M => if M.word = .running then M.step.bind (Mach.run n) else some M
end Pl
end
section
set_option Elab.async false
set_option linter.all false
set_option maxRecDepth 100000
/-! what the laws draw by: cells, great numbers -/
namespace Pl
open Iv
def cellv (ns : List Int) (k : Int) : Int := if ns = [] then k * 7919 else ((atI ns (k % (ns.length : Int))).getD 0) + k / (ns.length : Int) * 104729
def drawnv (c k : Int) : Int := ((c * 6364136223846793005 + (k + 1) * 1442695040888963407) % 340282366920938463463374607431768211507) * ((c * 6364136223846793005 + (k + 1) * 1442695040888963407) % 340282366920938463463374607431768211507) % 340282366920938463463374607431768211297
theorem drawnv_nonneg (c k : Int) : 0 ≤ drawnv c k := Int.emod_nonneg _ (by omega)
theorem drawnv_lt (c k : Int) : drawnv c k < 340282366920938463463374607431768211297 := Int.emod_lt_of_pos _ (by omega)
structure HasDraw (ds : Nat → Option Def) : Prop where
  h7 : ds 7 = some f7
  h8 : ds 8 = some f8
theorem atI_map {α β : Type} (f : α → β) (l : List α) (i : Int) : atI (l.map f) i = (atI l i).map f := by
  simp only [atI, List.length_map]
  cases ixN l.length i with
  | none => rfl
  | some j => simp
theorem mulOk_r (i j : Int) (h1 : -(2 ^ 64) < j) (h2 : j < 2 ^ 64) : mulOk i j = true := by
  simp only [mulOk, h1, h2, decide_true, Bool.and_self, Bool.true_or, Bool.or_true]
theorem mulOk_l (i j : Int) (h1 : -(2 ^ 64) < i) (h2 : i < 2 ^ 64) : mulOk i j = true := by
  simp only [mulOk, h1, h2, decide_true, Bool.and_self, Bool.true_or]
theorem log2_lt' (n k : Nat) (h : n < 2 ^ k) (hk : 0 < k) : n.log2 < k := by
  by_cases h0 : n = 0
  · subst h0; simpa using hk
  · exact (Nat.log2_lt h0).mpr h
theorem mulOk_m (i j : Int) (k : Nat) (h1 : i.natAbs < 2 ^ k) (h2 : j.natAbs < 2 ^ k) (hk : 0 < k) (hk2 : k < 500000) : mulOk i j = true := by
  have a := log2_lt' _ _ h1 hk
  have b := log2_lt' _ _ h2 hk
  have : i.natAbs.log2 + j.natAbs.log2 < 1000000 := by omega
  simp only [mulOk, this, decide_true, Bool.or_true]
section
variable {ds : Nat → Option Def} (H : HasDraw ds)
include H
theorem run7 (n : Nat) (ns : List Int) (k : Int) (st : Store) (hl : ns.length < 1000) : run ds (n + 1) 7 [.scr ns, .int k] st = .ok (.int (cellv ns k)) st := by
  rw [run_def H.h7 _ _ _ rfl rfl]
  by_cases e : ns = []
  · subst e
    have h1 : cmpD .eq (.scr []) (.lst []) st = some true := rfl
    have h2 : opMul (.int k) (.int 7919) st = .ok (.int (k * 7919)) st := opMul_int st k 7919 (mulOk_r _ _ (by omega) (by omega))
    simp -implicitDefEqProofs [f7, startE, h1, h2, cellv, okLst]
  · have h1 : cmpD .eq (.scr ns) (.lst []) st = some false := by
      have : ns.isEmpty = false := by cases ns <;> simp_all
      show some ns.isEmpty = _
      rw [this]
    have hp : (0 : Int) < (ns.length : Int) := by
      have : 0 < ns.length := List.length_pos_iff.mpr e
      omega
    have h3 : opMod (.int k) (.int (ns.length : Int)) st = .ok (.int (k % (ns.length : Int))) st := opMod_int st k _ hp
    have hlg : (ns.length : Int).natAbs.log2 < 9000 := by
      have : (ns.length : Int).natAbs < 2 ^ 8999 := by
        have : (2 : Nat) ^ 10 ≤ 2 ^ 8999 := Nat.pow_le_pow_right (by omega) (by omega)
        have h10 : (2 : Nat) ^ 10 = 1024 := rfl
        omega
      have := log2_lt' _ _ this (by omega)
      omega
    have h4 : opFdiv (.int k) (.int (ns.length : Int)) st = .ok (.int (k / (ns.length : Int))) st := opFdiv_int st k _ hp hlg
    have h5 : opMul (.int (k / (ns.length : Int))) (.int 104729) st = .ok (.int (k / (ns.length : Int) * 104729)) st := opMul_int st _ _ (mulOk_r _ _ (by omega) (by omega))
    have h6 : opLen (.scr ns) st = .ok (.int (ns.length : Int)) st := by simp [opLen, asSeq]
    have hlt := Int.emod_lt_of_pos k hp
    have hge := Int.emod_nonneg k (by omega : (ns.length : Int) ≠ 0)
    obtain ⟨x, hx⟩ : ∃ x, atI ns (k % (ns.length : Int)) = some x := by
      obtain ⟨j, hj⟩ : ∃ j : Nat, k % (ns.length : Int) = j := ⟨(k % (ns.length : Int)).toNat, by omega⟩
      rw [hj, atI_nat]
      exact ⟨ns[j]'(by omega), List.getElem?_eq_getElem _⟩
    have h7 : opIdx (.scr ns) (.int (k % (ns.length : Int))) st = .ok (.int x) st := by
      simp [opIdx, asD, asSeq, atI_map, hx]
    simp -implicitDefEqProofs [f7, startE, h1, h3, h4, h5, h6, h7, cellv, okLst, e, hx]
theorem run8 (n : Nat) (c k : Int) (st : Store) : run ds (n + 1) 8 [.int c, .int k] st = .ok (.int (drawnv c k)) st := by
  rw [run_def H.h8 _ _ _ rfl rfl]
  have h1 : opMul (.int c) (.int 6364136223846793005) st = .ok (.int (c * 6364136223846793005)) st := opMul_int st _ _ (mulOk_r _ _ (by omega) (by omega))
  have h2 : opMul (.int (k + 1)) (.int 1442695040888963407) st = .ok (.int ((k + 1) * 1442695040888963407)) st := opMul_int st _ _ (mulOk_r _ _ (by omega) (by omega))
  have h3 : ∀ i : Int, opMod (.int i) (.int 340282366920938463463374607431768211507) st = .ok (.int (i % 340282366920938463463374607431768211507)) st := fun i => opMod_int st _ _ (by omega)
  have h4 : ∀ i : Int, opMod (.int i) (.int 340282366920938463463374607431768211297) st = .ok (.int (i % 340282366920938463463374607431768211297)) st := fun i => opMod_int st _ _ (by omega)
  obtain ⟨m, hm⟩ : ∃ m, m = (c * 6364136223846793005 + (k + 1) * 1442695040888963407) % 340282366920938463463374607431768211507 := ⟨_, rfl⟩
  have hm1 : 0 ≤ m := by rw [hm]; exact Int.emod_nonneg _ (by omega)
  have hm2 : m < 340282366920938463463374607431768211507 := by rw [hm]; exact Int.emod_lt_of_pos _ (by omega)
  have hm3 : m.natAbs < 2 ^ 130 := by omega
  have h5 : opMul (.int m) (.int m) st = .ok (.int (m * m)) st := opMul_int st _ _ (mulOk_m m m 130 hm3 hm3 (by omega) (by omega))
  simp -implicitDefEqProofs [f8, startE, h1, h2, h3, h4, ← hm, h5, drawnv]
end
end Pl
end
section
set_option Elab.async false
set_option linter.all false
set_option maxRecDepth 100000
/-! a store that grows -/
namespace Pl
open Iv
def Ext (st st' : Store) : Prop := st.length ≤ st'.length ∧ ∀ i, i < st.length → st'[i]? = st[i]?
theorem Ext.refl (st : Store) : Ext st st := ⟨Nat.le_refl _, fun _ _ => rfl⟩
theorem Ext.trans {a b c : Store} (h : Ext a b) (k : Ext b c) : Ext a c := ⟨Nat.le_trans h.1 k.1, fun i hi => by rw [k.2 i (Nat.lt_of_lt_of_le hi h.1), h.2 i hi]⟩
end Pl
end
section
set_option Elab.async false
set_option linter.all false
set_option maxRecDepth 100000
/-! tries -/
namespace Iv
def oTry (hc : List Nat) (ha : List (Option Nat)) (hs : List (Env → Store → Out)) (o : Out) : Out := match o with
  | .exn x env st => pickH x hc ha hs env st
  | r => r
@[simp] theorem ex_try (cs : Calls) (env : Env) (b : List S) (hc : List Nat) (ha : List (Option Nat)) (hs : List (List S)) (st : Store) : execS cs (.tryS b hc ha hs) env st = oTry hc ha (execLL cs hs) (execL cs b env st) := by rw [execS]; rfl
@[simp] theorem oTry_nx (hc ha hs env st) : oTry hc ha hs (.nx env st) = .nx env st := rfl
@[simp] theorem oTry_rt (hc ha hs d st) : oTry hc ha hs (.rt d st) = .rt d st := rfl
@[simp] theorem oTry_exn (hc ha hs x env st) : oTry hc ha hs (.exn x env st) = pickH x hc ha hs env st := rfl
@[simp] theorem execLL_nil (cs : Calls) : execLL cs [] = [] := by rw [execLL]
@[simp] theorem execLL_cons (cs : Calls) (b : List S) (r : List (List S)) : execLL cs (b :: r) = (fun env st => execL cs b env st) :: execLL cs r := by rw [execLL]
def cold (o : Out) : Out := match o with
  | .exn _ _ _ => .bad
  | r => r
@[simp] theorem cold_rt (d : D) (st : Store) : cold (.rt d st) = .rt d st := rfl
@[simp] theorem cold_nx (env : Env) (st : Store) : cold (.nx env st) = .nx env st := rfl
theorem pick_yes (x : Exc) (k : Nat) (ks : List Nat) (as : List (Option Nat)) (f : Env → Store → Out) (fs : List (Env → Store → Out)) (env : Env) (st : Store) (h : isSub x.c k = true) : pickH x (k :: ks) (none :: as) (f :: fs) env st = cold (f env st) := by
  rw [pickH, h]; rfl
theorem pick_no (x : Exc) (k : Nat) (ks : List Nat) (a : Option Nat) (as : List (Option Nat)) (f : Env → Store → Out) (fs : List (Env → Store → Out)) (env : Env) (st : Store) (h : isSub x.c k = false) : pickH x (k :: ks) (a :: as) (f :: fs) env st = pickH x ks as fs env st := by
  simp only [pickH, h]
end Iv
end
section
set_option Elab.async false
set_option linter.all false
set_option maxRecDepth 100000
/-! figures -/
namespace Pl
open Iv
theorem digits_pos0 (n : Nat) : 1 ≤ (digits n).length := by
  unfold digits
  rw [List.length_map]
  exact List.length_pos_iff.mpr Nat.toDigits_ne_nil
theorem digits_small (n : Nat) (h : n < 10) : digits n = [48 + n] := by
  have : n = 0 ∨ n = 1 ∨ n = 2 ∨ n = 3 ∨ n = 4 ∨ n = 5 ∨ n = 6 ∨ n = 7 ∨ n = 8 ∨ n = 9 := by omega
  rcases this with rfl | rfl | rfl | rfl | rfl | rfl | rfl | rfl | rfl | rfl <;> rfl
theorem digits_step (n : Nat) (h : 10 ≤ n) : digits n = digits (n / 10) ++ [48 + n % 10] := by
  unfold digits
  rw [Nat.toDigits_of_base_le (by decide) h]
  have : n % 10 = 0 ∨ n % 10 = 1 ∨ n % 10 = 2 ∨ n % 10 = 3 ∨ n % 10 = 4 ∨ n % 10 = 5 ∨ n % 10 = 6 ∨ n % 10 = 7 ∨ n % 10 = 8 ∨ n % 10 = 9 := by omega
  rw [List.map_append]
  rcases this with h | h | h | h | h | h | h | h | h | h <;> rw [h] <;> rfl
theorem digits_ind (P : Nat → List Nat → Prop) (h0 : ∀ n, n < 10 → P n [48 + n]) (hs : ∀ n, 10 ≤ n → P (n / 10) (digits (n / 10)) → P n (digits (n / 10) ++ [48 + n % 10])) : ∀ n, P n (digits n) := by
  intro n
  induction n using Nat.strongRecOn with
  | ind n ih =>
    by_cases l : n < 10
    · rw [digits_small n l]; exact h0 n l
    · rw [digits_step n (by omega)]
      exact hs n (by omega) (ih (n / 10) (by omega))
theorem figs_app (l m : List Nat) : ∀ acc, figs (l ++ m) acc = (figs l acc).bind (figs m) := by
  induction l with
  | nil => intro acc; rfl
  | cons c l ih =>
    intro acc
    simp only [List.cons_append, figs]
    split
    · exact ih _
    · rfl
theorem figs_digits : ∀ n, figs (digits n) 0 = some n := by
  apply digits_ind (fun n l => figs l 0 = some n)
  · intro n h
    simp only [figs]
    rw [if_pos (by omega)]
    simp
  · intro n h ih
    rw [figs_app, ih]
    simp only [Option.bind_some, figs]
    rw [if_pos (by omega)]
    congr 1; omega
theorem digits_chars : ∀ n, ∀ c ∈ digits n, 48 ≤ c ∧ c ≤ 57 := by
  apply digits_ind (fun n l => ∀ c ∈ l, 48 ≤ c ∧ c ≤ 57)
  · intro n h c hc
    simp only [List.mem_singleton] at hc; omega
  · intro n h ih c hc
    rcases List.mem_append.mp hc with hc | hc
    · exact ih c hc
    · simp only [List.mem_singleton] at hc; omega
theorem digits_head : ∀ n, 1 ≤ n → ∃ c r, digits n = c :: r ∧ c ≠ 48 := by
  have := digits_ind (fun n l => 1 ≤ n → ∃ c r, l = c :: r ∧ c ≠ 48) (fun n h h1 => ⟨_, _, rfl, by omega⟩) (fun n h ih _ => by
    obtain ⟨c, r, e, hc⟩ := ih (by omega)
    exact ⟨c, r ++ [48 + n % 10], by rw [e]; rfl, hc⟩)
  exact this
theorem intOf_str (i : Int) : intOf (strInt i) = some i := by
  have h1 := digits_chars i.natAbs
  have h2 := figs_digits i.natAbs
  obtain ⟨c, r, hd⟩ : ∃ c r, digits i.natAbs = c :: r := by
    cases h : digits i.natAbs with
    | nil => have := digits_pos0 i.natAbs; rw [h] at this; simp at this
    | cons c r => exact ⟨c, r, rfl⟩
  unfold strInt
  rw [hd] at h1 h2 ⊢
  have hc := h1 c (by simp)
  split
  · simp only [intOf, h2, Option.map_some]; congr 1; omega
  · rename_i hi
    have : intOf (c :: r) = (figs (c :: r) 0).map fun (n : Nat) => (n : Int) := by
      unfold intOf
      split
      · rename_i heq
        simp only [List.cons.injEq] at heq
        omega
      · rename_i heq
        cases heq; rfl
      · rename_i heq; cases heq
    rw [this, h2]
    simp only [Option.map_some]; congr 1; omega
theorem lstrip45 (l : List Nat) : unS (PySem.Txt.lstripChars (mkS l) (mkS [45])) = l.dropWhile fun c => c == 45 := by
  have hc : ∀ c : Nat, (mkS [45]).cps.contains c = (c == 45) := by
    intro c; by_cases h : c = 45 <;> simp [mkS, h]
  have e : (mkS [45]).cps.contains = fun c => c == 45 := funext hc
  unfold PySem.Txt.lstripChars
  rw [PySem.W.stripBy_eq, e]
  unfold PySem.W.stripped
  have hx : (mkS l).cps.toList = l := rfl
  have hl : (mkS l).length = l.length := rfl
  simp only [hx, if_true, Bool.false_eq_true, if_false, hl]
  unfold unS PySem.Builtin.Str.strSub
  simp only [mkS, Array.toList_extract, List.extract_eq_drop_take]
  have : ∀ l : List Nat, l.drop (l.takeWhile fun c => c == 45).length = l.dropWhile fun c => c == 45 := by
    intro l
    induction l with
    | nil => rfl
    | cons a l ih =>
      simp only [List.takeWhile, List.dropWhile]
      cases h : (a == 45)
      · rfl
      · simp only [List.length_cons, List.drop_succ_cons]; exact ih
  rw [this, List.take_of_length_le]
  have := List.dropWhile_suffix (l := l) fun c => c == 45
  have h1 := this.length_le
  have h2 : (l.takeWhile fun c => c == 45).length + (l.dropWhile fun c => c == 45).length = l.length := by
    rw [← List.length_append, List.takeWhile_append_dropWhile]
  omega
end Pl
end
section
set_option Elab.async false
set_option linter.all false
set_option maxRecDepth 100000
/-! reading, in plain Lean -/
namespace Pl
open Iv
def white (c : Nat) : Bool := c == 32 || c == 10
def letter (c : Nat) : Bool := Nat.ble 97 c && Nat.ble c 122
def figure (c : Nat) : Bool := Nat.ble 48 c && Nat.ble c 57
def runc (c : Nat) : Bool := letter c || (figure c || c == 45)
/-- what stands there and is read, and where it ends; or the place where it can't go on -/
inductive PR (α : Type) where
  | ok (a : α) (at_ : Nat)
  | bad (e : Nat)
def PR.bind {α β : Type} (r : PR α) (f : α → Nat → PR β) : PR β := match r with
  | .ok a i => f a i
  | .bad e => .bad e
@[simp] theorem PR.bind_ok {α β : Type} (a : α) (i : Nat) (f : α → Nat → PR β) : (PR.ok a i).bind f = f a i := rfl
@[simp] theorem PR.bind_bad {α β : Type} (e : Nat) (f : α → Nat → PR β) : (PR.bad e : PR α).bind f = .bad e := rfl
def skip (t : List Nat) (i : Nat) : Nat := i + ((t.drop i).takeWhile white).length
def word (t : List Nat) (i : Nat) : List Nat := (t.drop i).takeWhile runc
def mark (t : List Nat) (c : Nat) (i : Nat) : PR Unit := if t[skip t i]? = some c then .ok () (skip t i + 1) else .bad (skip t i)
def W1s : List W1 := [.head, .tail, .empty, .first, .second, .not]
def W2s : List W2 := [.cons, .pair, .call, .plus, .minus, .times, .over, .rest, .less, .same, .and, .or]
def w1Of (w : List Nat) : Option W1 := W1s.find? fun o => decide (o.txt = w)
def w2Of (w : List Nat) : Option W2 := W2s.find? fun o => decide (o.txt = w)
def ones : List (List Nat) := [wd_head, wd_tail, wd_empty, wd_first, wd_second, wd_not]
def twos : List (List Nat) := [wd_cons, wd_pair, wd_call, wd_plus, wd_minus, wd_times, wd_over, wd_rest, wd_less, wd_same, wd_and, wd_or]
theorem w1_some {w : List Nat} {o : W1} (h : w1Of w = some o) : w = o.txt ∧ w ∈ ones := by
  have h1 := List.find?_some h
  have h2 := List.mem_of_find?_eq_some h
  rw [decide_eq_true_eq] at h1
  exact ⟨h1.symm, by rw [← h1]; exact List.mem_map.mpr ⟨o, h2, rfl⟩⟩
theorem w1_none {w : List Nat} (h : w1Of w = none) : w ∉ ones := by
  intro z
  obtain ⟨o, h1, h2⟩ := List.mem_map.mp (show w ∈ W1s.map W1.txt from z)
  have := List.find?_eq_none.mp h o h1
  simp [h2] at this
theorem w2_some {w : List Nat} {o : W2} (h : w2Of w = some o) : w = o.txt ∧ w ∈ twos := by
  have h1 := List.find?_some h
  have h2 := List.mem_of_find?_eq_some h
  rw [decide_eq_true_eq] at h1
  exact ⟨h1.symm, by rw [← h1]; exact List.mem_map.mpr ⟨o, h2, rfl⟩⟩
theorem w2_none {w : List Nat} (h : w2Of w = none) : w ∉ twos := by
  intro z
  obtain ⟨o, h1, h2⟩ := List.mem_map.mp (show w ∈ W2s.map W2.txt from z)
  have := List.find?_eq_none.mp h o h1
  simp [h2] at this
def kwords : List (List Nat) := [wd_int, wd_bool, wd_list, wd_fun]
def owords : List (List Nat) := [wd_true, wd_false, wd_nil, wd_if, wd_let, wd_fn, wd_rec]
def isWord (w : List Nat) : Bool := decide (w ∈ ones) || (decide (w ∈ twos) || (decide (w ∈ kwords) || decide (w ∈ owords)))
def isName (w : List Nat) : Bool := match w with
  | [] => false
  | c :: r => (Nat.ble (r.length + 1) 8 && letter c) && (!isWord (c :: r) && (c :: r).all fun c => letter c || figure c)
def figsOf (w : List Nat) : List Nat := if w.take 1 = [45] then w.drop 1 else w
def numIn (w : List Nat) : Option Int :=
  if (Nat.ble 1 (figsOf w).length && Nat.ble (figsOf w).length 19) && (figsOf w).all figure then (match intOf w with
    | some n => if rng n then some n else none
    | none => none) else none
def kindAt (t : List Nat) : Nat → Nat → PR K
  | 0, i => if t[skip t i]? = some 40 then .bad (skip t (skip t i + 1)) else
      if word t (skip t i) = wd_int then .ok .int (skip t i + 3) else if word t (skip t i) = wd_bool then .ok .bool (skip t i + 4) else .bad (skip t i)
  | l + 1, i => if t[skip t i]? = some 40 then
      let s := skip t (skip t i + 1)
      let w := word t s
      if w = wd_list then (kindAt t l (s + 4)).bind fun k j => (mark t 41 j).bind fun _ j => .ok (.list k) j
      else if w = wd_pair then (kindAt t l (s + 4)).bind fun k j => (kindAt t l j).bind fun m j => (mark t 41 j).bind fun _ j => .ok (.pair k m) j
      else if w = wd_fun then (kindAt t l (s + 3)).bind fun k j => (kindAt t l j).bind fun m j => (mark t 41 j).bind fun _ j => .ok (.fn k m) j
      else .bad s
    else if word t (skip t i) = wd_int then .ok .int (skip t i + 3) else if word t (skip t i) = wd_bool then .ok .bool (skip t i + 4) else .bad (skip t i)
def nameAt (t : List Nat) (i : Nat) : PR Nm := if isName (word t (skip t i)) then .ok (word t (skip t i)) (skip t i + (word t (skip t i)).length) else .bad (skip t i)
/-- a part without brackets -/
def leafOf (w : List Nat) : Option P :=
  if w = wd_true then some (.truth true) else if w = wd_false then some (.truth false) else if isName w then some (.name w) else (numIn w).map .num
def leafAt (t : List Nat) (s : Nat) : PR P := match leafOf (word t s) with
  | some p => .ok p (s + (word t s).length)
  | none => .bad s
def partAt (t : List Nat) : Nat → Nat → PR P
  | 0, i => if t[skip t i]? = some 40 then .bad (skip t (skip t i + 1)) else leafAt t (skip t i)
  | l + 1, i => if t[skip t i]? = some 40 then
      let s := skip t (skip t i + 1)
      let w := word t s
      let e := s + w.length
      (if w = wd_nil then (kindAt t 8 e).bind fun k j => .ok (.nil k) j else
       match w1Of w with
       | some o => (partAt t l e).bind fun p j => .ok (.one o p) j
       | none => match w2Of w with
        | some o => (partAt t l e).bind fun p j => (partAt t l j).bind fun q j => .ok (.two o p q) j
        | none =>
          if w = wd_if then (partAt t l e).bind fun c j => (partAt t l j).bind fun p j => (partAt t l j).bind fun q j => .ok (.ite c p q) j
          else if w = wd_let then (nameAt t e).bind fun x j => (partAt t l j).bind fun p j => (partAt t l j).bind fun q j => .ok (.letp x p q) j
          else if w = wd_fn then (nameAt t e).bind fun x j => (kindAt t 8 j).bind fun k j => (partAt t l j).bind fun q j => .ok (.fn x k q) j
          else if w = wd_rec then (nameAt t e).bind fun f j => (nameAt t j).bind fun x j => (kindAt t 8 j).bind fun k j => (kindAt t 8 j).bind fun m j => (partAt t l j).bind fun q j => .ok (.recf f x k m q) j
          else .bad s).bind fun p j => (mark t 41 j).bind fun _ j => .ok p j
    else leafAt t (skip t i)
def readP (t : List Nat) : PR P := if 2000 < t.length then .bad 2000 else (partAt t 30 0).bind fun p j => if skip t j < t.length then .bad (skip t j) else .ok p (skip t j)
/-! ### the reader in the store -/
def rdO (t : List Nat) (i : Nat) : O := .ins 0 [(2, .str t), (0, .int i)]
def PR.res {α : Type} (r : PR α) (d : α → D) (t : List Nat) (st : Store) (rr : Nat) (x : Res D) : Prop := match r with
  | .ok a i => x = .ok (d a) (st.set rr (rdO t i)) ∧ i ≤ t.length
  | .bad e => ∃ i, x = .exn ⟨1, [(0, .int e)]⟩ (st.set rr (rdO t i)) ∧ i ≤ t.length
theorem skip_le {t : List Nat} {i : Nat} (h : i ≤ t.length) : skip t i ≤ t.length := by
  have := (List.takeWhile_sublist white (l := t.drop i)).length_le
  simp only [List.length_drop] at this
  simp only [skip]; omega
theorem word_le {t : List Nat} {i : Nat} (h : i ≤ t.length) : i + (word t i).length ≤ t.length := by
  have := (List.takeWhile_sublist runc (l := t.drop i)).length_le
  simp only [List.length_drop] at this
  simp only [word]; omega
theorem skip_step {t : List Nat} {i c : Nat} (h : t[i]? = some c) : skip t i = if white c then skip t (i + 1) else i := by
  obtain ⟨hi, e⟩ := List.getElem?_eq_some_iff.mp h
  simp only [skip]
  rw [List.drop_eq_getElem_cons hi, e, List.takeWhile_cons]
  split <;> simp <;> omega
theorem skip_end {t : List Nat} {i : Nat} (h : t.length ≤ i) : skip t i = i := by
  simp only [skip, List.drop_eq_nil_of_le h, List.takeWhile_nil, List.length_nil, Nat.add_zero]
theorem skip_skip (t : List Nat) (i : Nat) : skip t (skip t i) = skip t i := by
  have key : ((t.drop i).drop ((t.drop i).takeWhile white).length).takeWhile white = [] := by
    generalize t.drop i = l
    induction l with
    | nil => rfl
    | cons a l ih =>
      rw [List.takeWhile_cons]
      by_cases e : white a = true
      · rw [if_pos e]; simpa using ih
      · rw [if_neg e]; simp [e]
  rw [List.drop_drop] at key
  simp only [skip]
  rw [key]; rfl
end Pl
end
section
set_option Elab.async false
set_option linter.all false
set_option maxRecDepth 100000
/-! the reader's steps -/
namespace Pl
open Iv
structure HasRead (ds : Nat → Option Def) : Prop where
  h0 : ds 0 = some f0
  h1 : ds 1 = some f1
  h2 : ds 2 = some f2
  h3 : ds 3 = some f3
  h4 : ds 4 = some f4
  h5 : ds 5 = some f5
  h6 : ds 6 = some f6
  h11 : ds 11 = some f11
  h12 : ds 12 = some f12
  h13 : ds 13 = some f13
  h14 : ds 14 = some f14
  h15 : ds 15 = some f15
  h16 : ds 16 = some f16
theorem white_mem (c : Nat) : white c = decide (c ∈ [32, 10]) := by
  simp only [white, List.mem_cons, List.not_mem_nil, or_false]
  by_cases h : c = 32 <;> by_cases h2 : c = 10 <;> simp [h, h2]
def lets : List Nat := [97, 98, 99, 100, 101, 102, 103, 104, 105, 106, 107, 108, 109, 110, 111, 112, 113, 114, 115, 116, 117, 118, 119, 120, 121, 122]
theorem letter_mem (c : Nat) : letter c = decide (c ∈ lets) := by
  by_cases h : c < 200
  · have : ∀ d : Fin 200, letter d.val = decide (d.val ∈ lets) := by decide +kernel
    exact this ⟨c, h⟩
  · have h1 : letter c = false := by
      unfold letter
      have : Nat.ble c 122 = false := by rw [← Bool.not_eq_true, Nat.ble_eq]; omega
      rw [this, Bool.and_false]
    have h2 : c ∉ lets := by
      intro z
      have : ∀ x ∈ lets, x < 200 := by decide
      have := this c z; omega
    rw [h1]; simp [h2]
def figc : List Nat := [48, 49, 50, 51, 52, 53, 54, 55, 56, 57]
theorem figure_mem (c : Nat) : figure c = decide (c ∈ figc) := by
  by_cases h : c < 200
  · have : ∀ d : Fin 200, figure d.val = decide (d.val ∈ figc) := by decide +kernel
    exact this ⟨c, h⟩
  · have h1 : figure c = false := by
      unfold figure
      have : Nat.ble c 57 = false := by rw [← Bool.not_eq_true, Nat.ble_eq]; omega
      rw [this, Bool.and_false]
    have h2 : c ∉ figc := by
      intro z
      have : ∀ x ∈ figc, x < 200 := by decide
      have := this c z; omega
    rw [h1]; simp [h2]
theorem mem_white (c : Nat) (st : Store) : memD (.str [c]) (gval 14) st = some (white c) := by rw [white_mem]; rfl
theorem mem_let (c : Nat) (st : Store) : memD (.str [c]) (gval 7) st = some (letter c) := by rw [letter_mem]; rfl
theorem mem_fig (c : Nat) (st : Store) : memD (.str [c]) (gval 8) st = some (figure c) := by rw [figure_mem]; rfl
section
variable {st : Store} {r : Nat} {t : List Nat} {i : Nat} (h : st[r]? = some (rdO t i))
include h
theorem rd_at : opFld (.ref r) 0 st = .ok (.int i) st := by simp [opFld, h, rdO, List.lookup]
theorem rd_text : opFld (.ref r) 2 st = .ok (.str t) st := by simp [opFld, h, rdO, List.lookup]
theorem rd_ins : isIns (.ref r) 0 st = true := by simp [isIns, h, rdO]
theorem rd_put (j : Int) : setFldO (.ref r) 0 (.int j) st = some (st.set r (.ins 0 [(2, .str t), (0, .int j)])) := by simp [setFldO, h, rdO, putFd]
theorem rd_lt : r < st.length := (List.getElem?_eq_some_iff.mp h).1
theorem rd_same : st.set r (rdO t i) = st := by
  obtain ⟨hl, e⟩ := List.getElem?_eq_some_iff.mp h
  rw [← e]; simp
end
theorem rd_get {st : Store} {r : Nat} {o : O} (h : r < st.length) : (st.set r o)[r]? = some o := by simp [h]
theorem len_str (t : List Nat) (st : Store) (h : t.length < 100000) : opLen (.str t) st = .ok (.int t.length) st := by simp only [opLen]; rw [if_pos (by simp only [line]; omega)]
theorem idx_str (t : List Nat) (i c : Nat) (st : Store) (hl : t.length < 100000) (h : t[i]? = some c) : opIdx (.str t) (.int i) st = .ok (.str [c]) st := by
  simp only [opIdx, atI_nat, h]
  rw [if_pos (by simp only [line]; omega)]
section
variable {ds : Nat → Option Def} (H : HasRead ds)
include H
theorem loop12 (n : Nat) (t : List Nat) (hl : t.length < 100000) (r : Nat) : ∀ (k i m : Nat) (st : Store), i + k = t.length → k < m → st[r]? = some (rdO t i) →
    whileL (rCond (Iv.callsAt ds n) (.band (.cmp .lt (.fld (.var 0) 0) (.un .len (.fld (.var 0) 2))) (.cmp .mem (.idx (.fld (.var 0) 2) (.fld (.var 0) 0)) (.glob 14)))) (execL (Iv.callsAt ds n) f12_0_0) m [.val (.ref r)] st = .nx [.val (.ref r)] (st.set r (rdO t (skip t i))) := by
  intro k
  induction k with
  | zero =>
    intro i m st hi hm h
    obtain ⟨m, rfl⟩ : ∃ x, m = x + 1 := ⟨m - 1, by omega⟩
    have hz : ¬ ((i : Int) < (t.length : Int)) := by omega
    rw [whileL_false _ _ _ _ st st (by simp -implicitDefEqProofs [rCond_eq, rd_at h, rd_text h, len_str t _ hl, hz]), skip_end (by omega), rd_same h]
  | succ k ih =>
    intro i m st hi hm h
    obtain ⟨m, rfl⟩ : ∃ x, m = x + 1 := ⟨m - 1, by omega⟩
    have hz : (i : Int) < (t.length : Int) := by omega
    obtain ⟨c, hc⟩ : ∃ c, t[i]? = some c := ⟨t[i], List.getElem?_eq_getElem (by omega)⟩
    have hs := skip_step hc
    by_cases e : white c = true
    · rw [if_pos e] at hs
      rw [whileL_true _ _ _ _ st st (by simp -implicitDefEqProofs [rCond_eq, rd_at h, rd_text h, len_str t _ hl, hz, idx_str t i c _ hl hc, mem_white, e])]
      simp -implicitDefEqProofs [rd_at h, rd_put h]
      have h2 : (st.set r (rdO t (i + 1)))[r]? = some (rdO t (i + 1)) := rd_get (rd_lt h)
      have := ih (i + 1) m _ (by omega) (by omega) h2
      rw [List.set_set] at this
      rw [hs]
      exact this
    · rw [if_neg e] at hs
      rw [Bool.not_eq_true] at e
      rw [whileL_false _ _ _ _ st st (by simp -implicitDefEqProofs [rCond_eq, rd_at h, rd_text h, len_str t _ hl, hz, idx_str t i c _ hl hc, mem_white, e]), hs, rd_same h]
theorem run12 (n : Nat) {t : List Nat} (hl : t.length < 100000) {r i : Nat} {st : Store} (hi : i ≤ t.length) (h : st[r]? = some (rdO t i)) : run ds (n + 1) 12 [.ref r] st = .ok .non (st.set r (rdO t (skip t i))) := by
  rw [run_def H.h12 _ _ _ rfl rfl]
  simp -implicitDefEqProofs [f12, startE, -f12_0_0_e]
  rw [loop12 H n t hl r (t.length - i) i LF st (by omega) (by simp only [LF]; omega) h]
  simp -implicitDefEqProofs
theorem loop13 (n : Nat) (t : List Nat) (hl : t.length < 100000) (r : Nat) (z : Slot) : ∀ (k i m : Nat) (st : Store), i + k = t.length → k < m → st[r]? = some (rdO t i) →
    whileL (rCond (Iv.callsAt ds n) (.band (.cmp .lt (.fld (.var 0) 0) (.un .len (.fld (.var 0) 2))) (.bor (.cmp .mem (.idx (.fld (.var 0) 2) (.fld (.var 0) 0)) (.glob 7)) (.bor (.cmp .mem (.idx (.fld (.var 0) 2) (.fld (.var 0) 0)) (.glob 8)) (.cmp .eq (.idx (.fld (.var 0) 2) (.fld (.var 0) 0)) (.str [45])))))) (execL (Iv.callsAt ds n) f13_0_0) m [.val (.ref r), z] st = .nx [.val (.ref r), z] (st.set r (rdO t (i + (word t i).length))) := by
  intro k
  induction k with
  | zero =>
    intro i m st hi hm h
    obtain ⟨m, rfl⟩ : ∃ x, m = x + 1 := ⟨m - 1, by omega⟩
    have hz : ¬ ((i : Int) < (t.length : Int)) := by omega
    have hw : word t i = [] := by simp only [word, List.drop_eq_nil_of_le (show t.length ≤ i by omega), List.takeWhile_nil]
    rw [whileL_false _ _ _ _ st st (by simp -implicitDefEqProofs [rCond_eq, rd_at h, rd_text h, len_str t _ hl, hz]), hw, List.length_nil, Nat.add_zero, rd_same h]
  | succ k ih =>
    intro i m st hi hm h
    obtain ⟨m, rfl⟩ : ∃ x, m = x + 1 := ⟨m - 1, by omega⟩
    have hz : (i : Int) < (t.length : Int) := by omega
    obtain ⟨c, hc⟩ : ∃ c, t[i]? = some c := ⟨t[i], List.getElem?_eq_getElem (by omega)⟩
    obtain ⟨hi2, ec⟩ := List.getElem?_eq_some_iff.mp hc
    have hs : word t i = if runc c then c :: word t (i + 1) else [] := by
      simp only [word]
      rw [List.drop_eq_getElem_cons hi2, ec, List.takeWhile_cons]
    have cond : ∀ b, runc c = b → rCond (Iv.callsAt ds n) (.band (.cmp .lt (.fld (.var 0) 0) (.un .len (.fld (.var 0) 2))) (.bor (.cmp .mem (.idx (.fld (.var 0) 2) (.fld (.var 0) 0)) (.glob 7)) (.bor (.cmp .mem (.idx (.fld (.var 0) 2) (.fld (.var 0) 0)) (.glob 8)) (.cmp .eq (.idx (.fld (.var 0) 2) (.fld (.var 0) 0)) (.str [45]))))) [.val (.ref r), z] st = .ok b st := by
      intro b hb
      unfold runc at hb
      have hb45 : (([c] : List Nat) == [45]) = (c == 45) := by simp
      rw [← hb45] at hb
      subst hb
      cases e1 : letter c <;> cases e2 : figure c <;> simp -implicitDefEqProofs [rCond_eq, rd_at h, rd_text h, len_str t _ hl, hz, idx_str t i c _ hl hc, mem_let, mem_fig, e1, e2]
    cases e : runc c with
    | true =>
      rw [e, if_pos rfl] at hs
      rw [whileL_true _ _ _ _ st st (cond _ e)]
      simp -implicitDefEqProofs [rd_at h, rd_put h]
      have h2 : (st.set r (rdO t (i + 1)))[r]? = some (rdO t (i + 1)) := rd_get (rd_lt h)
      have := ih (i + 1) m _ (by omega) (by omega) h2
      rw [List.set_set] at this
      rw [hs, List.length_cons, show i + ((word t (i + 1)).length + 1) = i + 1 + (word t (i + 1)).length by omega]
      exact this
    | false =>
      rw [e, if_neg (by simp)] at hs
      rw [whileL_false _ _ _ _ st st (cond _ e), hs, List.length_nil, Nat.add_zero, rd_same h]
theorem run13 (n : Nat) {t : List Nat} (hl : t.length < 100000) {r i : Nat} {st : Store} (hi : i ≤ t.length) (h : st[r]? = some (rdO t i)) : run ds (n + 2) 13 [.ref r] st = .ok (.tup [.str (word t (skip t i)), .int (skip t i)]) (st.set r (rdO t (skip t i + (word t (skip t i)).length))) := by
  rw [run_def H.h13 _ _ _ rfl rfl]
  have e1 := run12 H n hl hi h
  have hs := skip_le hi
  have h1 : (st.set r (rdO t (skip t i)))[r]? = some (rdO t (skip t i)) := rd_get (rd_lt h)
  have e2 := loop13 H (n + 1) t hl r (.val (.int (skip t i))) (t.length - skip t i) (skip t i) LF _ (by omega) (by simp only [LF]; omega) h1
  rw [List.set_set] at e2
  have h2 : (st.set r (rdO t (skip t i + (word t (skip t i)).length)))[r]? = some (rdO t (skip t i + (word t (skip t i)).length)) := rd_get (rd_lt h)
  have hc : ∀ S, opCut (.str t) (some (skip t i : Int)) (some (((skip t i + (word t (skip t i)).length : Nat) : Int))) S = .ok (.str (word t (skip t i))) S := by
    intro S
    simp only [opCut]
    rw [if_pos (by simp only [line]; omega), cut_nat]
    congr 2
    rw [show skip t i + (word t (skip t i)).length - skip t i = (word t (skip t i)).length by omega]
    simp only [word]
    generalize t.drop (skip t i) = l
    induction l with
    | nil => rfl
    | cons a l ih => rw [List.takeWhile_cons]; split <;> simp [ih]
  simp only [Int.natCast_add] at hc
  simp -implicitDefEqProofs [f13, startE, rd_ins h, e1, rd_at h1, -f13_0_0_e]
  rw [e2]
  simp -implicitDefEqProofs [rd_text h2, rd_at h2, hc, okTup]
theorem cut_one (t : List Nat) (i : Nat) (st : Store) (hl : t.length < 100000) : opCut (.str t) (some (i : Int)) (some ((i : Int) + 1)) st = .ok (.str ((t.drop i).take 1)) st := by
  simp only [opCut]
  rw [if_pos (by simp only [line]; omega), show ((i : Int) + 1) = ((i + 1 : Nat) : Int) by omega, cut_nat]
  congr 3
  omega
theorem one_is (t : List Nat) (i c : Nat) : ((t.drop i).take 1 == [c]) = decide (t[i]? = some c) := by
  by_cases h : i < t.length
  · rw [List.drop_eq_getElem_cons h, List.take_succ_cons, List.take_zero, List.getElem?_eq_getElem h]
    by_cases e : t[i] = c
    · rw [e]; simp
    · rw [Bool.eq_iff_iff, beq_iff_eq, decide_eq_true_eq]; simp
  · rw [List.drop_eq_nil_of_le (by omega), List.getElem?_eq_none (by omega)]
    simp
theorem run14 (n : Nat) {t : List Nat} (hl : t.length < 100000) {r i : Nat} (c : Nat) {st : Store} (hi : i ≤ t.length) (h : st[r]? = some (rdO t i)) : (mark t c i).res (fun _ => .non) t st r (run ds (n + 2) 14 [.ref r, .str [c]] st) := by
  rw [run_def H.h14 _ _ _ rfl rfl]
  have e1 := run12 H n hl hi h
  have hs := skip_le hi
  have h1 : (st.set r (rdO t (skip t i)))[r]? = some (rdO t (skip t i)) := rd_get (rd_lt h)
  have e2 := fun S => cut_one H t (skip t i) S hl
  have e3 := one_is H t (skip t i) c
  unfold mark
  by_cases e : t[skip t i]? = some c
  · rw [if_pos e]
    have hlt : skip t i < t.length := (List.getElem?_eq_some_iff.mp e).1
    refine ⟨?_, by omega⟩
    have e4 : ((t.drop (skip t i)).take 1 == [c]) = true := by rw [e3]; simpa using e
    obtain ⟨z, hz⟩ : ∃ z, z = (t.drop (skip t i)).take 1 := ⟨_, rfl⟩
    rw [← hz] at e2 e4
    simp -implicitDefEqProofs [f14, startE, rd_ins h, e1, rd_at h1, rd_text h1, e2, e4, rd_put h1, List.set_set]
    rfl
  · rw [if_neg e]
    have e4 : ((t.drop (skip t i)).take 1 == [c]) = false := by rw [e3]; simpa using e
    obtain ⟨z, hz⟩ : ∃ z, z = (t.drop (skip t i)).take 1 := ⟨_, rfl⟩
    rw [← hz] at e2 e4
    refine ⟨skip t i, ?_, hs⟩
    simp -implicitDefEqProofs [f14, startE, rd_ins h, e1, rd_at h1, rd_text h1, e2, e4, excFields]
theorem run15 (n : Nat) {t : List Nat} (hl : t.length < 100000) {r i : Nat} {st : Store} (hi : i ≤ t.length) (h : st[r]? = some (rdO t i)) :
    run ds (n + 2) 15 [.ref r] st = if t[skip t i]? = some 40 then .ok (.bl true) (st.set r (rdO t (skip t i + 1))) else .ok (.bl false) (st.set r (rdO t (skip t i))) := by
  rw [run_def H.h15 _ _ _ rfl rfl]
  have e1 := run12 H n hl hi h
  have hs := skip_le hi
  have h1 : (st.set r (rdO t (skip t i)))[r]? = some (rdO t (skip t i)) := rd_get (rd_lt h)
  have e2 := fun S => cut_one H t (skip t i) S hl
  have e3 := one_is H t (skip t i) 40
  by_cases e : t[skip t i]? = some 40
  · rw [if_pos e]
    have e4 : ((t.drop (skip t i)).take 1 == [40]) = true := by rw [e3]; simpa using e
    obtain ⟨z, hz⟩ : ∃ z, z = (t.drop (skip t i)).take 1 := ⟨_, rfl⟩
    rw [← hz] at e2 e4
    simp -implicitDefEqProofs [f15, startE, rd_ins h, e1, rd_at h1, rd_text h1, e2, e4, rd_put h1, List.set_set]
    rfl
  · rw [if_neg e]
    have e4 : ((t.drop (skip t i)).take 1 == [40]) = false := by rw [e3]; simpa using e
    obtain ⟨z, hz⟩ : ∃ z, z = (t.drop (skip t i)).take 1 := ⟨_, rfl⟩
    rw [← hz] at e2 e4
    simp -implicitDefEqProofs [f15, startE, rd_ins h, e1, rd_at h1, rd_text h1, e2, e4]
theorem mem_ones (w : List Nat) (st : Store) : memD (.str w) (gval 9) st = some (decide (w ∈ ones)) := by
  have : strsOf [D.str [104, 101, 97, 100], .str [116, 97, 105, 108], .str [101, 109, 112, 116, 121], .str [102, 105, 114, 115, 116], .str [115, 101, 99, 111, 110, 100], .str [110, 111, 116]] = some ones := rfl
  exact (mem_tup _ _ _).trans (inSeq_str w this)
theorem mem_twos (w : List Nat) (st : Store) : memD (.str w) (gval 10) st = some (decide (w ∈ twos)) := by
  have : strsOf [D.str [99, 111, 110, 115], .str [112, 97, 105, 114], .str [99, 97, 108, 108], .str [112, 108, 117, 115], .str [109, 105, 110, 117, 115], .str [116, 105, 109, 101, 115], .str [111, 118, 101, 114], .str [114, 101, 115, 116], .str [108, 101, 115, 115], .str [115, 97, 109, 101], .str [97, 110, 100], .str [111, 114]] = some twos := rfl
  exact (mem_tup _ _ _).trans (inSeq_str w this)
theorem mem_kw (w : List Nat) (st : Store) : memD (.str w) (gval 11) st = some (decide (w ∈ kwords)) := by
  have : strsOf [D.str [105, 110, 116], .str [98, 111, 111, 108], .str [108, 105, 115, 116], .str [102, 117, 110]] = some kwords := rfl
  exact (mem_tup _ _ _).trans (inSeq_str w this)
theorem mem_ow (w : List Nat) (st : Store) : memD (.str w) (gval 12) st = some (decide (w ∈ owords)) := by
  have : strsOf [D.str [116, 114, 117, 101], .str [102, 97, 108, 115, 101], .str [110, 105, 108], .str [105, 102], .str [108, 101, 116], .str [102, 110], .str [114, 101, 99]] = some owords := rfl
  exact (mem_tup _ _ _).trans (inSeq_str w this)
theorem run_0 (n : Nat) (w : List Nat) (st : Store) : run ds (n + 1) 0 [.str w] st = .ok (.bl (isWord w)) st := by
  rw [run_def H.h0 _ _ _ rfl rfl]
  unfold isWord
  cases e1 : decide (w ∈ ones) <;> cases e2 : decide (w ∈ twos) <;> cases e3 : decide (w ∈ kwords) <;> cases e4 : decide (w ∈ owords) <;>
    simp -implicitDefEqProofs [f0, startE, mem_ones H, mem_twos H, mem_kw H, mem_ow H, e1, e2, e3, e4, -decide_eq_true_eq, -decide_eq_false_iff_not]
theorem all_bl (p : Nat → Bool) (l : List Nat) (st : Store) : opAll (.lst (l.map fun c => .bl (p c))) st = .ok (.bl (l.all p)) st := by
  have : blsOf (l.map fun c => D.bl (p c)) = some (l.map p) := by
    induction l with
    | nil => rfl
    | cons a l ih => simp only [List.map_cons, blsOf, ih, Option.map_some]
  simp only [opAll, this]
  simp [List.all_map, Function.comp_def]
theorem run_1 (n : Nat) (w : List Nat) (hw : w.length < 100000) (st : Store) : run ds (n + 2) 1 [.str w] st = .ok (.bl (isName w)) st := by
  rw [run_def H.h1 _ _ _ rfl rfl]
  have hl := len_str w st hw
  cases w with
  | nil =>
    simp -implicitDefEqProofs [f1, startE, hl, isName]
  | cons c l =>
    have h0 : opIdx (.str (c :: l)) (.int 0) st = .ok (.str [c]) st := idx_str (c :: l) 0 c st hw rfl
    have r0 := run_0 H n (c :: l) st
    have hk : ∀ z, kComp (Iv.callsAt ds (n + 1)) [.val (.str (c :: l)), z] (.bor (.cmp .mem (.var 1) (.glob 7)) (.cmp .mem (.var 1) (.glob 8))) [1] .str [] [.str (c :: l)] st = .ok (.lst ((c :: l).map fun d => .bl (letter d || figure d))) st := by
      intro z
      rw [kComp_items _ _ _ _ _ _ _ _ st (mkSrc_str _) (by simp [LF] at hw ⊢; omega), compD_map [1] _ _ _ (fun d : Nat => D.str [d]) (fun d => .bl (letter d || figure d)) (c :: l) st (fun d hd => ⟨_, rfl, ?_⟩) (by simp only [line] at hw ⊢; omega)]
      cases e1 : letter d <;> cases e2 : figure d <;> simp -implicitDefEqProofs [mem_let, mem_fig, e1, e2]
    have ha := all_bl H (fun d => letter d || figure d) (c :: l) st
    obtain ⟨W, hW⟩ : ∃ W, W = c :: l := ⟨_, rfl⟩
    have e8 : decide (((c :: l).length : Int) ≤ 8) = Nat.ble (l.length + 1) 8 := by
      rw [List.length_cons, Bool.eq_iff_iff, decide_eq_true_eq, Nat.ble_eq]; omega
    have e1 : decide ((1 : Int) ≤ ((c :: l).length : Int)) = true := by rw [List.length_cons, decide_eq_true_eq]; omega
    have gv : gval 3 = .int 8 := rfl
    simp only [isName]
    rw [← hW] at hl h0 r0 hk ha e8 e1 ⊢
    obtain ⟨b, hb⟩ : ∃ b, b = (W.map fun d => D.bl (letter d || figure d)) := ⟨_, rfl⟩
    rw [← hb] at hk ha
    cases c1 : Nat.ble (l.length + 1) 8 <;> cases c2 : letter c <;> cases c3 : isWord W <;>
      simp -implicitDefEqProofs [f1, startE, hl, h0, mem_let, r0, hk, ha, gv, e1, e8, c1, c2, c3, -decide_eq_true_eq, -decide_eq_false_iff_not, -List.length_cons]
end
end Pl
end
section
set_option Elab.async false
set_option linter.all false
set_option maxRecDepth 100000
/-! the reader's defs -/
namespace Pl
open Iv
theorem word_len (t : List Nat) (i : Nat) : (word t i).length ≤ t.length := by
  have := (List.takeWhile_sublist runc (l := t.drop i)).length_le
  simp only [List.length_drop] at this
  simp only [word]; omega
theorem figs_some : ∀ (l : List Nat) (acc : Nat), l.all figure = true → ∃ n, figs l acc = some n := by
  intro l
  induction l with
  | nil => intro acc _; exact ⟨acc, rfl⟩
  | cons c l ih =>
    intro acc h
    rw [List.all_cons, Bool.and_eq_true] at h
    have hc : 48 ≤ c ∧ c ≤ 57 := by
      have := h.1
      simp only [figure, Bool.and_eq_true, Nat.ble_eq] at this; exact this
    rw [figs, if_pos hc]
    exact ih _ h.2
theorem intOf_some {w : List Nat} (h1 : 1 ≤ (figsOf w).length) (h2 : (figsOf w).all figure = true) : ∃ n, intOf w = some n := by
  cases w with
  | nil => simp [figsOf] at h1
  | cons c l =>
    by_cases e : c = 45
    · subst e
      have ef : figsOf (45 :: l) = l := by simp [figsOf]
      rw [ef] at h1 h2
      cases l with
      | nil => simp at h1
      | cons d l =>
        obtain ⟨n, hn⟩ := figs_some _ 0 h2
        exact ⟨-(n : Int), by simp only [intOf, hn, Option.map_some]⟩
    · have ef : figsOf (c :: l) = c :: l := by simp [figsOf, e]
      rw [ef] at h2
      obtain ⟨n, hn⟩ := figs_some _ 0 h2
      refine ⟨(n : Int), ?_⟩
      unfold intOf
      split
      · rename_i heq; cases heq; exact absurd rfl e
      · rename_i heq; cases heq; rw [hn]; rfl
      · rename_i heq; cases heq
def numD (o : Option Int) : D := match o with
  | some n => .int n
  | none => .non
section
variable {ds : Nat → Option Def} (H : HasRead ds)
include H
theorem cut_to1 (w : List Nat) (st : Store) (h : w.length < 100000) : opCut (.str w) none (some 1) st = .ok (.str (w.take 1)) st := by
  simp only [opCut]
  rw [if_pos (by simp only [line]; omega)]
  have := cut_to w 1
  rw [show ((1 : Nat) : Int) = 1 by rfl] at this
  rw [this]
theorem cut_from1 (w : List Nat) (st : Store) (h : w.length < 100000) : opCut (.str w) (some 1) none st = .ok (.str (w.drop 1)) st := by
  simp only [opCut]
  rw [if_pos (by simp only [line]; omega)]
  have := cut_from w 1
  rw [show ((1 : Nat) : Int) = 1 by rfl] at this
  rw [this]
theorem comp2 (cs : Calls) (F : List Nat) (hF : F.length < 100000) (st : Store) (z0 z1 z2 z3 : Slot) : kComp cs [z0, z1, z2, z3] (.cmp .mem (.var 3) (.glob 8)) [3] .str [] [.str F] st = .ok (.lst (F.map fun d => .bl (figure d))) st := by
  rw [kComp_items _ _ _ _ _ _ _ _ st (mkSrc_str _) (by simp [LF]; omega), compD_map [3] _ _ _ (fun d : Nat => D.str [d]) (fun d => .bl (figure d)) F st (fun d hd => ⟨_, rfl, ?_⟩) (by simp only [line]; omega)]
  simp -implicitDefEqProofs [mem_fig]
theorem run_2 (n : Nat) (w : List Nat) (hw : w.length < 100000) (st : Store) : run ds (n + 1) 2 [.str w] st = .ok (numD (numIn w)) st := by
  rw [run_def H.h2 _ _ _ rfl rfl]
  have e1 := cut_to1 H w st hw
  have e2 := cut_from1 H w st hw
  have hF : (figsOf w).length < 100000 := by
    unfold figsOf; split
    · have := List.length_drop (i := 1) (l := w); omega
    · exact hw
  have hl := len_str (figsOf w) st hF
  have hk := fun z0 z1 z2 z3 => comp2 H (Iv.callsAt ds n) (figsOf w) hF st z0 z1 z2 z3
  have ha := all_bl H figure (figsOf w) st
  have gv : gval 4 = .int 19 := rfl
  have g5 : gval 5 = .int (-9223372036854775808) := rfl
  have g6 : gval 6 = .int 9223372036854775807 := rfl
  have d1 : decide ((1 : Int) ≤ ((figsOf w).length : Int)) = Nat.ble 1 (figsOf w).length := by
    rw [Bool.eq_iff_iff, decide_eq_true_eq, Nat.ble_eq]; omega
  have d2 : decide (((figsOf w).length : Int) ≤ 19) = Nat.ble (figsOf w).length 19 := by
    rw [Bool.eq_iff_iff, decide_eq_true_eq, Nat.ble_eq]; omega
  have hint : Nat.ble 1 (figsOf w).length = true → Nat.ble (figsOf w).length 19 = true → (figsOf w).all figure = true → ∃ m, intOf w = some m ∧ opInt (.str w) st = .ok (.int m) st := by
    intro h1 h2 h3
    obtain ⟨m, hm⟩ := intOf_some (Nat.le_of_ble_eq_true h1) h3
    have hl2 : w.length < 600 := by
      have := Nat.le_of_ble_eq_true h2
      unfold figsOf at this
      split at this
      · rw [List.length_drop] at this; omega
      · omega
    exact ⟨m, hm, by simp only [opInt, if_pos hl2, hm]⟩
  have hfig : figsOf w = if w.take 1 = [45] then w.drop 1 else w := rfl
  obtain ⟨t1, ht1⟩ : ∃ z, z = w.take 1 := ⟨_, rfl⟩
  obtain ⟨b, hb⟩ : ∃ b, b = ((figsOf w).map fun d => D.bl (figure d)) := ⟨_, rfl⟩
  simp only [numIn]
  rw [← hb] at hk ha
  rw [← ht1] at e1 hfig
  obtain ⟨F, hF0⟩ : ∃ F, F = figsOf w := ⟨_, rfl⟩
  rw [← hF0] at hl hk ha d1 d2 hint hfig ⊢
  have main : (execL (Iv.callsAt ds n) f2_3_2 [.val (.str w), .val (.str F), .none, .none] st).res = .ok (numD (if (Nat.ble 1 F.length && Nat.ble F.length 19) && F.all figure then (match intOf w with
    | some n => if rng n then some n else none
    | none => none) else none)) st := by
    cases c1 : Nat.ble 1 F.length <;> cases c2 : Nat.ble F.length 19 <;> cases c3 : F.all figure
    case true.true.true =>
      obtain ⟨m, m1, m2⟩ := hint c1 c2 c3
      rw [c1] at d1; rw [c2] at d2; rw [c3] at ha
      rw [m1]
      by_cases r1 : m < -9223372036854775808
      · have hr : rng m = false := by simp [rng]; omega
        have r1' : decide (m < -9223372036854775808) = true := by simpa using r1
        simp -implicitDefEqProofs [hl, gv, d1, d2, hk, ha, m2, g5, g6, r1', hr, numD, -decide_eq_true_eq, -decide_eq_false_iff_not]
      · have r1' : decide (m < -9223372036854775808) = false := by simpa using r1
        by_cases r2 : 9223372036854775807 < m
        · have hr : rng m = false := by simp [rng]; omega
          have r2' : decide ((9223372036854775807 : Int) < m) = true := by simpa using r2
          simp -implicitDefEqProofs [hl, gv, d1, d2, hk, ha, m2, g5, g6, r1', r2', hr, numD, -decide_eq_true_eq, -decide_eq_false_iff_not]
        · have hr : rng m = true := by simp [rng]; omega
          have r2' : decide ((9223372036854775807 : Int) < m) = false := by simpa using r2
          simp -implicitDefEqProofs [hl, gv, d1, d2, hk, ha, m2, g5, g6, r1', r2', hr, numD, -decide_eq_true_eq, -decide_eq_false_iff_not]
    all_goals
      rw [c1] at d1
      rw [c2] at d2
      rw [c3] at ha
      simp -implicitDefEqProofs [hl, gv, d1, d2, hk, ha, numD, -decide_eq_true_eq, -decide_eq_false_iff_not]
  refine Eq.trans ?_ main
  by_cases e : t1 = [45]
  · rw [if_pos e] at hfig
    rw [← hfig] at e2
    have e' : (t1 == [45]) = true := by simpa using e
    simp -implicitDefEqProofs [f2, startE, e1, e', e2, -f2_3_2_e]
  · rw [if_neg e] at hfig
    have e' : (t1 == [45]) = false := by simpa using e
    subst hfig
    simp -implicitDefEqProofs [f2, startE, e1, e', -f2_3_2_e]
theorem run16 (n : Nat) {t : List Nat} (hl : t.length < 100000) {r i : Nat} {st : Store} (hi : i ≤ t.length) (h : st[r]? = some (rdO t i)) : (nameAt t i).res (fun x => .str x) t st r (run ds (n + 3) 16 [.ref r] st) := by
  rw [run_def H.h16 _ _ _ rfl rfl]
  have e1 := run13 H n hl hi h
  have hs := skip_le hi
  have hw := word_le hs
  have e2 := run_1 H n (word t (skip t i)) (by omega) (st.set r (rdO t (skip t i + (word t (skip t i)).length)))
  unfold nameAt
  cases e : isName (word t (skip t i)) with
  | true =>
    rw [e] at e2
    refine ⟨?_, hw⟩
    simp -implicitDefEqProofs [f16, startE, rd_ins h, e1, e2]
  | false =>
    rw [e] at e2
    refine ⟨_, ?_, hw⟩
    simp -implicitDefEqProofs [f16, startE, rd_ins h, e1, e2, excFields]
end
end Pl
end
section
set_option Elab.async false
set_option linter.all false
set_option maxRecDepth 100000
/-! kinds and parts are read -/
namespace Pl
open Iv
theorem hsK : strsOf [D.str wd_list, D.str wd_pair, D.str wd_fun] = some [wd_list, wd_pair, wd_fun] := rfl
theorem hsI : strsOf [D.str wd_int, D.str wd_bool] = some [wd_int, wd_bool] := rfl
/-- what is at a place -/
theorem PR.res_ok {α : Type} {r : PR α} {d : α → D} {t : List Nat} {st : Store} {rr : Nat} {x : Res D} (h : r.res d t st rr x) {a : α} {i : Nat} (e : r = .ok a i) : x = .ok (d a) (st.set rr (rdO t i)) ∧ i ≤ t.length := by rw [e] at h; exact h
theorem PR.res_bad {α : Type} {r : PR α} {d : α → D} {t : List Nat} {st : Store} {rr : Nat} {x : Res D} (h : r.res d t st rr x) {e : Nat} (q : r = .bad e) : ∃ i, x = .exn ⟨1, [(0, .int e)]⟩ (st.set rr (rdO t i)) ∧ i ≤ t.length := by rw [q] at h; exact h
section
variable {ds : Nat → Option Def} (H : HasRead ds)
include H
theorem run3 {t : List Nat} (hl : t.length < 100000) (r : Nat) : ∀ (l i : Nat) (st : Store) (n : Nat), i ≤ t.length → st[r]? = some (rdO t i) → l + 4 ≤ n → (kindAt t l i).res K.toD t st r (run ds n 3 [.ref r, .int l] st) := by
  -- where no bracket opens
  have noB : ∀ (l i : Nat) (st : Store) (n : Nat), i ≤ t.length → st[r]? = some (rdO t i) → 4 ≤ n → t[skip t i]? ≠ some 40 →
      PR.res (if word t (skip t i) = wd_int then PR.ok K.int (skip t i + 3) else if word t (skip t i) = wd_bool then PR.ok K.bool (skip t i + 4) else PR.bad (skip t i)) K.toD t st r (run ds n 3 [.ref r, .int l] st) := by
    intro l i st n hi h hn hb
    obtain ⟨n, rfl⟩ : ∃ x, n = x + 4 := ⟨n - 4, by omega⟩
    rw [run_def H.h3 _ _ _ rfl rfl]
    have e1 := run15 H (n + 1) hl hi h
    rw [if_neg hb] at e1
    have hs := skip_le hi
    have h1 : (st.set r (rdO t (skip t i)))[r]? = some (rdO t (skip t i)) := rd_get (rd_lt h)
    have e2 := run13 H (n + 1) hl hs h1
    rw [skip_skip, List.set_set] at e2
    have hw := word_le hs
    by_cases w1 : word t (skip t i) = wd_int
    · rw [if_pos w1]
      rw [w1] at e2 hw
      refine ⟨?_, hw⟩
      have hm := inSeq_str wd_int hsI
      simp -implicitDefEqProofs [f3, startE, rd_ins h, e1, rd_ins h1, e2, hm, okTup, K.toD]
    · rw [if_neg w1]
      by_cases w2 : word t (skip t i) = wd_bool
      · rw [if_pos w2]
        rw [w2] at e2 hw
        refine ⟨?_, hw⟩
        have hm := inSeq_str wd_bool hsI
        simp -implicitDefEqProofs [f3, startE, rd_ins h, e1, rd_ins h1, e2, hm, okTup, K.toD]
      · rw [if_neg w2]
        refine ⟨_, ?_, hw⟩
        have hm : inSeq (.str (word t (skip t i))) [D.str wd_int, D.str wd_bool] = some false := by
          rw [inSeq_str _ hsI]; simp [w1, w2]
        simp -implicitDefEqProofs [f3, startE, rd_ins h, e1, rd_ins h1, e2, hm, okTup, excFields]
  intro l
  induction l with
  | zero =>
    intro i st n hi h hn
    unfold kindAt
    by_cases hb : t[skip t i]? = some 40
    · rw [if_pos hb]
      obtain ⟨n, rfl⟩ : ∃ x, n = x + 4 := ⟨n - 4, by omega⟩
      rw [run_def H.h3 _ _ _ rfl rfl]
      have e1 := run15 H (n + 1) hl hi h
      rw [if_pos hb] at e1
      have hs : skip t i + 1 ≤ t.length := by have := (List.getElem?_eq_some_iff.mp hb).1; omega
      have h1 : (st.set r (rdO t (skip t i + 1)))[r]? = some (rdO t (skip t i + 1)) := rd_get (rd_lt h)
      have e2 := run13 H (n + 1) hl hs h1
      rw [List.set_set] at e2
      have hw := word_le (skip_le hs)
      refine ⟨_, ?_, hw⟩
      obtain ⟨b, hbb⟩ : ∃ b, inSeq (.str (word t (skip t (skip t i + 1)))) [D.str wd_list, D.str wd_pair, D.str wd_fun] = some b := ⟨_, inSeq_str _ hsK⟩
      cases b <;> simp -implicitDefEqProofs [f3, startE, rd_ins h, e1, rd_ins h1, e2, hbb, okTup, excFields]
    · rw [if_neg hb]
      exact noB 0 i st n hi h (by omega) hb
  | succ l ih =>
    intro i st n hi h hn
    unfold kindAt
    by_cases hb : t[skip t i]? = some 40
    · rw [if_pos hb]
      obtain ⟨n, rfl⟩ : ∃ x, n = x + 4 := ⟨n - 4, by omega⟩
      rw [run_def H.h3 _ _ _ rfl rfl]
      have e1 := run15 H (n + 1) hl hi h
      rw [if_pos hb] at e1
      have hs : skip t i + 1 ≤ t.length := by have := (List.getElem?_eq_some_iff.mp hb).1; omega
      have h1 : (st.set r (rdO t (skip t i + 1)))[r]? = some (rdO t (skip t i + 1)) := rd_get (rd_lt h)
      have e2 := run13 H (n + 1) hl hs h1
      rw [List.set_set] at e2
      have hw := word_le (skip_le hs)
      obtain ⟨s, hs0⟩ : ∃ s, s = skip t (skip t i + 1) := ⟨_, rfl⟩
      dsimp only
      rw [← hs0] at e2 hw ⊢
      obtain ⟨w, hw0⟩ : ∃ w, w = word t s := ⟨_, rfl⟩
      rw [← hw0] at e2 hw ⊢
      have h2 : (st.set r (rdO t (s + w.length)))[r]? = some (rdO t (s + w.length)) := rd_get (rd_lt h)
      have hl1 : (((l : Int) + 1) == 0) = false := by rw [beq_eq_false_iff_ne]; omega
      have hl2 : ((l : Int) + 1) - 1 = (l : Int) := by omega
      have sub := fun i st hi h => ih i st (n + 3) hi h (by omega)
      have two : ∀ (w : List Nat) (f : K → K → K), (∀ k m, (f k m).toD = .tup [.str w, k.toD, m.toD]) → (w == wd_list) = false → inSeq (.str w) [D.str wd_list, D.str wd_pair, D.str wd_fun] = some true → word t s = w → s + w.length ≤ t.length →
          run ds (n + 3) 13 [.ref r] (st.set r (rdO t (skip t i + 1))) = .ok (.tup [.str w, .int s]) (st.set r (rdO t (s + w.length))) → (st.set r (rdO t (s + w.length)))[r]? = some (rdO t (s + w.length)) →
          PR.res ((kindAt t l (s + w.length)).bind fun k j => (kindAt t l j).bind fun m j => (mark t 41 j).bind fun _ j => .ok (f k m) j) K.toD t st r (execL (Iv.callsAt ds (n + 3)) f3.body (startE f3.nn ([D.ref r, D.int ((l + 1 : Nat) : Int)].map .val)) st).res := by
        intro w f hf wl wm ww hw e2 h2
        have s1 := sub _ _ hw h2
        cases k1 : kindAt t l (s + w.length) with
        | bad e =>
          obtain ⟨j, s1, hj⟩ := PR.res_bad s1 k1
          rw [List.set_set] at s1
          refine ⟨j, ?_, hj⟩
          simp -implicitDefEqProofs [f3, startE, rd_ins h, e1, rd_ins h1, e2, wm, wl, hl1, hl2, okTup, s1]
        | ok k j =>
          obtain ⟨s1, hj⟩ := PR.res_ok s1 k1
          rw [List.set_set] at s1
          have h3 : (st.set r (rdO t j))[r]? = some (rdO t j) := rd_get (rd_lt h)
          have s2 := sub _ _ hj h3
          simp only [PR.bind_ok]
          cases k2 : kindAt t l j with
          | bad e =>
            obtain ⟨j2, s2, hj2⟩ := PR.res_bad s2 k2
            rw [List.set_set] at s2
            refine ⟨j2, ?_, hj2⟩
            simp -implicitDefEqProofs [f3, startE, rd_ins h, e1, rd_ins h1, e2, wm, wl, hl1, hl2, okTup, okLst, s1, s2, newO]
          | ok m j2 =>
            obtain ⟨s2, hj2⟩ := PR.res_ok s2 k2
            rw [List.set_set] at s2
            have h4 : (st.set r (rdO t j2))[r]? = some (rdO t j2) := rd_get (rd_lt h)
            have s3 := run14 H (n + 1) hl 41 hj2 h4
            simp only [PR.bind_ok]
            cases k3 : mark t 41 j2 with
            | bad e =>
              obtain ⟨j3, s3, hj3⟩ := PR.res_bad s3 k3
              rw [List.set_set] at s3
              refine ⟨j3, ?_, hj3⟩
              simp -implicitDefEqProofs [f3, startE, rd_ins h, e1, rd_ins h1, e2, wm, wl, hl1, hl2, okTup, okLst, s1, s2, newO, rd_ins h4, s3]
            | ok u j3 =>
              obtain ⟨s3, hj3⟩ := PR.res_ok s3 k3
              rw [List.set_set] at s3
              refine ⟨?_, hj3⟩
              simp -implicitDefEqProofs [f3, startE, rd_ins h, e1, rd_ins h1, e2, wm, wl, hl1, hl2, okTup, okLst, s1, s2, newO, rd_ins h4, s3, hf]
      by_cases w1 : w = wd_list
      · rw [if_pos w1]
        rw [w1] at e2 hw h2
        have hm := inSeq_str wd_list hsK
        have s1 := sub _ _ hw h2
        rw [show s + wd_list.length = s + 4 from rfl] at s1 e2 h2
        cases k1 : kindAt t l (s + 4) with
        | bad e =>
          obtain ⟨j, s1, hj⟩ := PR.res_bad s1 k1
          rw [List.set_set] at s1
          refine ⟨j, ?_, hj⟩
          simp -implicitDefEqProofs [f3, startE, rd_ins h, e1, rd_ins h1, e2, hm, hl1, hl2, okTup, s1]
        | ok k j =>
          obtain ⟨s1, hj⟩ := PR.res_ok s1 k1
          rw [List.set_set] at s1
          have h4 : (st.set r (rdO t j))[r]? = some (rdO t j) := rd_get (rd_lt h)
          have s3 := run14 H (n + 1) hl 41 hj h4
          simp only [PR.bind_ok]
          cases k3 : mark t 41 j with
          | bad e =>
            obtain ⟨j3, s3, hj3⟩ := PR.res_bad s3 k3
            rw [List.set_set] at s3
            refine ⟨j3, ?_, hj3⟩
            simp -implicitDefEqProofs [f3, startE, rd_ins h, e1, rd_ins h1, e2, hm, hl1, hl2, okTup, okLst, s1, newO, rd_ins h4, s3]
          | ok u j3 =>
            obtain ⟨s3, hj3⟩ := PR.res_ok s3 k3
            rw [List.set_set] at s3
            refine ⟨?_, hj3⟩
            simp -implicitDefEqProofs [f3, startE, rd_ins h, e1, rd_ins h1, e2, hm, hl1, hl2, okTup, okLst, s1, newO, rd_ins h4, s3, K.toD]
      · rw [if_neg w1]
        by_cases w2 : w = wd_pair
        · rw [if_pos w2]
          exact two wd_pair .pair (fun _ _ => rfl) (by decide) (inSeq_str wd_pair hsK) (hw0.symm.trans w2) (by rw [← w2]; exact hw) (by rw [← w2]; exact e2) (by rw [← w2]; exact h2)
        · rw [if_neg w2]
          by_cases w3 : w = wd_fun
          · rw [if_pos w3]
            exact two wd_fun .fn (fun _ _ => rfl) (by decide) (inSeq_str wd_fun hsK) (hw0.symm.trans w3) (by rw [← w3]; exact hw) (by rw [← w3]; exact e2) (by rw [← w3]; exact h2)
          · rw [if_neg w3]
            refine ⟨_, ?_, hw⟩
            have hm : inSeq (.str w) [D.str wd_list, D.str wd_pair, D.str wd_fun] = some false := by
              rw [inSeq_str _ hsK]; simp [w1, w2, w3]
            simp -implicitDefEqProofs [f3, startE, rd_ins h, e1, rd_ins h1, e2, hm, okTup, excFields]
    · rw [if_neg hb]
      exact noB (l + 1) i st n hi h (by omega) hb
end
end Pl
end
section
set_option Elab.async false
set_option linter.all false
set_option maxRecDepth 100000
/-! parts are read; a whole text -/
namespace Pl
open Iv
section
variable {ds : Nat → Option Def} (H : HasRead ds)
include H
theorem run4 (n : Nat) {t : List Nat} (hl : t.length < 100000) {r i : Nat} {st : Store} (hi : i ≤ t.length) (h : st[r]? = some (rdO t i)) : (leafAt t (skip t i)).res P.toD t st r (run ds (n + 3) 4 [.ref r] st) := by
  rw [run_def H.h4 _ _ _ rfl rfl]
  have e1 := run13 H n hl hi h
  have hs := skip_le hi
  have hw := word_le hs
  have hwl := word_len t (skip t i)
  obtain ⟨s, hs0⟩ : ∃ s, s = skip t i := ⟨_, rfl⟩
  rw [← hs0] at e1 hw hwl ⊢
  unfold leafAt
  obtain ⟨w, hw0⟩ : ∃ w, w = word t s := ⟨_, rfl⟩
  rw [← hw0] at e1 hw hwl ⊢
  obtain ⟨S, hS⟩ : ∃ S, S = st.set r (rdO t (s + w.length)) := ⟨_, rfl⟩
  rw [← hS] at e1
  have e2 := run_1 H n w (by omega) S
  have e3 := run_2 H (n + 1) w (by omega) S
  unfold leafOf
  by_cases w1 : w = wd_true
  · rw [if_pos w1]
    refine ⟨?_, hw⟩
    rw [← hS]
    subst w1
    simp -implicitDefEqProofs [f4, startE, rd_ins h, e1, okTup, P.toD]
  · rw [if_neg w1]
    have w1' : (w == wd_true) = false := by simpa using w1
    by_cases w2 : w = wd_false
    · rw [if_pos w2]
      refine ⟨?_, hw⟩
      rw [← hS]
      subst w2
      simp -implicitDefEqProofs [f4, startE, rd_ins h, e1, okTup, P.toD]
    · rw [if_neg w2]
      have w2' : (w == wd_false) = false := by simpa using w2
      cases hn : isName w with
      | true =>
        rw [hn] at e2
        rw [if_pos rfl]
        refine ⟨?_, hw⟩
        rw [← hS]
        simp -implicitDefEqProofs [f4, startE, rd_ins h, e1, w1', w2', e2, okTup, P.toD]
      | false =>
        rw [hn] at e2
        rw [if_neg (by simp)]
        cases hm : numIn w with
        | none =>
          rw [hm] at e3
          refine ⟨s + w.length, ?_, hw⟩
          rw [← hS]
          simp -implicitDefEqProofs [f4, startE, rd_ins h, e1, w1', w2', e2, e3, numD, D.isNon, okTup, excFields]
        | some m =>
          rw [hm] at e3
          refine ⟨?_, hw⟩
          rw [← hS]
          simp -implicitDefEqProofs [f4, startE, rd_ins h, e1, w1', w2', e2, e3, numD, D.isNon, okTup, P.toD]
/-- what a branch leaves -/
def PR.out (q : PR P) (t : List Nat) (st : Store) (rr : Nat) (a b c d : Slot) (x : Out) : Prop := match q with
  | .ok p i => (∃ z5 z6, x = .nx [a, b, c, d, .val p.toD, z5, z6] (st.set rr (rdO t i))) ∧ i ≤ t.length
  | .bad e => ∃ i env, x = .exn ⟨1, [(0, .int e)]⟩ env (st.set rr (rdO t i)) ∧ i ≤ t.length
theorem tail5 (n : Nat) {t : List Nat} (hl : t.length < 100000) {r : Nat} {st : Store} (h : r < st.length) (b c d : Slot) (x : Out) (q : PR P) (hx : q.out t st r (.val (.ref r)) b c d x) :
    PR.res (q.bind fun p j => (mark t 41 j).bind fun _ j => .ok p j) P.toD t st r (x.andThen (execL (Iv.callsAt ds (n + 2)) f5_16_4)).res := by
  cases q with
  | bad e =>
    obtain ⟨i, env, rfl, hi⟩ := hx
    exact ⟨i, by simp, hi⟩
  | ok p j =>
    obtain ⟨⟨z5, z6, rfl⟩, hj⟩ := hx
    simp only [PR.bind_ok]
    have h4 : (st.set r (rdO t j))[r]? = some (rdO t j) := rd_get h
    have s3 := run14 H n hl 41 hj h4
    cases k3 : mark t 41 j with
    | bad e =>
      obtain ⟨j3, s3, hj3⟩ := PR.res_bad s3 k3
      rw [List.set_set] at s3
      refine ⟨j3, ?_, hj3⟩
      simp -implicitDefEqProofs [rd_ins h4, s3]
    | ok u j3 =>
      obtain ⟨s3, hj3⟩ := PR.res_ok s3 k3
      rw [List.set_set] at s3
      refine ⟨?_, hj3⟩
      simp -implicitDefEqProofs [rd_ins h4, s3]
end
end Pl
end
section
set_option Elab.async false
set_option linter.all false
set_option maxRecDepth 100000
set_option maxHeartbeats 1000000
/-! parts with brackets -/
namespace Pl
open Iv
abbrev env5 (r : Nat) (l : Nat) (w : List Nat) (s : Nat) : Env := [.val (.ref r), .val (.int ((l : Int) + 1)), .val (.str w), .val (.int s), .none, .none, .none]
section
variable {ds : Nat → Option Def} (H : HasRead ds) {t : List Nat} (hl : t.length < 100000) {r l n : Nat}
  (sub : ∀ (i : Nat) (st : Store), i ≤ t.length → st[r]? = some (rdO t i) → (partAt t l i).res P.toD t st r (run ds n 5 [.ref r, .int l] st)) (hn : 14 ≤ n)
include H hl sub hn
theorem subP {st : Store} (hr : r < st.length) {i : Nat} (hi : i ≤ t.length) : (partAt t l i).res P.toD t st r (run ds n 5 [.ref r, .int l] (st.set r (rdO t i))) := by
  have := sub i (st.set r (rdO t i)) hi (rd_get hr)
  revert this
  cases partAt t l i with
  | ok p j => rintro ⟨h1, h2⟩; rw [List.set_set] at h1; exact ⟨h1, h2⟩
  | bad e => rintro ⟨j, h1, h2⟩; rw [List.set_set] at h1; exact ⟨j, h1, h2⟩
theorem subK {st : Store} (hr : r < st.length) {i : Nat} (hi : i ≤ t.length) : (kindAt t 8 i).res K.toD t st r (run ds n 3 [.ref r, .int 8] (st.set r (rdO t i))) := by
  have := run3 H hl r 8 i (st.set r (rdO t i)) n hi (rd_get hr) (by omega)
  revert this
  cases kindAt t 8 i with
  | ok p j => rintro ⟨h1, h2⟩; rw [List.set_set] at h1; exact ⟨h1, h2⟩
  | bad e => rintro ⟨j, h1, h2⟩; rw [List.set_set] at h1; exact ⟨j, h1, h2⟩
theorem subN {st : Store} (hr : r < st.length) {i : Nat} (hi : i ≤ t.length) : (nameAt t i).res (fun x => .str x) t st r (run ds n 16 [.ref r] (st.set r (rdO t i))) := by
  obtain ⟨n, rfl⟩ : ∃ x, n = x + 3 := ⟨n - 3, by omega⟩
  have := run16 H n hl hi (rd_get (o := rdO t i) hr)
  revert this
  cases nameAt t i with
  | ok p j => rintro ⟨h1, h2⟩; rw [List.set_set] at h1; exact ⟨h1, h2⟩
  | bad e => rintro ⟨j, h1, h2⟩; rw [List.set_set] at h1; exact ⟨j, h1, h2⟩
variable {st : Store} (hr : r < st.length) {e : Nat} (he : e ≤ t.length) (s : Nat)
include hr he
theorem brNil : PR.out ((kindAt t 8 e).bind fun k j => .ok (.nil k) j) t st r (.val (.ref r)) (.val (.int ((l : Int) + 1))) (.val (.str wd_nil)) (.val (.int s)) (execL (Iv.callsAt ds n) f5_2_0 (env5 r l wd_nil s) (st.set r (rdO t e))) := by
  have k := subK H hl sub hn hr he
  have gv : gval 2 = .int 8 := rfl
  cases k1 : kindAt t 8 e with
  | bad x =>
    obtain ⟨j, k, hj⟩ := PR.res_bad k k1
    exact ⟨j, _, by simp -implicitDefEqProofs [gv, k]; exact rfl, hj⟩
  | ok a j =>
    obtain ⟨k, hj⟩ := PR.res_ok k k1
    exact ⟨⟨_, _, by simp -implicitDefEqProofs [gv, k, okTup, P.toD]; exact ⟨rfl, rfl⟩⟩, hj⟩
theorem brOne (o : W1) : PR.out ((partAt t l e).bind fun p j => .ok (.one o p) j) t st r (.val (.ref r)) (.val (.int ((l : Int) + 1))) (.val (.str o.txt)) (.val (.int s)) (execL (Iv.callsAt ds n) f5_3_0 (env5 r l o.txt s) (st.set r (rdO t e))) := by
  have k := subP H hl sub hn hr he
  have hl2 : ((l : Int) + 1) - 1 = (l : Int) := by omega
  cases k1 : partAt t l e with
  | bad x =>
    obtain ⟨j, k, hj⟩ := PR.res_bad k k1
    exact ⟨j, _, by simp -implicitDefEqProofs [hl2, k]; exact rfl, hj⟩
  | ok a j =>
    obtain ⟨k, hj⟩ := PR.res_ok k k1
    exact ⟨⟨_, _, by simp -implicitDefEqProofs [hl2, k, okTup, P.toD]; exact ⟨rfl, rfl⟩⟩, hj⟩
theorem brTwo (o : W2) : PR.out ((partAt t l e).bind fun p j => (partAt t l j).bind fun q j => .ok (.two o p q) j) t st r (.val (.ref r)) (.val (.int ((l : Int) + 1))) (.val (.str o.txt)) (.val (.int s)) (execL (Iv.callsAt ds n) f5_4_0 (env5 r l o.txt s) (st.set r (rdO t e))) := by
  have k := subP H hl sub hn hr he
  have hl2 : ((l : Int) + 1) - 1 = (l : Int) := by omega
  cases k1 : partAt t l e with
  | bad x =>
    obtain ⟨j, k, hj⟩ := PR.res_bad k k1
    exact ⟨j, _, by simp -implicitDefEqProofs [hl2, k]; exact rfl, hj⟩
  | ok a j =>
    obtain ⟨k, hj⟩ := PR.res_ok k k1
    have m := subP H hl sub hn hr hj
    simp only [PR.bind_ok]
    cases k2 : partAt t l j with
    | bad x =>
      obtain ⟨j2, m, hj2⟩ := PR.res_bad m k2
      exact ⟨j2, _, by simp -implicitDefEqProofs [hl2, k, m]; exact rfl, hj2⟩
    | ok b j2 =>
      obtain ⟨m, hj2⟩ := PR.res_ok m k2
      exact ⟨⟨_, _, by simp -implicitDefEqProofs [hl2, k, m, okTup, P.toD]; exact ⟨rfl, rfl⟩⟩, hj2⟩
theorem brIf : PR.out ((partAt t l e).bind fun c j => (partAt t l j).bind fun p j => (partAt t l j).bind fun q j => .ok (.ite c p q) j) t st r (.val (.ref r)) (.val (.int ((l : Int) + 1))) (.val (.str wd_if)) (.val (.int s)) (execL (Iv.callsAt ds n) f5_5_0 (env5 r l wd_if s) (st.set r (rdO t e))) := by
  have k := subP H hl sub hn hr he
  have hl2 : ((l : Int) + 1) - 1 = (l : Int) := by omega
  cases k1 : partAt t l e with
  | bad x =>
    obtain ⟨j, k, hj⟩ := PR.res_bad k k1
    exact ⟨j, _, by simp -implicitDefEqProofs [hl2, k]; exact rfl, hj⟩
  | ok a j =>
    obtain ⟨k, hj⟩ := PR.res_ok k k1
    have m := subP H hl sub hn hr hj
    simp only [PR.bind_ok]
    cases k2 : partAt t l j with
    | bad x =>
      obtain ⟨j2, m, hj2⟩ := PR.res_bad m k2
      exact ⟨j2, _, by simp -implicitDefEqProofs [hl2, k, m]; exact rfl, hj2⟩
    | ok b j2 =>
      obtain ⟨m, hj2⟩ := PR.res_ok m k2
      have u := subP H hl sub hn hr hj2
      simp only [PR.bind_ok]
      cases k3 : partAt t l j2 with
      | bad x =>
        obtain ⟨j3, u, hj3⟩ := PR.res_bad u k3
        exact ⟨j3, _, by simp -implicitDefEqProofs [hl2, k, m, u]; exact rfl, hj3⟩
      | ok c j3 =>
        obtain ⟨u, hj3⟩ := PR.res_ok u k3
        exact ⟨⟨_, _, by simp -implicitDefEqProofs [hl2, k, m, u, okTup, P.toD]; exact ⟨rfl, rfl⟩⟩, hj3⟩
theorem brLet : PR.out ((nameAt t e).bind fun x j => (partAt t l j).bind fun p j => (partAt t l j).bind fun q j => .ok (.letp x p q) j) t st r (.val (.ref r)) (.val (.int ((l : Int) + 1))) (.val (.str wd_let)) (.val (.int s)) (execL (Iv.callsAt ds n) f5_6_0 (env5 r l wd_let s) (st.set r (rdO t e))) := by
  have k := subN H hl sub hn hr he
  have ii := rd_ins (rd_get (o := rdO t e) hr)
  have hl2 : ((l : Int) + 1) - 1 = (l : Int) := by omega
  cases k1 : nameAt t e with
  | bad x =>
    obtain ⟨j, k, hj⟩ := PR.res_bad k k1
    exact ⟨j, _, by simp -implicitDefEqProofs [hl2, ii, k]; exact rfl, hj⟩
  | ok a j =>
    obtain ⟨k, hj⟩ := PR.res_ok k k1
    have m := subP H hl sub hn hr hj
    simp only [PR.bind_ok]
    cases k2 : partAt t l j with
    | bad x =>
      obtain ⟨j2, m, hj2⟩ := PR.res_bad m k2
      exact ⟨j2, _, by simp -implicitDefEqProofs [hl2, ii, k, m]; exact rfl, hj2⟩
    | ok b j2 =>
      obtain ⟨m, hj2⟩ := PR.res_ok m k2
      have u := subP H hl sub hn hr hj2
      simp only [PR.bind_ok]
      cases k3 : partAt t l j2 with
      | bad x =>
        obtain ⟨j3, u, hj3⟩ := PR.res_bad u k3
        exact ⟨j3, _, by simp -implicitDefEqProofs [hl2, ii, k, m, u]; exact rfl, hj3⟩
      | ok c j3 =>
        obtain ⟨u, hj3⟩ := PR.res_ok u k3
        exact ⟨⟨_, _, by simp -implicitDefEqProofs [hl2, ii, k, m, u, okTup, P.toD]; exact ⟨rfl, rfl⟩⟩, hj3⟩
theorem brFn : PR.out ((nameAt t e).bind fun x j => (kindAt t 8 j).bind fun k j => (partAt t l j).bind fun q j => .ok (.fn x k q) j) t st r (.val (.ref r)) (.val (.int ((l : Int) + 1))) (.val (.str wd_fn)) (.val (.int s)) (execL (Iv.callsAt ds n) f5_7_0 (env5 r l wd_fn s) (st.set r (rdO t e))) := by
  have k := subN H hl sub hn hr he
  have ii := rd_ins (rd_get (o := rdO t e) hr)
  have gv : gval 2 = .int 8 := rfl
  have hl2 : ((l : Int) + 1) - 1 = (l : Int) := by omega
  cases k1 : nameAt t e with
  | bad x =>
    obtain ⟨j, k, hj⟩ := PR.res_bad k k1
    exact ⟨j, _, by simp -implicitDefEqProofs [hl2, ii, k]; exact rfl, hj⟩
  | ok a j =>
    obtain ⟨k, hj⟩ := PR.res_ok k k1
    have m := subK H hl sub hn hr hj
    simp only [PR.bind_ok]
    cases k2 : kindAt t 8 j with
    | bad x =>
      obtain ⟨j2, m, hj2⟩ := PR.res_bad m k2
      exact ⟨j2, _, by simp -implicitDefEqProofs [hl2, gv, ii, k, m]; exact rfl, hj2⟩
    | ok b j2 =>
      obtain ⟨m, hj2⟩ := PR.res_ok m k2
      have u := subP H hl sub hn hr hj2
      simp only [PR.bind_ok]
      cases k3 : partAt t l j2 with
      | bad x =>
        obtain ⟨j3, u, hj3⟩ := PR.res_bad u k3
        exact ⟨j3, _, by simp -implicitDefEqProofs [hl2, gv, ii, k, m, u]; exact rfl, hj3⟩
      | ok c j3 =>
        obtain ⟨u, hj3⟩ := PR.res_ok u k3
        exact ⟨⟨_, _, by simp -implicitDefEqProofs [hl2, gv, ii, k, m, u, okTup, P.toD]; exact ⟨rfl, rfl⟩⟩, hj3⟩
theorem brRec : PR.out ((nameAt t e).bind fun f j => (nameAt t j).bind fun x j => (kindAt t 8 j).bind fun k j => (kindAt t 8 j).bind fun m j => (partAt t l j).bind fun q j => .ok (.recf f x k m q) j) t st r (.val (.ref r)) (.val (.int ((l : Int) + 1))) (.val (.str wd_rec)) (.val (.int s)) (execL (Iv.callsAt ds n) f5_8_0 (env5 r l wd_rec s) (st.set r (rdO t e))) := by
  have k := subN H hl sub hn hr he
  have ii := rd_ins (rd_get (o := rdO t e) hr)
  have gv : gval 2 = .int 8 := rfl
  have hl2 : ((l : Int) + 1) - 1 = (l : Int) := by omega
  have ap := fun a b c S => opAdd_tup S [a] [b, c] (by simp [line])
  have ap2 := fun a b c d f S => opAdd_tup S [a, b, c] [d, f] (by simp [line])
  have ap3 := fun a b c d f g S => opAdd_tup S [a, b, c, d, f] [g] (by simp [line])
  cases k1 : nameAt t e with
  | bad x =>
    obtain ⟨j, k, hj⟩ := PR.res_bad k k1
    exact ⟨j, _, by simp -implicitDefEqProofs [hl2, ii, k]; exact rfl, hj⟩
  | ok a j =>
    obtain ⟨k, hj⟩ := PR.res_ok k k1
    have i2 := rd_ins (rd_get (o := rdO t j) hr)
    have v := subN H hl sub hn hr hj
    simp only [PR.bind_ok]
    cases k4 : nameAt t j with
    | bad x =>
      obtain ⟨j2, v, hj2⟩ := PR.res_bad v k4
      exact ⟨j2, _, by simp -implicitDefEqProofs [hl2, ii, k, i2, v]; exact rfl, hj2⟩
    | ok a2 ja =>
      obtain ⟨v, hja⟩ := PR.res_ok v k4
      have m := subK H hl sub hn hr hja
      simp only [PR.bind_ok]
      cases k2 : kindAt t 8 ja with
      | bad x =>
        obtain ⟨j2, m, hj2⟩ := PR.res_bad m k2
        exact ⟨j2, _, by simp -implicitDefEqProofs [hl2, gv, ii, k, i2, v, okTup, m]; exact rfl, hj2⟩
      | ok b j2 =>
        obtain ⟨m, hj2⟩ := PR.res_ok m k2
        have m2 := subK H hl sub hn hr hj2
        simp only [PR.bind_ok]
        cases k5 : kindAt t 8 j2 with
        | bad x =>
          obtain ⟨j3, m2, hj3⟩ := PR.res_bad m2 k5
          exact ⟨j3, _, by simp -implicitDefEqProofs [hl2, gv, ii, k, i2, v, okTup, m, m2]; exact rfl, hj3⟩
        | ok b2 jb =>
          obtain ⟨m2, hjb⟩ := PR.res_ok m2 k5
          have u := subP H hl sub hn hr hjb
          simp only [PR.bind_ok]
          cases k3 : partAt t l jb with
          | bad x =>
            obtain ⟨j3, u, hj3⟩ := PR.res_bad u k3
            exact ⟨j3, _, by simp -implicitDefEqProofs [hl2, gv, ii, k, i2, v, okTup, m, m2, ap, ap2, u]; exact rfl, hj3⟩
          | ok c j3 =>
            obtain ⟨u, hj3⟩ := PR.res_ok u k3
            exact ⟨⟨_, _, by simp -implicitDefEqProofs [hl2, gv, ii, k, i2, v, okTup, m, m2, ap, ap2, u, ap3, P.toD]; exact ⟨rfl, rfl⟩⟩, hj3⟩
end
end Pl
end
section
set_option Elab.async false
set_option linter.all false
set_option maxRecDepth 100000
set_option maxHeartbeats 1000000
/-! a whole text -/
namespace Pl
open Iv
theorem andThen_nil0 (cs : Calls) (o : Out) : o.andThen (execL cs []) = o := by cases o <;> simp -implicitDefEqProofs
section
variable {ds : Nat → Option Def} (H : HasRead ds)
include H
theorem run5 {t : List Nat} (hl : t.length < 100000) (r : Nat) : ∀ (l i : Nat) (st : Store) (n : Nat), i ≤ t.length → st[r]? = some (rdO t i) → l + 15 ≤ n → (partAt t l i).res P.toD t st r (run ds n 5 [.ref r, .int l] st) := by
  -- where no bracket opens
  have noB : ∀ (l i : Nat) (st : Store) (n : Nat), i ≤ t.length → st[r]? = some (rdO t i) → 15 ≤ n → t[skip t i]? ≠ some 40 → (leafAt t (skip t i)).res P.toD t st r (run ds n 5 [.ref r, .int l] st) := by
    intro l i st n hi h hn hb
    obtain ⟨n, rfl⟩ : ∃ x, n = x + 4 := ⟨n - 4, by omega⟩
    rw [run_def H.h5 _ _ _ rfl rfl]
    have e1 := run15 H (n + 1) hl hi h
    rw [if_neg hb] at e1
    have hs := skip_le hi
    have h1 : (st.set r (rdO t (skip t i)))[r]? = some (rdO t (skip t i)) := rd_get (rd_lt h)
    have e2 := run4 H n hl hs h1
    rw [skip_skip] at e2
    cases k : leafAt t (skip t i) with
    | bad x =>
      obtain ⟨j, e2, hj⟩ := PR.res_bad e2 k
      rw [List.set_set] at e2
      refine ⟨j, ?_, hj⟩
      simp -implicitDefEqProofs [f5, startE, rd_ins h, e1, e2]
    | ok p j =>
      obtain ⟨e2, hj⟩ := PR.res_ok e2 k
      rw [List.set_set] at e2
      refine ⟨?_, hj⟩
      simp -implicitDefEqProofs [f5, startE, rd_ins h, e1, e2]
  intro l
  induction l with
  | zero =>
    intro i st n hi h hn
    unfold partAt
    by_cases hb : t[skip t i]? = some 40
    · rw [if_pos hb]
      obtain ⟨n, rfl⟩ : ∃ x, n = x + 4 := ⟨n - 4, by omega⟩
      rw [run_def H.h5 _ _ _ rfl rfl]
      have e1 := run15 H (n + 1) hl hi h
      rw [if_pos hb] at e1
      have hs : skip t i + 1 ≤ t.length := by have := (List.getElem?_eq_some_iff.mp hb).1; omega
      have h1 : (st.set r (rdO t (skip t i + 1)))[r]? = some (rdO t (skip t i + 1)) := rd_get (rd_lt h)
      have e2 := run13 H (n + 1) hl hs h1
      rw [List.set_set] at e2
      have hw := word_le (skip_le hs)
      refine ⟨_, ?_, hw⟩
      simp -implicitDefEqProofs [f5, startE, rd_ins h, e1, rd_ins h1, e2, okTup, excFields]
    · rw [if_neg hb]
      exact noB 0 i st n hi h (by omega) hb
  | succ l ih =>
    intro i st n hi h hn
    unfold partAt
    by_cases hb : t[skip t i]? = some 40
    · rw [if_pos hb]
      obtain ⟨n, rfl⟩ : ∃ x, n = x + 4 := ⟨n - 4, by omega⟩
      rw [run_def H.h5 _ _ _ rfl rfl]
      have e1 := run15 H (n + 1) hl hi h
      rw [if_pos hb] at e1
      have hs : skip t i + 1 ≤ t.length := by have := (List.getElem?_eq_some_iff.mp hb).1; omega
      have h1 : (st.set r (rdO t (skip t i + 1)))[r]? = some (rdO t (skip t i + 1)) := rd_get (rd_lt h)
      have e2 := run13 H (n + 1) hl hs h1
      rw [List.set_set] at e2
      have hw := word_le (skip_le hs)
      obtain ⟨s, hs0⟩ : ∃ s, s = skip t (skip t i + 1) := ⟨_, rfl⟩
      dsimp only
      rw [← hs0] at e2 hw ⊢
      obtain ⟨w, hw0⟩ : ∃ w, w = word t s := ⟨_, rfl⟩
      rw [← hw0] at e2 hw ⊢
      have hr := rd_lt h
      have sub := fun i st hi h => ih i st (n + 3) hi h (by omega)
      have hl1 : (((l : Int) + 1) == 0) = false := by rw [beq_eq_false_iff_ne]; omega
      have pre : (execL (Iv.callsAt ds (n + 3)) f5.body (startE f5.nn ([D.ref r, D.int ((l + 1 : Nat) : Int)].map .val)) st).res = ((execS (Iv.callsAt ds (n + 3)) (.ite (.cmp .eq (.var 2) (.str wd_nil)) f5_2_0 f5_15_0) (env5 r l w s) (st.set r (rdO t (s + w.length)))).andThen (execL (Iv.callsAt ds (n + 3)) f5_16_4)).res := by
        simp -implicitDefEqProofs [f5, startE, rd_ins h, e1, rd_ins h1, e2, okTup, hl1, -f5_16_4_e, -f5_2_0_e, -f5_15_0_e]
      rw [pre]
      refine tail5 H (n + 1) hl hr (.val (.int ((l : Int) + 1))) (.val (.str w)) (.val (.int s)) _ _ ?_
      have hn14 : 14 ≤ n + 3 := by omega
      by_cases q1 : w = wd_nil
      · rw [if_pos q1]
        have q1' : (w == wd_nil) = true := by simpa using q1
        have b := brNil H hl sub hn14 hr hw s
        simp -implicitDefEqProofs [q1', andThen_nil0, -f5_2_0_e, -f5_15_0_e]
        subst q1
        exact b
      · rw [if_neg q1]
        have q1' : (w == wd_nil) = false := by simpa using q1
        have mm := mem_ones H w
        have m2 := mem_twos H w
        cases q2 : w1Of w with
        | some o =>
          obtain ⟨hw', hm⟩ := w1_some q2
          simp only [decide_eq_true hm] at mm
          have b := brOne H hl sub hn14 hr hw s o
          simp -implicitDefEqProofs [q1', mm, andThen_nil0, -f5_2_0_e, -f5_3_0_e, -f5_14_0_e]
          subst hw'
          exact b
        | none =>
          simp only [decide_eq_false (w1_none q2)] at mm
          cases q3 : w2Of w with
          | some o =>
            obtain ⟨hw', hm⟩ := w2_some q3
            simp only [decide_eq_true hm] at m2
            have b := brTwo H hl sub hn14 hr hw s o
            simp -implicitDefEqProofs [q1', mm, m2, andThen_nil0, -f5_2_0_e, -f5_3_0_e, -f5_4_0_e, -f5_13_0_e]
            subst hw'
            exact b
          | none =>
            simp only [decide_eq_false (w2_none q3)] at m2
            by_cases q4 : w = wd_if
            · simp only [if_pos q4]
              have q4' : (w == wd_if) = true := by simpa using q4
              have b := brIf H hl sub hn14 hr hw s
              simp -implicitDefEqProofs [q1', mm, m2, q4', andThen_nil0, -f5_2_0_e, -f5_3_0_e, -f5_4_0_e, -f5_5_0_e, -f5_12_0_e]
              subst q4
              exact b
            · simp only [if_neg q4]
              have q4' : (w == wd_if) = false := by simpa using q4
              by_cases q5 : w = wd_let
              · simp only [if_pos q5]
                have q5' : (w == wd_let) = true := by simpa using q5
                have b := brLet H hl sub hn14 hr hw s
                simp -implicitDefEqProofs [q1', mm, m2, q4', q5', andThen_nil0, -f5_2_0_e, -f5_3_0_e, -f5_4_0_e, -f5_5_0_e, -f5_6_0_e, -f5_11_0_e]
                subst q5
                exact b
              · simp only [if_neg q5]
                have q5' : (w == wd_let) = false := by simpa using q5
                by_cases q6 : w = wd_fn
                · simp only [if_pos q6]
                  have q6' : (w == wd_fn) = true := by simpa using q6
                  have b := brFn H hl sub hn14 hr hw s
                  simp -implicitDefEqProofs [q1', mm, m2, q4', q5', q6', andThen_nil0, -f5_2_0_e, -f5_3_0_e, -f5_4_0_e, -f5_5_0_e, -f5_6_0_e, -f5_7_0_e, -f5_10_0_e]
                  subst q6
                  exact b
                · simp only [if_neg q6]
                  have q6' : (w == wd_fn) = false := by simpa using q6
                  by_cases q7 : w = wd_rec
                  · simp only [if_pos q7]
                    have q7' : (w == wd_rec) = true := by simpa using q7
                    have b := brRec H hl sub hn14 hr hw s
                    simp -implicitDefEqProofs [q1', mm, m2, q4', q5', q6', q7', andThen_nil0, -f5_2_0_e, -f5_3_0_e, -f5_4_0_e, -f5_5_0_e, -f5_6_0_e, -f5_7_0_e, -f5_8_0_e, -f5_9_0_e]
                    subst q7
                    exact b
                  · simp only [if_neg q7]
                    have q7' : (w == wd_rec) = false := by simpa using q7
                    refine ⟨s + w.length, env5 r l w s, ?_, hw⟩
                    simp -implicitDefEqProofs [q1', mm, m2, q4', q5', q6', q7', andThen_nil0, excFields, -f5_2_0_e, -f5_3_0_e, -f5_4_0_e, -f5_5_0_e, -f5_6_0_e, -f5_7_0_e, -f5_8_0_e]
    · rw [if_neg hb]
      exact noB (l + 1) i st n hi h (by omega) hb
/-- what a text's reading comes to -/
def readRes (q : PR P) (st : Store) (x : Res D) : Prop := match q with
  | .ok p _ => ∃ st', x = .ok p.toD st' ∧ Ext st st'
  | .bad e => ∃ st', x = .exn ⟨1, [(0, .int e)]⟩ st' ∧ Ext st st'
theorem run6 {t : List Nat} (hl : t.length < 100000) (n : Nat) (hn : 47 ≤ n) (st : Store) : readRes (readP t) st (run ds n 6 [.str t] st) := by
  obtain ⟨n, rfl⟩ : ∃ x, n = x + 3 := ⟨n - 3, by omega⟩
  rw [run_def H.h6 _ _ _ rfl rfl]
  have e0 := len_str t st hl
  have g0 : gval 0 = .int 2000 := rfl
  have g1 : gval 1 = .int 30 := rfl
  unfold readP
  by_cases hbig : 2000 < t.length
  · rw [if_pos hbig]
    have hb : decide ((2000 : Int) < (t.length : Int)) = true := by rw [decide_eq_true_eq]; omega
    refine ⟨st, ?_, Ext.refl _⟩
    simp -implicitDefEqProofs [f6, startE, e0, g0, hb, excFields, -decide_eq_true_eq]
  · rw [if_neg hbig]
    have hb : decide ((2000 : Int) < (t.length : Int)) = false := by rw [decide_eq_false_iff_not]; omega
    have hset : ∀ a b : O, (st ++ [a]).set st.length b = st ++ [b] := fun a b => by simp
    have m1 : run ds (n + 1) 11 [.ref st.length, .str t] (st ++ [O.ins 0 []]) = .ok .non (st ++ [rdO t 0]) := by
      rw [run_def H.h11 _ _ _ rfl rfl, ← hset (O.ins 0 []) (rdO t 0)]
      simp -implicitDefEqProofs [f11, startE, setFldO, putFd]
      rfl
    have hg : ∀ j : Nat, (st ++ [rdO t j])[st.length]? = some (rdO t j) := fun j => by simp
    have he : ∀ j : Nat, Ext st (st ++ [rdO t j]) := fun j => ⟨by simp, fun i hi => List.getElem?_append_left hi⟩
    have c30 : ((30 : Nat) : Int) = 30 := rfl
    have e1 := run5 H hl st.length 30 0 (st ++ [rdO t 0]) (n + 2) (by omega) (hg 0) (by omega)
    rw [c30] at e1
    cases k1 : partAt t 30 0 with
    | bad e =>
      obtain ⟨j, e1, hj⟩ := PR.res_bad e1 k1
      rw [hset] at e1
      refine ⟨st ++ [rdO t j], ?_, he j⟩
      simp -implicitDefEqProofs [f6, startE, e0, g0, hb, callsAt_mak, runM_succ, m1, g1, e1, -decide_eq_false_iff_not]
    | ok p j =>
      obtain ⟨e1, hj⟩ := PR.res_ok e1 k1
      rw [hset] at e1
      simp only [PR.bind_ok]
      have e2 := run12 H (n + 1) hl hj (hg j)
      rw [hset] at e2
      have e3 := len_str t (st ++ [rdO t (skip t j)]) hl
      by_cases hlt : skip t j < t.length
      · rw [if_pos hlt]
        have hd : decide (skip t j < t.length) = true := decide_eq_true hlt
        refine ⟨st ++ [rdO t (skip t j)], ?_, he _⟩
        simp -implicitDefEqProofs [f6, startE, e0, g0, hb, callsAt_mak, runM_succ, m1, g1, e1, rd_ins (hg j), e2, rd_at (hg (skip t j)), e3, hd, excFields, -decide_eq_false_iff_not, -decide_eq_true_eq]
      · rw [if_neg hlt]
        have hd : decide (skip t j < t.length) = false := decide_eq_false hlt
        refine ⟨st ++ [rdO t (skip t j)], ?_, he _⟩
        simp -implicitDefEqProofs [f6, startE, e0, g0, hb, callsAt_mak, runM_succ, m1, g1, e1, rd_ins (hg j), e2, rd_at (hg (skip t j)), e3, hd, -decide_eq_false_iff_not]
end
end Pl
end
section
set_option Elab.async false
set_option linter.all false
set_option maxRecDepth 100000
/-! a refusal of one class alone -/
namespace Iv
def kXa (o : Option Exc) (k : Exc → Res D) : Res D := match o with
  | some x => k x
  | none => .bad
@[simp] theorem kXa_some (x : Exc) (k : Exc → Res D) : kXa (some x) k = k x := rfl
@[simp] theorem getX_0 (x : Exc) (env : Env) : getX (.exc x :: env) 0 = some x := rfl
@[simp] theorem getX_S (s : Slot) (env : Env) (i : Nat) : getX (s :: env) (i + 1) = getX env i := by simp [getX]
@[simp] theorem eva_hcall (cs : Calls) (env : Env) (f i : Nat) (st : Store) : evalE cs (.hcall f i) env st = kXa (getX env i) fun x => noexn (cs.hot f x st) := by rw [evalE]; rfl
@[simp] theorem eva_isExc (cs : Calls) (env : Env) (i c : Nat) (st : Store) : evalE cs (.isExc i c) env st = kXa (getX env i) fun x => .ok (.bl (isSub x.c c)) st := by rw [evalE]; rfl
@[simp] theorem eva_excFld (cs : Calls) (env : Env) (i f : Nat) (st : Store) : evalE cs (.excFld i f) env st = kXa (getX env i) fun x => Res.opt (x.fs.lookup f) st := by rw [evalE]; rfl
@[simp] theorem calls_hot (ds : Nat → Option Def) (n : Nat) : (callsAt ds n).hot = runHot ds := rfl
end Iv
namespace Pl
open Iv
theorem hot9 {ds : Nat → Option Def} (h9 : ds 9 = some f9) (x : Exc) (h : 1 ≤ x.c ∧ x.c ≤ 8) (st : Store) : runHot ds 9 x st = .ok (.bl true) st := by
  obtain ⟨c, fs⟩ := x
  have ap := fun a b c d e f g h => opAdd_lst st [D.bl a, D.bl b, D.bl c, D.bl d] [D.bl e, D.bl f, D.bl g, D.bl h] (by simp [line])
  have ct : ∀ l : List Bool, opCount (.lst (l.map .bl)) (.bl true) st = .ok (.int (l.count true : Nat)) st := by
    intro l
    have e : blsOf (l.map D.bl) = some l := by
      induction l with
      | nil => rfl
      | cons a l ih => simp only [List.map_cons, blsOf, ih, Option.map_some]
    simp only [opCount, asL, Option.bind_some, e]
  have ct8 := fun a b c d e f g h => ct [a, b, c, d, e, f, g, h]
  simp only [List.map_cons, List.map_nil] at ct8
  have : c = 1 ∨ c = 2 ∨ c = 3 ∨ c = 4 ∨ c = 5 ∨ c = 6 ∨ c = 7 ∨ c = 8 := by simp only at h; omega
  simp only [runHot, h9]
  rcases this with rfl | rfl | rfl | rfl | rfl | rfl | rfl | rfl <;>
    simp -implicitDefEqProofs [f9, startE, isSub, okLst, ap, ct8, recvOk, asL, opB2]
end Pl
end
section
set_option Elab.async false
set_option linter.all false
set_option maxRecDepth 100000
/-! refusals apart -/
namespace Pl
open Iv
structure HasK10 (ds : Nat → Option Def) : Prop extends HasDraw ds where
  rd : HasRead ds
  h9 : ds 9 = some f9
  h10 : ds 10 = some f10
  h191 : ds 191 = some f191
  h192 : ds 192 = some f192
theorem opMod_p (i j : Int) (st : Store) (h : 0 < j) : opMod (.int i) (.int j) st = .ok (.int (i % j)) st := opMod_int st i j h
def alpha : List Nat := [97, 98, 99, 32, 45, 39, 120]
theorem idx_alpha (m : Int) (st : Store) : ∃ c, opIdx (.str alpha) (.int (m % 7)) st = .ok (.str [c]) st := by
  obtain ⟨j, hj⟩ : ∃ j : Nat, m % 7 = j := ⟨(m % 7).toNat, by omega⟩
  have h7 : j < 7 := by omega
  rw [hj]
  have : j = 0 ∨ j = 1 ∨ j = 2 ∨ j = 3 ∨ j = 4 ∨ j = 5 ∨ j = 6 := by omega
  rcases this with rfl | rfl | rfl | rfl | rfl | rfl | rfl <;> exact ⟨_, rfl⟩
theorem strsOf_map (W : List (List Nat)) : strsOf (W.map D.str) = some W := by
  induction W with
  | nil => rfl
  | cons a W ih => simp only [List.map_cons, strsOf, ih, Option.map_some]
theorem joinS_nil_len : ∀ W : List (List Nat), (joinS [] W).length = (W.map List.length).sum
  | [] => rfl
  | [x] => by simp [joinS]
  | x :: y :: r => by
    have := joinS_nil_len (y :: r)
    simp only [joinS, List.length_append, List.map_cons, List.sum_cons, List.length_nil] at this ⊢
    omega
theorem opIsV_at {st : Store} {m k : Nat} {t : List Nat} {fs : List (Nat × D)} (h : st[m]? = some (.exc k t fs)) (c : Nat) : opIsV (.ref m) c st = .ok (.bl (isSub k c)) st := by simp only [opIsV, h]
theorem opStr_at {st : Store} {m k : Nat} {t : List Nat} {fs : List (Nat × D)} (h : st[m]? = some (.exc k t fs)) : opStr (.ref m) st = .ok (.str t) st := by simp only [opStr, h]
theorem readP_bad {t : List Nat} {j : Nat} (hl : t.length ≤ 2000) (hs : skip t 0 = j) (h1 : t[j]? ≠ some 40) (h2 : word t j = []) : readP t = .bad j := by
  have h3 : leafOf [] = none := by decide
  have e : partAt t 30 0 = .bad j := by
    show partAt t (29 + 1) 0 = _
    rw [partAt, if_neg (by rw [hs]; exact h1), hs, leafAt, h2, h3]
  unfold readP
  rw [if_neg (by omega), e]
  rfl
theorem read_a (j : Nat) (hj : j ≤ 6) (w : List Nat) (hw : w.length ≤ 8) : readP (List.replicate j 32 ++ (41 :: w)) = .bad j := by
  have h1 : (List.replicate j 32 ++ (41 :: w))[j]? = some 41 := by
    rw [List.getElem?_append_right (by simp)]; simp
  have h2 : (List.replicate j 32 ++ (41 :: w)).drop j = 41 :: w := by
    rw [List.drop_append_of_le_length (by simp)]; simp
  refine readP_bad (by simp; omega) ?_ (by rw [h1]; decide) (by simp [word, h2, runc, letter, figure])
  have : j = 0 ∨ j = 1 ∨ j = 2 ∨ j = 3 ∨ j = 4 ∨ j = 5 ∨ j = 6 := by omega
  rcases this with rfl | rfl | rfl | rfl | rfl | rfl | rfl <;> simp [skip, white, List.replicate]
theorem read_b (j : Nat) (hj : j ≤ 6) : readP (List.replicate j 10) = .bad j := by
  have : j = 0 ∨ j = 1 ∨ j = 2 ∨ j = 3 ∨ j = 4 ∨ j = 5 ∨ j = 6 := by omega
  rcases this with rfl | rfl | rfl | rfl | rfl | rfl | rfl <;> exact readP_bad (by decide) (by decide) (by decide) (by decide)
section
variable {ds : Nat → Option Def} (H : HasK10 ds)
include H
theorem run192 (n : Nat) {st : Store} {m k : Nat} {t : List Nat} {fs : List (Nat × D)} (h : st[m]? = some (.exc k t fs)) (hk : 1 ≤ k ∧ k ≤ 8) : run ds (n + 1) 192 [.ref m] st = .ok (.bl true) st := by
  rw [run_def H.h192 _ _ _ rfl rfl]
  have iv := opIsV_at h
  have ap := fun a b c d e f g h => opAdd_lst st [D.bl a, D.bl b, D.bl c, D.bl d] [D.bl e, D.bl f, D.bl g, D.bl h] (by simp [line])
  have ct : ∀ l : List Bool, opCount (.lst (l.map .bl)) (.bl true) st = .ok (.int (l.count true : Nat)) st := by
    intro l
    have e : blsOf (l.map D.bl) = some l := by
      induction l with
      | nil => rfl
      | cons a l ih => simp only [List.map_cons, blsOf, ih, Option.map_some]
    simp only [opCount, asL, Option.bind_some, e]
  have ct8 := fun a b c d e f g h => ct [a, b, c, d, e, f, g, h]
  simp only [List.map_cons, List.map_nil] at ct8
  have : k = 1 ∨ k = 2 ∨ k = 3 ∨ k = 4 ∨ k = 5 ∨ k = 6 ∨ k = 7 ∨ k = 8 := by omega
  rcases this with rfl | rfl | rfl | rfl | rfl | rfl | rfl | rfl <;>
    simp -implicitDefEqProofs [f192, startE, iv, isSub, okLst, ap, ct8, recvOk, asL, opB2]
theorem run10 (n : Nat) (hn : 60 ≤ n) {t : List Nat} (hl : t.length < 50000) {e : Nat} (k : readP t = .bad e) (st : Store) : ∃ st', run ds n 10 [.str t] st = .ok (.int e) st' ∧ Ext st st' := by
  obtain ⟨n, rfl⟩ : ∃ x, n = x + 1 := ⟨n - 1, by omega⟩
  rw [run_def H.h10 _ _ _ rfl rfl]
  have r6 := run6 H.rd (t := t) (by omega) n (by omega) st
  rw [k] at r6
  obtain ⟨st', r6, x⟩ := r6
  refine ⟨st', ?_, x⟩
  have h9 := hot9 H.h9 ⟨1, [(0, .int e)]⟩ (by simp) st'
  simp -implicitDefEqProofs [f10, startE, r6, okLst, pickH, isSub, h9, noX, noexn, List.lookup]
theorem words10 (n : Nat) (ns : List Int) (hl : ns.length ≤ 63) (m : Int) (hm : 0 ≤ m ∧ m < 9) (z1 z2 z3 z4 z5 z6 : Slot) (st : Store) : ∃ W : List (List Nat), W.length ≤ 8 ∧ (∀ x ∈ W, x.length = 1) ∧
    kComp (Iv.callsAt ds (n + 1)) [.val (.scr ns), z1, z2, z3, z4, z5, z6] (.idx (.str [97, 98, 99, 32, 45, 39, 120]) (.bin .mod (.call 8 [.call 7 [.var 0, .var 6], .var 6]) (.int 7))) [6] .rng1 [] [.int m] st = .ok (.lst (W.map .str)) st := by
  have hs : smallI m = true := by simp [smallI]; omega
  have ch : ∀ i : Nat, ∃ c, ∀ st, opIdx (.str alpha) (.int (drawnv (cellv ns i) i % 7)) st = .ok (.str [c]) st := fun i => by
    obtain ⟨c, hc⟩ := idx_alpha (drawnv (cellv ns i) i) []
    refine ⟨c, fun st => ?_⟩
    have e : ∀ st1 st2 : Store, ∀ c : Nat, opIdx (.str alpha) (.int (drawnv (cellv ns i) i % 7)) st1 = .ok (.str [c]) st1 → opIdx (.str alpha) (.int (drawnv (cellv ns i) i % 7)) st2 = .ok (.str [c]) st2 := by
      intro s1 s2 c h
      simp only [opIdx] at h ⊢
      split at h
      · rename_i c' hc'
        split at h
        · cases h; rfl
        · cases h
      · cases h
    exact e [] st c hc
  obtain ⟨g, hg⟩ : ∃ g : Nat → Nat, ∀ (i : Nat) (st : Store), opIdx (.str alpha) (.int (drawnv (cellv ns i) i % 7)) st = .ok (.str [g i]) st := ⟨fun i => Classical.choose (ch i), fun i => Classical.choose_spec (ch i)⟩
  refine ⟨(List.range m.toNat).map fun i => [g i], by simp; omega, fun x hx => ?_, ?_⟩
  · obtain ⟨i, _, rfl⟩ := List.mem_map.mp hx
    rfl
  · rw [kComp_items _ _ _ _ _ _ [.int m] _ st (mkSrc_r1 m hs) (by simp [LF]; omega), compD_pure [6] _ _ _ (fun i : Nat => D.int (i : Int)) (fun _ => true) (fun i => .str [g i]) (List.range m.toNat) st []]
    · rw [List.filter_eq_self.mpr (by simp)]; simp [noexn, Function.comp_def]
    · intro i hi
      refine ⟨_, rfl, ?_, fun _ => ?_⟩
      · simp -implicitDefEqProofs
      · have c1 := run7 H.toHasDraw n ns i st (by omega)
        have c2 := run8 H.toHasDraw n (cellv ns i) i st
        have c3 := hg i st
        unfold alpha at c3
        simp -implicitDefEqProofs [c1, c2, opMod_p, c3]
    · simp [line]; omega
theorem law10 (ns : List Int) (hl : ns.length ≤ 63) : ∃ st', run ds 688 191 [.scr ns] [] = .ok (.bl true) st' := by
  rw [run_def H.h191 _ _ _ rfl rfl]
  have c0 := fun st => run7 H.toHasDraw 686 ns 0 st (by omega)
  have c1 := fun st => run7 H.toHasDraw 686 ns 1 st (by omega)
  have c2 := fun st => run7 H.toHasDraw 686 ns 2 st (by omega)
  obtain ⟨a, ha⟩ : ∃ a : Int, a = cellv ns 0 := ⟨_, rfl⟩
  obtain ⟨b, hb⟩ : ∃ a : Int, a = cellv ns 1 := ⟨_, rfl⟩
  obtain ⟨c, hc⟩ : ∃ a : Int, a = cellv ns 2 := ⟨_, rfl⟩
  rw [← ha] at c0
  rw [← hb] at c1
  rw [← hc] at c2
  obtain ⟨W, w1, w2, w3⟩ := words10 H 686 ns hl (a % 9) (by omega) .none .none .none .none .none .none []
  obtain ⟨w, hw⟩ : ∃ w, w = joinS [] W := ⟨_, rfl⟩
  have hsum : (W.map List.length).sum = W.length := by
    have : ∀ V : List (List Nat), (∀ x ∈ V, x.length = 1) → (V.map List.length).sum = V.length := by
      intro V
      induction V with
      | nil => intro _; rfl
      | cons x V ih => intro h; simp only [List.map_cons, List.sum_cons, List.length_cons, h x (by simp), ih fun y hy => h y (by simp [hy])]; omega
    exact this W w2
  have hwl : w.length ≤ 8 := by rw [hw, joinS_nil_len, hsum]; exact w1
  have hj : ∀ st, opB2 .join (.str []) (.lst (W.map .str)) st = .ok (.str w) st := by
    intro st
    have : opB2 .join (.str []) (.lst (W.map .str)) st = opJoin (.str []) (.lst (W.map .str)) st := rfl
    rw [this]
    simp only [opJoin, asL, Option.bind_some, strsOf_map]
    rw [if_pos (by rw [hsum]; simp [line]; omega), hw]
  obtain ⟨j, hjj⟩ : ∃ j : Nat, c % 7 = j := ⟨(c % 7).toNat, by omega⟩
  have hj6 : j ≤ 6 := by omega
  obtain ⟨S8, hS⟩ : ∃ S : Store, S = [.exc 1 w [(0, .int 0)], .exc 2 w [(1, .str [])], .exc 3 w [], .exc 4 w [], .exc 5 w [], .exc 6 w [], .exc 7 w [], .exc 8 w []] := ⟨_, rfl⟩
  obtain ⟨pb, hpb⟩ : ∃ a : Int, a = b % 50 := ⟨_, rfl⟩
  -- the loop
  have L : ∀ z3 : Slot, ∃ z3', forD [3] (execL (Iv.callsAt ds 687) f191_1_0) [.ref 0, .ref 1, .ref 2, .ref 3, .ref 4, .ref 5, .ref 6, .ref 7] [.val (.scr ns), .val (.str w), .val (.lst [.ref 0, .ref 1, .ref 2, .ref 3, .ref 4, .ref 5]), z3, .none, .none, .none] S8 =
      .nx [.val (.scr ns), .val (.str w), .val (.lst [.ref 0, .ref 1, .ref 2, .ref 3, .ref 4, .ref 5]), z3', .none, .none, .none] S8 := by
    intro z3
    have one : ∀ (m k : Nat) (t : List Nat) (fs : List (Nat × D)), S8[m]? = some (.exc k t fs) → 1 ≤ k ∧ k ≤ 8 → t = w → execL (Iv.callsAt ds 687) f191_1_0 [.val (.scr ns), .val (.str w), .val (.lst [.ref 0, .ref 1, .ref 2, .ref 3, .ref 4, .ref 5]), .val (.ref m), .none, .none, .none] S8 =
        .nx [.val (.scr ns), .val (.str w), .val (.lst [.ref 0, .ref 1, .ref 2, .ref 3, .ref 4, .ref 5]), .val (.ref m), .none, .none, .none] S8 := by
      intro m k t fs h hk ht
      subst ht
      have e1 := run192 H 686 h hk
      have e2 := opStr_at h
      simp -implicitDefEqProofs [e1, e2]
    have o0 := one 0 1 w _ (by rw [hS]; rfl) (by omega) rfl
    have o1 := one 1 2 w _ (by rw [hS]; rfl) (by omega) rfl
    have o2 := one 2 3 w _ (by rw [hS]; rfl) (by omega) rfl
    have o3 := one 3 4 w _ (by rw [hS]; rfl) (by omega) rfl
    have o4 := one 4 5 w _ (by rw [hS]; rfl) (by omega) rfl
    have o5 := one 5 6 w _ (by rw [hS]; rfl) (by omega) rfl
    have o6 := one 6 7 w _ (by rw [hS]; rfl) (by omega) rfl
    have o7 := one 7 8 w _ (by rw [hS]; rfl) (by omega) rfl
    exact ⟨_, by simp -implicitDefEqProofs [o0, o1, o2, o3, o4, o5, o6, o7, -f191_1_0_e]; rfl⟩
  -- behind the loop
  have rest : ∀ z3 : Slot, ∃ st', execL (Iv.callsAt ds 687) f191_4_3 [.val (.scr ns), .val (.str w), .val (.lst [.ref 0, .ref 1, .ref 2, .ref 3, .ref 4, .ref 5]), z3, .none, .none, .none] S8 = .rt (.bl true) st' := by
    intro z3
    obtain ⟨S9, h9⟩ : ∃ S, S = S8 ++ [.exc 1 w [(0, .int pb)]] := ⟨_, rfl⟩
    obtain ⟨S10, h10⟩ : ∃ S, S = S9 ++ [.exc 2 w [(1, .str w)]] := ⟨_, rfl⟩
    obtain ⟨S11, h11⟩ : ∃ S, S = S10 ++ [.exc 2 w [(1, .str wd_a)]] := ⟨_, rfl⟩
    have f0 : opFld (.ref 0) 0 S8 = .ok (.int 0) S8 := by rw [hS]; rfl
    have f1 : opFld (.ref 1) 1 S8 = .ok (.str []) S8 := by rw [hS]; rfl
    have m9 : mkX 1 [.str w, .int pb] S8 = .ok (.ref 8) S9 := by rw [h9, hS]; rfl
    have f9 : opFld (.ref 8) 0 S9 = .ok (.int pb) S9 := by rw [h9, hS]; rfl
    have m10 : mkX 2 [.str w, .str w] S9 = .ok (.ref 9) S10 := by rw [h10, h9, hS]; rfl
    have f10 : opFld (.ref 9) 1 S10 = .ok (.str w) S10 := by rw [h10, h9, hS]; rfl
    have m11 : mkX 2 [.str w, .str wd_a] S10 = .ok (.ref 10) S11 := by rw [h11, h10, h9, hS]; rfl
    have f11 : opStr (.ref 10) S11 = .ok (.str w) S11 := by rw [h11, h10, h9, hS]; rfl
    have r1 : ∀ st, opMul (.str [32]) (.int (j : Int)) st = .ok (.str (List.replicate j 32)) st := by
      intro st
      have : j = 0 ∨ j = 1 ∨ j = 2 ∨ j = 3 ∨ j = 4 ∨ j = 5 ∨ j = 6 := by omega
      rcases this with rfl | rfl | rfl | rfl | rfl | rfl | rfl <;> rfl
    have r2 : ∀ st, opMul (.str [10]) (.int (j : Int)) st = .ok (.str (List.replicate j 10)) st := by
      intro st
      have : j = 0 ∨ j = 1 ∨ j = 2 ∨ j = 3 ∨ j = 4 ∨ j = 5 ∨ j = 6 := by omega
      rcases this with rfl | rfl | rfl | rfl | rfl | rfl | rfl <;> rfl
    have r3 : ∀ st, opAdd (.str (List.replicate j 32)) (.str [41]) st = .ok (.str (List.replicate j 32 ++ [41])) st := fun st => opAdd_str _ _ _ (by simp [line]; omega)
    have r4 : ∀ st, opAdd (.str (List.replicate j 32 ++ [41])) (.str w) st = .ok (.str (List.replicate j 32 ++ (41 :: w))) st := fun st => by
      rw [opAdd_str _ _ _ (by simp [line]; omega)]; simp
    obtain ⟨S12, p1, _⟩ := run10 H 687 (by omega) (t := List.replicate j 32 ++ (41 :: w)) (by simp; omega) (read_a j hj6 w hwl) S11
    obtain ⟨S13, p2, _⟩ := run10 H 687 (by omega) (t := List.replicate j 10) (by simp; omega) (read_b j hj6) S12
    obtain ⟨T1, hT1⟩ : ∃ T, T = List.replicate j 32 ++ (41 :: w) := ⟨_, rfl⟩
    obtain ⟨T2, hT2⟩ : ∃ T, T = List.replicate j 10 := ⟨_, rfl⟩
    obtain ⟨T3, hT3⟩ : ∃ T, T = List.replicate j 32 := ⟨_, rfl⟩
    rw [← hT1] at r4 p1
    rw [← hT2] at r2 p2
    rw [← hT3] at r1 r3 r4
    refine ⟨S13, ?_⟩
    simp -implicitDefEqProofs [atI, ixN, f0, f1, c1, opMod_p, ← hpb, m9, f9, m10, f10, m11, f11, c2, hjj, r1, r3, r4, p1, r2, p2]
  obtain ⟨z3', L⟩ := L .none
  obtain ⟨st', R⟩ := rest z3'
  refine ⟨st', ?_⟩
  have g1 : mkX 1 [.str w] [] = .ok (.ref 0) [.exc 1 w [(0, .int 0)]] := rfl
  have g2 : mkX 2 [.str w] [.exc 1 w [(0, .int 0)]] = .ok (.ref 1) [.exc 1 w [(0, .int 0)], .exc 2 w [(1, .str [])]] := rfl
  have g3 : mkX 3 [.str w] [.exc 1 w [(0, .int 0)], .exc 2 w [(1, .str [])]] = .ok (.ref 2) [.exc 1 w [(0, .int 0)], .exc 2 w [(1, .str [])], .exc 3 w []] := rfl
  have g4 : mkX 4 [.str w] [.exc 1 w [(0, .int 0)], .exc 2 w [(1, .str [])], .exc 3 w []] = .ok (.ref 3) [.exc 1 w [(0, .int 0)], .exc 2 w [(1, .str [])], .exc 3 w [], .exc 4 w []] := rfl
  have g5 : mkX 5 [.str w] [.exc 1 w [(0, .int 0)], .exc 2 w [(1, .str [])], .exc 3 w [], .exc 4 w []] = .ok (.ref 4) [.exc 1 w [(0, .int 0)], .exc 2 w [(1, .str [])], .exc 3 w [], .exc 4 w [], .exc 5 w []] := rfl
  have g6 : mkX 6 [.str w] [.exc 1 w [(0, .int 0)], .exc 2 w [(1, .str [])], .exc 3 w [], .exc 4 w [], .exc 5 w []] = .ok (.ref 5) [.exc 1 w [(0, .int 0)], .exc 2 w [(1, .str [])], .exc 3 w [], .exc 4 w [], .exc 5 w [], .exc 6 w []] := rfl
  have g7 : mkX 7 [.str w] [.exc 1 w [(0, .int 0)], .exc 2 w [(1, .str [])], .exc 3 w [], .exc 4 w [], .exc 5 w [], .exc 6 w []] = .ok (.ref 6) [.exc 1 w [(0, .int 0)], .exc 2 w [(1, .str [])], .exc 3 w [], .exc 4 w [], .exc 5 w [], .exc 6 w [], .exc 7 w []] := rfl
  have g8 : mkX 8 [.str w] [.exc 1 w [(0, .int 0)], .exc 2 w [(1, .str [])], .exc 3 w [], .exc 4 w [], .exc 5 w [], .exc 6 w [], .exc 7 w []] = .ok (.ref 7) S8 := by rw [hS]; rfl
  have ad : ∀ st, opAdd (.lst [.ref 0, .ref 1, .ref 2, .ref 3, .ref 4, .ref 5]) (.lst [.ref 6, .ref 7]) st = .ok (.lst [.ref 0, .ref 1, .ref 2, .ref 3, .ref 4, .ref 5, .ref 6, .ref 7]) st := fun st => opAdd_lst st _ _ (by simp [line])
  simp -implicitDefEqProofs [f191, startE, recvOk, c0, opMod_p, w3, hj, g1, g2, g3, g4, g5, g6, okLst, -f191_4_2_e]
  rw [f191_4_2_e]
  simp -implicitDefEqProofs [g7, g8, okLst, ad, -f191_4_3_e]
  rw [oFor_items _ _ _ _ _ _ _ _ (mkSrc_seq_lst _) (by simp [LF]), L]
  simp only [Out.andThen_nx]
  rw [R]
  rfl
end
end Pl
end
theorem IvLaw.has10 : Pl.HasK10 (Iv.defsOf IvLaw.tab) :=
  { h7 := rfl, h8 := rfl
    rd := { h0 := rfl, h1 := rfl, h2 := rfl, h3 := rfl, h4 := rfl, h5 := rfl, h6 := rfl, h11 := rfl, h12 := rfl, h13 := rfl, h14 := rfl, h15 := rfl, h16 := rfl }
    h9 := rfl, h10 := rfl, h191 := rfl, h192 := rfl }
theorem PySem.Challenge.cw_plainspeak_k10_refusals_apart_holds : PySem.Challenge.rw_plainspeak_k10_refusals_apart.Holds :=
  the_end (Pl.law10 IvLaw.has10)
