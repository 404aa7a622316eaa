import PyProof.Rows.All
import PySem.Syntax
import KE.SortKeyed
import KE.LtData
import HandS.ForMost
import HandS.Exc
import HandS.ExcOwn
import HandS.TryOnly
import HandS.CallSlots
import HandS.Defaults
import HandS.Walk
import HandS.Zip
import HandS.Wide
import HandS.TupAny
import HandS.TupMul
import HandS.Codes
import HandS.Style
import HandS.IsInst
import KE.DataFind
import KE.DataMinMax
import KE.SortData
import KE.KIndexOf
import HandS.Deep
import HandS.Replace
import HandS.Small
import HandS.Iter
import HandS.Rev
import KE.GoesEnum
import KE.GoesZip
import HandS.DictComp
import HandS.Conv
import PyProof.ListRange
import HandS.Set
import HandS.SetFor
import PyProof.SetRoads
import HandS.HotCalls
import HandS.ExcIs
import HandS.Head0
import HandS.Head1
import HandS.Head2
import HandS.HeadEnd
import HandS.HeadHook1
import HandS.HeadHook2
import PyProof.ExcBaseAll.ValueError
import PySem.Challenge.RW_bitmend_k08_polys_refused
set_option Elab.async false
set_option linter.all false
set_option maxRecDepth 100000
namespace Z
open PySem (Operator CmpOp)

abbrev LINE : Nat := 16777216
/-- a dict's key -/
inductive DK where
  | ki (k : Int) | ks (x : List Nat)
  deriving DecidableEq, Repr
/-- data; obj n: the n-th thing of the store -/
inductive D where
  | non | bl (b : Bool) | int (i : Int) | str (s : List Nat) | tup (xs : List D) | lst (xs : List D) | dic (kvs : List (DK × D)) | obj (n : Nat) | exc (c : String) | scr (xs : List Int)
  deriving Repr, Inhabited
/-- what a name, or a thing on the way, is: nothing yet; data that never changes again; a list or dict that it alone holds; the same as slot i -/
inductive Ent where
  | un | val (d : D) | own (d : D) | al (i : Nat)
  deriving Repr, Inhabited
inductive Cell where
  | ins (c : String) (fs : List (String × D)) | lst (xs : List D) | dic (kvs : List (DK × D))
  deriving Repr, Inhabited
abbrev Store := List Cell
structure St where
  env : List Ent
  sto : Store
  deriving Repr, Inhabited
inductive R (α : Type) where
  | ok (a : α) (s : St) | exc (c : String) (s : St) | stk
  deriving Repr
def R.bind {α β : Type} (x : R α) (f : α → St → R β) : R β :=
  match x with
  | .ok a s => f a s
  | .exc c s => .exc c s
  | .stk => .stk
/-- a call's end -/
inductive RC where
  | ok (d : D) (S : Store) | exc (c : String) (S : Store) | stk
  deriving Repr
/-- a statement's end -/
inductive Fl where
  | nx (s : St) | rt (d : D) (S : Store) | bk (s : St) | ct (s : St) | exc (c : String) (s : St) | stk
  deriving Repr

mutual
def D.eqv : D → D → Bool
  | .non, .non => true
  | .bl a, .bl b => a == b
  | .bl a, .int j => (if a then 1 else 0) == j
  | .int i, .bl b => i == (if b then 1 else 0)
  | .int i, .int j => i == j
  | .str x, .str y => x == y
  | .lst xs, .lst ys => D.eqvs xs ys
  | .tup xs, .tup ys => D.eqvs xs ys
  | _, _ => false
def D.eqvs : List D → List D → Bool
  | [], [] => true
  | x :: xs, y :: ys => D.eqv x y && D.eqvs xs ys
  | _, _ => false
end
mutual
/-- data that == knows here: no dicts, no things; not too deep -/
def D.plain : Nat → D → Bool
  | _, .non => true
  | _, .bl _ => true
  | _, .int _ => true
  | _, .str x => x.all fun c => decide (c < 1114112)
  | 0, _ => false
  | n + 1, .lst xs => D.plains n xs
  | n + 1, .tup xs => D.plains n xs
  | _, _ => false
def D.plains : Nat → List D → Bool
  | _, [] => true
  | n, x :: xs => D.plain n x && D.plains n xs
end

/-! ### the language -/
mutual
inductive E where
  | var (i : Nat) | cst (d : D) | glb (x : String)
  | bin (op : Operator) (a b : E) | neg (a : E) | nt (a : E) | cmp (op : CmpOp) (a b : E) | chain (op1 op2 : CmpOp) (a b c : E)
  | and (es : Es) | or (es : Es) | ife (c a b : E)
  | tup (es : Es) | lst (es : Es) | dsp (ks vs : Es)
  | idx (a b : E) | slc (a : E) (lo hi : Eo) | rev (a : E)
  | call (f : String) (es : Es) (kw : List String) (ks : Es) (dfl : List D)
  | mk (c : String) (es : Es) (kw : List String) (ks : Es) (dfl : List D)
  | meth (o : E) (c m : String) (es : Es) (kw : List String) (ks : Es) (dfl : List D)
  | bi (f : String) (es : Es) | bm (o : E) (t m : String) (es : Es)
  | isi (a : E) (t : String)
  | mut (o : E) (t m : String) (es : Es)
  | fld (o : E) (f : String)
  | comp (el : E) (tg : List Nat) (it : It) (ifs : Es) (own : List Nat)
  | brg1 (f : String) (a : E) | brg2 (f : String) (a b : E)
  | bst (f : String) (a : E)
  | dcomp (k v : E) (tg : List Nat) (it : It) (ifs : Es) (own : List Nat)
  | sel (fs : List String) (i : E) (es : Es)
  | lenO (o : E) (c : String)
inductive Es where
  | nil | cons (e : E) (es : Es)
inductive Eo where
  | no | so (e : E)
inductive It where
  | seq (e : E) | rng (es : Es) | enu (e : E) | zip (a b : E) | rev (e : E)
end
/-- a target -/
inductive Tg where
  | nm (i : Nat) | sub (o k : E) | fld (o : E) (f : String)
mutual
inductive S where
  | set (i : Nat) (e : E) | setc (i : Nat) (e : E) | sett (is : List Tg) (e : E) | par (is : List Nat) (es : Es)
  | setf (o : E) (f : String) (e : E) | setfc (o : E) (f : String) (e : E) | seti (o k e : E)
  | aug (i : Nat) (op : Operator) (e : E) | augf (o : E) (f : String) (op : Operator) (e : E) | augi (o k : E) (op : Operator) (e : E)
  | ex (e : E) | ret (e : E) | retn | ifs (c : E) (a b : Ss) | for (tg : List Nat) (it : It) (b : Ss) (msk : List Nat) | whl (c : E) (b : Ss) (msk : List Nat)
  | brk | cnt | pas | rais (c : String) | tryx (b : Ss) (c : String) (n : Option Nat) (h : Ss)
  | nope | tryw (b : Ss) (c : String) (n : Nat) (f : String)
inductive Ss where
  | nil | cons (s : S) (ss : Ss)
end
/-- what stands around: the defs (a class's name or "", a name) and the module's constants -/
structure Gam where
  cf : String → String → List D → Store → RC
  gc : String → Option D
  /-- isinstance by the names of types: what a thing's type and the other one give -/
  sub : String → String → Option Bool
  /-- whether an exception's class is caught by another -/
  exm : String → String → Option Bool
  /-- whether instances of a class may have a field of this name -/
  fld : String → String → Bool
  /-- what a def hands back that is asked about an exception of a class, while it is handled -/
  wh : String → String → Option (List Nat × Int)

/-! ### names and things on the way -/
/-- the data that a thing stands for -/
def res (s : St) : Ent → Option D
  | .un => none
  | .val d => some d
  | .own d => some d
  | .al i => match s.env[i]? with
    | some (.own d) => some d
    | _ => none
def resL (s : St) : List Ent → Option (List D)
  | [] => some []
  | e :: es => match res s e with
    | some d => (resL s es).map (d :: ·)
    | none => none
/-- let go of holding alone -/
def frz : Ent → Option D
  | .val d => some d
  | .own d => some d
  | _ => none
def frzL : List Ent → Option (List D)
  | [] => some []
  | e :: es => match frz e with
    | some d => (frzL es).map (d :: ·)
    | none => none
def put (s : St) (i : Nat) (e : Ent) : St := { s with env := s.env.set i e }
def unset (env : List Ent) : List Nat → List Ent
  | [] => env
  | i :: is => (unset env is).set i .un
/-- the entries at is as they were in env0 -/
def back (env0 : List Ent) (env : List Ent) : List Nat → List Ent
  | [] => env
  | i :: is => (back env0 env is).set i (env0.getD i .un)
def rd (s : St) (bw : Bool) (i : Nat) : R Ent :=
  match s.env[i]? with
  | some (.val d) => .ok (.val d) s
  | some (.own d) => if bw then .ok (.al i) s else .ok (.val d) (put s i (.val d))
  | _ => .stk
def O (x : Option Ent) (s : St) : R Ent :=
  match x with
  | some e => .ok e s
  | none => .stk
def toBe (r : Ent) (s : St) : R Bool :=
  match r with
  | .val (.bl b) => .ok b s
  | _ => .stk

def opt {α β : Type} (x : Option α) (f : α → R β) : R β :=
  match x with
  | some a => f a
  | none => .stk

/-! ### operators -/
def mulOk (i j : Int) : Bool := Nat.blt i.natAbs 18446744073709551616 || Nat.blt j.natAbs 18446744073709551616 || (Nat.blt i.natAbs (2 ^ 400) && Nat.blt j.natAbs (2 ^ 400))
/-- not below nought -/
def nn : Int → Bool
  | .ofNat _ => true
  | .negSucc _ => false
theorem nn_iff {i : Int} : nn i = true ↔ 0 ≤ i := by
  cases i <;> simp [nn]
theorem abs_lt {i : Int} {n : Nat} (h : Nat.blt i.natAbs n = true) : -(n : Int) < i ∧ i < n := by
  have h2 : i.natAbs < n := by simp [Nat.blt, Nat.ble_eq] at h; omega
  omega
theorem fd_ok {j : Int} (h : j ≠ 0 ∧ Nat.blt j.natAbs 1073741824 = true) : j ≠ 0 ∧ j.natAbs < 1073741824 := ⟨h.1, by have := h.2; simp [Nat.blt, Nat.ble_eq] at this; omega⟩
theorem sh_ok {i j : Int} (h : nn j = true ∧ Nat.ble j.natAbs 1000000 = true ∧ Nat.blt i.natAbs 18446744073709551616 = true) : 0 ≤ j ∧ j ≤ 1000000 ∧ i.natAbs < 2 ^ 64 := by
  have h1 := nn_iff.mp h.1
  have h2 := Nat.le_of_ble_eq_true h.2.1
  have h3 := h.2.2
  simp [Nat.blt, Nat.ble_eq] at h3
  exact ⟨h1, by omega, by omega⟩
theorem blt_iff {a b : Nat} : Nat.blt a b = true ↔ a < b := by simp [Nat.blt, Nat.ble_eq]; omega
def rept {α : Type} (xs : List α) (n : Nat) : List α := (List.replicate n xs).flatten
def binD (op : Operator) (x y : D) : Option Ent :=
  match op, x, y with
  | .Add, .int i, .int j => some (.val (.int (i + j)))
  | .Sub, .int i, .int j => some (.val (.int (i - j)))
  | .Mult, .int i, .int j => if mulOk i j then some (.val (.int (i * j))) else none
  | .Mod, .int i, .int j => if j = 0 then none else some (.val (.int (i.fmod j)))
  | .FloorDiv, .int i, .int j => if j ≠ 0 ∧ Nat.blt j.natAbs 1073741824 = true then some (.val (.int (i.fdiv j))) else none
  | .Pow, .int i, .int j => if nn j = true ∧ Nat.ble j.natAbs 1000000 = true ∧ Nat.blt i.natAbs 18446744073709551616 = true then some (.val (.int (i ^ j.toNat))) else none
  | .LShift, .int i, .int j => if nn j = true ∧ Nat.ble j.natAbs 1000000 = true ∧ Nat.blt i.natAbs 18446744073709551616 = true then some (.val (.int (i * 2 ^ j.toNat))) else none
  | .RShift, .int i, .int j => if nn j = true then some (.val (.int (i / 2 ^ j.toNat))) else none
  | .BitAnd, .int i, .int j => if nn i = true ∧ nn j = true then some (.val (.int ((i.toNat &&& j.toNat : Nat) : Int))) else none
  | .BitXor, .int i, .int j => if nn i = true ∧ nn j = true then some (.val (.int ((i.toNat ^^^ j.toNat : Nat) : Int))) else none
  | .BitOr, .int i, .int j => if nn i = true ∧ nn j = true then some (.val (.int ((i.toNat ||| j.toNat : Nat) : Int))) else none
  | .Add, .str a, .str b => if a.length + b.length ≤ LINE then some (.val (.str (a ++ b))) else none
  | .Add, .lst a, .lst b => if a.length + b.length ≤ LINE then some (.own (.lst (a ++ b))) else none
  | .Add, .tup a, .tup b => if a.length + b.length ≤ LINE then some (.val (.tup (a ++ b))) else none
  | .Mult, .str a, .int j => if a.length * j.toNat ≤ LINE ∧ Nat.blt j.natAbs 4611686018427387904 = true then some (.val (.str (rept a j.toNat))) else none
  | .Mult, .lst a, .int j => if a.length * j.toNat ≤ LINE ∧ Nat.blt j.natAbs 4611686018427387904 = true then some (.own (.lst (rept a j.toNat))) else none
  | .Mult, .tup a, .int j => if a ≠ [] ∧ 2 ≤ j ∧ j ≤ 1000 ∧ a.length ≤ 1000 then some (.val (.tup (rept a j.toNat))) else none
  | _, _, _ => none
/-- how deep == looks -/
abbrev DEEP : Nat := 8
def inStr (c : List Nat) (x : List Nat) : Option Bool :=
  match c with
  | [k] => some (decide (k ∈ x))
  | _ => none
def DK.d : DK → D
  | .ki k => .int k
  | .ks x => .str x
def DK.of : D → Option DK
  | .int i => some (.ki i)
  | .str x => some (.ks x)
  | _ => none
def look (kvs : List (DK × D)) (k : DK) : Option D :=
  match kvs with
  | [] => none
  | (a, d) :: r => if a = k then some d else look r k
def D.flat : D → Bool
  | .non => true
  | .bl _ => true
  | .int _ => true
  | .str _ => true
  | _ => false
/-- an item among items, by == -/
def inL (x : D) : List D → Bool
  | [] => false
  | y :: ys => D.eqv x y || inL x ys
def tyNames : List String := ["NoneType", "bool", "int", "str", "tuple", "list", "dict"]
def tyName : D → String
  | .non => "NoneType"
  | .bl _ => "bool"
  | .int _ => "int"
  | .str _ => "str"
  | .tup _ => "tuple"
  | .lst _ => "list"
  | .dic _ => "dict"
  | _ => ""
def strLt : List Nat → List Nat → Bool
  | _, [] => false
  | [], _ :: _ => true
  | a :: as, b :: bs => a < b || (a == b && strLt as bs)
def D.isNon : D → Bool
  | .non => true
  | _ => false
def eqD (x y : D) : Option Bool :=
  match x, y with
  | .str a, .str b => some (a == b)
  | .scr xs, .lst [] => some xs.isEmpty
  | x, y => if (D.plain DEEP x && D.plain DEEP y) = true then some (D.eqv x y) else none
def inSeq (x : D) (ys : List D) : Option Bool := if (D.flat x && ys.all D.flat) = true then some (inL x ys) else none
def inKey (x : D) (kvs : List (DK × D)) : Option Bool := (DK.of x).map fun k => (look kvs k).isSome
def inStrD (x : D) (z : List Nat) : Option Bool :=
  match x with
  | .str c => inStr c z
  | _ => none
def inD (S : Store) (x y : D) : Option Bool :=
  match y with
  | .str z => inStrD x z
  | .lst ys => inSeq x ys
  | .tup ys => inSeq x ys
  | .dic kvs => inKey x kvs
  | .obj n => match S[n]? with
    | some (.dic kvs) => inKey x kvs
    | some (.lst ys) => inSeq x ys
    | _ => none
  | _ => none
def ltD (x y : D) : Option Bool :=
  match x, y with
  | .int i, .int j => some (decide (i < j))
  | _, _ => none
def leD (x y : D) : Option Bool :=
  match x, y with
  | .int i, .int j => some (decide (i ≤ j))
  | _, _ => none
def isOp (x y : D) : Option Bool :=
  match y with
  | .non => some x.isNon
  | .bl b => match x with
    | .bl c => some (decide (c = b))
    | _ => none
  | _ => none
def cmpD (S : Store) (op : CmpOp) (x y : D) : Option Bool :=
  match op with
  | .Lt => ltD x y
  | .LtE => leD x y
  | .Gt => ltD y x
  | .GtE => leD y x
  | .Eq => eqD x y
  | .NotEq => (eqD x y).map (!·)
  | .Is => isOp x y
  | .IsNot => (isOp x y).map (!·)
  | .In => inD S x y
  | .NotIn => (inD S x y).map (!·)
/-- the place of an index -/
def ixN (n : Nat) (i : Int) : Option Nat :=
  if 0 ≤ i then (if i < n then some i.toNat else none) else if -(n : Int) ≤ i then some (i + n).toNat else none
def idxL {α : Type} (xs : List α) (k : D) : Option α :=
  match k with
  | .int i => (ixN xs.length i).bind fun j => xs[j]?
  | _ => none
def idxK (kvs : List (DK × D)) (k : D) : Option D := (DK.of k).bind (look kvs)
def idxD (S : Store) (x k : D) : Option D :=
  match x with
  | .lst xs => idxL xs k
  | .tup xs => idxL xs k
  | .scr xs => (idxL xs k).map .int
  | .str xs => if xs.length ≤ LINE then (idxL xs k).map fun c => .str [c] else none
  | .dic kvs => idxK kvs k
  | .obj n => match S[n]? with
    | some (.lst xs) => idxL xs k
    | some (.dic kvs) => idxK kvs k
    | _ => none
  | _ => none
def sIx (n dflt : Nat) : Option Int → Nat
  | none => dflt
  | some v => if v < 0 then (v + (n : Int)).toNat else min v.toNat n
def cut {α : Type} (xs : List α) (lo hi : Option Int) : List α := (xs.drop (sIx xs.length 0 lo)).take (sIx xs.length xs.length hi - sIx xs.length 0 lo)
def slcD (x : D) (lo hi : Option Int) : Option Ent :=
  match x with
  | .str xs => if xs.length ≤ LINE then some (.val (.str (cut xs lo hi))) else none
  | .lst xs => some (.own (.lst (cut xs lo hi)))
  | .tup xs => some (.val (.tup (cut xs lo hi)))
  | _ => none
def revD (x : D) : Option Ent :=
  match x with
  | .str xs => if xs.length ≤ LINE then some (.val (.str xs.reverse)) else none
  | .lst xs => some (.own (.lst xs.reverse))
  | _ => none
def optI (s : St) : Option Ent → Option (Option Int)
  | none => some none
  | some e => match res s e with
    | some (.int i) => some (some i)
    | _ => none
def strsOf : List D → Option (List (List Nat))
  | [] => some []
  | .str x :: r => (strsOf r).map (x :: ·)
  | _ :: _ => none
def joinS (sep : List Nat) : List (List Nat) → List Nat
  | [] => []
  | [x] => x
  | x :: y :: r => x ++ sep ++ joinS sep (y :: r)
def sumLen (sep : Nat) : List (List Nat) → Nat
  | [] => 0
  | x :: r => x.length + sep + sumLen sep r
def boolsOf : List D → Option (List Bool)
  | [] => some []
  | .bl b :: r => (boolsOf r).map (b :: ·)
  | _ :: _ => none
def intsOf : List D → Option (List Int)
  | [] => some []
  | .int x :: r => (intsOf r).map (x :: ·)
  | _ :: _ => none
def digit (c : Nat) : Option Int := if 48 ≤ c ∧ c ≤ 57 then some ((c : Int) - 48) else none
def codes (s : String) : List Nat := s.toList.map Char.toNat
/-! ### data as the library has it -/
mutual
def toP : D → PySem.PyData
  | .bl b => .bool b
  | .int i => .int i
  | .str x => .str ⟨x.toArray⟩
  | .lst xs => .list (toPs xs)
  | .tup xs => .tuple (toPs xs)
  | _ => .none
def toPs : List D → List PySem.PyData
  | [] => []
  | x :: xs => toP x :: toPs xs
end
def alikeD (xs : List D) : Bool := (toPs xs).all fun x => (toPs xs).all fun y => PySem.W.alike x y
def bestOk (xs : List D) : Bool := D.plains DEEP xs && alikeD xs && xs.all fun d => !d.isNon
def isTupNe : D → Bool
  | .tup (_ :: _) => true
  | _ => false
def isTupD : D → Bool
  | .tup _ => true
  | _ => false
def sortOk (xs : List D) : Bool := D.plains DEEP xs && alikeD xs && (xs.all isTupNe || xs.all fun d => !d.isNon && !isTupD d)
def minDD (x : D) (xs : List D) : D := xs.foldl (fun a y => if PySem.W.dataLt (toP y) (toP a) = true then y else a) x
def maxDD (x : D) (xs : List D) : D := xs.foldl (fun a y => if PySem.W.dataLt (toP a) (toP y) = true then y else a) x
def insD (x : D) : List D → List D
  | [] => [x]
  | y :: ys => if PySem.W.dataLe false toP x y = true then x :: y :: ys else y :: insD x ys
def sortDD : List D → List D
  | [] => []
  | x :: xs => insD x (sortDD xs)
theorem insD_mid (x : D) : ∀ (l1 l2 : List D), (∀ b ∈ l1, (!PySem.W.dataLe false toP x b) = true) → (∀ b ∈ l2, PySem.W.dataLe false toP x b = true) → insD x (l1 ++ l2) = l1 ++ x :: l2
  | [], [], _, _ => rfl
  | [], y :: ys, _, h => by
    show (if PySem.W.dataLe false toP x y = true then _ else _) = _
    rw [if_pos (h y List.mem_cons_self)]
    rfl
  | y :: l1, l2, h1, h2 => by
    have hy := h1 y List.mem_cons_self
    show (if PySem.W.dataLe false toP x y = true then _ else y :: insD x (l1 ++ l2)) = _
    rw [if_neg (by simpa using hy), insD_mid x l1 l2 (fun b hb => h1 b (List.mem_cons_of_mem _ hb)) h2]
    rfl
theorem sortDD_eq : ∀ xs : List D, sortDD xs = xs.mergeSort (PySem.W.dataLe false toP)
  | [] => by simp [sortDD]
  | x :: xs => by
    have T : PySem.W.TotalLe (PySem.W.dataLe false toP) := PySem.W.sortLe_total ..
    obtain ⟨l1, l2, e1, e2, e3⟩ := List.mergeSort_cons (le := PySem.W.dataLe false toP) (fun a b c h1 h2 => T.trans a b c h1 h2) (fun a b => by have := T.total a b; simpa using this) x xs
    have s := List.pairwise_mergeSort (le := PySem.W.dataLe false toP) (fun a b c h1 h2 => T.trans a b c h1 h2) (fun a b => by have := T.total a b; simpa using this) (x :: xs)
    rw [e1] at s ⊢
    show insD x (sortDD xs) = _
    rw [sortDD_eq xs, e2]
    exact insD_mid x l1 l2 e3 fun b hb => (List.pairwise_cons.mp (List.pairwise_append.mp s).2.1).1 b hb
/-! ### len and sorted of a set of whole numbers -/
def insI (k : Int) : List Int → List Int
  | [] => [k]
  | x :: xs => if k < x then k :: x :: xs else if k = x then x :: xs else x :: insI k xs
def srtI : List Int → List Int
  | [] => []
  | x :: xs => insI x (srtI xs)
def numsOf : D → Option (List Int)
  | .lst xs => intsOf xs
  | .tup xs => intsOf xs
  | _ => none
def stI (f : String) (is : List Int) : Option Ent :=
  if Nat.ble is.length 1000 = true then
    (if f = "len" then some (.val (.int ((srtI is).length : Nat)))
    else if f = "sorted" then (if Nat.blt (srtI is).length 64 = true then some (.own (.lst ((srtI is).map .int))) else none) else none)
  else none
def stB (f : String) (d : D) : Option Ent := (numsOf d).bind (stI f)
def sumF : List D → Option Ent
  | [.lst xs] => (intsOf xs).map fun is => .val (.int is.sum)
  | _ => none
def sortedF : List D → Option Ent
  | [.lst xs] => if sortOk xs = true then some (.own (.lst (sortDD xs))) else none
  | _ => none
/-- built-in functions and types -/
def lenF : List D → Option Ent
  | [.str x] => if x.length ≤ LINE then some (.val (.int x.length)) else none
  | [.lst xs] => some (.val (.int xs.length))
  | [.scr xs] => some (.val (.int xs.length))
  | [.tup xs] => some (.val (.int xs.length))
  | [.dic xs] => some (.val (.int xs.length))
  | _ => none
def allF : List D → Option Ent
  | [.lst xs] => (boolsOf xs).map fun bs => .val (.bl (bs.all id))
  | _ => none
def anyF : List D → Option Ent
  | [.lst xs] => (boolsOf xs).map fun bs => .val (.bl (bs.any id))
  | _ => none
def strF : List D → Option Ent
  | [.int i] => if i.natAbs.log2 < 1920 then some (.val (.str (codes (toString i)))) else none
  | _ => none
def intF : List D → Option Ent
  | [.str [c]] => (digit c).map fun i => .val (.int i)
  | [.int i] => some (.val (.int i))
  | _ => none
def tupleF : List D → Option Ent
  | [.lst xs] => some (.val (.tup xs))
  | [.tup xs] => some (.val (.tup xs))
  | _ => none
def listF : List D → Option Ent
  | [.lst xs] => some (.own (.lst xs))
  | [.tup xs] => some (.own (.lst xs))
  | _ => none
def maxF : List D → Option Ent
  | [.int i, .int j] => some (.val (.int (if j > i then j else i)))
  | [.lst (x :: xs)] => if bestOk (x :: xs) = true then some (.val (maxDD x xs)) else none
  | _ => none
def minF : List D → Option Ent
  | [.int i, .int j] => some (.val (.int (if j < i then j else i)))
  | [.lst (x :: xs)] => if bestOk (x :: xs) = true then some (.val (minDD x xs)) else none
  | _ => none
def biD (f : String) : List D → Option Ent :=
  if f = "len" then lenF else if f = "all" then allF else if f = "any" then anyF else if f = "str" then strF else if f = "int" then intF else
  if f = "tuple" then tupleF else if f = "list" then listF else if f = "max" then maxF else if f = "min" then minF else if f = "sum" then sumF else if f = "sorted" then sortedF else fun _ => none
/-- methods that change nothing -/
def joinF (x : D) (ds : List D) : Option Ent :=
  match x, ds with
  | .str sep, [.lst xs] => (strsOf xs).bind fun ys => if sumLen sep.length ys ≤ LINE then some (.val (.str (joinS sep ys))) else none
  | _, _ => none
def countF (x : D) (ds : List D) : Option Ent :=
  match x, ds with
  | .str x, [.str [c]] => some (.val (.int (x.count c)))
  | _, _ => none
def lcountF (x : D) (ds : List D) : Option Ent :=
  match x, ds with
  | .lst xs, [d] => if (D.plains DEEP xs && D.plain DEEP d) = true then some (.val (.int (xs.countP fun z => D.eqv z d : Nat))) else none
  | _, _ => none
def lindexF (x : D) (ds : List D) : Option Ent :=
  match x, ds with
  | .lst xs, [d] => if (D.plains 7 xs && D.plain DEEP d) = true then (xs.findIdx? fun z => D.eqv z d).map fun j => .val (.int (j : Nat)) else none
  | _, _ => none
/-- of one sign -/
def sfindF (x : D) (ds : List D) : Option Ent :=
  match x, ds with
  | .str x, [.str [c]] => some (.val (.int (match x.findIdx? (· == c) with | some j => (j : Nat) | none => -1)))
  | _, _ => none
def sindexF (x : D) (ds : List D) : Option Ent :=
  match x, ds with
  | .str x, [.str [c]] => (x.findIdx? (· == c)).map fun j => .val (.int (j : Nat))
  | _, _ => none
def sstartF (x : D) (ds : List D) : Option Ent :=
  match x, ds with
  | .str x, [.str y] => some (.val (.bl (y.isPrefixOf x)))
  | _, _ => none
def bmD (t m : String) : D → List D → Option Ent :=
  if t = "str" ∧ m = "join" then joinF else if t = "str" ∧ m = "count" then countF else if t = "list" ∧ m = "count" then lcountF else if t = "list" ∧ m = "index" then lindexF else
  if t = "str" ∧ m = "find" then sfindF else if t = "str" ∧ m = "index" then sindexF else if t = "str" ∧ m = "startswith" then sstartF else fun _ _ => none
/-- whether it is of a built-in type -/
def tyIs (S : Store) (t : String) : D → Bool
  | .str _ => t == "str"
  | .lst _ => t == "list"
  | .dic _ => t == "dict"
  | .obj n => match S[n]? with
    | some (.lst _) => t == "list"
    | some (.dic _) => t == "dict"
    | _ => false
  | _ => false
/-- methods that change what they stand at: what it is then, and what is handed back -/
def appendF (x : D) (ds : List D) : Option (D × D) :=
  match x, ds with
  | .lst xs, [d] => if xs.length < LINE then some (.lst (xs ++ [d]), .non) else none
  | _, _ => none
def extendF (x : D) (ds : List D) : Option (D × D) :=
  match x, ds with
  | .lst xs, [.lst ys] => if xs.length + ys.length ≤ LINE then some (.lst (xs ++ ys), .non) else none
  | _, _ => none
def popF (x : D) (ds : List D) : Option (D × D) :=
  match x, ds with
  | .lst xs, [] => match xs.getLast? with
    | some d => some (.lst xs.dropLast, d)
    | none => none
  | _, _ => none
def popAtF (x : D) (ds : List D) : Option (D × D) :=
  match x, ds with
  | .lst xs, [.int i] => if xs.length ≤ LINE then (ixN xs.length i).bind fun j => (xs[j]?).map fun d => (.lst (xs.eraseIdx j), d) else none
  | _, _ => none
def putK (k : DK) (d : D) (kvs : List (DK × D)) : List (DK × D) := if (kvs.any fun p => decide (p.1 = k)) = true then kvs.map (fun p => if p.1 = k then (p.1, d) else p) else kvs ++ [(k, d)]
def setL (xs : List D) (k d : D) : Option D :=
  match k with
  | .int i => (ixN xs.length i).map fun j => .lst (xs.set j d)
  | _ => none
def setD (x k d : D) : Option D :=
  match x with
  | .lst xs => setL xs k d
  | .dic kvs => if kvs.length < LINE then (DK.of k).map fun k => .dic (putK k d kvs) else none
  | _ => none
/-- change what a thing stands for: a name's own, or a cell of the store -/
def cellD : Cell → Option D
  | .lst xs => some (.lst xs)
  | .dic kvs => some (.dic kvs)
  | _ => none
def dCell : D → Option Cell
  | .lst xs => some (.lst xs)
  | .dic kvs => some (.dic kvs)
  | _ => none
def ownOf (s : St) (i : Nat) : Option D :=
  match s.env[i]? with
  | some (.own d) => some d
  | _ => none
def upd1 (s : St) (r : Ent) (f : D → Option (D × D)) : R Ent :=
  match r with
  | .al i => opt (ownOf s i) fun d => opt (f d) fun p => .ok (.val p.2) (put s i (.own p.1))
  | .val (.obj n) => opt (s.sto[n]?.bind cellD) fun d => opt (f d) fun p => opt (dCell p.1) fun c => .ok (.val p.2) { s with sto := s.sto.set n c }
  | _ => .stk
def fldD (ok : String → String → Bool) (f : String) (S : Store) (x : D) : Option D :=
  match x with
  | .obj n => match S[n]? with
    | some (.ins c fs) => if ok c f = true then fs.lookup f else none
    | _ => none
  | _ => none
def putFld (f : String) (v : D) : List (String × D) → List (String × D)
  | [] => [(f, v)]
  | (g, x) :: r => if g = f then (g, v) :: r else (g, x) :: putFld f v r
def setFldD (ok : String → String → Bool) (f : String) (S : Store) (x v : D) : Option Store :=
  match x with
  | .obj n => match S[n]? with
    | some (.ins c fs) => if ok c f = true ∧ fs.length < 1000 then some (S.set n (.ins c (putFld f v fs))) else none
    | _ => none
  | _ => none

/-! ### what is walked -/
def rngL (lo : Int) : Nat → List D
  | 0 => []
  | n + 1 => .int lo :: rngL (lo + 1) n
def rngC (lo c : Int) : Nat → List D
  | 0 => []
  | n + 1 => .int lo :: rngC (lo + c) c n
def inR (i : Int) : Bool := Nat.blt i.natAbs 4611686018427387904
def rngD : List D → Option (List D)
  | [.int j] => if inR j then some (rngL 0 j.toNat) else none
  | [.int i, .int j] => if inR i && inR j then some (rngL i (j - i).toNat) else none
  | [.int i, .int j, .int c] => if inR i && inR j && decide (0 < c) && decide (c < 1073741824) then some (rngC i c ((j - i + c - 1) / c).toNat)
    else if inR i && inR j && decide (c = -1) then some (rngC i c (i - j).toNat) else none
  | _ => none
def seqD : D → Option (List D)
  | .lst xs => some xs
  | .tup xs => some xs
  | .str x => some (x.map fun c => .str [c])
  | _ => none
def enuL (i : Nat) : List D → List D
  | [] => []
  | d :: r => .tup [.int i, d] :: enuL (i + 1) r
def zipL : List D → List D → List D
  | x :: xs, y :: ys => .tup [x, y] :: zipL xs ys
  | _, _ => []
def putL : List Nat → List D → St → Option St
  | [], [], s => some s
  | i :: is, d :: ds, s => putL is ds (put s i (.val d))
  | _, _, _ => none
def bindTup (is : List Nat) (d : D) (s : St) : Option St :=
  match d with
  | .tup ds => putL is ds s
  | _ => none
/-- to a name, or to several names -/
def bindT (tg : List Nat) (d : D) (s : St) : Option St :=
  match tg with
  | [i] => some (put s i (.val d))
  | is => bindTup is d s
/-- len, list, tuple of a range -/
def rgB (f : String) (a b : Int) : Option Ent :=
  if (Nat.blt a.natAbs 4611686018427387904 && Nat.blt b.natAbs 4611686018427387904 && decide ((b - a).toNat ≤ LINE)) = true then
    (if f = "len" then some (.val (.int ((b - a).toNat : Nat))) else if f = "list" then some (.own (.lst (rngL a (b - a).toNat))) else if f = "tuple" then some (.val (.tup (rngL a (b - a).toNat))) else none)
  else none
def rgB1 (f : String) : D → Option Ent
  | .int n => rgB f 0 n
  | _ => none
def rgB2 (f : String) (x y : D) : Option Ent :=
  match x, y with
  | .int i, .int j => rgB f i j
  | _, _ => none
/-- a comprehension's turns -/
def compL (tg own : List Nat) (el : St → R Ent) (tt : St → R Bool) : List D → St → R (List D)
  | [], s => .ok [] s
  | d :: ds, s => match bindT tg d s with
    | none => .stk
    | some s1 => match tt s1 with
      | .ok true s2 => match el s2 with
        | .ok r s3 => match frz r with
          | some v => match compL tg own el tt ds { s3 with env := unset s3.env own } with
            | .ok vs s4 => .ok (v :: vs) s4
            | _ => .stk
          | none => .stk
        | _ => .stk
      | .ok false s2 => compL tg own el tt ds { s2 with env := unset s2.env own }
      | _ => .stk
/-- .. of a dict's comprehension -/
def dcompL (tg own : List Nat) (ek ev : St → R Ent) (tt : St → R Bool) : List D → List (DK × D) → St → R (List (DK × D))
  | [], acc, s => .ok acc s
  | d :: ds, acc, s => match bindT tg d s with
    | none => .stk
    | some s1 => match tt s1 with
      | .ok true s2 => match ek s2 with
        | .ok (.val kd) s3 => match ev s3 with
          | .ok r s4 => match DK.of kd with
            | some k => match frz r with
              | some v => if acc.length < LINE then dcompL tg own ek ev tt ds (putK k v acc) { s4 with env := unset s4.env own } else .stk
              | none => .stk
            | none => .stk
          | _ => .stk
        | _ => .stk
      | .ok false s2 => dcompL tg own ek ev tt ds acc { s2 with env := unset s2.env own }
      | _ => .stk
def RC.r (x : RC) (s : St) : R Ent :=
  match x with
  | .ok d S => .ok (.val d) { s with sto := S }
  | .exc c S => .exc c { s with sto := S }
  | .stk => .stk

/-! ### the ways to put together -/
abbrev Ev := St → R Ent
abbrev EvB := St → R Bool
abbrev EvL := St → R (List Ent)
def bnd1 (a : Ev) (k : St → D → R Ent) : Ev := fun s => (a s).bind fun x s1 => opt (res s1 x) (k s1)
def bnd2 (a b : Ev) (k : St → D → D → R Ent) : Ev := fun s => (a s).bind fun x s1 => (b s1).bind fun y s2 => opt (res s2 x) fun dx => opt (res s2 y) fun dy => k s2 dx dy
def tst (a : Ev) : EvB := fun s => (a s).bind toBe
def ofB (a : EvB) : Ev := fun s => (a s).bind fun b s1 => .ok (.val (.bl b)) s1
def ntB (a : EvB) : EvB := fun s => (a s).bind fun b s1 => .ok (!b) s1
def chn (o1 o2 : CmpOp) (a b c : Ev) : EvB := fun s => (a s).bind fun x s1 => (b s1).bind fun y s2 => opt (res s2 x) fun dx => opt (res s2 y) fun dy =>
  opt (cmpD s2.sto o1 dx dy) fun k => if k = true then (c s2).bind fun z s3 => opt (res s3 y) fun dy => opt (res s3 z) fun dz => opt (cmpD s3.sto o2 dy dz) fun k => .ok k s3 else .ok false s2
def cmp2 (op : CmpOp) (a b : Ev) : EvB := fun s => (a s).bind fun x s1 => (b s1).bind fun y s2 => opt (res s2 x) fun dx => opt (res s2 y) fun dy => opt (cmpD s2.sto op dx dy) fun k => .ok k s2
/-- and (k true), or (k false): all but the last are True or False -/
def andor (k : Bool) (a : EvB) (r : Ev) : Ev := fun s => (a s).bind fun b s1 => if b = k then r s1 else .ok (.val (.bl b)) s1
def andorB (k : Bool) (a r : EvB) : EvB := fun s => (a s).bind fun b s1 => if b = k then r s1 else .ok b s1
def ite3 (c : EvB) (a b : Ev) : Ev := fun s => (c s).bind fun k s1 => if k = true then a s1 else b s1
def mkTup (es : EvL) : Ev := fun s => (es s).bind fun rs s1 => opt (frzL rs) fun ds => if ds.length ≤ LINE then .ok (.val (.tup ds)) s1 else .stk
def mkLst (es : EvL) : Ev := fun s => (es s).bind fun rs s1 => opt (frzL rs) fun ds => if ds.length ≤ LINE then .ok (.own (.lst ds)) s1 else .stk
def slc3 (a : Ev) (lo hi : St → R (Option Int)) : Ev := fun s => (a s).bind fun x s1 => (lo s1).bind fun l s2 => (hi s2).bind fun h s3 => opt (res s3 x) fun dx => O (slcD dx l h) s3
def optE (a : Ev) : St → R (Option Int) := fun s => (a s).bind fun x s1 => match x with
  | .val (.int i) => .ok (some i) s1
  | _ => .stk
def callE (cf : List D → Store → RC) (es ks : EvL) (dfl : List D) : Ev := fun s => (es s).bind fun xs s1 => (ks s1).bind fun ys s2 => opt (frzL xs) fun ds => opt (frzL ys) fun zs => (cf (ds ++ (zs ++ dfl)) s2.sto).r s2
def mkE (c : String) (cf : List D → Store → RC) (es ks : EvL) (dfl : List D) : Ev := fun s => (es s).bind fun xs s1 => (ks s1).bind fun ys s2 => opt (frzL xs) fun ds => opt (frzL ys) fun zs =>
  match cf (.obj s2.sto.length :: (ds ++ (zs ++ dfl))) (s2.sto ++ [.ins c []]) with
  | .ok .non S => .ok (.val (.obj s2.sto.length)) { s2 with sto := S }
  | .exc c S => .exc c { s2 with sto := S }
  | _ => .stk
/-- the place in the store of an instance of the class c -/
def insOf (S : Store) (c : String) : D → Option Nat
  | .obj n => match S[n]? with
    | some (.ins c' _) => if c' = c then some n else none
    | _ => none
  | _ => none
def noMeth (S : Store) (m : String) (n : Nat) : Option Nat :=
  match S[n]? with
  | some (.ins _ fs) => if (fs.lookup m).isNone = true then some n else none
  | _ => none
def methE (c m : String) (cf : List D → Store → RC) (o : Ev) (es ks : EvL) (dfl : List D) : Ev := fun s => (o s).bind fun x s1 => opt (((res s1 x).bind (insOf s1.sto c)).bind (noMeth s1.sto m)) fun n => (es s1).bind fun xs s2 => (ks s2).bind fun ys s3 =>
  opt (frzL xs) fun ds => opt (frzL ys) fun zs => (cf (.obj n :: (ds ++ (zs ++ dfl))) s3.sto).r s3
/-- what len hands back -/
def lenR : RC → RC
  | .ok (.int (.ofNat n)) S => if Nat.blt n 9223372036854775808 = true then .ok (.int (.ofNat n)) S else .stk
  | .ok _ _ => .stk
  | .exc c S => .exc c S
  | .stk => .stk
/-- len of an instance with its own __len__ -/
def lenOE (c : String) (cf : List D → Store → RC) (o : Ev) : Ev := fun s => (o s).bind fun x s1 => opt ((res s1 x).bind (insOf s1.sto c)) fun n => (lenR (cf [.obj n] s1.sto)).r s1
def biE (f : List D → Option Ent) (es : EvL) : Ev := fun s => (es s).bind fun xs s1 => opt (resL s1 xs) fun ds => O (f ds) s1
/-- a thing of a built-in type -/
def tyOf (s : St) (t : String) (x : Ent) : Option Unit := (res s x).bind fun d => if tyIs s.sto t d = true then some () else none
def bmE (t : String) (f : D → List D → Option Ent) (o : Ev) (es : EvL) : Ev := fun s => (o s).bind fun x s1 => opt (tyOf s1 t x) fun _ => (es s1).bind fun ys s2 => opt (res s2 x) fun d => opt (resL s2 ys) fun ds => O (f d ds) s2
def isiD (sub : String → String → Option Bool) (S : Store) (t : String) (d : D) : Option Bool :=
  match d with
  | .obj n => match S[n]? with
    | some (.ins c _) => if c ∈ tyNames then none else sub c t
    | _ => none
  | .exc _ => none
  | .scr _ => none
  | d => sub (tyName d) t
/-- x.m(e), the thing put is let go of -/
def mutF (t : String) (f : D → List D → Option (D × D)) (o : Ev) (es : EvL) : Ev := fun s => (o s).bind fun x s1 => opt (tyOf s1 t x) fun _ => (es s1).bind fun ys s2 => opt (frzL ys) fun ds => upd1 s2 x fun d => f d ds
/-- x.m(e), where what is handed in is only read -/
def mutR (t : String) (f : D → List D → Option (D × D)) (o : Ev) (es : EvL) : Ev := fun s => (o s).bind fun x s1 => opt (tyOf s1 t x) fun _ => (es s1).bind fun ys s2 => opt (resL s2 ys) fun ds => upd1 s2 x fun d => f d ds
def compE (tg own : List Nat) (it : St → R (List D)) (el : Ev) (tt : EvB) : Ev := fun s => (it s).bind fun ds s1 => if ds.length ≤ LINE then
      match compL tg own el tt ds { s1 with env := unset s1.env own } with
      | .ok vs s2 => .ok (.own (.lst vs)) { s2 with env := back s1.env s2.env own }
      | _ => .stk
    else .stk
def dcompE (tg own : List Nat) (it : St → R (List D)) (ek ev : Ev) (tt : EvB) : Ev := fun s => (it s).bind fun ds s1 =>
      match dcompL tg own ek ev tt ds [] { s1 with env := unset s1.env own } with
      | .ok kvs s2 => .ok (.own (.dic kvs)) { s2 with env := back s1.env s2.env own }
      | _ => .stk
def nilL : EvL := fun s => .ok [] s
def consL (a : Ev) (r : EvL) : EvL := fun s => (a s).bind fun x s1 => (r s1).bind fun xs s2 => .ok (x :: xs) s2
def itSeq (a : Ev) (f : D → Option (List D)) : St → R (List D) := fun s => (a s).bind fun x s1 => opt ((frz x).bind f) fun ds => .ok ds s1
def zipD : List D → Option (List D)
  | [a, b] => (seqD a).bind fun xs => (seqD b).map fun ys => zipL xs ys
  | _ => none
def enuD : List D → Option (List D)
  | [a] => (seqD a).map (enuL 0)
  | _ => none
def revS (d : D) : Option (List D) :=
  match d with
  | .lst xs => some xs.reverse
  | .tup xs => some xs.reverse
  | _ => none
def itArgs (es : EvL) (f : List D → Option (List D)) : St → R (List D) := fun s => (es s).bind fun xs s1 => opt ((frzL xs).bind f) fun ds => .ok ds s1
def stkE : Ev := fun _ => .stk
/-- one of several defs, called -/
def selE (cf : String → List D → Store → RC) (fs : List String) (i : Ev) (es : EvL) : Ev := fun s => (i s).bind fun y s1 => opt ((res s1 y).bind (idxL fs)) fun f => callE (cf f) es nilL [] s1

mutual
def evE (Γ : Gam) (bw : Bool) : E → Ev
  | .var i => fun s => rd s bw i
  | .cst d => fun s => .ok (.val d) s
  | .glb x => fun s => O ((Γ.gc x).map .val) s
  | .bin op a b => bnd2 (evE Γ true a) (evE Γ true b) fun s x y => O (binD op x y) s
  | .neg a => bnd1 (evE Γ true a) fun s d => O (match d with | .int i => some (.val (.int (-i))) | _ => none) s
  | .nt a => ofB (ntB (tst (evE Γ true a)))
  | .cmp op a b => ofB (cmp2 op (evE Γ true a) (evE Γ true b))
  | .chain o1 o2 a b c => ofB (chn o1 o2 (evE Γ true a) (evE Γ true b) (evE Γ true c))
  | .and es => evA Γ true bw es
  | .or es => evA Γ false bw es
  | .ife c a b => ite3 (tst (evE Γ true c)) (evE Γ false a) (evE Γ false b)
  | .tup es => mkTup (evEs Γ false es)
  | .lst es => mkLst (evEs Γ false es)
  | .dsp _ _ => stkE
  | .idx a b => bnd2 (evE Γ true a) (evE Γ true b) fun s x y => O ((idxD s.sto x y).map .val) s
  | .slc a lo hi => slc3 (evE Γ true a) (evEo Γ lo) (evEo Γ hi)
  | .rev a => bnd1 (evE Γ true a) fun s d => O (revD d) s
  | .call f es _ ks dfl => callE (Γ.cf "" f) (evEs Γ false es) (evEs Γ false ks) dfl
  | .mk c es _ ks dfl => mkE c (Γ.cf c "__init__") (evEs Γ false es) (evEs Γ false ks) dfl
  | .meth o c m es _ ks dfl => methE c m (Γ.cf c m) (evE Γ true o) (evEs Γ false es) (evEs Γ false ks) dfl
  | .bi f es => biE (biD f) (evEs Γ true es)
  | .bm o t m es => bmE t (bmD t m) (evE Γ true o) (evEs Γ true es)
  | .isi a t => bnd1 (evE Γ true a) fun s d => O ((isiD Γ.sub s.sto t d).map fun b => .val (.bl b)) s
  | .mut o t m es => if m = "extend" then mutR t extendF (evE Γ true o) (evEs Γ true es) else if m = "append" then mutF t appendF (evE Γ true o) (evEs Γ false es) else
    if m = "pop" then mutF t popF (evE Γ true o) (evEs Γ false es) else if m = "popAt" then mutF t popAtF (evE Γ true o) (evEs Γ false es) else stkE
  | .fld o f => bnd1 (evE Γ true o) fun s d => O ((fldD Γ.fld f s.sto d).map .val) s
  | .comp el tg it ifs own => compE tg own (evIt Γ it) (evE Γ false el) (evTs Γ ifs)
  | .brg1 f a => bnd1 (evE Γ true a) fun s d => O (rgB1 f d) s
  | .brg2 f a b => bnd2 (evE Γ true a) (evE Γ true b) fun s x y => O (rgB2 f x y) s
  | .bst f a => bnd1 (evE Γ true a) fun s d => O (stB f d) s
  | .dcomp k v tg it ifs own => dcompE tg own (evIt Γ it) (evE Γ false k) (evE Γ false v) (evTs Γ ifs)
  | .sel fs i es => selE (Γ.cf "") fs (evE Γ true i) (evEs Γ false es)
  | .lenO o c => lenOE c (Γ.cf c "__len__") (evE Γ true o)
def evEs (Γ : Gam) (bw : Bool) : Es → EvL
  | .nil => nilL
  | .cons e es => consL (evE Γ bw e) (evEs Γ bw es)
def evA (Γ : Gam) (k bw : Bool) : Es → Ev
  | .nil => stkE
  | .cons e .nil => evE Γ bw e
  | .cons e (.cons e' es) => andor k (tst (evE Γ true e)) (evA Γ k bw (.cons e' es))
/-- a comprehension's tests -/
def evTs (Γ : Gam) : Es → EvB
  | .nil => fun s => .ok true s
  | .cons e .nil => tst (evE Γ true e)
  | .cons _ (.cons _ _) => fun _ => .stk
def evEo (Γ : Gam) : Eo → St → R (Option Int)
  | .no => fun s => .ok none s
  | .so e => optE (evE Γ true e)
def evIt (Γ : Gam) : It → St → R (List D)
  | .seq e => itSeq (evE Γ false e) seqD
  | .rng es => itArgs (evEs Γ false es) rngD
  | .enu e => itArgs (consL (evE Γ false e) nilL) enuD
  | .zip a b => itArgs (consL (evE Γ false a) (consL (evE Γ false b) nilL)) zipD
  | .rev e => itSeq (evE Γ false e) revS
end
/-! ### statements -/
def mask (msk : List Nat) (s : St) : St := { s with env := unset s.env msk }
def forL (tg msk : List Nat) (body : St → Fl) : List D → St → Fl
  | [], s => .nx s
  | d :: ds, s => match bindT tg d s with
    | none => .stk
    | some s1 => match body s1 with
      | .nx s2 => forL tg msk body ds (mask msk s2)
      | .ct s2 => forL tg msk body ds (mask msk s2)
      | .bk s2 => .nx s2
      | .rt d S => .rt d S
      | .exc c s2 => .exc c s2
      | .stk => .stk
def whlF (c : St → R Bool) (body : St → Fl) (msk : List Nat) : Nat → St → Fl
  | 0, _ => .stk
  | n + 1, s => match c s with
    | .ok false s1 => .nx s1
    | .ok true s1 => match body s1 with
      | .nx s2 => whlF c body msk n (mask msk s2)
      | .ct s2 => whlF c body msk n (mask msk s2)
      | .bk s2 => .nx s2
      | .rt d S => .rt d S
      | .exc c s2 => .exc c s2
      | .stk => .stk
    | .exc c s1 => .exc c s1
    | .stk => .stk
def R.fl {α : Type} (x : R α) (f : α → St → Fl) : Fl :=
  match x with
  | .ok a s => f a s
  | .exc c s => .exc c s
  | .stk => .stk
def optF {α : Type} (x : Option α) (f : α → Fl) : Fl :=
  match x with
  | some a => f a
  | none => .stk
/-- a value to a name -/
def stor (i : Nat) (r : Ent) (s : St) : Fl :=
  match r with
  | .val d => .nx (put s i (.val d))
  | .own d => .nx (put s i (.own d))
  | _ => .stk
def storL : List Nat → List Ent → St → Fl
  | [], [], s => .nx s
  | i :: is, .val d :: rs, s => storL is rs (put s i (.val d))
  | i :: is, .own d :: rs, s => storL is rs (put s i (.own d))
  | _, _, _ => .stk
abbrev EvS := St → Fl
def seqF (a b : EvS) : EvS := fun s => match a s with
  | .nx s1 => b s1
  | r => r
/-- o[k] = d behind o and k -/
def putI (s : St) (x : Ent) (dk d : D) : Fl := (upd1 s x fun c => (setD c dk d).map fun c => (c, .non)).fl fun _ s3 => .nx s3
def putFl (ok : String → String → Bool) (f : String) (s : St) (dx d : D) : Fl := optF (setFldD ok f s.sto dx d) fun S => .nx { s with sto := S }
def tgI (o k : Ev) (d : D) : EvS := fun s => (o s).fl fun x s1 => (k s1).fl fun y s2 => optF (res s2 y) fun dk => putI s2 x dk d
def tgF (ok : String → String → Bool) (o : Ev) (f : String) (d : D) : EvS := fun s => (o s).fl fun x s1 => optF (res s1 x) fun dx => putFl ok f s1 dx d
def evTg (Γ : Gam) (t : Tg) (d : D) : EvS :=
  match t with
  | .nm i => fun s => .nx (put s i (.val d))
  | .sub o k => tgI (evE Γ true o) (evE Γ true k) d
  | .fld o f => tgF Γ.fld (evE Γ true o) f d
def evTgs (Γ : Gam) : List Tg → List D → EvS
  | [], [] => fun s => .nx s
  | t :: ts, d :: ds => seqF (evTg Γ t d) (evTgs Γ ts ds)
  | _, _ => fun _ => .stk
/-- a list or dict held alone becomes a cell of the store -/
def cellOf : Ent → Option Cell
  | .own (.lst xs) => some (.lst xs)
  | .own (.dic kvs) => some (.dic kvs)
  | _ => none
def setN (i : Nat) (a : Ev) : EvS := fun s => (a s).fl fun r s1 => stor i r s1
def setC (i : Nat) (a : Ev) : EvS := fun s => (a s).fl fun r s1 => optF (cellOf r) fun c => .nx (put { s1 with sto := s1.sto ++ [c] } i (.val (.obj s1.sto.length)))
def tupOf : D → Option (List D)
  | .tup ds => some ds
  | _ => none
def setT (n : Nat) (a : Ev) (k : List D → EvS) : EvS := fun s => (a s).fl fun r s1 => optF ((frz r).bind tupOf) fun ds => if ds.length = n then k ds s1 else .stk
def parN (is : List Nat) (a : EvL) : EvS := fun s => (a s).fl fun rs s1 => storL is rs s1
def setFd (a : Ev) (k : D → EvS) : EvS := fun s => (a s).fl fun r s1 => optF (frz r) fun d => k d s1
def setFC (ok : String → String → Bool) (a : Ev) (o : Ev) (f : String) : EvS := fun s => (a s).fl fun r s1 => optF (cellOf r) fun c => (o { s1 with sto := s1.sto ++ [c] }).fl fun x s2 => optF (res s2 x) fun dx => putFl ok f s2 dx (.obj s1.sto.length)
def valOf : Option Ent → Option D
  | some (.val d) => some d
  | _ => none
/-- an augmented operator: ints -/
def augI2 (op : Operator) (i j : Int) : Option D :=
  match op with
  | .Add => some (.int (i + j))
  | .Sub => some (.int (i - j))
  | .BitXor => if nn i = true ∧ nn j = true then some (.int ((i.toNat ^^^ j.toNat : Nat) : Int)) else none
  | _ => none
def augS (op : Operator) (a b : List Nat) : Option D :=
  match op with
  | .Add => if a.length + b.length ≤ LINE then some (.str (a ++ b)) else none
  | _ => none
def augOp (op : Operator) (x y : D) : Option D :=
  match x, y with
  | .int i, .int j => augI2 op i j
  | .str a, .str b => augS op a b
  | _, _ => none
def lstOf (S : Store) : D → Option (List D)
  | .lst xs => some xs
  | .obj n => match S[n]? with
    | some (.lst xs) => some xs
    | _ => none
  | _ => none
def augN (i : Nat) (op : Operator) (a : Ev) : EvS := fun s => optF (valOf s.env[i]?) fun dx => (a s).fl fun y s1 => optF (res s1 y) fun dy => optF (augOp op dx dy) fun d => .nx (put s1 i (.val d))
def clsD (S : Store) : D → Option String
  | .obj n => match S[n]? with
    | some (.ins c _) => some c
    | _ => none
  | _ => none
def augFd (ok : String → String → Bool) (o : Ev) (f : String) (op : Operator) (a : Ev) : EvS := fun s => (o s).fl fun x s1 => optF (res s1 x) fun dx => optF (fldD ok f s1.sto dx) fun dv => (a s1).fl fun y s2 => optF (res s2 y) fun dy => optF (augOp op dv dy) fun d => if clsD s2.sto dx = clsD s1.sto dx then putFl ok f s2 dx d else .stk
def augI (o k : Ev) (op : Operator) (a : Ev) : EvS := fun s => (o s).fl fun x s1 => (k s1).fl fun y s2 => optF (res s2 x) fun dx => optF (res s2 y) fun dk => optF ((lstOf s2.sto dx).bind fun xs => idxL xs dk) fun dv =>
  (a s2).fl fun z s3 => optF (res s3 z) fun de => optF (augOp op dv de) fun d => putI s3 x dk d
def exS (a : Ev) : EvS := fun s => (a s).fl fun _ s1 => .nx s1
def retS (a : Ev) : EvS := fun s => (a s).fl fun r s1 => optF (frz r) fun d => .rt d s1.sto
def ifS (c : EvB) (a b : EvS) : EvS := fun s => (c s).fl fun k s1 => if k = true then a s1 else b s1
def forS (tg msk : List Nat) (it : St → R (List D)) (b : EvS) : EvS := fun s => (it s).fl fun ds s1 => forL tg msk b ds s1
def tryS (exm : String → String → Option Bool) (b : EvS) (c : String) (h : EvS) : EvS := fun s => match b s with
  | .exc c' s1 => optF (exm c' c) fun k => if k = true then h s1 else .exc c' s1
  | r => r
def trywS (exm : String → String → Option Bool) (wh : String → Option (List Nat × Int)) (b : EvS) (c : String) : EvS := fun s => match b s with
  | .exc c' s1 => optF (exm c' c) fun k => if k = true then optF (wh c') fun d => .rt (.tup [.str d.1, .int d.2]) s1.sto else .exc c' s1
  | r => r
mutual
def evS (Γ : Gam) (W : Nat) : S → EvS
  | .set i e => setN i (evE Γ false e)
  | .setc i e => setC i (evE Γ false e)
  | .sett ts e => setT ts.length (evE Γ false e) (evTgs Γ ts)
  | .par is es => parN is (evEs Γ false es)
  | .setf o f e => setFd (evE Γ false e) (tgF Γ.fld (evE Γ true o) f)
  | .setfc o f e => setFC Γ.fld (evE Γ false e) (evE Γ true o) f
  | .seti o k e => setFd (evE Γ false e) (tgI (evE Γ true o) (evE Γ true k))
  | .aug i op e => augN i op (evE Γ true e)
  | .augf o f op e => augFd Γ.fld (evE Γ true o) f op (evE Γ true e)
  | .augi o k op e => augI (evE Γ true o) (evE Γ true k) op (evE Γ true e)
  | .ex e => exS (evE Γ true e)
  | .ret e => retS (evE Γ false e)
  | .retn => fun s => .rt .non s.sto
  | .ifs c a b => ifS (tst (evE Γ true c)) (evSs Γ W a) (evSs Γ W b)
  | .for tg it b msk => forS tg msk (evIt Γ it) (evSs Γ W b)
  | .whl c b msk => whlF (tst (evE Γ true c)) (evSs Γ W b) msk W
  | .brk => fun s => .bk s
  | .cnt => fun s => .ct s
  | .pas => fun s => .nx s
  | .rais c => fun s => .exc c s
  | .tryx b c n h => match n with
    | none => tryS Γ.exm (evSs Γ W b) c (evSs Γ W h)
    | some _ => fun _ => .stk
  | .nope => fun _ => .stk
  | .tryw b c _ f => trywS Γ.exm (Γ.wh f) (evSs Γ W b) c
def evSs (Γ : Gam) (W : Nat) : Ss → EvS
  | .nil => fun s => .nx s
  | .cons t .nil => evS Γ W t
  | .cons t (.cons t' ts) => seqF (evS Γ W t) (evSs Γ W (.cons t' ts))
end
/-! ### defs -/
structure Fdef where
  /-- how many parameters, how many slots -/
  ar : Nat
  n : Nat
  body : Ss
def runF (Γ : Gam) (W : Nat) (f : Fdef) (args : List D) (S : Store) : RC :=
  if args.length = f.ar then
    match evSs Γ W f.body ⟨args.map .val ++ List.replicate (f.n - f.ar) .un, S⟩ with
    | .nx s => .ok .non s.sto
    | .rt d S => .ok d S
    | .exc c s => .exc c s.sto
    | _ => .stk
  else .stk
structure Prg where
  fn : String → String → Option Fdef
  gc : String → Option D
  sub : String → String → Option Bool
  exm : String → String → Option Bool
  fld : String → String → Bool
  wh : String → String → Option (List Nat × Int)
def Prg.at (P : Prg) (W : Nat) : Nat → Gam
  | 0 => ⟨fun _ _ _ _ => .stk, P.gc, P.sub, P.exm, P.fld, P.wh⟩
  | n + 1 => ⟨fun c f args S => match P.fn c f with
    | some d => runF (P.at W n) W d args S
    | none => .stk, P.gc, P.sub, P.exm, P.fld, P.wh⟩
end Z

set_option Elab.async false
set_option linter.all false
set_option maxRecDepth 100000
set_option maxHeartbeats 4000000
namespace Z
open PySem PySem.Spec PyProof.Rows L2

/-! ### the memory behind data -/
structure Mem where
  H : Hp
  F : Addr → Prop
  ι : List Addr

def sV (x : List Nat) : V := .str ⟨x.toArray⟩
def kD : DK → Key
  | .ki k => .inl k
  | .ks x => .inr ⟨x.toArray⟩

mutual
inductive Rep (m : Mem) : D → V → Prop
  | non : Rep m .non .non
  | bl (b : Bool) : Rep m (.bl b) (.bl b)
  | int (i : Int) : Rep m (.int i) (.int i)
  | str (x : List Nat) : Rep m (.str x) (sV x)
  | tup {ds : List D} {xs : List V} {a : Addr} : m.H a = some (.tup xs) → m.F a → Reps m ds xs → Rep m (.tup ds) (.ref a)
  | lst {ds : List D} {xs : List V} {a : Addr} : m.H a = some (.lst xs) → m.F a → Reps m ds xs → Rep m (.lst ds) (.ref a)
  | dic {ds : List (DK × D)} {xs : List (Key × V)} {a : Addr} : m.H a = some (.dK xs) → m.F a → RepK m ds xs → Rep m (.dic ds) (.ref a)
  | scr {xs : List Int} {a : Addr} : Rd m.H a (.lst (xs.map V.int)) → m.F a → Rep m (.scr xs) (.ref a)
  | obj {n : Nat} {a : Addr} : m.ι[n]? = some a → Rep m (.obj n) (.ref a)
inductive Reps (m : Mem) : List D → List V → Prop
  | nil : Reps m [] []
  | cons {d : D} {v : V} {ds : List D} {vs : List V} : Rep m d v → Reps m ds vs → Reps m (d :: ds) (v :: vs)
inductive RepK (m : Mem) : List (DK × D) → List (Key × V) → Prop
  | nil : RepK m [] []
  | cons {k : DK} {d : D} {v : V} {ds : List (DK × D)} {vs : List (Key × V)} : Rep m d v → RepK m ds vs → RepK m ((k, d) :: ds) ((kD k, v) :: vs)
end
structure Ext (m m' : Mem) : Prop where
  fr : ∀ a, m.F a → m'.F a ∧ m'.H a = m.H a
  io : m.ι <+: m'.ι
theorem Ext.refl (m : Mem) : Ext m m := ⟨fun _ h => ⟨h, rfl⟩, List.prefix_refl _⟩
theorem Ext.trans {a b c : Mem} (x : Ext a b) (y : Ext b c) : Ext a c :=
  ⟨fun p h => ⟨(y.fr p (x.fr p h).1).1, ((y.fr p (x.fr p h).1).2).trans (x.fr p h).2⟩, x.io.trans y.io⟩
theorem prefix_get {α : Type} {l l' : List α} (h : l <+: l') {n : Nat} {a : α} (e : l[n]? = some a) : l'[n]? = some a := by
  obtain ⟨t, rfl⟩ := h
  rw [List.getElem?_append_left (List.getElem?_eq_some_iff.mp e).1]; exact e
theorem rd_same {H H' : Hp} {a : Addr} {u : HO} (r : Rd H a u) (e : H' a = H a) : Rd H' a u := by
  rcases r with r | ⟨o, r⟩
  · exact .inl (e.trans r)
  · exact .inr ⟨o, e.trans r⟩
mutual
theorem Rep.mono {m m' : Mem} (e : Ext m m') : ∀ (d : D) (v : V), Rep m d v → Rep m' d v
  | .non, _, .non => .non
  | .bl b, _, .bl _ => .bl b
  | .int i, _, .int _ => .int i
  | .str x, _, .str _ => .str x
  | .tup ds, _, .tup h f r => .tup ((e.fr _ f).2.trans h) (e.fr _ f).1 (Reps.mono e ds _ r)
  | .lst ds, _, .lst h f r => .lst ((e.fr _ f).2.trans h) (e.fr _ f).1 (Reps.mono e ds _ r)
  | .dic ds, _, .dic h f r => .dic ((e.fr _ f).2.trans h) (e.fr _ f).1 (RepK.mono e ds _ r)
  | .scr xs, _, .scr h f => .scr (rd_same h (e.fr _ f).2) (e.fr _ f).1
  | .obj n, _, .obj h => .obj (prefix_get e.io h)
theorem Reps.mono {m m' : Mem} (e : Ext m m') : ∀ (ds : List D) (vs : List V), Reps m ds vs → Reps m' ds vs
  | [], _, .nil => .nil
  | d :: ds, _, .cons h r => .cons (Rep.mono e d _ h) (Reps.mono e ds _ r)
theorem RepK.mono {m m' : Mem} (e : Ext m m') : ∀ (ds : List (DK × D)) (vs : List (Key × V)), RepK m ds vs → RepK m' ds vs
  | [], _, .nil => .nil
  | (k, d) :: ds, _, .cons h r => .cons (Rep.mono e d _ h) (RepK.mono e ds _ r)
end
theorem Reps.len {m : Mem} : ∀ {ds : List D} {vs : List V}, Reps m ds vs → ds.length = vs.length
  | _, _, .nil => rfl
  | _, _, .cons _ r => congrArg Nat.succ r.len
theorem RepK.len {m : Mem} : ∀ {ds : List (DK × D)} {vs : List (Key × V)}, RepK m ds vs → ds.length = vs.length
  | _, _, .nil => rfl
  | _, _, .cons _ r => congrArg Nat.succ r.len
theorem Reps.get {m : Mem} : ∀ {ds : List D} {vs : List V}, Reps m ds vs → ∀ {i : Nat} {d : D}, ds[i]? = some d → ∃ v, vs[i]? = some v ∧ Rep m d v
  | _, _, .nil, i, d, h => by simp at h
  | _, _, .cons q r, 0, d, h => by simp at h; subst h; exact ⟨_, rfl, q⟩
  | _, _, .cons q r, i + 1, d, h => by
    obtain ⟨v, e, z⟩ := r.get (i := i) (d := d) (by simpa using h)
    exact ⟨v, by simpa using e, z⟩
theorem Reps.append {m : Mem} : ∀ {ds es : List D} {vs ws : List V}, Reps m ds vs → Reps m es ws → Reps m (ds ++ es) (vs ++ ws)
  | _, _, _, _, .nil, h => h
  | _, _, _, _, .cons q r, h => .cons q (r.append h)
theorem Reps.take {m : Mem} : ∀ {ds : List D} {vs : List V} (n : Nat), Reps m ds vs → Reps m (ds.take n) (vs.take n)
  | _, _, 0, _ => .nil
  | _, _, _ + 1, .nil => .nil
  | _, _, n + 1, .cons q r => .cons q (r.take n)
theorem Reps.drop {m : Mem} : ∀ {ds : List D} {vs : List V} (n : Nat), Reps m ds vs → Reps m (ds.drop n) (vs.drop n)
  | _, _, 0, h => h
  | _, _, _ + 1, .nil => .nil
  | _, _, n + 1, .cons q r => r.drop n
theorem Reps.set {m : Mem} {d : D} {v : V} (h : Rep m d v) : ∀ {ds : List D} {vs : List V} (n : Nat), Reps m ds vs → Reps m (ds.set n d) (vs.set n v)
  | _, _, _, .nil => .nil
  | _, _, 0, .cons _ r => .cons h r
  | _, _, n + 1, .cons q r => .cons q (r.set h n)
theorem Reps.rev {m : Mem} : ∀ {ds : List D} {vs : List V}, Reps m ds vs → Reps m ds.reverse vs.reverse
  | _, _, .nil => .nil
  | _, _, .cons q r => by simp only [List.reverse_cons]; exact r.rev.append (.cons q .nil)
theorem Reps.erase {m : Mem} : ∀ {ds : List D} {vs : List V} (n : Nat), Reps m ds vs → Reps m (ds.eraseIdx n) (vs.eraseIdx n)
  | _, _, _, .nil => by simp; exact .nil
  | _, _, 0, .cons _ r => r
  | _, _, n + 1, .cons q r => .cons q (r.erase n)

/-! ### what is held -/
structure MOk (m : Mem) : Prop where
  fz : ∀ a, m.F a → m.H a ≠ none ∧ a ∉ m.ι
  nd : m.ι.Nodup
  io : ∀ a ∈ m.ι, m.H a ≠ none
def OwnAt (m : Mem) : D → Addr → Prop
  | .lst ds, a => ∃ xs, m.H a = some (.lst xs) ∧ Reps m ds xs
  | .dic ds, a => ∃ xs, m.H a = some (.dK xs) ∧ RepK m ds xs
  | _, _ => False
def EntOk (m : Mem) (σ : L2.St) : Ent → Option V → Prop
  | .un, _ => True
  | .val d, v => ∃ x, v = some x ∧ Rep m d x
  | .own d, v => ∃ a, v = some (.ref a) ∧ OwnAt m d a
  | .al i, v => v ≠ none ∧ σ[i]? = some v
abbrev EV := Ent × Option V
def ownA : EV → List Addr
  | (.own _, some (.ref a)) => [a]
  | _ => []
def owns (es : List EV) : List Addr := es.flatMap ownA
structure SR (m : Mem) (G : Addr → Prop) (σ : L2.St) (es : List EV) : Prop where
  ok : ∀ p ∈ es, EntOk m σ p.1 p.2
  nd : (owns es).Nodup
  fr : ∀ a ∈ owns es, ¬ m.F a ∧ a ∉ m.ι ∧ ¬ G a
inductive FldR (m : Mem) : List (String × D) → List (Str × V) → Prop
  | nil : FldR m [] []
  | cons {f : String} {d : D} {v : V} {ds : List (String × D)} {vs : List (Str × V)} : Rep m d v → FldR m ds vs → FldR m ((f, d) :: ds) ((Str.ofString f, v) :: vs)
def CellOk (cl : String → Addr) (m : Mem) (a : Addr) : Cell → Prop
  | .ins c fs => ∃ dx gs, m.H a = some (.ins (cl c) dx gs) ∧ FldR m fs gs
  | .lst ds => ∃ xs, m.H a = some (.lst xs) ∧ Reps m ds xs
  | .dic ds => ∃ xs, m.H a = some (.dK xs) ∧ RepK m ds xs
structure StoOk (cl : String → Addr) (m : Mem) (S : Store) : Prop where
  len : S.length = m.ι.length
  at_ : ∀ (n : Nat) (c : Cell) (a : Addr), S[n]? = some c → m.ι[n]? = some a → CellOk cl m a c
/-- slots stand for no other slot -/
def NoAl (env : List Ent) : Prop := ∀ i, Ent.al i ∉ env
theorem NoAl.set {env : List Ent} {e : Ent} {k : Nat} (h : NoAl env) (he : ∀ i, e ≠ .al i) : NoAl (env.set k e) := fun i z => (List.mem_or_eq_of_mem_set z).elim (h i) fun q => he i q.symm
structure Good (cl : String → Addr) (m : Mem) (G : Addr → Prop) (σ : L2.St) (s : St) (T : List EV) : Prop where
  mo : MOk m
  sr : SR m G σ (s.env.zip σ ++ T)
  ln : s.env.length = σ.length
  st : StoOk cl m s.sto
  gd : ∀ a, G a → m.H a ≠ none ∧ ¬ m.F a ∧ a ∉ m.ι
  na : NoAl s.env
def Prot (G : Addr → Prop) (m m' : Mem) : Prop := ∀ a, G a → m'.H a = m.H a
theorem Prot.trans {G : Addr → Prop} {a b c : Mem} (x : Prot G a b) (y : Prot G b c) : Prot G a c := fun p h => (y p h).trans (x p h)
theorem Prot.refl {G : Addr → Prop} {a : Mem} : Prot G a a := fun _ _ => rfl

theorem FldR.mono {m m' : Mem} (e : Ext m m') : ∀ {fs : List (String × D)} {gs : List (Str × V)}, FldR m fs gs → FldR m' fs gs
  | _, _, .nil => .nil
  | _, _, .cons h r => .cons (Rep.mono e _ _ h) (r.mono e)

/-! ### what an operation on values gives -/
/-- only new things came -/
structure Grow (m m' : Mem) : Prop where
  io : m'.ι = m.ι
  st : ∀ a, m.H a ≠ none → m'.H a = m.H a ∧ (m'.F a ↔ m.F a)
  mo : MOk m'
def EntNew (m m' : Mem) (e : Ent) (v : V) : Prop :=
  match e with
  | .val d => Rep m' d v
  | .own d => ∃ a, v = .ref a ∧ OwnAt m' d a ∧ m.H a = none ∧ ¬ m'.F a
  | _ => False
theorem Grow.refl {m : Mem} (h : MOk m) : Grow m m := ⟨rfl, fun _ _ => ⟨rfl, Iff.rfl⟩, h⟩
theorem Grow.ext {m m' : Mem} (g : Grow m m') (h : MOk m) : Ext m m' :=
  ⟨fun a f => ⟨(g.st a (h.fz a f).1).2.mpr f, (g.st a (h.fz a f).1).1⟩, by rw [g.io]; exact List.prefix_refl _⟩
theorem OwnAt.there {m : Mem} {d : D} {a : Addr} (h : OwnAt m d a) : m.H a ≠ none := by
  cases d with
  | lst ds => obtain ⟨xs, e, _⟩ := h; rw [e]; simp
  | dic ds => obtain ⟨xs, e, _⟩ := h; rw [e]; simp
  | _ => exact h.elim
theorem OwnAt.keep {m m' : Mem} {d : D} {a : Addr} (h : OwnAt m d a) (e : Ext m m') (k : m'.H a = m.H a) : OwnAt m' d a := by
  cases d with
  | lst ds => obtain ⟨xs, q, r⟩ := h; exact ⟨xs, k.trans q, Reps.mono e _ _ r⟩
  | dic ds => obtain ⟨xs, q, r⟩ := h; exact ⟨xs, k.trans q, RepK.mono e _ _ r⟩
  | _ => exact h.elim
theorem CellOk.keep {cl : String → Addr} {m m' : Mem} {c : Cell} {a : Addr} (h : CellOk cl m a c) (e : Ext m m') (k : m'.H a = m.H a) : CellOk cl m' a c := by
  cases c with
  | ins c fs => obtain ⟨dx, gs, q, r⟩ := h; exact ⟨dx, gs, k.trans q, r.mono e⟩
  | lst ds => obtain ⟨xs, q, r⟩ := h; exact ⟨xs, k.trans q, Reps.mono e _ _ r⟩
  | dic ds => obtain ⟨xs, q, r⟩ := h; exact ⟨xs, k.trans q, RepK.mono e _ _ r⟩
theorem mem_owns {es : List EV} {d : D} {a : Addr} (h : (Ent.own d, some (V.ref a)) ∈ es) : a ∈ owns es := List.mem_flatMap.mpr ⟨_, h, by simp [ownA]⟩
theorem of_owns {es : List EV} {a : Addr} (h : a ∈ owns es) : ∃ d, (Ent.own d, some (V.ref a)) ∈ es := by
  obtain ⟨p, hp, q⟩ := List.mem_flatMap.mp h
  obtain ⟨e, v⟩ := p
  unfold ownA at q
  split at q
  · rename_i d b heq
    simp only [List.mem_singleton] at q
    subst q
    cases heq
    exact ⟨_, hp⟩
  · cases q
theorem EntOk.keep {m m' : Mem} {σ : L2.St} {e : Ent} {v : Option V} (h : EntOk m σ e v) (x : Ext m m') (k : ∀ d a, e = .own d → v = some (.ref a) → m'.H a = m.H a) : EntOk m' σ e v := by
  cases e with
  | un => trivial
  | val d => obtain ⟨x', e1, r⟩ := h; exact ⟨x', e1, Rep.mono x _ _ r⟩
  | own d => obtain ⟨a, e1, r⟩ := h; exact ⟨a, e1, r.keep x (k d a rfl e1)⟩
  | al i => exact h
theorem owns_sub {es' es : List EV} (s : es'.Sublist es) : (owns es').Sublist (owns es) := by
  induction s with
  | slnil => exact List.Sublist.refl _
  | cons a _ ih => exact ih.trans (List.sublist_append_right (ownA a) _)
  | cons_cons a _ ih => exact List.Sublist.append (List.Sublist.refl (ownA a)) ih
theorem SR.sub {m : Mem} {G : Addr → Prop} {σ : L2.St} {es es' : List EV} (h : SR m G σ es) (s : es'.Sublist es) : SR m G σ es' :=
  ⟨fun p hp => h.ok p (s.subset hp), h.nd.sublist (owns_sub s), fun a ha => by
    obtain ⟨d, q⟩ := of_owns ha
    exact h.fr a (mem_owns (s.subset q))⟩
theorem Good.sub {cl : String → Addr} {m : Mem} {G : Addr → Prop} {σ : L2.St} {s : St} {T T' : List EV} (h : Good cl m G σ s T) (x : T'.Sublist T) : Good cl m G σ s T' :=
  ⟨h.mo, h.sr.sub (List.Sublist.append (List.Sublist.refl _) x), h.ln, h.st, h.gd, h.na⟩
/-- things that grew only -/
theorem Good.grow {cl : String → Addr} {m m' : Mem} {G : Addr → Prop} {σ : L2.St} {s : St} {T : List EV} (h : Good cl m G σ s T) (g : Grow m m') : Good cl m' G σ s T := by
  have x := g.ext h.mo
  refine ⟨g.mo, ⟨fun p hp => (h.sr.ok p hp).keep x fun d a e1 e2 => ?_, h.sr.nd, fun a ha => ?_⟩, h.ln, ⟨by rw [g.io]; exact h.st.len, fun n c a e1 e2 => ?_⟩, fun a ha => ?_, h.na⟩
  · obtain ⟨pe, pv⟩ := p
    simp only at e1 e2
    subst e1 e2
    obtain ⟨a', e, o⟩ := h.sr.ok _ hp
    cases e
    exact (g.st a o.there).1
  · obtain ⟨d, q⟩ := of_owns ha
    obtain ⟨a', e, o⟩ := h.sr.ok _ q
    cases e
    obtain ⟨f1, f2, f3⟩ := h.sr.fr a ha
    exact ⟨fun f => f1 ((g.st a o.there).2.mp f), by rw [g.io]; exact f2, f3⟩
  · rw [g.io] at e2
    exact (h.st.at_ n c a e1 e2).keep x (g.st a (h.mo.io a (List.mem_of_getElem? e2))).1
  · obtain ⟨q1, q2, q3⟩ := h.gd a ha
    exact ⟨by rw [(g.st a q1).1]; exact q1, fun f => q2 ((g.st a q1).2.mp f), by rw [g.io]; exact q3⟩
theorem owns_append (a b : List EV) : owns (a ++ b) = owns a ++ owns b := List.flatMap_append
/-- .. and one thing more on the way -/
theorem Good.new {cl : String → Addr} {m m' : Mem} {G : Addr → Prop} {σ : L2.St} {s : St} {T : List EV} {e : Ent} {v : V} (h : Good cl m G σ s T) (g : Grow m m') (n : EntNew m m' e v) : Good cl m' G σ s (T ++ [(e, some v)]) := by
  have h' := h.grow g
  refine ⟨h'.mo, ?_, h'.ln, h'.st, h'.gd, h'.na⟩
  rw [← List.append_assoc]
  have key : EntOk m' σ e (some v) ∧ ∀ a ∈ ownA (e, some v), m.H a = none ∧ ¬ m'.F a := by
    cases e with
    | un => exact n.elim
    | al i => exact n.elim
    | val d => exact ⟨⟨v, rfl, n⟩, fun a q => by simp [ownA] at q⟩
    | own d =>
      obtain ⟨a, rfl, o, hn, hf⟩ := n
      exact ⟨⟨a, rfl, o⟩, fun b q => by simp [ownA] at q; subst q; exact ⟨hn, hf⟩⟩
  have old : ∀ a ∈ owns (s.env.zip σ ++ T), m.H a ≠ none := fun a ha => by
    obtain ⟨d, q⟩ := of_owns ha
    obtain ⟨a', e, o⟩ := h.sr.ok _ q
    cases e
    exact o.there
  refine ⟨fun p hp => ?_, ?_, fun a ha => ?_⟩
  · rcases List.mem_append.mp hp with hp | hp
    · exact h'.sr.ok p hp
    · simp only [List.mem_singleton] at hp
      subst hp
      exact key.1
  · rw [owns_append, List.nodup_append]
    refine ⟨h'.sr.nd, ?_, fun a ha b hb z => ?_⟩
    · cases e <;> simp [owns, ownA] <;> cases v <;> simp
    · subst z
      have hb' : a ∈ ownA (e, some v) := by simpa [owns] using hb
      exact old a ha (key.2 a hb').1
  · rw [owns_append] at ha
    rcases List.mem_append.mp ha with ha | ha
    · exact h'.sr.fr a ha
    · have hb' : a ∈ ownA (e, some v) := by simpa [owns] using ha
      obtain ⟨k1, k2⟩ := key.2 a hb'
      refine ⟨k2, fun z => ?_, fun z => (h.gd a z).1 k1⟩
      rw [g.io] at z
      exact h.mo.io a z k1
theorem Good.prot {cl : String → Addr} {m m' : Mem} {G : Addr → Prop} {σ : L2.St} {s : St} {T : List EV} (h : Good cl m G σ s T) (g : Grow m m') : Prot G m m' := fun a ha => (g.st a (h.gd a ha).1).1

/-! ### reading what a thing on the way stands for -/
def RepB (m : Mem) : D → V → Prop
  | .lst ds, v => ∃ a xs, v = .ref a ∧ m.H a = some (.lst xs) ∧ Reps m ds xs
  | .dic ds, v => ∃ a xs, v = .ref a ∧ m.H a = some (.dK xs) ∧ RepK m ds xs
  | d, v => Rep m d v
theorem Rep.b {m : Mem} {d : D} {v : V} (h : Rep m d v) : RepB m d v := by
  cases h with
  | lst h f r => exact ⟨_, _, rfl, h, r⟩
  | dic h f r => exact ⟨_, _, rfl, h, r⟩
  | non => exact .non
  | bl => exact .bl _
  | int => exact .int _
  | str => exact .str _
  | tup h f r => exact .tup h f r
  | scr h f => exact .scr h f
  | obj h => exact .obj h
theorem OwnAt.b {m : Mem} {d : D} {a : Addr} (h : OwnAt m d a) : RepB m d (.ref a) := by
  cases d with
  | lst ds => obtain ⟨xs, q, r⟩ := h; exact ⟨a, xs, rfl, q, r⟩
  | dic ds => obtain ⟨xs, q, r⟩ := h; exact ⟨a, xs, rfl, q, r⟩
  | _ => exact h.elim
theorem zip_get {α β : Type} {l : List α} {k : List β} {i : Nat} {a : α} {b : β} (h1 : l[i]? = some a) (h2 : k[i]? = some b) : (a, b) ∈ l.zip k := by
  have : (l.zip k)[i]? = some (a, b) := by rw [List.getElem?_zip_eq_some]; exact ⟨h1, h2⟩
  exact List.mem_of_getElem? this
theorem Good.res {cl : String → Addr} {m : Mem} {G : Addr → Prop} {σ : L2.St} {s : St} {T : List EV} {r : Ent} {v : V} {d : D} (h : Good cl m G σ s T) (hm : (r, some v) ∈ T) (e : Z.res s r = some d) : RepB m d v := by
  have o := h.sr.ok _ (List.mem_append_right _ hm)
  cases r with
  | un => cases e
  | val d' =>
    cases e
    obtain ⟨x, e1, q⟩ := o
    cases e1
    exact q.b
  | own d' =>
    cases e
    obtain ⟨a, e1, q⟩ := o
    cases e1
    exact q.b
  | al i =>
    obtain ⟨_, o⟩ := o
    unfold Z.res at e
    simp only at e
    split at e
    · rename_i d' he
      cases e
      have o2 := h.sr.ok _ (List.mem_append_left _ (zip_get he o))
      obtain ⟨a, e1, q⟩ := o2
      cases e1
      exact q.b
    · cases e

/-! ### letting go of holding alone -/
def Mem.add (m : Mem) (a : Addr) : Mem := ⟨m.H, fun b => m.F b ∨ b = a, m.ι⟩
theorem OwnAt.rep {m : Mem} {d : D} {a : Addr} (h : OwnAt m d a) (f : m.F a) : Rep m d (.ref a) := by
  cases d with
  | lst ds => obtain ⟨xs, q, r⟩ := h; exact .lst q f r
  | dic ds => obtain ⟨xs, q, r⟩ := h; exact .dic q f r
  | _ => exact h.elim
theorem Ext.add {m : Mem} {a : Addr} : Ext m (m.add a) := ⟨fun _ f => ⟨.inl f, rfl⟩, List.prefix_refl _⟩
/-- one held thing among others is let go of -/
theorem SR.let {m : Mem} {G : Addr → Prop} {σ : L2.St} {A B : List EV} {d : D} {a : Addr} (h : SR m G σ (A ++ (.own d, some (.ref a)) :: B)) : SR (m.add a) G σ (A ++ (.val d, some (.ref a)) :: B) := by
  have nd := h.nd
  rw [owns_append] at nd
  have e1 : owns ((Ent.own d, some (V.ref a)) :: B) = a :: owns B := rfl
  have e2 : owns ((Ent.val d, some (V.ref a)) :: B) = owns B := rfl
  rw [e1] at nd
  have nd2 := nd
  rw [List.nodup_append] at nd2
  obtain ⟨n1, n2, n3⟩ := nd2
  have na : a ∉ owns B := (List.nodup_cons.mp n2).1
  have nA : a ∉ owns A := fun z => n3 a z a List.mem_cons_self rfl
  refine ⟨fun p hp => ?_, ?_, fun b hb => ?_⟩
  · rcases List.mem_append.mp hp with hp | hp
    · exact (h.ok p (List.mem_append_left _ hp)).keep Ext.add fun _ _ _ _ => rfl
    · rcases List.mem_cons.mp hp with hp | hp
      · subst hp
        obtain ⟨a', e, o⟩ := h.ok (.own d, some (.ref a)) (List.mem_append_right _ List.mem_cons_self)
        cases e
        exact ⟨_, rfl, (o.keep Ext.add rfl).rep (.inr rfl)⟩
      · exact (h.ok p (List.mem_append_right _ (List.mem_cons_of_mem _ hp))).keep Ext.add fun _ _ _ _ => rfl
  · rw [owns_append, e2, List.nodup_append]
    exact ⟨n1, (List.nodup_cons.mp n2).2, fun x hx y hy => n3 x hx y (List.mem_cons_of_mem _ hy)⟩
  · have hb2 : b ∈ owns (A ++ (.own d, some (.ref a)) :: B) ∧ b ≠ a := by
      rw [owns_append, e2] at hb
      rw [owns_append, e1]
      rcases List.mem_append.mp hb with q | q
      · exact ⟨List.mem_append_left _ q, fun z => nA (z ▸ q)⟩
      · exact ⟨List.mem_append_right _ (List.mem_cons_of_mem _ q), fun z => na (z ▸ q)⟩
    obtain ⟨f1, f2, f3⟩ := h.fr b hb2.1
    exact ⟨fun f => f.elim f1 hb2.2, f2, f3⟩
theorem MOk.add {m : Mem} {a : Addr} (h : MOk m) (ha : m.H a ≠ none) (hi : a ∉ m.ι) : MOk (m.add a) :=
  ⟨fun b f => f.elim (h.fz b) fun e => by subst e; exact ⟨ha, hi⟩, h.nd, h.io⟩
theorem StoOk.add {cl : String → Addr} {m : Mem} {S : Store} {a : Addr} (h : StoOk cl m S) : StoOk cl (m.add a) S := ⟨h.len, fun n c b e1 e2 => (h.at_ n c b e1 e2).keep Ext.add rfl⟩
theorem Good.let {cl : String → Addr} {m : Mem} {G : Addr → Prop} {σ : L2.St} {s : St} {A B : List EV} {d : D} {a : Addr} (h : Good cl m G σ s (A ++ (.own d, some (.ref a)) :: B)) : Good cl (m.add a) G σ s (A ++ (.val d, some (.ref a)) :: B) := by
  have sr := h.sr
  rw [← List.append_assoc] at sr
  have ha : a ∈ owns ((s.env.zip σ ++ A) ++ (.own d, some (.ref a)) :: B) := mem_owns (d := d) (List.mem_append_right _ List.mem_cons_self)
  obtain ⟨f1, f2, f3⟩ := sr.fr a ha
  obtain ⟨a', e, o⟩ := sr.ok (.own d, some (.ref a)) (List.mem_append_right _ List.mem_cons_self)
  cases e
  have sr2 := sr.let
  rw [List.append_assoc] at sr2
  exact ⟨h.mo.add o.there f2, sr2, h.ln, h.st.add, fun b hb => let ⟨q1, q2, q3⟩ := h.gd b hb; ⟨q1, fun f => f.elim q2 fun e => f3 (e ▸ hb), q3⟩, h.na⟩
/-- one thing on the way frozen -/
theorem Good.frz {cl : String → Addr} {m : Mem} {G : Addr → Prop} {σ : L2.St} {s : St} {A B : List EV} {r : Ent} {v : V} {d : D} (h : Good cl m G σ s (A ++ (r, some v) :: B)) (e : Z.frz r = some d) :
    ∃ m', m'.H = m.H ∧ m'.ι = m.ι ∧ Ext m m' ∧ Good cl m' G σ s (A ++ (.val d, some v) :: B) := by
  cases r with
  | un => cases e
  | al i => cases e
  | val d' => cases e; exact ⟨m, rfl, rfl, Ext.refl _, h⟩
  | own d' =>
    cases e
    obtain ⟨a, e, o⟩ := h.sr.ok (.own d, some v) (List.mem_append_right _ (List.mem_append_right _ List.mem_cons_self))
    cases e
    exact ⟨m.add a, rfl, rfl, Ext.add, h.let⟩
theorem Good.frzL {cl : String → Addr} {G : Addr → Prop} {σ : L2.St} {s : St} : ∀ {rs : List Ent} {vs : List V} {ds : List D} {m : Mem} {A : List EV}, Good cl m G σ s (A ++ rs.zip (vs.map some)) → rs.length = vs.length → Z.frzL rs = some ds →
    ∃ m', m'.H = m.H ∧ m'.ι = m.ι ∧ Ext m m' ∧ Good cl m' G σ s (A ++ (ds.map Ent.val).zip (vs.map some)) ∧ Reps m' ds vs
  | [], [], ds, m, A, h, _, e => by
    cases e
    exact ⟨m, rfl, rfl, Ext.refl _, h, .nil⟩
  | r :: rs, v :: vs, ds, m, A, h, l, e => by
    unfold Z.frzL at e
    split at e
    · rename_i d hd
      cases q : Z.frzL rs with
      | none => rw [q] at e; cases e
      | some ds' =>
        rw [q] at e
        cases e
        obtain ⟨m1, e1, i1, x1, g1⟩ := Good.frz (A := A) (B := rs.zip (vs.map some)) h hd
        have g1' : Good cl m1 G σ s ((A ++ [(Ent.val d, some v)]) ++ rs.zip (vs.map some)) := by rw [List.append_assoc]; exact g1
        obtain ⟨m2, e2, i2, x2, g2, r2⟩ := Good.frzL (rs := rs) (vs := vs) g1' (by simpa using l) q
        refine ⟨m2, e2.trans e1, i2.trans i1, x1.trans x2, by rw [List.append_assoc] at g2; exact g2, .cons ?_ r2⟩
        obtain ⟨x, ex, rx⟩ := g2.sr.ok (.val d, some v) (List.mem_append_right _ (List.mem_append_left _ (List.mem_append_right _ List.mem_cons_self)))
        cases ex
        exact rx
    · cases e
  | [], _ :: _, _, _, _, _, l, _ => by simp at l
  | _ :: _, [], _, _, _, _, l, _ => by simp at l
end Z

set_option Elab.async false
set_option linter.all false
set_option maxRecDepth 100000
set_option maxHeartbeats 4000000
namespace Z
open PySem PySem.Spec PyProof.Rows L2

/-! ### readings by the evaluator -/
section
variable (cl : String → Addr) (W : WX) (G : Addr → Prop) (σ : L2.St) (T : List EV) (m : Mem)
def excP (c : String) (s' : St) : Prop := ∀ m', Ext m m' → Prot G m m' → Good cl m' G σ s' T → W (.ref (cl c)) none σ m'.H
def okE (Q : VK) : R Ent → Prop
  | .ok r s' => ∀ v m', Ext m m' → Prot G m m' → Good cl m' G σ s' (T ++ [(r, some v)]) → Q v m'.H
  | .exc c s' => excP cl W G σ T m c s'
  | .stk => False
def okB (Q : Bool → Hp → Prop) : R Bool → Prop
  | .ok b s' => ∀ m', Ext m m' → Prot G m m' → Good cl m' G σ s' T → Q b m'.H
  | .exc c s' => excP cl W G σ T m c s'
  | .stk => False
def okA (Q : List V → Hp → Prop) : R (List Ent) → Prop
  | .ok rs s' => ∀ vs m', Ext m m' → Prot G m m' → rs.length = vs.length → Good cl m' G σ s' (T ++ rs.zip (vs.map some)) → Q vs m'.H
  | .exc c s' => excP cl W G σ T m c s'
  | .stk => False
def okO (Q : Option Int → Hp → Prop) : R (Option Int) → Prop
  | .ok o s' => ∀ m', Ext m m' → Prot G m m' → Good cl m' G σ s' T → Q o m'.H
  | .exc c s' => excP cl W G σ T m c s'
  | .stk => False
end
section
variable (cl : String → Addr) (W : WX)
def tM (ev : Ev) : TE := fun σ H Q => ∃ (s : St) (m : Mem) (G : Addr → Prop) (T : List EV), m.H = H ∧ Good cl m G σ s T ∧ okE cl W G σ T m Q (ev s)
def tMB (ev : EvB) : TT := fun σ H Q => ∃ (s : St) (m : Mem) (G : Addr → Prop) (T : List EV), m.H = H ∧ Good cl m G σ s T ∧ okB cl W G σ T m Q (ev s)
def tMA (ev : EvL) : TA := fun σ H Q => ∃ (s : St) (m : Mem) (G : Addr → Prop) (T : List EV), m.H = H ∧ Good cl m G σ s T ∧ okA cl W G σ T m Q (ev s)
def tMO (ev : St → R (Option Int)) : TO := fun σ H Q => ∃ (s : St) (m : Mem) (G : Addr → Prop) (T : List EV), m.H = H ∧ Good cl m G σ s T ∧ okO cl W G σ T m Q (ev s)
end
theorem PE.imp {X : Cx} {e : Expr} {t t' : TE} (h : L2.PE X e t) (i : ∀ σ H Q, t' σ H Q → t σ H Q) : L2.PE X e t' := ⟨fun pins s σ H Q I q => h.run pins s σ H Q I (i σ H Q q)⟩
theorem PT.imp {X : Cx} {e : Expr} {t t' : TT} (h : L2.PT X e t) (i : ∀ σ H Q, t' σ H Q → t σ H Q) : L2.PT X e t' := ⟨fun pins s σ H Q I q => h.run pins s σ H Q I (i σ H Q q)⟩
theorem PW.imp {X : Cx} {e : Expr} {t t' : TT} (h : L2.PW X e t) (i : ∀ σ H Q, t' σ H Q → t σ H Q) : L2.PW X e t' := ⟨fun w pins s σ H Q I q => h.run w pins s σ H Q I (i σ H Q q)⟩
theorem PA.imp {X : Cx} {e : List Expr} {t t' : TA} (h : L2.PA X e t) (i : ∀ σ H Q, t' σ H Q → t σ H Q) : L2.PA X e t' := ⟨fun p pins s σ H Q I q => h.run p pins s σ H Q I (i σ H Q q)⟩
theorem PS.imp {X : Cx} {e : Stmt} {t t' : TS} (h : L2.PS X e t) (i : ∀ D σ H, t' D σ H → t D σ H) : L2.PS X e t' := ⟨fun pins s σ H D I q => h.run pins s σ H D I (i D σ H q)⟩
theorem PSs.imp {X : Cx} {e : List Stmt} {t t' : TS} (h : L2.PSs X e t) (i : ∀ D σ H, t' D σ H → t D σ H) : L2.PSs X e t' := ⟨fun pins s σ H D I q => h.run pins s σ H D I (i D σ H q)⟩
theorem PO.imp {X : Cx} {e : Option Expr} {t t' : TO} (h : L2.PO X e t) (i : ∀ σ H Q, t' σ H Q → t σ H Q) : L2.PO X e t' := ⟨fun pins s σ H Q I q => h.run pins s σ H Q I (i σ H Q q)⟩
/-- what is wanted of an end: of an exception as told, never stuck -/
structure Want {β : Type} (cl : String → Addr) (W : WX) (G : Addr → Prop) (σ : L2.St) (T : List EV) (m : Mem) (K : R β → Prop) : Prop where
  exc : ∀ c s', K (.exc c s') → excP cl W G σ T m c s'
  stk : ¬ K .stk
section
variable {cl : String → Addr} {W : WX} {G : Addr → Prop} {σ : L2.St} {T T1 : List EV} {m m1 : Mem}
theorem want_E {Q : VK} : Want cl W G σ T m (okE cl W G σ T m Q) := ⟨fun _ _ h => h, fun h => h⟩
theorem want_B {Q : Bool → Hp → Prop} : Want cl W G σ T m (okB cl W G σ T m Q) := ⟨fun _ _ h => h, fun h => h⟩
theorem want_A {Q : List V → Hp → Prop} : Want cl W G σ T m (okA cl W G σ T m Q) := ⟨fun _ _ h => h, fun h => h⟩
theorem want_O {Q : Option Int → Hp → Prop} : Want cl W G σ T m (okO cl W G σ T m Q) := ⟨fun _ _ h => h, fun h => h⟩
/-- the first part of a way: an expression -/
theorem tM_then {β : Type} {K : R β → Prop} {s : St} {ev : Ev} {f : Ent → St → R β} {Q1 : VK} (wk : Want cl W G σ T m K) (h : Good cl m1 G σ s T1) (hT : T.Sublist T1) (x : Ext m m1) (p : Prot G m m1) (q : K ((ev s).bind f))
    (k : ∀ r s2 y m2, Ext m1 m2 → Prot G m1 m2 → Good cl m2 G σ s2 (T1 ++ [(r, some y)]) → K (f r s2) → Q1 y m2.H) : tM cl W ev σ m1.H Q1 := by
  refine ⟨s, m1, G, T1, rfl, h, ?_⟩
  cases e : ev s with
  | ok r s2 =>
    rw [e] at q
    exact fun v m2 x2 p2 g2 => k r s2 v m2 x2 p2 g2 q
  | exc c s2 =>
    rw [e] at q
    exact fun m2 x2 p2 g2 => wk.exc c s2 q m2 (x.trans x2) (p.trans p2) (g2.sub hT)
  | stk =>
    rw [e] at q
    exact wk.stk q
theorem tMB_then {β : Type} {K : R β → Prop} {s : St} {ev : EvB} {f : Bool → St → R β} {Q1 : Bool → Hp → Prop} (wk : Want cl W G σ T m K) (h : Good cl m1 G σ s T1) (hT : T.Sublist T1) (x : Ext m m1) (p : Prot G m m1) (q : K ((ev s).bind f))
    (k : ∀ b s2 m2, Ext m1 m2 → Prot G m1 m2 → Good cl m2 G σ s2 T1 → K (f b s2) → Q1 b m2.H) : tMB cl W ev σ m1.H Q1 := by
  refine ⟨s, m1, G, T1, rfl, h, ?_⟩
  cases e : ev s with
  | ok r s2 =>
    rw [e] at q
    exact fun m2 x2 p2 g2 => k r s2 m2 x2 p2 g2 q
  | exc c s2 =>
    rw [e] at q
    exact fun m2 x2 p2 g2 => wk.exc c s2 q m2 (x.trans x2) (p.trans p2) (g2.sub hT)
  | stk =>
    rw [e] at q
    exact wk.stk q
theorem tMA_then {β : Type} {K : R β → Prop} {s : St} {ev : EvL} {f : List Ent → St → R β} {Q1 : List V → Hp → Prop} (wk : Want cl W G σ T m K) (h : Good cl m1 G σ s T1) (hT : T.Sublist T1) (x : Ext m m1) (p : Prot G m m1) (q : K ((ev s).bind f))
    (k : ∀ rs s2 ys m2, Ext m1 m2 → Prot G m1 m2 → rs.length = ys.length → Good cl m2 G σ s2 (T1 ++ rs.zip (ys.map some)) → K (f rs s2) → Q1 ys m2.H) : tMA cl W ev σ m1.H Q1 := by
  refine ⟨s, m1, G, T1, rfl, h, ?_⟩
  cases e : ev s with
  | ok r s2 =>
    rw [e] at q
    exact fun v m2 x2 p2 l g2 => k r s2 v m2 x2 p2 l g2 q
  | exc c s2 =>
    rw [e] at q
    exact fun m2 x2 p2 g2 => wk.exc c s2 q m2 (x.trans x2) (p.trans p2) (g2.sub hT)
  | stk =>
    rw [e] at q
    exact wk.stk q
theorem tMO_then {β : Type} {K : R β → Prop} {s : St} {ev : St → R (Option Int)} {f : Option Int → St → R β} {Q1 : Option Int → Hp → Prop} (wk : Want cl W G σ T m K) (h : Good cl m1 G σ s T1) (hT : T.Sublist T1) (x : Ext m m1) (p : Prot G m m1) (q : K ((ev s).bind f))
    (k : ∀ b s2 m2, Ext m1 m2 → Prot G m1 m2 → Good cl m2 G σ s2 T1 → K (f b s2) → Q1 b m2.H) : tMO cl W ev σ m1.H Q1 := by
  refine ⟨s, m1, G, T1, rfl, h, ?_⟩
  cases e : ev s with
  | ok r s2 =>
    rw [e] at q
    exact fun m2 x2 p2 g2 => k r s2 m2 x2 p2 g2 q
  | exc c s2 =>
    rw [e] at q
    exact fun m2 x2 p2 g2 => wk.exc c s2 q m2 (x.trans x2) (p.trans p2) (g2.sub hT)
  | stk =>
    rw [e] at q
    exact wk.stk q
theorem want_opt {α β : Type} {K : R β → Prop} (wk : Want cl W G σ T m K) {x : Option α} {f : α → R β} (h : K (opt x f)) : ∃ a, x = some a ∧ K (f a) := by
  cases x with
  | none => exact (wk.stk h).elim
  | some a => exact ⟨a, rfl, h⟩
theorem want_O' {Q : VK} {x : Option Ent} {s : St} (h : okE cl W G σ T m Q (O x s)) : ∃ r, x = some r ∧ okE cl W G σ T m Q (.ok r s) := by
  cases x with
  | none => exact h.elim
  | some a => exact ⟨a, rfl, h⟩
theorem want_toBe {β : Type} {K : R β → Prop} (wk : Want cl W G σ T m K) {r : Ent} {s : St} {f : Bool → St → R β} (h : K ((toBe r s).bind f)) : ∃ b, r = .val (.bl b) ∧ K (f b s) := by
  unfold toBe at h
  split at h
  · exact ⟨_, rfl, h⟩
  · exact (wk.stk h).elim
end

/-! ### one thing more on the way, nothing else new -/
theorem Good.val {cl : String → Addr} {m : Mem} {G : Addr → Prop} {σ : L2.St} {s : St} {T : List EV} {d : D} {v : V} (h : Good cl m G σ s T) (r : Rep m d v) : Good cl m G σ s (T ++ [(.val d, some v)]) := h.new (Grow.refl h.mo) r
theorem Good.al {cl : String → Addr} {m : Mem} {G : Addr → Prop} {σ : L2.St} {s : St} {T : List EV} {i : Nat} {v : V} (h : Good cl m G σ s T) (e : σ[i]? = some (some v)) : Good cl m G σ s (T ++ [(.al i, some v)]) := by
  refine ⟨h.mo, ?_, h.ln, h.st, h.gd, h.na⟩
  rw [← List.append_assoc]
  refine ⟨fun p hp => ?_, ?_, fun a ha => ?_⟩
  · rcases List.mem_append.mp hp with hp | hp
    · exact h.sr.ok p hp
    · simp only [List.mem_singleton] at hp
      subst hp
      exact ⟨by simp, e⟩
  · rw [owns_append]
    show (owns _ ++ []).Nodup
    rw [List.append_nil]
    exact h.sr.nd
  · rw [owns_append] at ha
    rcases List.mem_append.mp ha with ha | ha
    · exact h.sr.fr a ha
    · cases ha
theorem zip_split {α β : Type} : ∀ {l : List α} {k : List β} {i : Nat} {a : α} {b : β}, l[i]? = some a → k[i]? = some b → ∃ A B, l.zip k = A ++ (a, b) :: B ∧ ∀ a', (l.set i a').zip k = A ++ (a', b) :: B
  | [], _, _, _, _, h, _ => by simp at h
  | _ :: _, [], _, _, _, _, h => by simp at h
  | x :: l, y :: k, 0, a, b, h1, h2 => by
    simp at h1 h2
    subst h1 h2
    exact ⟨[], l.zip k, rfl, fun a' => rfl⟩
  | x :: l, y :: k, i + 1, a, b, h1, h2 => by
    obtain ⟨A, B, e1, e2⟩ := zip_split (l := l) (k := k) (i := i) (a := a) (b := b) (by simpa using h1) (by simpa using h2)
    exact ⟨(x, y) :: A, B, by simp [e1], fun a' => by simp [e2]⟩
theorem Good.slot {cl : String → Addr} {m : Mem} {G : Addr → Prop} {σ : L2.St} {s : St} {T : List EV} {i : Nat} {e : Ent} (h : Good cl m G σ s T) (he : s.env[i]? = some e) : ∃ v, σ[i]? = some v ∧ EntOk m σ e v := by
  have hl : i < σ.length := by
    have := (List.getElem?_eq_some_iff.mp he).1
    have := h.ln
    omega
  exact ⟨σ[i], List.getElem?_eq_getElem hl, h.sr.ok _ (List.mem_append_left _ (zip_get he (List.getElem?_eq_getElem hl)))⟩

section
variable {X : Cx} {cl : String → Addr} {W : WX}
/-! ### names, constants -/
theorem fe_var {i : Nat} {bw : Bool} {e : Expr} (h : L2.PE X e (tVar i)) : L2.PE X e (tM cl W fun s => rd s bw i) := by
  refine PE.imp h fun σ H Q => ?_
  rintro ⟨s, m, G, T, rfl, g, q⟩
  change okE cl W G σ T m Q (rd s bw i) at q
  unfold rd at q
  cases he : s.env[i]? with
  | none => rw [he] at q; exact q.elim
  | some en =>
    rw [he] at q
    cases en with
    | un => exact q.elim
    | al j => exact q.elim
    | val d =>
      obtain ⟨v, hv, x, rfl, r⟩ := g.slot he
      exact ⟨x, hv, q x m (Ext.refl _) Prot.refl (g.val r)⟩
    | own d =>
      obtain ⟨v, hv, a, rfl, r⟩ := g.slot he
      refine ⟨.ref a, hv, ?_⟩
      cases bw with
      | true => exact q (.ref a) m (Ext.refl _) Prot.refl (g.al hv)
      | false =>
        have q : ∀ v m', Ext m m' → Prot G m m' → Good cl m' G σ (put s i (.val d)) (T ++ [(.val d, some v)]) → Q v m'.H := q
        obtain ⟨A, B, e1, e2⟩ := zip_split he hv
        have sr := g.sr
        rw [e1, List.append_assoc, List.cons_append] at sr
        have ha : a ∈ owns (A ++ (.own d, some (.ref a)) :: (B ++ T)) := mem_owns (List.mem_append_right _ List.mem_cons_self)
        obtain ⟨f1, f2, f3⟩ := sr.fr a ha
        have sr2 := sr.let
        have gg : Good cl (m.add a) G σ (put s i (.val d)) T := by
          refine ⟨g.mo.add r.there f2, ?_, ?_, g.st.add, fun b hb => ?_, g.na.set (fun _ z => nomatch z)⟩
          · show SR _ G σ ((s.env.set i (.val d)).zip σ ++ T)
            rw [e2, List.append_assoc, List.cons_append]
            exact sr2
          · show (s.env.set i (.val d)).length = _
            rw [List.length_set]; exact g.ln
          · obtain ⟨q1, q2, q3⟩ := g.gd b hb
            exact ⟨q1, fun f => f.elim q2 fun e => f3 (e ▸ hb), q3⟩
        exact q (.ref a) (m.add a) Ext.add (fun _ _ => rfl) (gg.val ((r.keep Ext.add rfl).rep (.inr rfl)))
theorem fe_cst {d : D} {v : V} {e : Expr} (h : L2.PE X e (tC v)) (hr : ∀ m, Rep m d v) : L2.PE X e (tM cl W fun s => .ok (.val d) s) := by
  refine PE.imp h fun σ H Q => ?_
  rintro ⟨s, m, G, T, rfl, g, q⟩
  exact q v m (Ext.refl _) Prot.refl (g.val (hr m))

/-! ### operators -/
/-- a two-place reading by values follows f -/
def Op2 (cl : String → Addr) (r : R2) (f : Store → D → D → Option Ent) : Prop := ∀ (m : Mem) (S : Store) (dx dy : D) (x y : V) (ent : Ent) (Q : VK), MOk m → StoOk cl m S → RepB m dx x → RepB m dy y → f S dx dy = some ent →
  (∀ v m', Grow m m' → EntNew m m' ent v → Q v m'.H) → r x y m.H Q
theorem sub1 {T : List EV} {a : EV} : T.Sublist (T ++ [a]) := List.sublist_append_left _ _
theorem sub2 {T : List EV} {a b : EV} : T.Sublist (T ++ [a] ++ [b]) := sub1.trans sub1
/-- the end of a way: an operation's answer -/
theorem okE.fin {G : Addr → Prop} {σ : L2.St} {T T1 : List EV} {m m1 : Mem} {Q : VK} {r : Ent} {s : St} (q : okE cl W G σ T m Q (.ok r s)) (x : Ext m m1) (p : Prot G m m1) (g : Good cl m1 G σ s T1) (hT : T.Sublist T1) :
    ∀ v m', Grow m1 m' → EntNew m1 m' r v → Q v m'.H := fun v m' gr n => q v m' (x.trans (gr.ext g.mo)) (p.trans (g.prot gr)) ((g.sub hT).new gr n)
theorem tOp_of {r : R2} {f : Store → D → D → Option Ent} {a b : Ev} (ho : Op2 cl r f) {σ : L2.St} {H : Hp} {Q : VK} (h : tM cl W (bnd2 a b fun s x y => O (f s.sto x y) s) σ H Q) : tOp r (tM cl W a) (tM cl W b) σ H Q := by
  obtain ⟨s, m, G, T, rfl, g, q⟩ := h
  refine tM_then want_E g (List.Sublist.refl _) (Ext.refl _) Prot.refl q fun r1 s1 x m1 x1 p1 g1 q1 => ?_
  refine tM_then want_E g1 sub1 x1 p1 q1 fun r2 s2 y m2 x2 p2 g2 q2 => ?_
  obtain ⟨dx, ex, q3⟩ := want_opt want_E q2
  obtain ⟨dy, ey, q4⟩ := want_opt want_E q3
  obtain ⟨en, ee, q5⟩ := want_O' q4
  have bx := g2.res (r := r1) (v := x) (by simp) ex
  have bY := g2.res (r := r2) (v := y) (by simp) ey
  exact ho m2 s2.sto dx dy x y en Q g2.mo g2.st bx bY ee (q5.fin (x1.trans x2) (p1.trans p2) g2 sub2)
def Op1 (cl : String → Addr) (r : V → Hp → VK → Prop) (f : Store → D → Option Ent) : Prop := ∀ (m : Mem) (S : Store) (dx : D) (x : V) (ent : Ent) (Q : VK), MOk m → StoOk cl m S → RepB m dx x → f S dx = some ent →
  (∀ v m', Grow m m' → EntNew m m' ent v → Q v m'.H) → r x m.H Q
theorem tUn_of {r : V → Hp → VK → Prop} {f : Store → D → Option Ent} {a : Ev} (ho : Op1 cl r f) {σ : L2.St} {H : Hp} {Q : VK} (h : tM cl W (bnd1 a fun s x => O (f s.sto x) s) σ H Q) : tUn r (tM cl W a) σ H Q := by
  obtain ⟨s, m, G, T, rfl, g, q⟩ := h
  refine tM_then want_E g (List.Sublist.refl _) (Ext.refl _) Prot.refl q fun r1 s1 x m1 x1 p1 g1 q1 => ?_
  obtain ⟨dx, ex, q3⟩ := want_opt want_E q1
  obtain ⟨en, ee, q5⟩ := want_O' q3
  have bx := g1.res (r := r1) (v := x) (by simp) ex
  exact ho m1 s1.sto dx x en Q g1.mo g1.st bx ee (q5.fin x1 p1 g1 sub1)
/-- comparisons: what comes is a bool -/
def Cmp2 (cl : String → Addr) (r : R2) (f : Store → D → D → Option Bool) : Prop := ∀ (m : Mem) (S : Store) (dx dy : D) (x y : V) (b : Bool) (Q : VK), StoOk cl m S → RepB m dx x → RepB m dy y → f S dx dy = some b → Q (.bl b) m.H → r x y m.H Q
end
end Z

set_option Elab.async false
set_option linter.all false
set_option maxRecDepth 100000
set_option maxHeartbeats 4000000
namespace Z
open PySem PySem.Spec PyProof.Rows L2

theorem bind_assoc' {α β γ : Type} (x : R α) (f : α → St → R β) (g : β → St → R γ) : (x.bind f).bind g = x.bind fun a s => (f a s).bind g := by cases x <;> rfl
theorem opt_bind {α β γ : Type} (x : Option α) (f : α → R β) (g : β → St → R γ) : (opt x f).bind g = opt x fun a => (f a).bind g := by cases x <;> rfl
theorem ok_bind {β γ : Type} (a : β) (s : St) (g : β → St → R γ) : (R.ok a s).bind g = g a s := rfl
theorem bind_ok {α : Type} (x : R α) : x.bind R.ok = x := by cases x <;> rfl
theorem tst_ofB (c : EvB) : tst (ofB c) = c := by
  funext s
  show ((c s).bind fun b s1 => .ok (.val (.bl b)) s1).bind toBe = c s
  cases c s <;> rfl
theorem tst_andor (k : Bool) (a : EvB) (r : Ev) : tst (andor k a r) = andorB k a (tst r) := by
  funext s
  show ((a s).bind fun b s1 => if b = k then r s1 else .ok (.val (.bl b)) s1).bind toBe = (a s).bind fun b s1 => if b = k then (r s1).bind toBe else .ok b s1
  cases a s with
  | ok b s1 =>
    show (if b = k then r s1 else .ok (.val (.bl b)) s1).bind toBe = if b = k then (r s1).bind toBe else .ok b s1
    by_cases h : b = k
    · rw [if_pos h, if_pos h]
    · rw [if_neg h, if_neg h]; rfl
  | exc c s1 => rfl
  | stk => rfl
section
variable {X : Cx} {cl : String → Addr} {W : WX} {a b c : Expr} {ea eb ec : Ev} {pos : Pos} {β : Type} {K : R β → Prop} {G : Addr → Prop} {σ : L2.St} {T : List EV} {m : Mem} {s : St} {f : Bool → St → R β} {Q : VK}
/-! ### comparisons -/
theorem cmp_go {r : R2} {op : CmpOp} (ho : Cmp2 cl r (fun S => cmpD S op)) (wk : Want cl W G σ T m K) (g : Good cl m G σ s T) (q : K ((cmp2 op ea eb s).bind f))
    (k : ∀ b s2 m2, Ext m m2 → Prot G m m2 → Good cl m2 G σ s2 T → K (f b s2) → Q (.bl b) m2.H) : tOp r (tM cl W ea) (tM cl W eb) σ m.H Q := by
  unfold cmp2 at q
  simp only [bind_assoc', opt_bind, ok_bind] at q
  refine tM_then wk g (List.Sublist.refl _) (Ext.refl _) Prot.refl q fun r1 s1 x m1 x1 p1 g1 q1 => ?_
  refine tM_then wk g1 sub1 x1 p1 q1 fun r2 s2 y m2 x2 p2 g2 q2 => ?_
  obtain ⟨dx, ex, q3⟩ := want_opt wk q2
  obtain ⟨dy, ey, q4⟩ := want_opt wk q3
  obtain ⟨b, ek, q5⟩ := want_opt wk q4
  exact ho m2 s2.sto dx dy x y b _ g2.st (g2.res (r := r1) (v := x) (by simp) ex) (g2.res (r := r2) (v := y) (by simp) ey) ek (k b s2 m2 (x1.trans x2) (p1.trans p2) (g2.sub sub2) q5)
theorem ft_cmp {r : R2} {op : CmpOp} (hr : OpR X (compareOp op) r) (ho : Cmp2 cl r (fun S => cmpD S op)) (ha : L2.PE X a (tM cl W ea)) (hb : L2.PE X b (tM cl W eb)) (hm : behindInMarks op b = false) :
    L2.PT X (.Compare a [op] [b] pos) (tMB cl W (cmp2 op ea eb)) := PT.imp (pt_cmpR hr ha hb hm) fun σ H Q h => by
  obtain ⟨s, m, G, T, rfl, g, q⟩ := h
  exact cmp_go (f := .ok) ho want_B g (by rw [bind_ok]; exact q) fun b s2 m2 x p g2 q2 => ⟨b, rfl, q2 m2 x p g2⟩
theorem fe_cmp {r : R2} {op : CmpOp} (hr : OpR X (compareOp op) r) (ho : Cmp2 cl r (fun S => cmpD S op)) (ha : L2.PE X a (tM cl W ea)) (hb : L2.PE X b (tM cl W eb)) (hm : behindInMarks op b = false) :
    L2.PE X (.Compare a [op] [b] pos) (tM cl W (ofB (cmp2 op ea eb))) := PE.imp (pe_cmpR hr ha hb hm) fun σ H Q h => by
  obtain ⟨s, m, G, T, rfl, g, q⟩ := h
  exact cmp_go ho want_E g q fun b s2 m2 x p g2 q2 => q2 (.bl b) m2 x p (g2.val (.bl b))
theorem chn_go {r r' : R2} {o1 o2 : CmpOp} (ho : Cmp2 cl r (fun S => cmpD S o1)) (ho' : Cmp2 cl r' (fun S => cmpD S o2)) (wk : Want cl W G σ T m K) (g : Good cl m G σ s T) (q : K ((chn o1 o2 ea eb ec s).bind f))
    (k : ∀ b s2 m2, Ext m m2 → Prot G m m2 → Good cl m2 G σ s2 T → K (f b s2) → Q (.bl b) m2.H) : tChain r r' (tM cl W ea) (tM cl W eb) (tM cl W ec) σ m.H Q := by
  unfold chn at q
  simp only [bind_assoc', opt_bind] at q
  refine tM_then wk g (List.Sublist.refl _) (Ext.refl _) Prot.refl q fun r1 s1 x m1 x1 p1 g1 q1 => ?_
  refine tM_then wk g1 sub1 x1 p1 q1 fun r2 s2 y m2 x2 p2 g2 q2 => ?_
  obtain ⟨dx, ex, q3⟩ := want_opt wk q2
  obtain ⟨dy, ey, q4⟩ := want_opt wk q3
  obtain ⟨b, ek, q5⟩ := want_opt wk q4
  refine ho m2 s2.sto dx dy x y b _ g2.st (g2.res (r := r1) (v := x) (by simp) ex) (g2.res (r := r2) (v := y) (by simp) ey) ek ⟨b, rfl, ?_⟩
  cases b with
  | false => exact ite_ff (k false s2 m2 (x1.trans x2) (p1.trans p2) (g2.sub sub2) (by simpa [ok_bind] using q5))
  | true =>
    simp only [if_true, bind_assoc', opt_bind, ok_bind] at q5
    refine ite_tt (tM_then wk g2 sub2 (x1.trans x2) (p1.trans p2) q5 fun r3 s3 z m3 x3 p3 g3 q6 => ?_)
    obtain ⟨dy', ey', q7⟩ := want_opt wk q6
    obtain ⟨dz, ez, q8⟩ := want_opt wk q7
    obtain ⟨b2, ek2, q9⟩ := want_opt wk q8
    exact ho' m3 s3.sto dy' dz y z b2 _ g3.st (g3.res (r := r2) (v := y) (by simp) ey') (g3.res (r := r3) (v := z) (by simp) ez) ek2
      (k b2 s3 m3 ((x1.trans x2).trans x3) ((p1.trans p2).trans p3) (g3.sub (sub2.trans sub1)) q9)
theorem ft_chain {r r' : R2} {op op' : CmpOp} (hr : OpR X (compareOp op) r) (hr' : OpR X (compareOp op') r') (ho : Cmp2 cl r (fun S => cmpD S op)) (ho' : Cmp2 cl r' (fun S => cmpD S op')) (ha : L2.PE X a (tM cl W ea)) (hb : L2.PE X b (tM cl W eb)) (hc : L2.PE X c (tM cl W ec))
    (hm : lastMarks [op, op'] [b, c] = false) : L2.PT X (.Compare a [op, op'] [b, c] pos) (tMB cl W (chn op op' ea eb ec)) := PT.imp (pt_chain hr hr' ha hb hc hm) fun σ H Q h => by
  obtain ⟨s, m, G, T, rfl, g, q⟩ := h
  exact chn_go (f := .ok) ho ho' want_B g (by rw [bind_ok]; exact q) fun b s2 m2 x p g2 q2 => ⟨b, rfl, q2 m2 x p g2⟩
theorem fe_chain {r r' : R2} {op op' : CmpOp} (hr : OpR X (compareOp op) r) (hr' : OpR X (compareOp op') r') (ho : Cmp2 cl r (fun S => cmpD S op)) (ho' : Cmp2 cl r' (fun S => cmpD S op')) (ha : L2.PE X a (tM cl W ea)) (hb : L2.PE X b (tM cl W eb)) (hc : L2.PE X c (tM cl W ec))
    (hm : lastMarks [op, op'] [b, c] = false) : L2.PE X (.Compare a [op, op'] [b, c] pos) (tM cl W (ofB (chn op op' ea eb ec))) := PE.imp (pe_chain hr hr' ha hb hc hm) fun σ H Q h => by
  obtain ⟨s, m, G, T, rfl, g, q⟩ := h
  exact chn_go ho ho' want_E g q fun b s2 m2 x p g2 q2 => q2 (.bl b) m2 x p (g2.val (.bl b))

/-! ### tests -/
/-- the value of an expression as a test -/
theorem tst_go (wk : Want cl W G σ T m K) (g : Good cl m G σ s T) (q : K ((tst ea s).bind f)) {Q : Bool → Hp → Prop}
    (k : ∀ b s2 m2, Ext m m2 → Prot G m m2 → Good cl m2 G σ s2 T → K (f b s2) → Q b m2.H) : tM cl W ea σ m.H (fun x H1 => ∃ c, x = .bl c ∧ Q c H1) := by
  unfold tst at q
  simp only [bind_assoc'] at q
  refine tM_then wk g (List.Sublist.refl _) (Ext.refl _) Prot.refl q fun r1 s1 x m1 x1 p1 g1 q1 => ?_
  obtain ⟨b, rfl, q2⟩ := want_toBe wk q1
  obtain ⟨x', e, r⟩ := g1.sr.ok (.val (.bl b), some x) (by simp)
  cases e
  cases r
  exact ⟨b, rfl, k b s1 m1 x1 p1 (g1.sub sub1) q2⟩
theorem ft_val (ha : L2.PE X a (tM cl W ea)) (he : ∀ whole, isTrue a X.env whole = (do let v ← whole; standAt a.pos; holding [v] (truthy v))) : L2.PT X a (tMB cl W (tst ea)) := PT.imp (pt_val ha he) fun σ H Q h => by
  obtain ⟨s, m, G, T, rfl, g, q⟩ := h
  exact tst_go (f := .ok) want_B g (by rw [bind_ok]; exact q) fun b s2 m2 x p g2 q2 => q2 m2 x p g2
theorem ft_not {ca : EvB} (ha : L2.PT X a (tMB cl W ca)) : L2.PT X (.UnaryOp .Not a pos) (tMB cl W (ntB ca)) := PT.imp (pt_not ha) fun σ H Q h => by
  obtain ⟨s, m, G, T, rfl, g, q⟩ := h
  exact tMB_then want_B g (List.Sublist.refl _) (Ext.refl _) Prot.refl q fun b s2 m2 x2 p2 g2 q2 => q2 m2 x2 p2 g2
/-- not, as a value: of an expression whose value is a bool -/
theorem fe_not (ha : L2.PE X a (tM cl W ea)) : L2.PE X (.UnaryOp .Not a pos) (tM cl W (ofB (ntB (tst ea)))) := PE.imp (pe_not ha) fun σ H Q h => by
  obtain ⟨s, m, G, T, rfl, g, q⟩ := h
  unfold ofB ntB at q
  simp only [bind_assoc', ok_bind] at q
  exact tst_go want_E g q fun b s2 m2 x p g2 q2 => q2 (.bl (!b)) m2 x p (g2.val (.bl (!b)))
theorem fe_and1 {op : BoolOp} (ha : L2.PE X a (tM cl W ea)) : L2.PE X (.BoolOp op [a] pos) (tM cl W ea) := pe_one ha
theorem fe_and {rest : List Expr} (ha : L2.PE X a (tM cl W ea)) (hb : L2.PE X (.BoolOp .And (b :: rest) pos) (tM cl W eb)) : L2.PE X (.BoolOp .And (a :: b :: rest) pos) (tM cl W (andor true (tst ea) eb)) := PE.imp (pe_and ha hb) fun σ H Q h => by
  obtain ⟨s, m, G, T, rfl, g, q⟩ := h
  unfold andor at q
  refine tst_go (Q := fun c H1 => if c = true then tM cl W eb σ H1 Q else Q (.bl false) H1) want_E g q fun b s2 m2 x p g2 q2 => ?_
  cases b with
  | true => exact ite_tt ⟨s2, m2, G, T, rfl, g2, by
      simp only [if_true] at q2
      cases e : eb s2 with
      | ok r s3 => rw [e] at q2; exact fun v m' x' p' g' => q2 v m' (x.trans x') (p.trans p') g'
      | exc c s3 => rw [e] at q2; exact fun m' x' p' g' => q2 m' (x.trans x') (p.trans p') g'
      | stk => rw [e] at q2; exact q2⟩
  | false => exact ite_ff (q2 (.bl false) m2 x p (g2.val (.bl false)))
theorem fe_or {rest : List Expr} (ha : L2.PE X a (tM cl W ea)) (hb : L2.PE X (.BoolOp .Or (b :: rest) pos) (tM cl W eb)) : L2.PE X (.BoolOp .Or (a :: b :: rest) pos) (tM cl W (andor false (tst ea) eb)) := PE.imp (pe_or ha hb) fun σ H Q h => by
  obtain ⟨s, m, G, T, rfl, g, q⟩ := h
  unfold andor at q
  refine tst_go (Q := fun c H1 => if c = true then Q (.bl true) H1 else tM cl W eb σ H1 Q) want_E g q fun b s2 m2 x p g2 q2 => ?_
  cases b with
  | false => exact ite_ff ⟨s2, m2, G, T, rfl, g2, by
      simp only [if_true] at q2
      cases e : eb s2 with
      | ok r s3 => rw [e] at q2; exact fun v m' x' p' g' => q2 v m' (x.trans x') (p.trans p') g'
      | exc c s3 => rw [e] at q2; exact fun m' x' p' g' => q2 m' (x.trans x') (p.trans p') g'
      | stk => rw [e] at q2; exact q2⟩
  | true => exact ite_tt (q2 (.bl true) m2 x p (g2.val (.bl true)))
/-- the rest of a way behind some steps -/
theorem okB.on {G : Addr → Prop} {σ : L2.St} {T : List EV} {m m1 : Mem} {Q : Bool → Hp → Prop} {x : R Bool} (q : okB cl W G σ T m Q x) (e : Ext m m1) (p : Prot G m m1) : okB cl W G σ T m1 Q x := by
  cases x with
  | ok b s => exact fun m' x' p' g' => q m' (e.trans x') (p.trans p') g'
  | exc c s => exact fun m' x' p' g' => q m' (e.trans x') (p.trans p') g'
  | stk => exact q
theorem okE.on {G : Addr → Prop} {σ : L2.St} {T : List EV} {m m1 : Mem} {Q : VK} {x : R Ent} (q : okE cl W G σ T m Q x) (e : Ext m m1) (p : Prot G m m1) : okE cl W G σ T m1 Q x := by
  cases x with
  | ok b s => exact fun v m' x' p' g' => q v m' (e.trans x') (p.trans p') g'
  | exc c s => exact fun m' x' p' g' => q m' (e.trans x') (p.trans p') g'
  | stk => exact q
theorem fw_and1 {ca : EvB} (ha : L2.PT X a (tMB cl W ca)) : L2.PW X (.BoolOp .And [a] pos) (tMB cl W ca) := pw_and1 ha
theorem fw_or1 {ca : EvB} (ha : L2.PT X a (tMB cl W ca)) : L2.PW X (.BoolOp .Or [a] pos) (tMB cl W ca) := pw_or1 ha
theorem fw_and {ca cb : EvB} {rest : List Expr} (ha : L2.PT X a (tMB cl W ca)) (hb : L2.PW X (.BoolOp .And (b :: rest) pos) (tMB cl W cb)) : L2.PW X (.BoolOp .And (a :: b :: rest) pos) (tMB cl W (andorB true ca cb)) := PW.imp (pw_and ha hb) fun σ H Q h => by
  obtain ⟨s, m, G, T, rfl, g, q⟩ := h
  refine tMB_then want_B g (List.Sublist.refl _) (Ext.refl _) Prot.refl q fun b s2 m2 x2 p2 g2 q2 => ?_
  cases b with
  | true => exact ite_tt ⟨s2, m2, G, T, rfl, g2, okB.on (by simpa using q2) x2 p2⟩
  | false => exact ite_ff (q2 m2 x2 p2 g2)
theorem fw_or {ca cb : EvB} {rest : List Expr} (ha : L2.PT X a (tMB cl W ca)) (hb : L2.PW X (.BoolOp .Or (b :: rest) pos) (tMB cl W cb)) : L2.PW X (.BoolOp .Or (a :: b :: rest) pos) (tMB cl W (andorB false ca cb)) := PW.imp (pw_or ha hb) fun σ H Q h => by
  obtain ⟨s, m, G, T, rfl, g, q⟩ := h
  refine tMB_then want_B g (List.Sublist.refl _) (Ext.refl _) Prot.refl q fun b s2 m2 x2 p2 g2 q2 => ?_
  cases b with
  | false => exact ite_ff ⟨s2, m2, G, T, rfl, g2, okB.on (by simpa using q2) x2 p2⟩
  | true => exact ite_tt (q2 m2 x2 p2 g2)
theorem fe_if {cc : EvB} (hc : L2.PT X c (tMB cl W cc)) (ha : L2.PE X a (tM cl W ea)) (hb : L2.PE X b (tM cl W eb)) : L2.PE X (.IfExp c a b pos) (tM cl W (ite3 cc ea eb)) := PE.imp (pe_ifExp hc ha hb) fun σ H Q h => by
  obtain ⟨s, m, G, T, rfl, g, q⟩ := h
  refine tMB_then want_E g (List.Sublist.refl _) (Ext.refl _) Prot.refl q fun k s2 m2 x2 p2 g2 q2 => ?_
  cases k with
  | true => exact ite_tt ⟨s2, m2, G, T, rfl, g2, okE.on (by simpa using q2) x2 p2⟩
  | false => exact ite_ff ⟨s2, m2, G, T, rfl, g2, okE.on (by simpa using q2) x2 p2⟩
end
end Z

set_option Elab.async false
set_option linter.all false
set_option maxRecDepth 100000
set_option maxHeartbeats 4000000
namespace Z
open PySem PySem.Spec PyProof.Rows L2

theorem line_eq : sizeLine = LINE := sizeLine_eq
/-! ### new objects -/
def Mem.lay (m : Mem) (p : Addr) (o : HO) (f : Prop) : Mem := ⟨upd m.H p o, fun b => m.F b ∨ (b = p ∧ f), m.ι⟩
theorem lay_grow {m : Mem} {p : Addr} {o : HO} {f : Prop} (h : MOk m) (hp : m.H p = none) : Grow m (m.lay p o f) := by
  refine ⟨rfl, fun a ha => ?_, ⟨fun b hb => ?_, h.nd, fun b hb => ?_⟩⟩
  · have ne : a ≠ p := fun e => ha (e ▸ hp)
    exact ⟨upd_ne ne, ⟨fun z => z.elim id fun z => absurd z.1 ne, .inl⟩⟩
  · rcases hb with hb | ⟨rfl, _⟩
    · obtain ⟨h1, h2⟩ := h.fz b hb
      have ne : b ≠ p := fun e => h1 (e ▸ hp)
      exact ⟨by show upd m.H p o b ≠ none; rw [upd_ne ne]; exact h1, h2⟩
    · exact ⟨by show upd m.H b o b ≠ none; rw [upd_same]; simp, fun z => h.io b z hp⟩
  · have h1 := h.io b hb
    have ne : b ≠ p := fun e => h1 (e ▸ hp)
    show upd m.H p o b ≠ none
    rw [upd_ne ne]
    exact h1
theorem new_tup {m : Mem} {p : Addr} {ds : List D} {xs : List V} (h : MOk m) (hp : m.H p = none) (r : Reps m ds xs) : EntNew m (m.lay p (.tup xs) True) (.val (.tup ds)) (.ref p) :=
  Rep.tup upd_same (.inr ⟨rfl, True.intro⟩) (Reps.mono ((lay_grow h hp).ext h) _ _ r)
theorem new_lst {m : Mem} {p : Addr} {ds : List D} {xs : List V} (h : MOk m) (hp : m.H p = none) (r : Reps m ds xs) : EntNew m (m.lay p (.lst xs) False) (.own (.lst ds)) (.ref p) :=
  ⟨p, rfl, ⟨xs, upd_same, Reps.mono ((lay_grow h hp).ext h) _ _ r⟩, hp, fun z => z.elim (fun f => (h.fz p f).1 hp) fun z => z.2⟩

section
variable {X : Cx} {cl : String → Addr} {W : WX} {a b c e : Expr} {es : List Expr} {ea eb ec : Ev} {el : EvL} {pos : Pos}
/-! ### arguments -/
theorem fa_nil : L2.PA X [] (tMA cl W nilL) := PA.imp pa_nil fun σ H Q h => by
  obtain ⟨s, m, G, T, rfl, g, q⟩ := h
  exact q [] m (Ext.refl _) Prot.refl rfl (by simpa using g)
theorem fa_cons (ha : L2.PE X e (tM cl W ea)) (hr : L2.PA X es (tMA cl W el)) (hs : starEach (e :: es) X.env = (false, eval e X.env) :: starEach es X.env) : L2.PA X (e :: es) (tMA cl W (consL ea el)) := PA.imp (pa_cons ha hr hs) fun σ H Q h => by
  obtain ⟨s, m, G, T, rfl, g, q⟩ := h
  refine tM_then want_A g (List.Sublist.refl _) (Ext.refl _) Prot.refl q fun r1 s1 x m1 x1 p1 g1 q1 => ?_
  refine tMA_then want_A g1 sub1 x1 p1 q1 fun rs s2 ys m2 x2 p2 l2 g2 q2 => ?_
  exact q2 (x :: ys) m2 (x1.trans x2) (p1.trans p2) (by simp [l2]) (by simpa using g2)
theorem fe_tup {k : Nat} (h : L2.PA X es (tMA cl W el)) : L2.PE X (.Tuple es k pos) (tM cl W (mkTup el)) := PE.imp (pe_tup h) fun σ H Q hh => by
  obtain ⟨s, m, G, T, rfl, g, q⟩ := hh
  refine tMA_then want_E g (List.Sublist.refl _) (Ext.refl _) Prot.refl q fun rs s1 ys m1 x1 p1 l1 g1 q1 => ?_
  obtain ⟨ds, ed, q2⟩ := want_opt want_E q1
  obtain ⟨m2, eH, ei, x2, g2, r2⟩ := Good.frzL g1 l1 ed
  by_cases hl : ds.length ≤ LINE
  · rw [if_pos hl] at q2
    refine ⟨by rw [line_eq, ← r2.len]; exact hl, fun p hp => ?_⟩
    have hp2 : m2.H p = none := by rw [eH]; exact hp
    have k := q2.fin (x1.trans x2) (p1.trans (fun b _ => by rw [eH])) g2 (List.sublist_append_left _ _) (.ref p) _ (lay_grow g2.mo hp2) (new_tup g2.mo hp2 r2)
    rw [← eH]
    exact k
  · rw [if_neg hl] at q2
    exact q2.elim
theorem fe_lst (h : L2.PA X es (tMA cl W el)) : L2.PE X (.List es pos) (tM cl W (mkLst el)) := PE.imp (pe_lst h) fun σ H Q hh => by
  obtain ⟨s, m, G, T, rfl, g, q⟩ := hh
  refine tMA_then want_E g (List.Sublist.refl _) (Ext.refl _) Prot.refl q fun rs s1 ys m1 x1 p1 l1 g1 q1 => ?_
  obtain ⟨ds, ed, q2⟩ := want_opt want_E q1
  obtain ⟨m2, eH, ei, x2, g2, r2⟩ := Good.frzL g1 l1 ed
  by_cases hl : ds.length ≤ LINE
  · rw [if_pos hl] at q2
    refine ⟨by rw [line_eq, ← r2.len]; exact hl, fun p hp => ?_⟩
    have hp2 : m2.H p = none := by rw [eH]; exact hp
    have k := q2.fin (x1.trans x2) (p1.trans (fun b _ => by rw [eH])) g2 (List.sublist_append_left _ _) (.ref p) _ (lay_grow g2.mo hp2) (new_lst g2.mo hp2 r2)
    rw [← eH]
    exact k
  · rw [if_neg hl] at q2
    exact q2.elim

/-! ### operators, subscripts, slices -/
theorem fe_bin {op : Operator} {r : R2} {f : Store → D → D → Option Ent} (hr : OpR X (binaryOp op) r) (ho : Op2 cl r f) (ha : L2.PE X a (tM cl W ea)) (hb : L2.PE X b (tM cl W eb)) : L2.PE X (.BinOp a op b pos) (tM cl W (bnd2 ea eb fun s x y => O (f s.sto x y) s)) :=
  PE.imp (pe_op hr ha hb) fun σ H Q h => tOp_of ho h
theorem fe_neg (ha : L2.PE X a (tM cl W ea)) : L2.PE X (.UnaryOp .USub a pos) (tM cl W (bnd1 ea fun s d => O (match d with | .int i => some (.val (.int (-i))) | _ => none) s)) :=
  PE.imp (pe_un un_neg ha) fun σ H Q h => tUn_of (f := fun _ d => match d with | .int i => some (.val (.int (-i))) | _ => none) (fun m S dx x ent Q mo st b e k => by
    cases dx with
    | int i =>
      cases e
      cases b
      exact ⟨i, rfl, k _ m (Grow.refl mo) (.int _)⟩
    | _ => cases e) h
theorem fe_ix {r : R2} {f : Store → D → D → Option Ent} (hr : IxR X r) (ho : Op2 cl r f) (ha : L2.PE X a (tM cl W ea)) (hb : L2.PE X b (tM cl W eb)) (hs : PlainIx b) : L2.PE X (.Subscript a b pos) (tM cl W (bnd2 ea eb fun s x y => O (f s.sto x y) s)) :=
  PE.imp (pe_ix hr ha hb hs) fun σ H Q h => tOp_of ho h
def OpS (r : V → Option Int → Option Int → Hp → VK → Prop) : Prop := ∀ (m : Mem) (dx : D) (x : V) (lo hi : Option Int) (ent : Ent) (Q : VK), MOk m → RepB m dx x → slcD dx lo hi = some ent →
  (∀ v m', Grow m m' → EntNew m m' ent v → Q v m'.H) → r x lo hi m.H Q
theorem fo_no : L2.PO X none (tMO cl W fun s => .ok none s) := PO.imp po_none fun σ H Q h => by
  obtain ⟨s, m, G, T, rfl, g, q⟩ := h
  exact q m (Ext.refl _) Prot.refl g
theorem fo_so (ha : L2.PE X a (tM cl W ea)) : L2.PO X (some a) (tMO cl W (optE ea)) := PO.imp (po_some ha) fun σ H Q h => by
  obtain ⟨s, m, G, T, rfl, g, q⟩ := h
  refine tM_then want_O g (List.Sublist.refl _) (Ext.refl _) Prot.refl q fun r1 s1 x m1 x1 p1 g1 q1 => ?_
  split at q1
  · rename_i i
    obtain ⟨x', ex, rx⟩ := g1.sr.ok (.val (.int i), some x) (by simp)
    cases ex
    cases rx
    exact ⟨i, rfl, q1 m1 x1 p1 (g1.sub sub1)⟩
  · exact q1.elim
theorem fe_slc {lo hi : Option Expr} {p2 : Pos} {el eh : St → R (Option Int)} {r : V → Option Int → Option Int → Hp → VK → Prop} (hr : SlR X r) (ho : OpS r) (ha : L2.PE X a (tM cl W ea)) (hl : L2.PO X lo (tMO cl W el)) (hh : L2.PO X hi (tMO cl W eh)) :
    L2.PE X (.Subscript a (.Slice lo hi none p2) pos) (tM cl W (slc3 ea el eh)) := PE.imp (pe_slice hr ha hl hh) fun σ H Q h => by
  obtain ⟨s, m, G, T, rfl, g, q⟩ := h
  refine tM_then want_E g (List.Sublist.refl _) (Ext.refl _) Prot.refl q fun r1 s1 x m1 x1 p1 g1 q1 => ?_
  refine tMO_then want_E g1 sub1 x1 p1 q1 fun l s2 m2 x2 p2 g2 q2 => ?_
  refine tMO_then want_E g2 sub1 (x1.trans x2) (p1.trans p2) q2 fun u s3 m3 x3 p3 g3 q3 => ?_
  obtain ⟨dx, ex, q4⟩ := want_opt want_E q3
  obtain ⟨en, ee, q5⟩ := want_O' q4
  exact ho m3 dx x l u en Q g3.mo (g3.res (r := r1) (v := x) (by simp) ex) ee (q5.fin ((x1.trans x2).trans x3) ((p1.trans p2).trans p3) g3 sub1)

/-! ### built-in functions and methods -/
def RepBs (m : Mem) : List D → List V → Prop
  | [], [] => True
  | d :: ds, v :: vs => RepB m d v ∧ RepBs m ds vs
  | _, _ => False
theorem Good.resL {G : Addr → Prop} {σ : L2.St} {m : Mem} {s : St} : ∀ {rs : List Ent} {vs : List V} {ds : List D} {A : List EV}, Good cl m G σ s (A ++ rs.zip (vs.map some)) → rs.length = vs.length → Z.resL s rs = some ds → RepBs m ds vs
  | [], [], ds, A, h, _, e => by cases e; trivial
  | r :: rs, v :: vs, ds, A, h, l, e => by
    unfold Z.resL at e
    split at e
    · rename_i d hd
      cases q : Z.resL s rs with
      | none => rw [q] at e; cases e
      | some ds' =>
        rw [q] at e
        cases e
        refine ⟨h.res (r := r) (v := v) (by simp) hd, Good.resL (A := A ++ [(r, some v)]) (by simpa using h) (by simpa using l) q⟩
    · cases e
  | [], _ :: _, _, _, _, l, _ => by simp at l
  | _ :: _, [], _, _, _, l, _ => by simp at l
def OpC (r : List V → Hp → VK → Prop) (f : List D → Option Ent) : Prop := ∀ (m : Mem) (ds : List D) (vs : List V) (ent : Ent) (Q : VK), MOk m → RepBs m ds vs → f ds = some ent →
  (∀ v m', Grow m m' → EntNew m m' ent v → Q v m'.H) → r vs m.H Q
theorem fe_bi {f : List D → Option Ent} {r : List V → Hp → VK → Prop} (hr : ∀ t, L2.PA X es t → L2.PE X e (tCB r t)) (ho : OpC r f) (ha : L2.PA X es (tMA cl W el)) : L2.PE X e (tM cl W (biE f el)) := PE.imp (hr _ ha) fun σ H Q h => by
  obtain ⟨s, m, G, T, rfl, g, q⟩ := h
  refine tMA_then want_E g (List.Sublist.refl _) (Ext.refl _) Prot.refl q fun rs s1 ys m1 x1 p1 l1 g1 q1 => ?_
  obtain ⟨ds, ed, q2⟩ := want_opt want_E q1
  obtain ⟨en, ee, q3⟩ := want_O' q2
  exact ho m1 ds ys en Q g1.mo (g1.resL l1 ed) ee (q3.fin x1 p1 g1 (List.sublist_append_left _ _))
def OpM (r : V → List V → Hp → VK → Prop) (f : D → List D → Option Ent) : Prop := ∀ (m : Mem) (d : D) (ds : List D) (v : V) (vs : List V) (ent : Ent) (Q : VK), MOk m → RepB m d v → RepBs m ds vs → f d ds = some ent →
  (∀ v m', Grow m m' → EntNew m m' ent v → Q v m'.H) → r v vs m.H Q
/-- of that built-in type -/
theorem ty_ok {K : PySem.W.Frag} {t : String} {G : Addr → Prop} {σ : L2.St} {T : List EV} {m : Mem} {s : St} {r : Ent} {v : V} {u : Unit} (g : Good cl m G σ s T) (hm : (r, some v) ∈ T) (h : tyOf s t r = some u) : tyV K t v m.H := by
  unfold tyOf at h
  obtain ⟨d, hd, h⟩ := Option.bind_eq_some_iff.mp h
  split at h
  · rename_i ht
    have b := g.res hm hd
    unfold tyIs at ht
    cases d with
    | str x => cases b; exact beq_iff_eq.mp ht
    | lst xs => obtain ⟨a, vs, rfl, e, _⟩ := b; exact .inl ⟨beq_iff_eq.mp ht, vs, SqL.of e⟩
    | dic xs => obtain ⟨a, vs, rfl, e, _⟩ := b; exact .inr (.inr (.inl ⟨beq_iff_eq.mp ht, .inl ⟨vs, e⟩⟩))
    | obj n =>
      cases b with
      | obj hn =>
        dsimp only at ht
        cases hc : s.sto[n]? with
        | none => rw [hc] at ht; cases ht
        | some c =>
          rw [hc] at ht
          have ok := g.st.at_ n c _ hc hn
          cases c with
          | ins _ _ => cases ht
          | lst ys => obtain ⟨vs, e, _⟩ := ok; exact .inl ⟨beq_iff_eq.mp ht, vs, SqL.of e⟩
          | dic ds => obtain ⟨vs, e, _⟩ := ok; exact .inr (.inr (.inl ⟨beq_iff_eq.mp ht, .inl ⟨vs, e⟩⟩))
    | _ => cases ht
  · cases h
/-- a method with arguments -/
theorem fe_bm {t : String} {f : D → List D → Option Ent} {r : V → List V → Hp → VK → Prop} (hr : ∀ to ta, L2.PE X a to → L2.PA X es ta → L2.PE X e (tBM X.K t r to ta)) (ho : OpM r f) (hx : L2.PE X a (tM cl W ea)) (ha : L2.PA X es (tMA cl W el)) :
    L2.PE X e (tM cl W (bmE t f ea el)) := PE.imp (hr _ _ hx ha) fun σ H Q h => by
  obtain ⟨s, m, G, T, rfl, g, q⟩ := h
  refine tM_then want_E g (List.Sublist.refl _) (Ext.refl _) Prot.refl q fun r1 s1 x m1 x1 p1 g1 q1 => ?_
  obtain ⟨u, hu, q1⟩ := want_opt want_E q1
  refine ⟨ty_ok g1 (by simp) hu, tMA_then want_E g1 sub1 x1 p1 q1 fun rs s2 ys m2 x2 p2 l2 g2 q2 => ?_⟩
  obtain ⟨dx, ex, q3⟩ := want_opt want_E q2
  obtain ⟨ds, ed, q4⟩ := want_opt want_E q3
  obtain ⟨en, ee, q5⟩ := want_O' q4
  exact ho m2 dx ds x ys en Q g2.mo (g2.res (r := r1) (v := x) (by simp) ex) (g2.resL l2 ed) ee (q5.fin (x1.trans x2) (p1.trans p2) g2 (sub1.trans (List.sublist_append_left _ _)))
end
end Z

set_option Elab.async false
set_option linter.all false
set_option maxRecDepth 100000
set_option maxHeartbeats 4000000
namespace Z
open PySem PySem.Spec PyProof.Rows L2

/-! ### operators by values -/
theorem repI {m : Mem} {i : Int} {x : V} (h : RepB m (.int i) x) : x = .int i := by cases h; rfl
theorem repB {m : Mem} {i : Bool} {x : V} (h : RepB m (.bl i) x) : x = .bl i := by cases h; rfl
theorem repS {m : Mem} {i : List Nat} {x : V} (h : RepB m (.str i) x) : x = sV i := by cases h; rfl
theorem repN {m : Mem} {x : V} (h : RepB m .non x) : x = .non := by cases h; rfl
theorem repT {m : Mem} {ds : List D} {x : V} (h : RepB m (.tup ds) x) : ∃ a xs, x = .ref a ∧ m.H a = some (.tup xs) ∧ m.F a ∧ Reps m ds xs := by cases h; exact ⟨_, _, rfl, by assumption, by assumption, by assumption⟩
theorem op_repS {X : Cx} : OpR X (binaryOp .Mult) (fun x y H Q => ∃ (z : List Nat) (k : Int), x = sV z ∧ y = .int k ∧ z.length * k.toNat ≤ LINE ∧ k < 2 ^ 62 ∧ -(2 ^ 62) < k ∧ Q (sV (rept z k.toNat)) H) := by
  intro pins s σ H x y v u Q I rx ry h
  obtain ⟨z, k, rfl, rfl, h1, h2, h3, q⟩ := h
  obtain ⟨t, rfl⟩ := rx
  obtain ⟨t', rfl⟩ := ry
  have hlen : (⟨z.toArray⟩ : Str).length = z.length := by show z.toArray.size = _; simp
  have fold : ∀ (n : Nat) (A : List Nat), (List.replicate n z.toArray).foldl (· ++ ·) A.toArray = (A ++ rept z n).toArray := by
    intro n
    induction n with
    | zero => intro A; simp [rept]
    | succ n ih =>
      intro A
      rw [List.replicate_succ, List.foldl_cons]
      have e : A.toArray ++ z.toArray = (A ++ z).toArray := by simp
      rw [e, ih]
      simp [rept, List.replicate_succ]
  refine P.mul_str ?_ ?_ ?_ ?_
  · have a1 : decide (k < -(2 ^ 63 : Int)) = false := decide_eq_false (by omega)
    have a2 : decide (k ≥ 2 ^ 63) = false := decide_eq_false (by omega)
    rw [a1, a2]; rfl
  · intro p1 p2 p3
    rw [hlen] at p3
    have k1 : 1 ≤ k := by omega
    have c : (z.length : Int) * k ≤ 2 ^ 63 - 1 := by
      have e : ((z.length * k.toNat : Nat) : Int) = (z.length : Int) * k := by rw [Int.natCast_mul, Int.toNat_of_nonneg (by omega)]
      have : ((z.length * k.toNat : Nat) : Int) ≤ (LINE : Nat) := by exact_mod_cast h1
      rw [e] at this
      have : ((LINE : Nat) : Int) = 16777216 := rfl
      omega
    have := (Int.le_ediv_iff_mul_le (by omega : 0 < k)).mpr c
    omega
  · intro p1 p2
    rw [hlen]
    exact PyProof.Rows.short24 (by have : LINE = 16777216 := rfl; omega)
  · by_cases p1 : k < 1
    · rw [if_pos p1]
      refine ⟨by decide, .str Str.empty, H, I.tok _, ⟨_, rfl⟩, ?_⟩
      have : k.toNat = 0 := by omega
      rw [this] at q
      exact q
    · rw [if_neg p1]
      by_cases p2 : (k == 1 || (⟨z.toArray⟩ : Str).length == 0) = true
      · rw [if_pos p2]
        refine ⟨sV z, H, I, ⟨t, rfl⟩, ?_⟩
        have : rept z k.toNat = z := by
          rw [hlen, Bool.or_eq_true, beq_iff_eq, beq_iff_eq] at p2
          rcases p2 with p2 | p2
          · subst p2; simp [rept]
          · have : z = [] := List.length_eq_zero_iff.mp p2
            subst this; simp [rept]
        rw [this] at q
        exact q
      · rw [if_neg p2]
        have e := fold k.toNat []
        have e2 : (List.replicate k.toNat z.toArray).foldl (· ++ ·) #[] = (rept z k.toNat).toArray := by simpa using e
        show (Made.str ⟨(List.replicate k.toNat z.toArray).foldl (· ++ ·) #[]⟩).post _ s
        rw [e2]
        refine ⟨?_, sV (rept z k.toNat), H, I.tok _, ⟨_, rfl⟩, q⟩
        show (rept z k.toNat).toArray.size ≤ sizeLine
        rw [line_eq]
        have : (rept z k.toNat).length = k.toNat * z.length := by simp [rept]
        rw [List.size_toArray, this, Nat.mul_comm]
        exact h1

theorem lenS (a : List Nat) : (⟨a.toArray⟩ : Str).length = a.length := by show a.toArray.size = _; simp
theorem new_val {m : Mem} {d : D} {v : V} (h : Rep m d v) : EntNew m m (.val d) v := h
def rAdd4 (K : PySem.W.Frag) : R2 := fun x y H Q => (∃ i j, x = .int i ∧ y = .int j ∧ Q (.int (i + j)) H) ∨ ((∃ i j, x = .str i ∧ y = .str j ∧ i.length + j.length ≤ sizeLine ∧ Q (.str (i ++ j)) H) ∨ (rCat x y H Q ∨ rCatA K x y H Q))
theorem add_ok {X : Cx} {cl : String → Addr} : Op2 cl (rAdd4 X.K) fun _ x y => binD .Add x y := by
  intro m S dx dy x y ent Q mo st bx bY e k
  cases dx with
  | int i =>
    cases dy with
    | int j =>
      cases e
      exact .inl ⟨i, j, repI bx, repI bY, k _ m (Grow.refl mo) (.int _)⟩
    | _ => cases e
  | str a =>
    cases dy with
    | str b =>
      unfold binD at e
      simp only at e
      split at e
      · rename_i hl
        cases e
        refine .inr (.inl ⟨⟨a.toArray⟩, ⟨b.toArray⟩, repS bx, repS bY, by rw [lenS, lenS, line_eq]; exact hl, ?_⟩)
        have e2 : (⟨a.toArray⟩ : Str) ++ (⟨b.toArray⟩ : Str) = ⟨(a ++ b).toArray⟩ := by
          show Str.append _ _ = _
          simp [Str.append]
        rw [e2]
        exact k _ m (Grow.refl mo) (.str _)
      · cases e
    | _ => cases e
  | lst a =>
    cases dy with
    | lst b =>
      unfold binD at e
      simp only at e
      split at e
      · rename_i hl
        cases e
        obtain ⟨p, xs, rfl, hp, r1⟩ := bx
        obtain ⟨q, ys, rfl, hq, r2⟩ := bY
        refine .inr (.inr (.inl ⟨p, q, xs, ys, rfl, rfl, hp, hq, by rw [line_eq, ← r1.len, ← r2.len]; exact hl, fun n hn => ?_⟩))
        exact k _ _ (lay_grow mo hn) (new_lst mo hn (r1.append r2))
      · cases e
    | _ => cases e
  | tup a =>
    cases dy with
    | tup b =>
      unfold binD at e
      simp only at e
      split at e
      · rename_i hl
        cases e
        obtain ⟨p, xs, rfl, hp, fp, r1⟩ := repT bx
        obtain ⟨q, ys, rfl, hq, fq, r2⟩ := repT bY
        refine .inr (.inr (.inr ⟨p, q, xs, ys, rfl, rfl, SqT.of hp, SqT.of hq, by rw [line_eq, ← r1.len, ← r2.len]; exact hl, fun z => ?_, fun z1 z2 => ?_, fun _ _ n hn => ?_⟩))
        · subst z
          have : a = [] := List.length_eq_zero_iff.mp r1.len
          subst this
          exact k _ m (Grow.refl mo) (new_val (.tup hq fq r2))
        · subst z2
          have : b = [] := List.length_eq_zero_iff.mp r2.len
          subst this
          rw [List.append_nil] at k
          exact k _ m (Grow.refl mo) (new_val (.tup hp fp r1))
        · exact k _ _ (lay_grow mo hn) (new_tup mo hn (r1.append r2))
      · cases e
    | _ => cases e
  | _ => cases dy <;> cases e
theorem int_ok {cl : String → Addr} {op : Operator} {C : Int → Int → Prop} {g : Int → Int → V} (h : ∀ dx dy ent, binD op dx dy = some ent → ∃ i j r, dx = .int i ∧ dy = .int j ∧ C i j ∧ ent = .val (.int r) ∧ g i j = .int r) : Op2 cl (rI C g) fun _ x y => binD op x y := by
  intro m S dx dy x y ent Q mo st bx bY e k
  obtain ⟨i, j, r, rfl, rfl, c, rfl, eg⟩ := h dx dy ent e
  refine ⟨i, j, repI bx, repI bY, c, ?_⟩
  rw [eg]
  exact k _ m (Grow.refl mo) (.int _)
theorem flat_reps {m : Mem} {ds : List D} {xs : List V} (r : Reps m ds xs) : ∀ n : Nat, Reps m (rept ds n) (List.replicate n xs).flatten
  | 0 => by simp [rept]; exact .nil
  | n + 1 => by
    have := (r.append (flat_reps r n))
    simpa [rept, List.replicate_succ] using this
def rMul4 (K : PySem.W.Frag) : R2 := fun x y H Q => rI CMul (fun i j => .int (i * j)) x y H Q ∨ (rI CMulW (fun i j => .int (i * j)) x y H Q ∨ (rRep x y H Q ∨ (rRepT K x y H Q ∨
  (∃ (z : List Nat) (k : Int), x = sV z ∧ y = .int k ∧ z.length * k.toNat ≤ LINE ∧ k < 2 ^ 62 ∧ -(2 ^ 62) < k ∧ Q (sV (rept z k.toNat)) H))))
theorem mul_ok {X : Cx} {cl : String → Addr} : Op2 cl (rMul4 X.K) fun _ x y => binD .Mult x y := by
  intro m S dx dy x y ent Q mo st bx bY e k
  cases dx with
  | int i =>
    cases dy with
    | int j =>
      unfold binD at e
      simp only at e
      split at e
      · rename_i hl
        cases e
        unfold mulOk at hl
        simp only [Bool.or_eq_true, Bool.and_eq_true, decide_eq_true_eq] at hl
        rcases hl with (hl | hl) | hl
        rotate_left
        rotate_left
        · replace hl := And.intro (blt_iff.mp hl.1) (blt_iff.mp hl.2)
          exact .inr (.inl ⟨i, j, repI bx, repI bY, wide_mul hl.1 hl.2 (by decide) (by decide) (by decide), k _ m (Grow.refl mo) (.int _)⟩)
        · replace hl := abs_lt hl
          exact .inl ⟨i, j, repI bx, repI bY, .inl hl, k _ m (Grow.refl mo) (.int _)⟩
        · replace hl := abs_lt hl
          exact .inl ⟨i, j, repI bx, repI bY, .inr hl, k _ m (Grow.refl mo) (.int _)⟩
      · cases e
    | _ => cases e
  | str a =>
    cases dy with
    | int j =>
      unfold binD at e
      simp only at e
      split at e
      · rename_i hl
        cases e
        exact .inr (.inr (.inr (.inr ⟨a, j, repS bx, repI bY, hl.1, (abs_lt hl.2).2, (abs_lt hl.2).1, k _ m (Grow.refl mo) (.str _)⟩)))
      · cases e
    | _ => cases e
  | lst a =>
    cases dy with
    | int j =>
      unfold binD at e
      simp only at e
      split at e
      · rename_i hl
        cases e
        obtain ⟨p, xs, rfl, hp, r1⟩ := bx
        have hl2 := abs_lt hl.2
        refine .inr (.inr (.inl ⟨p, j, xs, rfl, repI bY, hp, by omega, by omega, by rw [line_eq, ← r1.len]; exact hl.1, fun n hn => ?_⟩))
        exact k _ _ (lay_grow mo hn) (new_lst mo hn (flat_reps r1 _))
      · cases e
    | _ => cases e
  | tup a =>
    cases dy with
    | int j =>
      unfold binD at e
      simp only at e
      split at e
      · rename_i hl
        cases e
        obtain ⟨p, xs, rfl, hp, fp, r1⟩ := repT bx
        refine .inr (.inr (.inr (.inl ⟨p, j, xs, rfl, repI bY, SqT.of hp, ?_, hl.2.1, hl.2.2.1, by rw [← r1.len]; exact hl.2.2.2, fun n hn => ?_⟩)))
        · intro z
          subst z
          exact hl.1 (List.length_eq_zero_iff.mp r1.len)
        · exact k _ _ (lay_grow mo hn) (new_tup mo hn (flat_reps r1 _))
      · cases e
    | _ => cases e
  | _ => cases dy <;> cases e
theorem bitOr_pp {x y : Int} (hx : 0 ≤ x) (hy : 0 ≤ y) : Builtin.bitOr x y = ((x.toNat ||| y.toNat : Nat) : Int) := by
  have h1 : ¬ 0 ≤ -x - 1 := by omega
  have h2 : ¬ 0 ≤ -y - 1 := by omega
  show Spec.bitOr x y = _
  unfold Spec.bitOr Spec.bitAnd Spec.bitNot
  rw [decide_eq_false h1, decide_eq_false h2]
  simp only
  have e1 : (-(-x - 1) - 1).toNat = x.toNat := by omega
  have e2 : (-(-y - 1) - 1).toNat = y.toNat := by omega
  rw [e1, e2]
  omega
theorem or_and_xor : ∀ a b : Nat, a ||| b = (a &&& b) + (a ^^^ b) := by
  intro a
  induction a using Nat.strongRecOn with
  | ind a ih =>
    intro b
    by_cases h : a = 0
    · subst h; simp
    · have i := ih (a / 2) (by omega) (b / 2)
      have d1 : (a ||| b) / 2 = a / 2 ||| b / 2 := Nat.or_div_two
      have d2 : (a &&& b) / 2 = a / 2 &&& b / 2 := Nat.and_div_two
      have d3 : (a ^^^ b) / 2 = a / 2 ^^^ b / 2 := Nat.xor_div_two
      have m1 : (a ||| b) % 2 ^ 1 = a % 2 ^ 1 ||| b % 2 ^ 1 := Nat.or_mod_two_pow
      have m2 : (a &&& b) % 2 ^ 1 = a % 2 ^ 1 &&& b % 2 ^ 1 := Nat.and_mod_two_pow
      have m3 : (a ^^^ b) % 2 ^ 1 = a % 2 ^ 1 ^^^ b % 2 ^ 1 := Nat.xor_mod_two_pow
      rw [← d1, ← d2, ← d3] at i
      have ha : a % 2 ^ 1 = 0 ∨ a % 2 ^ 1 = 1 := by omega
      have hb : b % 2 ^ 1 = 0 ∨ b % 2 ^ 1 = 1 := by omega
      have key : (a ||| b) % 2 ^ 1 = (a &&& b) % 2 ^ 1 + (a ^^^ b) % 2 ^ 1 := by
        rw [m1, m2, m3]
        rcases ha with ha | ha <;> rcases hb with hb | hb <;> rw [ha, hb] <;> rfl
      omega
theorem bitXor_pp {x y : Int} (hx : 0 ≤ x) (hy : 0 ≤ y) : Builtin.bitXor x y = ((x.toNat ^^^ y.toNat : Nat) : Int) := by
  show Builtin.bitOr x y - Builtin.bitAnd x y = _
  rw [bitOr_pp hx hy, bitAnd_pp hx hy, or_and_xor]
  omega
theorem bin_sound {X : Cx} {cl : String → Addr} (op : Operator) : ∃ r, OpR X (binaryOp op) r ∧ Op2 cl r fun _ x y => binD op x y := by
  have none_ok : ∀ {op : Operator}, (∀ x y, binD op x y = none) → ∃ r, OpR X (binaryOp op) r ∧ Op2 cl r fun _ x y => binD op x y := fun h =>
    ⟨fun _ _ _ _ => False, fun _ _ _ _ _ _ _ _ _ _ _ _ z => z.elim, fun _ _ dx dy _ _ _ _ _ _ _ _ e _ => nomatch ((h dx dy).symm.trans e)⟩
  cases op with
  | Add => exact ⟨_, op_add.or (op_add_str.or (op_cat.or op_catA)), add_ok⟩
  | Mult => exact ⟨_, op_mul.or (op_mulW.or (op_rep.or (op_repT.or op_repS))), mul_ok⟩
  | Sub => exact ⟨_, op_sub, fun m S dx dy x y ent Q mo st bx bY e k => by
      cases dx <;> cases dy <;> first
        | cases e; exact ⟨_, _, repI bx, repI bY, k _ m (Grow.refl mo) (.int _)⟩
        | cases e⟩
  | Mod => exact ⟨_, op_modN, int_ok fun dx dy ent e => by
      cases dx <;> cases dy <;> first
        | (unfold binD at e; simp only at e; split at e; cases e; rename_i hl; cases e; exact ⟨_, _, _, rfl, rfl, hl, rfl, rfl⟩)
        | cases e⟩
  | FloorDiv => exact ⟨_, op_fdivN, int_ok fun dx dy ent e => by
      cases dx <;> cases dy <;> first
        | cases e
        | (unfold binD at e; simp only at e; split at e; (rename_i hl; cases e; exact ⟨_, _, _, rfl, rfl, fd_ok hl, rfl, rfl⟩); cases e)⟩
  | Pow => exact ⟨_, op_pow, int_ok fun dx dy ent e => by
      cases dx <;> cases dy <;> first
        | cases e
        | (unfold binD at e; simp only at e; split at e; (rename_i hl; cases e; exact ⟨_, _, _, rfl, rfl, sh_ok hl, rfl, rfl⟩); cases e)⟩
  | LShift => exact ⟨_, op_shl, int_ok fun dx dy ent e => by
      cases dx <;> cases dy <;> first
        | cases e
        | (unfold binD at e; simp only at e; split at e; (rename_i hl; cases e; exact ⟨_, _, _, rfl, rfl, sh_ok hl, rfl, rfl⟩); cases e)⟩
  | RShift => exact ⟨_, op_shr, int_ok fun dx dy ent e => by
      cases dx <;> cases dy <;> first
        | cases e
        | (unfold binD at e; simp only at e; split at e; (rename_i hl; cases e; exact ⟨_, _, _, rfl, rfl, nn_iff.mp hl, rfl, rfl⟩); cases e)⟩
  | BitAnd => exact ⟨_, op_and, fun m S dx dy x y ent Q mo st bx bY e k => by
      cases dx <;> cases dy <;> first
        | cases e
        | (unfold binD at e; simp only at e; split at e; (rename_i hl; cases e; refine ⟨_, _, repI bx, repI bY, ?_⟩; dsimp only; rw [bitAnd_pp (nn_iff.mp hl.1) (nn_iff.mp hl.2)]; exact k _ m (Grow.refl mo) (.int _)); cases e)⟩
  | BitXor => exact ⟨_, op_xor, fun m S dx dy x y ent Q mo st bx bY e k => by
      cases dx <;> cases dy <;> first
        | cases e
        | (unfold binD at e; simp only at e; split at e; (rename_i hl; cases e; refine ⟨_, _, repI bx, repI bY, ?_⟩; dsimp only; rw [bitXor_pp (nn_iff.mp hl.1) (nn_iff.mp hl.2)]; exact k _ m (Grow.refl mo) (.int _)); cases e)⟩
  | BitOr => exact ⟨_, op_or, fun m S dx dy x y ent Q mo st bx bY e k => by
      cases dx <;> cases dy <;> first
        | cases e
        | (unfold binD at e; simp only at e; split at e; (rename_i hl; cases e; refine ⟨_, _, repI bx, repI bY, ?_⟩; dsimp only; rw [bitOr_pp (nn_iff.mp hl.1) (nn_iff.mp hl.2)]; exact k _ m (Grow.refl mo) (.int _)); cases e)⟩
  | Div => exact none_ok fun x y => by cases x <;> cases y <;> rfl
  | MatMult => exact none_ok fun x y => by cases x <;> cases y <;> rfl
end Z

set_option Elab.async false
set_option linter.all false
set_option maxRecDepth 100000
set_option maxHeartbeats 4000000
namespace Z
open PySem PySem.Spec PyProof.Rows L2

/-! ### == of data -/
theorem lay_ints : ∀ xs : List Int, PyData.canLayAll0 (xs.map PyData.int) = true ∧ PyData.depthAll (xs.map PyData.int) = 0
  | [] => ⟨rfl, rfl⟩
  | x :: xs => by
    obtain ⟨h1, h2⟩ := lay_ints xs
    constructor
    · show (PyData.canLay0 (.int x) && PyData.canLayAll0 (xs.map PyData.int)) = true
      rw [h1]; rfl
    · show max (PyData.depth (.int x)) (PyData.depthAll (xs.map PyData.int)) = 0
      rw [h2]; rfl
mutual
theorem lay_of : ∀ (n : Nat) (d : D), D.plain n d = true → PyData.canLay0 (toP d) = true ∧ PyData.depth (toP d) ≤ n
  | n, .non, _ => ⟨rfl, Nat.zero_le _⟩
  | n, .bl _, _ => ⟨rfl, Nat.zero_le _⟩
  | n, .int _, _ => ⟨rfl, Nat.zero_le _⟩
  | n, .str x, h => ⟨by
      have h : x.all (fun c => decide (c < 1114112)) = true := by cases n <;> exact h
      show PyData.strOk ⟨x.toArray⟩ = true
      unfold PyData.strOk
      show x.toArray.all (· < 0x110000) = true
      rw [← Array.all_toList]
      exact h, Nat.zero_le _⟩
  | n + 1, .lst xs, h => by
    obtain ⟨h1, h2⟩ := lays_of n xs h
    exact ⟨h1, Nat.succ_le_succ h2⟩
  | n + 1, .tup xs, h => by
    obtain ⟨h1, h2⟩ := lays_of n xs h
    exact ⟨h1, Nat.succ_le_succ h2⟩
  | _ + 1, .scr _, h => by cases h
  | 0, .lst _, h => by cases h
  | 0, .tup _, h => by cases h
  | 0, .scr _, h => by cases h
  | 0, .dic _, h => by cases h
  | 0, .obj _, h => by cases h
  | 0, .exc _, h => by cases h
  | _ + 1, .dic _, h => by cases h
  | _ + 1, .obj _, h => by cases h
  | _ + 1, .exc _, h => by cases h
theorem lays_of : ∀ (n : Nat) (ds : List D), D.plains n ds = true → PyData.canLayAll0 (toPs ds) = true ∧ PyData.depthAll (toPs ds) ≤ n
  | n, [], _ => ⟨rfl, Nat.zero_le _⟩
  | n, d :: ds, h => by
    have h : (D.plain n d && D.plains n ds) = true := by cases n <;> exact h
    obtain ⟨a, b⟩ := Bool.and_eq_true_iff.mp h
    obtain ⟨h1, h2⟩ := lay_of n d a
    obtain ⟨h3, h4⟩ := lays_of n ds b
    constructor
    · show (PyData.canLay0 (toP d) && PyData.canLayAll0 (toPs ds)) = true
      rw [h1, h3]; rfl
    · show max (PyData.depth (toP d)) (PyData.depthAll (toPs ds)) ≤ n
      omega
end
mutual
theorem eqv_of : ∀ (n k : Nat) (d e : D), D.plain n d = true → D.plain k e = true → PyData.eqv (toP d) (toP e) = D.eqv d e
  | n, k, .lst xs, .lst ys, h, h' => by
    cases n with
    | zero => cases h
    | succ n =>
      cases k with
      | zero => cases h'
      | succ k => exact eqvs_of n k xs ys h h'
  | n, k, .tup xs, .tup ys, h, h' => by
    cases n with
    | zero => cases h
    | succ n =>
      cases k with
      | zero => cases h'
      | succ k => exact eqvs_of n k xs ys h h'
  | n, k, .non, e, _, h' => by cases e <;> first | rfl | (cases k <;> cases h')
  | n, k, .bl b, e, _, h' => by cases e <;> first | rfl | (cases k <;> cases h')
  | n, k, .int i, e, _, h' => by cases e <;> first | rfl | (cases k <;> cases h')
  | n, k, .str x, e, _, h' => by
    cases e with
    | str y =>
      show ((⟨x.toArray⟩ : Str) == ⟨y.toArray⟩) = (x == y)
      rw [Bool.eq_iff_iff, beq_iff_eq, beq_iff_eq]
      constructor
      · intro z
        have := congrArg (fun s : Str => s.cps.toList) z
        simpa using this
      · intro z; rw [z]
    | dic _ => cases k <;> cases h'
    | obj _ => cases k <;> cases h'
    | exc _ => cases k <;> cases h'
    | scr _ => cases k <;> cases h'
    | _ => rfl
  | n, k, .lst xs, .tup ys, h, h' => rfl
  | n, k, .tup xs, .lst ys, h, h' => rfl
  | n, k, .lst xs, .non, h, h' => rfl
  | n, k, .lst xs, .bl _, h, h' => rfl
  | n, k, .lst xs, .int _, h, h' => rfl
  | n, k, .lst xs, .str _, h, h' => rfl
  | n, k, .tup xs, .non, h, h' => rfl
  | n, k, .tup xs, .bl _, h, h' => rfl
  | n, k, .tup xs, .int _, h, h' => rfl
  | n, k, .tup xs, .str _, h, h' => rfl
  | n, k, .lst xs, .dic _, h, h' => by cases k <;> cases h'
  | n, k, .lst xs, .obj _, h, h' => by cases k <;> cases h'
  | n, k, .lst xs, .exc _, h, h' => by cases k <;> cases h'
  | n, k, .lst xs, .scr _, h, h' => by cases k <;> cases h'
  | n, k, .tup xs, .dic _, h, h' => by cases k <;> cases h'
  | n, k, .tup xs, .obj _, h, h' => by cases k <;> cases h'
  | n, k, .tup xs, .exc _, h, h' => by cases k <;> cases h'
  | n, k, .tup xs, .scr _, h, h' => by cases k <;> cases h'
  | n, _, .dic _, _, h, _ => by cases n <;> cases h
  | n, _, .obj _, _, h, _ => by cases n <;> cases h
  | n, _, .exc _, _, h, _ => by cases n <;> cases h
  | n, _, .scr _, _, h, _ => by cases n <;> cases h
theorem eqvs_of : ∀ (n k : Nat) (ds es : List D), D.plains n ds = true → D.plains k es = true → PyData.eqvAll (toPs ds) (toPs es) = D.eqvs ds es
  | n, k, [], [], _, _ => rfl
  | n, k, [], _ :: _, _, _ => rfl
  | n, k, _ :: _, [], _, _ => rfl
  | n, k, d :: ds, e :: es, h, h' => by
    have h : (D.plain n d && D.plains n ds) = true := by cases n <;> exact h
    have h' : (D.plain k e && D.plains k es) = true := by cases k <;> exact h'
    obtain ⟨a, b⟩ := Bool.and_eq_true_iff.mp h
    obtain ⟨a', b'⟩ := Bool.and_eq_true_iff.mp h'
    show (PyData.eqv (toP d) (toP e) && PyData.eqvAll (toPs ds) (toPs es)) = (D.eqv d e && D.eqvs ds es)
    rw [eqv_of n k d e a a', eqvs_of n k ds es b b']
end
mutual
theorem dp_of {K : PySem.W.Frag} {m : Mem} : ∀ (n : Nat) (d : D) (v : V), D.plain n d = true → Rep m d v → Dp K m.H v (toP d)
  | _, .non, _, _, .non => .non
  | _, .bl _, _, _, .bl b => .bl b
  | _, .int _, _, _, .int i => .int i
  | _, .str _, _, _, .str x => .str _
  | n + 1, .lst ds, _, h, .lst e _ r => .lst (SqL.of e) (dps_of n ds _ h r)
  | n + 1, .tup ds, _, h, .tup e _ r => .tup (SqT.of e) (dps_of n ds _ h r)
  | 0, .lst _, _, h, _ => by cases h
  | 0, .tup _, _, h, _ => by cases h
  | n, .dic _, _, h, _ => by cases n <;> cases h
  | n, .obj _, _, h, _ => by cases n <;> cases h
  | n, .exc _, _, h, _ => by cases n <;> cases h
  | n, .scr _, _, h, _ => by cases n <;> cases h
theorem dps_of {K : PySem.W.Frag} {m : Mem} : ∀ (n : Nat) (ds : List D) (vs : List V), D.plains n ds = true → Reps m ds vs → DpAll K m.H vs (toPs ds)
  | _, [], _, _, .nil => .nil
  | n, d :: ds, _, h, .cons r rs => by
    have h : (D.plain n d && D.plains n ds) = true := by cases n <;> exact h
    obtain ⟨a, b⟩ := Bool.and_eq_true_iff.mp h
    exact .cons (dp_of n d _ a r) (dps_of n ds _ b rs)
end
/-- .. of what is only read -/
theorem dpB_of {K : PySem.W.Frag} {m : Mem} {n : Nat} {d : D} {v : V} (h : D.plain n d = true) (r : RepB m d v) : Dp K m.H v (toP d) := by
  cases d with
  | lst ds =>
    cases n with
    | zero => cases h
    | succ n =>
      obtain ⟨a, xs, rfl, e, r⟩ := r
      exact .lst (SqL.of e) (dps_of n ds _ h r)
  | dic _ => cases n <;> cases h
  | non => exact dp_of n _ _ h r
  | bl _ => exact dp_of n _ _ h r
  | int _ => exact dp_of n _ _ h r
  | str _ => exact dp_of n _ _ h r
  | tup _ => exact dp_of n _ _ h r
  | obj _ => exact dp_of n _ _ h r
  | exc _ => exact dp_of n _ _ h r
  | scr _ => exact dp_of n _ _ h r
theorem shaped_of {d : D} (h : D.plain DEEP d = true) : SeqAt.shaped (toP d) = true := by
  obtain ⟨h1, h2⟩ := lay_of DEEP d h
  unfold SeqAt.shaped
  rw [h1]
  have : PyData.depth (toP d) ≤ 64 := Nat.le_trans h2 (by decide)
  simp [this]
theorem sV_inj (a b : List Nat) : decide (sV a = sV b) = (a == b) := by
  rw [Bool.eq_iff_iff, decide_eq_true_eq, beq_iff_eq]
  constructor
  · intro z
    injection z with z
    have := congrArg (fun s : Str => s.cps.toList) z
    simpa using this
  · intro z; rw [z]
theorem eqD_dp {K : PySem.W.Frag} {m : Mem} {dx dy : D} {x y : V} {b : Bool} (bx : RepB m dx x) (bY : RepB m dy y) (e : eqD dx dy = some b) :
    (∃ i j, x = .str i ∧ y = .str j ∧ decide (x = y) = b) ∨ ∃ d e, Dp K m.H x d ∧ Dp K m.H y e ∧ SeqAt.shaped d = true ∧ SeqAt.shaped e = true ∧ PyData.eqv d e = b := by
  unfold eqD at e
  split at e
  · rename_i p q
    cases e
    have h1 := repS bx
    have h2 := repS bY
    subst h1 h2
    exact .inl ⟨_, _, rfl, rfl, sV_inj p q⟩
  · rename_i xs
    cases e
    cases bx with
    | scr r f =>
      obtain ⟨a, ys, rfl, h, rr⟩ := bY
      cases rr
      have dpi : ∀ l : List Int, DpAll K m.H (l.map V.int) (l.map PyData.int) := fun l => by
        induction l with
        | nil => exact .nil
        | cons i l ih => exact .cons (.int i) ih
      obtain ⟨l1, l2⟩ := lay_ints xs
      refine .inr ⟨.list (xs.map .int), .list [], .lst (.inl r) (dpi xs), .lst (SqL.of h) .nil, ?_, rfl, ?_⟩
      · unfold SeqAt.shaped
        have e1 : PyData.canLay0 (.list (xs.map .int)) = true := l1
        have e2 : PyData.depth (.list (xs.map .int)) = 1 := by show PyData.depthAll _ + 1 = 1; rw [l2]
        rw [e1, e2]; rfl
      · cases xs <;> rfl
  · split at e
    · rename_i h
      cases e
      obtain ⟨h1, h2⟩ := Bool.and_eq_true_iff.mp h
      exact .inr ⟨toP dx, toP dy, dpB_of h1 bx, dpB_of h2 bY, shaped_of h1, shaped_of h2, eqv_of DEEP DEEP dx dy h1 h2⟩
    · cases e
theorem eq_ok {X : Cx} {cl : String → Addr} : Cmp2 cl (fun x y H Q => rEq x y H Q ∨ rEqD X.K x y H Q) fun S => cmpD S .Eq := by
  intro m S dx dy x y b Q st bx bY e q
  rcases eqD_dp (K := X.K) bx bY e with ⟨i, j, rfl, rfl, h⟩ | ⟨d, e', h1, h2, h3, h4, h5⟩
  · exact .inl ⟨rfl, by rw [h]; exact q⟩
  · exact .inr ⟨d, e', h1, h2, h3, h4, by rw [h5]; exact q⟩
theorem map_not {x : Option Bool} {b : Bool} (e : x.map (!·) = some b) : x = some (!b) := by
  cases x with
  | none => cases e
  | some c => cases e; rw [Bool.not_not]
theorem ne_ok {X : Cx} {cl : String → Addr} : Cmp2 cl (fun x y H Q => rNe x y H Q ∨ rNeD X.K x y H Q) fun S => cmpD S .NotEq := by
  intro m S dx dy x y b Q st bx bY e q
  rcases eqD_dp (K := X.K) bx bY (map_not e) with ⟨i, j, rfl, rfl, h⟩ | ⟨d, e', h1, h2, h3, h4, h5⟩
  · exact .inl ⟨rfl, by rw [h, Bool.not_not]; exact q⟩
  · exact .inr ⟨d, e', h1, h2, h3, h4, by rw [h5, Bool.not_not]; exact q⟩
theorem is_none {m : Mem} {d : D} {x : V} (b : RepB m d x) : decide (x = .non) = d.isNon := by
  cases d with
  | non => rw [repN b]; rfl
  | bl _ => rw [repB b]; rfl
  | int _ => rw [repI b]; rfl
  | str _ => rw [repS b]; rfl
  | tup _ => obtain ⟨a, xs, rfl, _⟩ := repT b; rfl
  | lst _ => obtain ⟨a, xs, rfl, _⟩ := b; rfl
  | dic _ => obtain ⟨a, xs, rfl, _⟩ := b; rfl
  | obj _ => cases b; rfl
  | scr _ => cases b; rfl
  | exc _ => cases b
theorem flat_eqV {m : Mem} {d e : D} {x y : V} (fd : D.flat d = true) (fe : D.flat e = true) (bx : RepB m d x) (bY : RepB m e y) : L2.flatV x = true ∧ L2.flatV y = true ∧ L2.eqV y x = D.eqv d e := by
  have key : ∀ {d : D} {x : V}, D.flat d = true → RepB m d x → (d = .non ∧ x = .non) ∨ (∃ b, d = .bl b ∧ x = .bl b) ∨ (∃ i, d = .int i ∧ x = .int i) ∨ ∃ s, d = .str s ∧ x = sV s := fun {d x} f b => by
    cases d with
    | non => exact .inl ⟨rfl, repN b⟩
    | bl _ => exact .inr (.inl ⟨_, rfl, repB b⟩)
    | int _ => exact .inr (.inr (.inl ⟨_, rfl, repI b⟩))
    | str _ => exact .inr (.inr (.inr ⟨_, rfl, repS b⟩))
    | _ => cases f
  have comm : ∀ p q : Bool, (p == q) = (q == p) := fun p q => by cases p <;> cases q <;> rfl
  have commI : ∀ p q : Int, (p == q) = (q == p) := fun p q => by rw [Bool.eq_iff_iff, beq_iff_eq, beq_iff_eq]; exact eq_comm
  rcases key fd bx with ⟨rfl, rfl⟩ | ⟨p, rfl, rfl⟩ | ⟨p, rfl, rfl⟩ | ⟨p, rfl, rfl⟩ <;>
    rcases key fe bY with ⟨rfl, rfl⟩ | ⟨q, rfl, rfl⟩ | ⟨q, rfl, rfl⟩ | ⟨q, rfl, rfl⟩ <;> refine ⟨rfl, rfl, ?_⟩ <;> first
      | rfl
      | exact comm _ _
      | exact commI _ _
      | skip
  show ((⟨q.toArray⟩ : Str) == ⟨p.toArray⟩) = (p == q)
  rw [Bool.eq_iff_iff, beq_iff_eq, beq_iff_eq]
  constructor
  · intro z
    have := congrArg (fun s : Str => s.cps.toList) z
    simpa using this.symm
  · intro z; rw [z]
theorem inV_of {m : Mem} {d : D} {x : V} (fd : D.flat d = true) (bx : RepB m d x) : ∀ (ds : List D) (vs : List V), ds.all D.flat = true → Reps m ds vs → vs.all L2.flatV = true ∧ L2.inV x vs = inL d ds
  | [], _, _, .nil => ⟨rfl, rfl⟩
  | e :: ds, _, h, .cons r rs => by
    rw [List.all_cons, Bool.and_eq_true] at h
    obtain ⟨h1, h2, h3⟩ := flat_eqV fd h.1 bx r.b
    obtain ⟨h4, h5⟩ := inV_of fd bx _ _ h.2 rs
    constructor
    · rw [List.all_cons, h2, h4]; rfl
    · show (L2.eqV _ x || L2.inV x _) = (D.eqv d e || inL d _)
      rw [h3, h5]
theorem kD_inj {a b : DK} (h : kD a = kD b) : a = b := by
  cases a <;> cases b
  · injection h with h; rw [h]
  · cases h
  · cases h
  · rename_i x y
    have h : (Sum.inr (⟨x.toArray⟩ : Str) : Key) = Sum.inr ⟨y.toArray⟩ := h
    injection h with h
    have := congrArg (fun s : Str => s.cps.toList) h
    simp at this
    rw [this]
theorem look_of {m : Mem} (k : DK) : ∀ (ds : List (DK × D)) (vs : List (Key × V)), RepK m ds vs → (match look ds k with | some d => ∃ v, valV vs (kD k) = some v ∧ Rep m d v | none => valV vs (kD k) = none)
  | [], _, .nil => rfl
  | (k', d) :: ds, _, .cons (v := v) (vs := vs) r rs => by
    have ih := look_of k ds _ rs
    unfold look
    by_cases h : k' = k
    · rw [if_pos h]
      subst h
      exact ⟨v, by simp [valV], r⟩
    · rw [if_neg h]
      have h2 : ¬ kD k' = kD k := fun z => h (kD_inj z)
      have e : valV ((kD k', v) :: vs) (kD k) = valV vs (kD k) := by simp [valV, List.find?_cons, h2]
      rw [e]
      exact ih
theorem key_of' {m : Mem} {d : D} {x : V} {k : DK} (b : RepB m d x) (h : DK.of d = some k) : x = kV (kD k) := by
  cases d with
  | int i => cases h; exact repI b
  | str s => cases h; exact repS b
  | _ => cases h
theorem dget_of {m : Mem} {d : D} {x : V} {a : Addr} {k : DK} {ds : List (DK × D)} {vs : List (Key × V)} (b : RepB m d x) (h : DK.of d = some k) (e : m.H a = some (.dK vs)) : DGet m.H a x (valV vs (kD k)) := by
  rw [key_of' b h]
  exact .k e
def rInD (neg : Bool) : R2 := fun x y H Q => ∃ a o, y = .ref a ∧ DGet H a x o ∧ Q (.bl (if neg then !o.isSome else o.isSome)) H
theorem op_inD {X : Cx} (hu : X.A.units + 1 < cLine) : OpR X (compareOp .In) (rInD false) := by
  intro pins s σ H x y v u Q I rx ry h
  obtain ⟨a, o, rfl, g, q⟩ := h
  cases ry
  exact d_in hu I g rx fun s' I' => ⟨.bl _, H, I', rfl, q⟩
theorem op_notInD {X : Cx} (hu : X.A.units + 1 < cLine) : OpR X (compareOp .NotIn) (rInD true) := by
  intro pins s σ H x y v u Q I rx ry h
  obtain ⟨a, o, rfl, g, q⟩ := h
  cases ry
  exact d_notIn hu I g rx fun s' I' => ⟨.bl _, H, I', rfl, q⟩
theorem in_ok {X : Cx} {cl : String → Addr} {op : CmpOp} (hu : X.A.units + 1 < cLine) (neg : Bool) (hop : op = if neg then .NotIn else .In) : ∃ r, OpR X (compareOp op) r ∧ Cmp2 cl r fun S x y => (inD S x y).map fun b => if neg then !b else b := by
  refine ⟨fun x y H Q => (∃ (c : Nat) (z : Str), x = .str ⟨#[c]⟩ ∧ y = .str z ∧ Q (.bl (if neg then !decide (c ∈ z.cps.toList) else decide (c ∈ z.cps.toList))) H) ∨ (rIn X.K neg x y H Q ∨ rInD neg x y H Q), ?_, ?_⟩
  · cases neg with
    | false =>
      subst hop
      exact op_in_sign.or (op_in_seq.or (op_inD hu))
    | true =>
      subst hop
      exact op_notIn_sign.or (op_notIn_seq.or (op_notInD hu))
  · intro m S dx dy x y b Q st bx bY e q
    obtain ⟨b0, e1, rfl⟩ := Option.map_eq_some_iff.mp e
    clear e
    have e := e1
    clear e1
    have seq : ∀ {ys : List D} {vs : List V} {a : Addr}, y = .ref a → (SqL X.K m.H a vs ∨ SqT X.K m.H a vs) → Reps m ys vs → inSeq dx ys = some b0 → rIn X.K neg x y m.H Q := fun {ys vs a} ey hs r e => by
      unfold inSeq at e
      split at e
      · rename_i h
        cases e
        obtain ⟨h1, h2⟩ := Bool.and_eq_true_iff.mp h
        obtain ⟨h3, h4⟩ := inV_of h1 bx _ _ h2 r
        exact ⟨a, vs, ey, hs, (flat_eqV h1 h1 bx bx).1, h3, by rw [h4]; exact q⟩
      · cases e
    have key : ∀ {ds : List (DK × D)} {vs : List (Key × V)} {a : Addr}, y = .ref a → m.H a = some (.dK vs) → RepK m ds vs → inKey dx ds = some b0 → rInD neg x y m.H Q := fun {ds vs a} ey h r e => by
      obtain ⟨k, hk, e⟩ := Option.map_eq_some_iff.mp e
      refine ⟨a, _, ey, dget_of (ds := ds) bx hk h, ?_⟩
      have l := look_of k ds vs r
      have e2 : (valV vs (kD k)).isSome = b0 := by
        rw [← e]
        cases q : look ds k with
        | none => rw [q] at l; rw [l]; rfl
        | some d => rw [q] at l; obtain ⟨v, h, _⟩ := l; rw [h]; rfl
      rw [e2]
      exact q
    unfold inD at e
    cases dy with
    | str z =>
      cases dx with
      | str c =>
        match c, bx, e with
        | [], _, e => cases e
        | [k], bx, e =>
          have e2 : decide (k ∈ z) = b0 := Option.some.inj e
          refine .inl ⟨k, ⟨z.toArray⟩, repS bx, repS bY, ?_⟩
          have e3 : decide (k ∈ (⟨z.toArray⟩ : Str).cps.toList) = b0 := by simpa using e2
          rw [e3]
          exact q
        | _ :: _ :: _, _, e => cases e
      | _ => cases e
    | lst ys =>
      obtain ⟨a, vs, rfl, h, r⟩ := bY
      exact .inr (.inl (seq rfl (.inl (SqL.of h)) r e))
    | tup ys =>
      obtain ⟨a, vs, rfl, h, _, r⟩ := repT bY
      exact .inr (.inl (seq rfl (.inr (SqT.of h)) r e))
    | dic ds =>
      obtain ⟨a, vs, rfl, h, r⟩ := bY
      exact .inr (.inr (key rfl h r e))
    | obj n =>
      cases bY with
      | obj hn =>
        dsimp only at e
        cases hc : S[n]? with
        | none => rw [hc] at e; cases e
        | some c =>
          rw [hc] at e
          have ok := st.at_ n c _ hc hn
          cases c with
          | ins _ _ => cases e
          | lst ys => obtain ⟨vs, h, r⟩ := ok; exact .inr (.inl (seq rfl (.inl (SqL.of h)) r e))
          | dic ds => obtain ⟨vs, h, r⟩ := ok; exact .inr (.inr (key rfl h r e))
    | _ => cases e
theorem is_ok {m : Mem} {dx dy : D} {x y : V} {b : Bool} (bx : RepB m dx x) (bY : RepB m dy y) (e : isOp dx dy = some b) : (y = .non ∧ decide (x = .non) = b) ∨ ∃ c d : Bool, x = .bl c ∧ y = .bl d ∧ decide (c = d) = b := by
  unfold isOp at e
  cases dy with
  | non => cases e; exact .inl ⟨repN bY, is_none bx⟩
  | bl c =>
    cases dx with
    | bl d => cases e; exact .inr ⟨d, c, repB bx, repB bY, rfl⟩
    | _ => cases e
  | _ => cases e
theorem lt_ok {m : Mem} {dx dy : D} {x y : V} {b : Bool} (bx : RepB m dx x) (bY : RepB m dy y) (e : ltD dx dy = some b) : ∃ i j, x = .int i ∧ y = .int j ∧ decide (i < j) = b := by
  cases dx <;> cases dy <;> first | (cases e; exact ⟨_, _, repI bx, repI bY, rfl⟩) | cases e
theorem le_ok {m : Mem} {dx dy : D} {x y : V} {b : Bool} (bx : RepB m dx x) (bY : RepB m dy y) (e : leD dx dy = some b) : ∃ i j, x = .int i ∧ y = .int j ∧ decide (i ≤ j) = b := by
  cases dx <;> cases dy <;> first | (cases e; exact ⟨_, _, repI bx, repI bY, rfl⟩) | cases e
theorem cmp_sound {X : Cx} {cl : String → Addr} (hu : X.A.units + 64 < cLine) (op : CmpOp) : ∃ r, OpR X (compareOp op) r ∧ Cmp2 cl r fun S => cmpD S op := by
  have hu1 : X.A.units + 1 < cLine := by omega
  cases op with
  | Eq => exact ⟨_, op_eq.or (op_eqD hu), eq_ok⟩
  | NotEq => exact ⟨_, op_ne.or (op_neD hu), ne_ok⟩
  | Lt => exact ⟨_, op_lt, fun m S dx dy x y b Q st bx bY e q => by obtain ⟨i, j, h1, h2, h3⟩ := lt_ok bx bY e; exact ⟨i, j, h1, h2, by dsimp only; rw [h3]; exact q⟩⟩
  | LtE => exact ⟨_, op_le, fun m S dx dy x y b Q st bx bY e q => by obtain ⟨i, j, h1, h2, h3⟩ := le_ok bx bY e; exact ⟨i, j, h1, h2, by dsimp only; rw [h3]; exact q⟩⟩
  | Gt => exact ⟨_, op_gt, fun m S dx dy x y b Q st bx bY e q => by obtain ⟨i, j, h1, h2, h3⟩ := lt_ok bY bx e; exact ⟨j, i, h2, h1, by dsimp only; rw [h3]; exact q⟩⟩
  | GtE => exact ⟨_, op_ge, fun m S dx dy x y b Q st bx bY e q => by obtain ⟨i, j, h1, h2, h3⟩ := le_ok bY bx e; exact ⟨j, i, h2, h1, by dsimp only; rw [h3]; exact q⟩⟩
  | Is =>
    refine ⟨_, op_isN.or op_isBl, fun m S dx dy x y b Q st bx bY e q => ?_⟩
    rcases is_ok bx bY e with ⟨h1, h2⟩ | ⟨c, d, h1, h2, h3⟩
    · exact .inl ⟨h1, by rw [h2]; exact q⟩
    · exact .inr ⟨c, d, h1, h2, by rw [h3]; exact q⟩
  | IsNot =>
    refine ⟨_, op_notN.or op_notBl, fun m S dx dy x y b Q st bx bY e q => ?_⟩
    rcases is_ok bx bY (map_not e) with ⟨h1, h2⟩ | ⟨c, d, h1, h2, h3⟩
    · exact .inl ⟨h1, by rw [h2, Bool.not_not]; exact q⟩
    · exact .inr ⟨c, d, h1, h2, by rw [h3, Bool.not_not]; exact q⟩
  | In =>
    obtain ⟨r, h1, h2⟩ := in_ok (X := X) (cl := cl) (op := .In) hu1 false rfl
    refine ⟨r, h1, fun m S dx dy x y b Q st bx bY e q => h2 m S dx dy x y b Q st bx bY ?_ q⟩
    have e : inD S dx dy = some b := e
    show (inD S dx dy).map _ = some b
    rw [e]; rfl
  | NotIn =>
    obtain ⟨r, h1, h2⟩ := in_ok (X := X) (cl := cl) (op := .NotIn) hu1 true rfl
    exact ⟨r, h1, fun m S dx dy x y b Q st bx bY e q => h2 m S dx dy x y b Q st bx bY e q⟩
end Z

set_option Elab.async false
set_option linter.all false
set_option maxRecDepth 100000
set_option maxHeartbeats 4000000
namespace Z
open PySem PySem.Spec PyProof.Rows L2

/-! ### subscripts -/
theorem atI_of {m : Mem} {ds : List D} {vs : List V} (r : Reps m ds vs) {i : Int} {d : D} (h : ((ixN ds.length i).bind fun j => ds[j]?) = some d) : ∃ v, L2.atI vs i = some v ∧ Rep m d v := by
  obtain ⟨j, hj, hd⟩ := Option.bind_eq_some_iff.mp h
  obtain ⟨v, hv, rv⟩ := r.get hd
  refine ⟨v, ?_, rv⟩
  show (L2.ixN vs.length i).bind _ = _
  rw [← r.len]
  have hj2 : L2.ixN ds.length i = some j := hj
  rw [hj2]
  exact hv
def rIdx (K : PySem.W.Frag) (w : World) : R2 := fun x y H Q => rIxL K x y H Q ∨ (rIxT K x y H Q ∨ (rIxS x y H Q ∨ ∃ a v, x = .ref a ∧ DGet H a y (some v) ∧ Q v H))
theorem ix_dict {X : Cx} (hu : X.A.units + 1 < cLine) : IxR X (fun x y H Q => ∃ a v, x = .ref a ∧ DGet H a y (some v) ∧ Q v H) := by
  intro value slice pins s σ H x y v u Q I rx ry h hs
  obtain ⟨a, w, rfl, g, q⟩ := h
  cases rx
  refine tail_any (T := "dict") (dict_typeIs I g) PySem.F.slot_dict_getitem.lookup ?_ hs
  exact d_getItem hu I g ry fun w' s' I' r' => ⟨w, H, I', r', q⟩
theorem idxL_int {α : Type} {xs : List α} {k : D} {d : α} (e : idxL xs k = some d) : ∃ i, k = .int i ∧ ((ixN xs.length i).bind fun j => xs[j]?) = some d := by
  cases k with
  | int i => exact ⟨i, rfl, e⟩
  | _ => cases e
theorem idx_ok {X : Cx} {cl : String → Addr} : Op2 cl (rIdx X.K X.w) fun S x y => (idxD S x y).map .val := by
  intro m S dx dy x y ent Q mo st bx bY e0 k
  obtain ⟨d, e, rfl⟩ := Option.map_eq_some_iff.mp e0
  clear e0
  have fin : ∀ v, Rep m d v → Q v m.H := fun v r => k v m (Grow.refl mo) r
  have dget : ∀ {ds : List (DK × D)} {vs : List (Key × V)} {a : Addr}, x = .ref a → m.H a = some (.dK vs) → RepK m ds vs → idxK ds dy = some d → ∃ a v, x = .ref a ∧ DGet m.H a y (some v) ∧ Q v m.H := fun {ds vs a} ex h r e => by
    obtain ⟨key, hk, hl⟩ := Option.bind_eq_some_iff.mp e
    have l := look_of key ds vs r
    rw [hl] at l
    obtain ⟨v, hv, rv⟩ := l
    refine ⟨a, v, ex, ?_, fin v rv⟩
    rw [← hv]
    exact dget_of (ds := ds) bY hk h
  have lst : ∀ {ds : List D} {vs : List V} {a : Addr}, x = .ref a → m.H a = some (.lst vs) → Reps m ds vs → idxL ds dy = some d → rIxL X.K x y m.H Q := fun {ds vs a} ex h r e => by
    obtain ⟨i, rfl, e⟩ := idxL_int e
    obtain ⟨v, hv, rv⟩ := atI_of r e
    exact ⟨a, vs, i, v, ex, repI bY, SqL.of h, hv, fin v rv⟩
  unfold idxD at e
  cases dx with
  | lst ds =>
    obtain ⟨a, vs, rfl, h, r⟩ := bx
    exact .inl (lst rfl h r e)
  | tup ds =>
    obtain ⟨a, vs, rfl, h, f, r⟩ := repT bx
    obtain ⟨i, rfl, e⟩ := idxL_int e
    obtain ⟨v, hv, rv⟩ := atI_of r e
    exact .inr (.inl ⟨a, vs, i, v, rfl, repI bY, SqT.of h, hv, fin v rv⟩)
  | scr xs =>
    cases bx with
    | scr r f =>
      obtain ⟨z, e1, rfl⟩ := Option.map_eq_some_iff.mp e
      obtain ⟨i, rfl, e2⟩ := idxL_int e1
      refine .inl ⟨_, xs.map V.int, i, .int z, rfl, repI bY, .inl r, ?_, fin _ (.int z)⟩
      obtain ⟨j, hj, hz⟩ := Option.bind_eq_some_iff.mp e2
      show (L2.ixN (xs.map V.int).length i).bind _ = _
      rw [List.length_map]
      have hj2 : L2.ixN xs.length i = some j := hj
      rw [hj2]
      show (xs.map V.int)[j]? = _
      rw [List.getElem?_map, hz]
      rfl
  | str xs =>
    have hx := repS bx
    subst hx
    dsimp only at e
    split at e
    · rename_i hl
      obtain ⟨c, e1, rfl⟩ := Option.map_eq_some_iff.mp e
      obtain ⟨i, rfl, e2⟩ := idxL_int e1
      refine .inr (.inr (.inl ⟨⟨xs.toArray⟩, i, c, rfl, repI bY, by rw [lenS, line_eq]; exact hl, ?_, fin _ (.str [c])⟩))
      obtain ⟨j, hj, hz⟩ := Option.bind_eq_some_iff.mp e2
      show (L2.ixN xs.length i).bind _ = _
      have hj2 : L2.ixN xs.length i = some j := hj
      rw [hj2]
      exact hz
    · cases e
  | dic ds =>
    obtain ⟨a, vs, rfl, h, r⟩ := bx
    exact .inr (.inr (.inr (dget rfl h r e)))
  | obj n =>
    cases bx with
    | obj hn =>
      dsimp only at e
      cases hc : S[n]? with
      | none => rw [hc] at e; cases e
      | some c =>
        rw [hc] at e
        have ok := st.at_ n c _ hc hn
        cases c with
        | ins _ _ => cases e
        | lst ys =>
          obtain ⟨vs, h, r⟩ := ok
          exact .inl (lst rfl h r e)
        | dic ds =>
          obtain ⟨vs, h, r⟩ := ok
          exact .inr (.inr (.inr (dget rfl h r e)))
  | _ => cases e
/-! ### slices -/
theorem slc_ok {X : Cx} : ∃ r, SlR X r ∧ OpS r := by
  refine ⟨_, sl_list.or (sl_tupA.or sl_str), fun m dx x lo hi ent Q mo bx e k => ?_⟩
  unfold slcD at e
  have cutR : ∀ {ds : List D} {vs : List V}, Reps m ds vs → Reps m (cut ds lo hi) (cutV vs lo hi) := fun {ds vs} r => by
    unfold cut cutV
    rw [← r.len]
    exact (r.drop _).take _
  cases dx with
  | lst ds =>
    cases e
    obtain ⟨a, vs, rfl, h, r⟩ := bx
    exact .inl ⟨a, vs, rfl, SqL.of h, fun p hp => k _ _ (lay_grow mo hp) (new_lst mo hp (cutR r))⟩
  | tup ds =>
    cases e
    obtain ⟨a, vs, rfl, h, f, r⟩ := repT bx
    refine .inr (.inl ⟨a, vs, rfl, SqT.of h, fun z => ?_, fun _ p hp => k _ _ (lay_grow mo hp) (new_tup mo hp (cutR r))⟩)
    refine k _ m (Grow.refl mo) (new_val (.tup h f ?_))
    have e : cut ds lo hi = ds := by
      unfold cut
      have z1 : sIx ds.length 0 lo = 0 := by rw [r.len]; exact z.1
      have z2 : sIx ds.length ds.length hi = ds.length := by rw [r.len]; exact z.2
      rw [z1, z2]
      simp
    rw [e]
    exact r
  | str xs =>
    have hx := repS bx
    subst hx
    dsimp only at e
    split at e
    · rename_i hl
      cases e
      refine .inr (.inr ⟨⟨xs.toArray⟩, rfl, by rw [lenS, line_eq]; exact hl, ?_⟩)
      have e : cutS ⟨xs.toArray⟩ lo hi = ⟨(cut xs lo hi).toArray⟩ := by
        unfold cutS cut
        rw [lenS]
        rfl
      rw [e]
      exact k _ m (Grow.refl mo) (.str _)
    · cases e
  | _ => cases e
/-- x[::-1] -/
def rRev (K : PySem.W.Frag) : V → Hp → VK → Prop := fun x H Q => (∃ a xs, x = .ref a ∧ SqL K H a xs ∧ ∀ p, H p = none → Q (.ref p) (upd H p (.lst xs.reverse))) ∨ ∃ z : List Nat, x = sV z ∧ z.length ≤ LINE ∧ Q (sV z.reverse) H
theorem pe_rev {X : Cx} {e : Expr} {te : TE} {k : Nat} {p1 p2 p3 pos : Pos} (he : L2.PE X e te) : L2.PE X (.Subscript e (.Slice none none (some (.UnaryOp .USub (.Constant (.int 1) k p1) p2)) p3) pos) (tUn (rRev X.K) te) := by
  refine ⟨fun pins s σ H Q I h => ?_⟩
  refine Subscript_ (thn (he.run pins s σ H _ I h) fun v s1 hv => ?_)
  obtain ⟨x, H1, I1, r1, q1⟩ := hv
  have step : L2.PO X (some (.UnaryOp .USub (.Constant (.int 1) k p1) p2)) (tPart (tUn (rU fun i => .int (-i)) (tC (.int 1)))) := po_some (pe_un un_neg pe_int)
  refine wpAny_Slice (thn (po_none.run pins s1 σ H1 (fun o Hn => o = none ∧ Hn = H1) I1 ⟨rfl, rfl⟩) fun vl s2 h2 => ?_)
  obtain ⟨l, H2, I2, pl, rfl, rfl⟩ := h2
  refine thn (po_none.run pins s2 σ H2 (fun o Hn => o = none ∧ Hn = H2) I2 ⟨rfl, rfl⟩) fun vu s3 h3 => ?_
  obtain ⟨u, H3, I3, pu, rfl, rfl⟩ := h3
  refine thn (step.run pins s3 σ H3 (fun o Hn => o = some (-1) ∧ Hn = H3) I3 ⟨1, rfl, -1, rfl, rfl, rfl⟩) fun vs s4 h4 => ?_
  obtain ⟨o, H4, I4, ps, rfl, rfl⟩ := h4
  have I5 : Inv X pins σ H4 { s4 with heap := s4.heap.push { cls := .type "slice", data := .fields #[vl, vu, vs] } } := I4.kept (t' := s4.toks) fun b ob q => Heap.get?_push_of_some _ q
  rcases q1 with ⟨a, xs, rfl, hx, q⟩ | ⟨z, rfl, hz, q⟩
  · cases r1
    obtain ⟨its, r, ht, hz⟩ := I5.list hx
    have hlen := r.length
    refine tail_any (ops := [.ref a, .ref s4.heap.objs.size]) ht.isList.typeIs (PySem.slot_list_getitem.lookup) ?_ (by with_unfolding_all rfl)
    refine wpAny_getItem_list_slice ht.isList (Heap.IsSliceOf.new _ vl vu vs) pl pu ps (by decide) ?_ (by rw [List.size_toArray]; omega)
    rw [PySem.W.krv_pick]
    exact ⟨.ref _, _, I5.laid (t' := s4.toks) (o := .lst xs.reverse) (fun b ob q => Heap.get?_push_of_some _ q) (Nat.le_refl _) ⟨by rw [List.length_reverse]; exact hz, _, 0, r.reverse, Heap.get?_push_size _ rfl⟩, rfl, q _ (I5.hok.fresh (Nat.le_refl _))⟩
  · obtain ⟨t, rfl⟩ := r1
    have typ : ({ s4 with heap := s4.heap.push { cls := .type "slice", data := .fields #[vl, vu, vs] } } : Shared).TypeIs (Value.str (⟨z.toArray⟩ : Str) t) "str" := typeIs_str _ _ _
    refine tail_any (ops := [Value.str (⟨z.toArray⟩ : Str) t, .ref s4.heap.objs.size]) typ F.slot_str_getitem.lookup ?_ (by with_unfolding_all rfl)
    obtain ⟨l1, el, e1⟩ := IsPart.raw pl
    obtain ⟨l2, eu, e2⟩ := IsPart.raw pu
    obtain ⟨l3, es, e3⟩ := IsPart.raw ps
    subst el eu es
    refine wpAny_getItem_str_slice (l := l1) (u := l2) (st := l3) ⟨_, Heap.get?_push_size _ rfl, rfl, rfl⟩ (by rw [e3]; rfl) ?_
    have pk : slicePicked (⟨z.toArray⟩ : Str) l1 l2 l3 = (List.range z.length).map fun k => z.length - 1 - k := by
      unfold slicePicked
      rw [e1, e2, e3, lenS]
      exact PySem.W.krv_sliceRange z.length
    unfold sliceMade
    rw [pk, e3]
    show Made.post (if ((-1 : Int) == 1 && _) = true then _ else _) _ _
    rw [if_neg (by simp)]
    have e : (((List.range z.length).map fun k => z.length - 1 - k).filterMap fun i => (⟨z.toArray⟩ : Str).cps[i]?) = z.reverse := by
      have a1 := PySem.W.krv_range z.length
      rw [a1, List.filterMap_reverse]
      have a2 := PySem.W.krv_all z.toArray
      simp only [List.size_toArray] at a2
      have a3 : (List.range z.length).filterMap (fun i => (⟨z.toArray⟩ : Str).cps[i]?) = z := a2
      rw [a3]
    have e' : (((List.range z.length).map fun k => z.length - 1 - k).filterMap ((⟨z.toArray⟩ : Str).cps[·]?)) = z.reverse := e
    rw [e']
    refine ⟨?_, sV z.reverse, H4, I5.tok _, ⟨_, rfl⟩, q⟩
    rw [lenS, List.length_reverse, line_eq]
    exact hz
theorem rev_ok {X : Cx} {cl : String → Addr} : Op1 cl (rRev X.K) fun _ d => revD d := by
  intro m S dx x ent Q mo st bx e k
  cases dx with
  | lst ds =>
    cases e
    obtain ⟨a, vs, rfl, h, r⟩ := bx
    exact .inl ⟨a, vs, rfl, SqL.of h, fun p hp => k _ _ (lay_grow mo hp) (new_lst mo hp r.rev)⟩
  | str xs =>
    have hx := repS bx
    subst hx
    have e : (if xs.length ≤ LINE then some (Ent.val (.str xs.reverse)) else none) = some ent := e
    split at e
    · rename_i hl
      cases e
      exact .inr ⟨xs, rfl, hl, k _ m (Grow.refl mo) (.str _)⟩
    · cases e
  | _ => cases e
end Z

set_option Elab.async false
set_option linter.all false
set_option maxRecDepth 100000
set_option maxHeartbeats 4000000
namespace Z
open PySem PySem.Spec PyProof.Rows L2 PySem.W

/-! ### rules about data -/
def rCntD (K : PySem.W.Frag) : V → List V → Hp → VK → Prop := fun x xs H Q => ∃ (a : Addr) (y : V) (ws : List V) (ds : List PyData) (d : PyData), x = V.ref a ∧ xs = [y] ∧ SqL K H a ws ∧ DpAll K H ws ds ∧ Dp K H y d ∧
  PyData.plainAll ds = true ∧ d.plain = true ∧ d.depth ≤ 32 ∧ Q (.int ((ds.countP fun z => PyData.eqv z d : Nat) : Int)) H
theorem mt_cntD {X : Cx} (hu : X.A.units + 64 < cLine) : MtR X "list.count" (rCntD X.K) := by
  intro pins s σ H x xs v us Q I rx rxs h
  obtain ⟨a, y, ws, ds, d, rfl, rfl, hs, ha, hy, p1, p2, p3, q⟩ := h
  cases rx
  obtain ⟨u, rfl, ru⟩ := rxs.one
  obtain ⟨its, rv, hl, _⟩ := I.list hs
  obtain ⟨as, r1⟩ := Dp.readsAll I ds ws its ha rv
  obtain ⟨bs, r2⟩ := Dp.reads I d y u hy ru
  refine SeqAt.count_list_data hl.isList r1 r2 p1 p2 (by omega) ?_
  exact ⟨.int _, H, I.tok _, ⟨_, rfl⟩, q⟩
def rIdxD (K : PySem.W.Frag) : V → List V → Hp → VK → Prop := fun x xs H Q => ∃ (a : Addr) (y : V) (ws : List V) (ds : List PyData) (d : PyData) (j : Nat), x = V.ref a ∧ xs = [y] ∧ SqL K H a ws ∧ DpAll K H ws ds ∧ Dp K H y d ∧
  PyData.plainAll ds = true ∧ d.plain = true ∧ d.depth ≤ 32 ∧ SeqAt.dataPlace ds d = some j ∧ Q (.int (j : Nat)) H
theorem mt_idxD {X : Cx} (hu : X.A.units + 64 < cLine) : MtR X "list.index" (rIdxD X.K) := by
  intro pins s σ H x xs v us Q I rx rxs h
  obtain ⟨a, y, ws, ds, d, j, rfl, rfl, hs, ha, hy, p1, p2, p3, hp, q⟩ := h
  cases rx
  obtain ⟨u, rfl, ru⟩ := rxs.one
  obtain ⟨its, rv, ⟨⟨cls, dd, data, sl⟩, n, ho, hc, hdn, hdt⟩, hlen⟩ := I.list hs
  simp only at hc hdt
  subst hc hdt
  obtain ⟨as, r1⟩ := Dp.readsAll I ds ws its ha rv
  obtain ⟨bs, r2⟩ := Dp.reads I d y u hy ru
  obtain ⟨hj, hit, hno⟩ := SeqAt.hit_at (vs := its.toArray) r1 p1 hp
  have hsz : its.length ≤ sizeLine := by have := rv.length; omega
  have hsl := sizeLine_eq
  have hjs : (j : Int) < 2 ^ 63 - 1 := by simp at hj; omega
  exact call_meets F.slot_list_index ⟨_, ho, rfl⟩ F.entry_list_index (F.args_list_index_2 _ _) (SeqAt.list_indexAt a its.toArray n dd sl u _ j hj hjs hit hno) ⟨ho, SeqAt.items_plain r1 r2 p1 p2 (by show X.A.units + 1 + _ < _; omega), ⟨.int (j : Nat), H, I.tok _, ⟨_, rfl⟩, q⟩⟩
def rIdxTI (K : PySem.W.Frag) : V → List V → Hp → VK → Prop := fun x xs H Q => ∃ (a : Addr) (ns : List Int) (k : Int), x = V.ref a ∧ xs = [.int k] ∧ SqT K H a (ns.map V.int) ∧ k ∈ ns ∧ Q (.int (ns.idxOf k : Nat)) H
theorem mt_idxTI {X : Cx} : MtR X "tuple.index" (rIdxTI X.K) := by
  intro pins s σ H x xs v us Q I rx rxs h
  obtain ⟨a, ns, k, rfl, rfl, hs, hk, q⟩ := h
  cases rx
  obtain ⟨u, rfl, t, rfl⟩ := rxs.one
  obtain ⟨its, rv, hl, _⟩ := I.tuple hs
  exact SeqAt.tuple_index_ints (show s.heap.IsTuple a its.toArray from hl) rv.ints hk ⟨.int _, H, I.tok _, ⟨_, rfl⟩, q⟩
def rBest (K : PySem.W.Frag) (f : PyData → List PyData → PyData) : List V → Hp → VK → Prop := fun vs H Q => ∃ (a : Addr) (ws : List V) (d : PyData) (ds : List PyData), vs = [V.ref a] ∧ SqL K H a ws ∧ DpAll K H ws (d :: ds) ∧ AlikeAll (d :: ds) ∧ PyData.depthAll (d :: ds) ≤ 32 ∧ PyData.plainAll (d :: ds) = true ∧
  ∀ (i : Nat) (w : V), ws[i]? = some w → (d :: ds)[i]? = some (f d ds) → Q w H
theorem reads_get {X : Cx} {pins : List (Addr × Obj)} {σ : L2.St} {H : Hp} {s : Shared} (I : Inv X pins σ H s) {h' : Heap} (hk : ∀ b o, s.heap.get? b = some o → h'.get? b = some o) : ∀ {ws : List V} {ds : List PyData} {its : List Value}, DpAll X.K H ws ds → Vals ws its → PyData.plainAll ds = true → ∀ {i : Nat} {v : Value} {e : PyData} {bs : List Addr}, its[i]? = some v → Reads h' v e bs → e.plain = true → ∃ w, ws[i]? = some w ∧ RelV w v ∧ ds[i]? = some e
  | _, _, _, .nil, .nil, _, i, v, e, bs, hi, _, _ => by simp at hi
  | _, _, _, .cons hd hds, .cons r rs, hp, 0, v, e, bs, hi, hr, hpl => by
    simp only [List.getElem?_cons_zero, Option.some.injEq] at hi
    subst hi
    obtain ⟨as, r1⟩ := Dp.reads I _ _ _ hd r
    have hp1 : (_ && _) = true := hp
    rw [Bool.and_eq_true] at hp1
    have := SeqAt.plain_unique _ _ _ _ _ hp1.1 (Reads.keeps hk r1) hr
    subst this
    exact ⟨_, rfl, r, rfl⟩
  | _, _, _, .cons hd hds, .cons r rs, hp, i + 1, v, e, bs, hi, hr, hpl => by
    have hp1 : (_ && _) = true := hp
    rw [Bool.and_eq_true] at hp1
    exact reads_get I hk hds rs hp1.2 (i := i) (by simpa using hi) hr hpl
theorem minD_mem (d : PyData) (ds : List PyData) : minD d ds ∈ d :: ds := by
  unfold minD
  induction ds generalizing d with
  | nil => simp
  | cons x xs ih =>
    rw [List.foldl_cons]
    split
    · rcases List.mem_cons.mp (ih x) with h | h
      · rw [h]; simp
      · simp [h]
    · rcases List.mem_cons.mp (ih d) with h | h
      · rw [h]; simp
      · simp [h]
theorem maxD_mem (d : PyData) (ds : List PyData) : maxD d ds ∈ d :: ds := by
  unfold maxD
  induction ds generalizing d with
  | nil => simp
  | cons x xs ih =>
    rw [List.foldl_cons]
    split
    · rcases List.mem_cons.mp (ih x) with h | h
      · rw [h]; simp
      · simp [h]
    · rcases List.mem_cons.mp (ih d) with h | h
      · rw [h]; simp
      · simp [h]
theorem plainAll_mem : ∀ {ds : List PyData}, PyData.plainAll ds = true → ∀ d ∈ ds, d.plain = true
  | x :: xs, h, d, hd => by
    have h1 : (x.plain && PyData.plainAll xs) = true := h
    rw [Bool.and_eq_true] at h1
    rcases List.mem_cons.mp hd with rfl | hd
    · exact h1.1
    · exact plainAll_mem h1.2 d hd
theorem cr_minD {X : Cx} (hc : X.calm = true) (hu : X.A.units + 64 < cLine) : CallR X (.builtin "min") (rBest X.K minD) := by
  intro pins s σ H vs us Q I r h
  obtain ⟨a, ws, d, ds, rfl, hs, hd, hal, hde, hpl, q⟩ := h
  obtain ⟨its, rv, hl, _⟩ := I.list hs
  rw [Vals.ref1 r]
  obtain ⟨as, r1⟩ := Dp.readsAll I _ ws its hd rv
  refine min_list_data (I.ok.hd hc) hl.isList r1 hal (by omega) fun i v h' tk bs hi hr hk => ?_
  have hi2 : its[i]? = some v := by simpa using hi
  obtain ⟨w, e1, e2, e3⟩ := reads_get I hk hd rv hpl hi2 hr (plainAll_mem hpl _ (minD_mem d ds))
  exact ⟨w, H, I.kept hk, e2, q i w e1 e3⟩
theorem cr_maxD {X : Cx} (hc : X.calm = true) (hu : X.A.units + 64 < cLine) : CallR X (.builtin "max") (rBest X.K maxD) := by
  intro pins s σ H vs us Q I r h
  obtain ⟨a, ws, d, ds, rfl, hs, hd, hal, hde, hpl, q⟩ := h
  obtain ⟨its, rv, hl, _⟩ := I.list hs
  rw [Vals.ref1 r]
  obtain ⟨as, r1⟩ := Dp.readsAll I _ ws its hd rv
  refine max_list_data (I.ok.hd hc) hl.isList r1 hal (by omega) fun i v h' tk bs hi hr hk => ?_
  have hi2 : its[i]? = some v := by simpa using hi
  obtain ⟨w, e1, e2, e3⟩ := reads_get I hk hd rv hpl hi2 hr (plainAll_mem hpl _ (maxD_mem d ds))
  exact ⟨w, H, I.kept hk, e2, q i w e1 e3⟩
/-- sorted(xs): the items with their data, by the data -/
def rSortedD (K : PySem.W.Frag) : List V → Hp → VK → Prop := fun vs H Q => ∃ (a : Addr) (ws : List V) (ds : List PyData), vs = [V.ref a] ∧ SqL K H a ws ∧ DpAll K H ws ds ∧ AllAlike ds ∧ Sortable ds ∧ (∀ d ∈ ds, d.depth ≤ 32) ∧
  ∀ p, H p = none → Q (.ref p) (upd H p (.lst (((ws.zip ds).mergeSort (dataLe false (·.2))).map (·.1))))
theorem dpAll_len {K : PySem.W.Frag} {H : Hp} : ∀ {ws : List V} {ds : List PyData}, DpAll K H ws ds → ds.length = ws.length
  | _, _, .nil => rfl
  | _, _, .cons _ r => congrArg Nat.succ (dpAll_len r)
theorem each_zip {X : Cx} {pins : List (Addr × Obj)} {σ : L2.St} {H : Hp} {s : Shared} (I : Inv X pins σ H s) : ∀ {ws : List V} {ds : List PyData} {its : List Value}, DpAll X.K H ws ds → Vals ws its →
    EachIs (fun v (b : V × PyData) => RelV b.1 v) its (ws.zip ds) ∧ EachIs (fun v (b : V × PyData) => ∃ as, Reads s.heap v b.2 as) its (ws.zip ds)
  | _, _, _, .nil, .nil => ⟨.nil, .nil⟩
  | _, _, _, .cons hd hds, .cons r rs => by
    obtain ⟨h1, h2⟩ := each_zip I hds rs
    exact ⟨.cons r h1, .cons (Dp.reads I _ _ _ hd r) h2⟩
theorem vals_each : ∀ {out : List Value} {bs : List (V × PyData)}, EachIs (fun v (b : V × PyData) => RelV b.1 v) out bs → Vals (bs.map (·.1)) out
  | _, _, .nil => .nil
  | _, _, .cons r rs => .cons r (vals_each rs)
theorem zip_snd {α β : Type} : ∀ {xs : List α} {ys : List β}, ys.length = xs.length → (xs.zip ys).map (·.2) = ys
  | [], [], _ => rfl
  | x :: xs, y :: ys, h => by
    rw [List.zip_cons_cons, List.map_cons, zip_snd (by simpa using h)]
theorem cr_sortedD {X : Cx} (hu : X.A.units + 64 < cLine) : CallR X (.builtin "sorted") (rSortedD X.K) := by
  intro pins s σ H vs us Q I r h
  obtain ⟨a, ws, ds, rfl, hs, hd, hal, hso, hde, q⟩ := h
  obtain ⟨its, rv, hl, hz⟩ := I.list hs
  rw [Vals.ref1 r]
  obtain ⟨e1, e2⟩ := each_zip I hd rv
  have hlen := dpAll_len hd
  have hmap : (ws.zip ds).map (·.2) = ds := zip_snd hlen
  have hzl : (ws.zip ds).length ≤ sizeLine := by rw [List.length_zip]; omega
  refine sorted_data (enc := fun b : V × PyData => b.2) hl.isList e1 e2 (by rw [hmap]; exact hal) (by rw [hmap]; exact hso) hzl (fun b hb => ?_) fun out h1 h2 => ?_
  · have : b.2 ∈ ds := by rw [← hmap]; exact List.mem_map.mpr ⟨b, hb, rfl⟩
    have := hde _ this
    omega
  · obtain ⟨ep, he'⟩ := PyProof.Rows.sortedAll_at s.heap its out.toArray
    have hv := vals_each h2
    have hlen2 : (((ws.zip ds).mergeSort (dataLe false (·.2))).map (·.1)).length ≤ sizeLine := by
      rw [List.length_map, List.length_mergeSort]
      exact hzl
    exact ⟨.ref _, upd H (s.heap.objs.size + 1) (.lst (((ws.zip ds).mergeSort (dataLe false (·.2))).map (·.1))), I.laid (t' := s.toks) (fun _ _ => PyProof.Rows.sortedAll_old) (Nat.le_succ _) ⟨hlen2, out, ep, hv, he'⟩, rfl, q _ (I.hok.fresh (Nat.le_succ _))⟩
end Z

set_option Elab.async false
set_option linter.all false
set_option maxRecDepth 100000
set_option maxHeartbeats 4000000
namespace Z
open PySem PySem.Spec PyProof.Rows L2

theorem CallR.or {X : Cx} {f : Value} {r r' : List V → Hp → VK → Prop} (h : L2.CallR X f r) (h' : L2.CallR X f r') : L2.CallR X f (fun xs H Q => r xs H Q ∨ r' xs H Q) := by
  intro pins s σ H xs us Q I rs q
  rcases q with q | q
  · exact h pins s σ H xs us Q I rs q
  · exact h' pins s σ H xs us Q I rs q
theorem one_of {m : Mem} {d : D} {vs : List V} (h : RepBs m [d] vs) : ∃ v, vs = [v] ∧ RepB m d v := by
  match vs, h with
  | [v], h => exact ⟨v, rfl, h.1⟩
theorem two_of {m : Mem} {d e : D} {vs : List V} (h : RepBs m [d, e] vs) : ∃ v u, vs = [v, u] ∧ RepB m d v ∧ RepB m e u := by
  match vs, h with
  | [v, u], h => exact ⟨v, u, rfl, h.1, h.2.1⟩
theorem none_of {m : Mem} {vs : List V} (h : RepBs m [] vs) : vs = [] := by
  match vs, h with
  | [], _ => rfl
theorem len_ok {X : Cx} : OpC (fun xs H Q => (∃ x n, xs = [x] ∧ LenV X.K x H n ∧ Q (.int n) H) ∨ ∃ a kvs, xs = [V.ref a] ∧ H a = some (.dK kvs) ∧ Q (.int kvs.length) H) lenF := by
  intro m ds vs ent Q mo bs e k
  have fin : ∀ n : Nat, ent = .val (.int n) → Q (.int n) m.H := fun n en => by subst en; exact k _ m (Grow.refl mo) (.int _)
  unfold lenF at e
  split at e
  · rename_i x
    obtain ⟨v, rfl, b⟩ := one_of bs
    split at e
    · rename_i hl
      have := repS b
      subst this
      refine .inl ⟨_, x.length, rfl, ⟨by rw [lenS, line_eq]; exact hl, (lenS x).symm⟩, fin _ (Option.some.inj e).symm⟩
    · cases e
  · rename_i xs
    obtain ⟨v, rfl, b⟩ := one_of bs
    obtain ⟨a, vs, rfl, h, r⟩ := b
    exact .inl ⟨_, xs.length, rfl, .inl ⟨vs, SqL.of h, r.len⟩, fin _ (Option.some.inj e).symm⟩
  · rename_i xs
    obtain ⟨v, rfl, b⟩ := one_of bs
    cases b with
    | scr h f => exact .inl ⟨_, xs.length, rfl, .inl ⟨xs.map V.int, .inl h, (List.length_map ..).symm⟩, fin _ (Option.some.inj e).symm⟩
  · rename_i xs
    obtain ⟨v, rfl, b⟩ := one_of bs
    obtain ⟨a, vs, rfl, h, _, r⟩ := repT b
    exact .inl ⟨_, xs.length, rfl, .inr ⟨vs, SqT.of h, r.len⟩, fin _ (Option.some.inj e).symm⟩
  · rename_i xs
    obtain ⟨v, rfl, b⟩ := one_of bs
    obtain ⟨a, vs, rfl, h, r⟩ := b
    refine .inr ⟨a, vs, rfl, h, ?_⟩
    rw [← r.len]
    exact fin _ (Option.some.inj e).symm
  · cases e
theorem bools_of {m : Mem} : ∀ (ds : List D) (vs : List V) (bs : List Bool), Reps m ds vs → boolsOf ds = some bs → vs = bs.map V.bl
  | [], _, bs, .nil, e => by cases e; rfl
  | .bl b :: ds, _, bs, .cons (.bl _) r, e => by
    have e : (boolsOf ds).map (b :: ·) = some bs := e
    obtain ⟨cs, h, rfl⟩ := Option.map_eq_some_iff.mp e
    rw [bools_of ds _ cs r h]; rfl
theorem all_ok {X : Cx} : OpC (rAll X.K) allF := by
  intro m ds vs ent Q mo bs e k
  unfold allF at e
  split at e
  · rename_i xs
    obtain ⟨v, rfl, b⟩ := one_of bs
    obtain ⟨a, vs, rfl, h, r⟩ := b
    obtain ⟨cs, hc, rfl⟩ := Option.map_eq_some_iff.mp e
    have := bools_of xs vs cs r hc
    subst this
    exact ⟨a, cs, rfl, SqL.of h, k _ m (Grow.refl mo) (.bl _)⟩
  · cases e
theorem any_ok {X : Cx} : OpC (rAny X.K) anyF := by
  intro m ds vs ent Q mo bs e k
  unfold anyF at e
  split at e
  · rename_i xs
    obtain ⟨v, rfl, b⟩ := one_of bs
    obtain ⟨a, vs, rfl, h, r⟩ := b
    obtain ⟨cs, hc, rfl⟩ := Option.map_eq_some_iff.mp e
    have := bools_of xs vs cs r hc
    subst this
    exact ⟨a, cs, rfl, SqL.of h, k _ m (Grow.refl mo) (.bl _)⟩
  · cases e
theorem ofStr_codes (s : String) : Str.ofString s = ⟨(codes s).toArray⟩ := Str.ofString_eq_toList s
theorem str_ok : OpC (fun xs H Q => ∃ i : Int, xs = [.int i] ∧ i.natAbs.log2 < 1920 ∧ Q (.str (toString i)) H) strF := by
  intro m ds vs ent Q mo bs e k
  unfold strF at e
  split at e
  · rename_i i
    obtain ⟨v, rfl, b⟩ := one_of bs
    split at e
    · rename_i hl
      cases e
      refine ⟨i, by rw [repI b], hl, ?_⟩
      rw [show V.str (Str.ofString (toString i)) = sV (codes (toString i)) from congrArg V.str (ofStr_codes _)]
      exact k _ m (Grow.refl mo) (.str _)
    · cases e
  · cases e
theorem digit_int {c : Nat} {i : Int} (h : digit c = some i) : PySem.intText? ⟨#[c]⟩ = some i := by
  unfold digit at h
  split at h
  · rename_i hc
    cases h
    have : c = 48 ∨ c = 49 ∨ c = 50 ∨ c = 51 ∨ c = 52 ∨ c = 53 ∨ c = 54 ∨ c = 55 ∨ c = 56 ∨ c = 57 := by omega
    rcases this with rfl | rfl | rfl | rfl | rfl | rfl | rfl | rfl | rfl | rfl <;> decide +kernel
  · cases h
theorem int_okF {X : Cx} : OpC (fun xs H Q => ((∃ i, xs = [.int i] ∧ Q (.int i) H) ∨ ∃ k, xs = [.bl k] ∧ Q (.int (if k then 1 else 0)) H) ∨ ∃ a n, xs = [.str a] ∧ PySem.intText? a = some n ∧ a.length ≤ 640 ∧ Q (.int n) H) intF := by
  intro m ds vs ent Q mo bs e k
  unfold intF at e
  split at e
  · rename_i c
    obtain ⟨v, rfl, b⟩ := one_of bs
    obtain ⟨i, hi, rfl⟩ := Option.map_eq_some_iff.mp e
    refine .inr ⟨⟨#[c]⟩, i, by rw [repS b]; rfl, digit_int hi, (by show (#[c] : Array Nat).size ≤ 640; simp), k _ m (Grow.refl mo) (.int _)⟩
  · rename_i i
    obtain ⟨v, rfl, b⟩ := one_of bs
    cases e
    exact .inl (.inl ⟨i, by rw [repI b], k _ m (Grow.refl mo) (.int _)⟩)
  · cases e
theorem tuple_ok {X : Cx} : OpC (fun xs H Q => ∃ p ys, xs = [.ref p] ∧ ((SqL X.K H p ys ∧ ∀ l, H l = none → Q (.ref l) (upd H l (.tup ys))) ∨ (SqT X.K H p ys ∧ Q (.ref p) H))) tupleF := by
  intro m ds vs ent Q mo bs e k
  unfold tupleF at e
  split at e
  · rename_i xs
    obtain ⟨v, rfl, b⟩ := one_of bs
    obtain ⟨a, vs, rfl, h, r⟩ := b
    cases e
    exact ⟨a, vs, rfl, .inl ⟨SqL.of h, fun p hp => k _ _ (lay_grow mo hp) (new_tup mo hp r)⟩⟩
  · rename_i xs
    obtain ⟨v, rfl, b⟩ := one_of bs
    obtain ⟨a, vs, rfl, h, f, r⟩ := repT b
    cases e
    exact ⟨a, vs, rfl, .inr ⟨SqT.of h, k _ m (Grow.refl mo) (new_val (.tup h f r))⟩⟩
  · cases e
theorem list_ok {X : Cx} : OpC (fun xs H Q => ∃ p ys, xs = [.ref p] ∧ (SqL X.K H p ys ∨ SqT X.K H p ys) ∧ ∀ l, H l = none → Q (.ref l) (upd H l (.lst ys))) listF := by
  intro m ds vs ent Q mo bs e k
  unfold listF at e
  split at e
  · rename_i xs
    obtain ⟨v, rfl, b⟩ := one_of bs
    obtain ⟨a, vs, rfl, h, r⟩ := b
    cases e
    exact ⟨a, vs, rfl, .inl (SqL.of h), fun p hp => k _ _ (lay_grow mo hp) (new_lst mo hp r)⟩
  · rename_i xs
    obtain ⟨v, rfl, b⟩ := one_of bs
    obtain ⟨a, vs, rfl, h, f, r⟩ := repT b
    cases e
    exact ⟨a, vs, rfl, .inr (SqT.of h), fun p hp => k _ _ (lay_grow mo hp) (new_lst mo hp r)⟩
  · cases e
theorem toPs_map : ∀ xs : List D, toPs xs = xs.map toP
  | [] => rfl
  | x :: xs => congrArg (toP x :: ·) (toPs_map xs)
theorem str_inj {a b : List Nat} (h : PyData.str ⟨a.toArray⟩ = PyData.str ⟨b.toArray⟩) : a = b := by
  injection h with h
  have := congrArg (fun s : Str => s.cps.toList) h
  simpa using this
mutual
theorem toP_inj : ∀ (n k : Nat) (d e : D), D.plain n d = true → D.plain k e = true → toP d = toP e → d = e
  | n, k, .non, e, h, h', q => by
    cases e with
    | non => rfl
    | dic _ => cases k <;> cases h'
    | obj _ => cases k <;> cases h'
    | exc _ => cases k <;> cases h'
    | scr _ => cases k <;> cases h'
    | _ => cases q
  | n, k, .bl b, e, h, h', q => by cases e <;> cases q; rfl
  | n, k, .int b, e, h, h', q => by cases e <;> cases q; rfl
  | n, k, .str b, e, h, h', q => by
    cases e with
    | str c => rw [str_inj q]
    | _ => cases q
  | n, k, .lst xs, e, h, h', q => by
    cases e with
    | lst ys =>
      cases n with
      | zero => cases h
      | succ n =>
        cases k with
        | zero => cases h'
        | succ k =>
          injection q with q
          rw [toPs_inj n k xs ys h h' q]
    | _ => cases q
  | n, k, .tup xs, e, h, h', q => by
    cases e with
    | tup ys =>
      cases n with
      | zero => cases h
      | succ n =>
        cases k with
        | zero => cases h'
        | succ k =>
          injection q with q
          rw [toPs_inj n k xs ys h h' q]
    | _ => cases q
  | n, _, .dic _, _, h, _, _ => by cases n <;> cases h
  | n, _, .obj _, _, h, _, _ => by cases n <;> cases h
  | n, _, .exc _, _, h, _, _ => by cases n <;> cases h
  | n, _, .scr _, _, h, _, _ => by cases n <;> cases h
theorem toPs_inj : ∀ (n k : Nat) (d e : List D), D.plains n d = true → D.plains k e = true → toPs d = toPs e → d = e
  | n, k, [], [], _, _, _ => rfl
  | n, k, [], _ :: _, _, _, q => by cases q
  | n, k, _ :: _, [], _, _, q => by cases q
  | n, k, d :: ds, e :: es, h, h', q => by
    have h : (D.plain n d && D.plains n ds) = true := by cases n <;> exact h
    have h' : (D.plain k e && D.plains k es) = true := by cases k <;> exact h'
    obtain ⟨a, b⟩ := Bool.and_eq_true_iff.mp h
    obtain ⟨a', b'⟩ := Bool.and_eq_true_iff.mp h'
    injection q with q1 q2
    rw [toP_inj n k d e a a' q1, toPs_inj n k ds es b b' q2]
end
theorem plains_get {n : Nat} : ∀ {xs : List D}, D.plains n xs = true → ∀ d ∈ xs, D.plain n d = true
  | x :: xs, h, d, hd => by
    have h : (D.plain n x && D.plains n xs) = true := by cases n <;> exact h
    obtain ⟨a, b⟩ := Bool.and_eq_true_iff.mp h
    rcases List.mem_cons.mp hd with rfl | hd
    · exact a
    · exact plains_get b d hd
theorem alike_of {xs : List D} (h : alikeD xs = true) : ∀ x ∈ toPs xs, ∀ y ∈ toPs xs, PySem.W.alike x y = true := by
  intro x hx y hy
  unfold alikeD at h
  rw [List.all_eq_true] at h
  exact List.all_eq_true.mp (h x hx) y hy
theorem isNon_toP {n : Nat} {d : D} (hp : D.plain n d = true) (h : d.isNon = false) : toP d ≠ .none := by
  cases d with
  | non => cases h
  | dic _ => cases n <;> cases hp
  | obj _ => cases n <;> cases hp
  | exc _ => cases n <;> cases hp
  | scr _ => cases n <;> cases hp
  | _ => intro z; cases z
theorem best_of {xs : List D} (h : bestOk xs = true) : D.plains DEEP xs = true ∧ PySem.W.AlikeAll (toPs xs) := by
  unfold bestOk at h
  rw [Bool.and_eq_true, Bool.and_eq_true] at h
  refine ⟨h.1.1, alike_of h.1.2, fun x hx => ?_⟩
  rw [toPs_map] at hx
  obtain ⟨d, hd, rfl⟩ := List.mem_map.mp hx
  have := List.all_eq_true.mp h.2 d hd
  exact isNon_toP (plains_get h.1.1 d hd) (by simpa using this)
theorem minDD_toP (x : D) (xs : List D) : toP (minDD x xs) = PySem.W.minD (toP x) (toPs xs) := by
  unfold minDD PySem.W.minD
  rw [toPs_map]
  induction xs generalizing x with
  | nil => rfl
  | cons y xs ih =>
    rw [List.foldl_cons, List.map_cons, List.foldl_cons, ih]
    congr 1
    split <;> simp_all
theorem maxDD_toP (x : D) (xs : List D) : toP (maxDD x xs) = PySem.W.maxD (toP x) (toPs xs) := by
  unfold maxDD PySem.W.maxD
  rw [toPs_map]
  induction xs generalizing x with
  | nil => rfl
  | cons y xs ih =>
    rw [List.foldl_cons, List.map_cons, List.foldl_cons, ih]
    congr 1
    split <;> simp_all
theorem minDD_mem (d : D) (ds : List D) : minDD d ds ∈ d :: ds := by
  unfold minDD
  induction ds generalizing d with
  | nil => simp
  | cons x xs ih =>
    rw [List.foldl_cons]
    split
    · rcases List.mem_cons.mp (ih x) with h | h
      · rw [h]; simp
      · simp [h]
    · rcases List.mem_cons.mp (ih d) with h | h
      · rw [h]; simp
      · simp [h]
theorem maxDD_mem (d : D) (ds : List D) : maxDD d ds ∈ d :: ds := by
  unfold maxDD
  induction ds generalizing d with
  | nil => simp
  | cons x xs ih =>
    rw [List.foldl_cons]
    split
    · rcases List.mem_cons.mp (ih x) with h | h
      · rw [h]; simp
      · simp [h]
    · rcases List.mem_cons.mp (ih d) with h | h
      · rw [h]; simp
      · simp [h]
theorem reps_back {m : Mem} : ∀ {ds : List D} {vs : List V}, Reps m ds vs → ∀ {i : Nat} {v : V}, vs[i]? = some v → ∃ d, ds[i]? = some d ∧ Rep m d v
  | _, _, .nil, i, v, h => by simp at h
  | _, _, .cons q r, 0, v, h => by simp at h; subst h; exact ⟨_, rfl, q⟩
  | _, _, .cons q r, i + 1, v, h => by
    obtain ⟨d, e, z⟩ := reps_back r (i := i) (v := v) (by simpa using h)
    exact ⟨d, by simpa using e, z⟩
theorem best_ok {K : PySem.W.Frag} {m : Mem} {x b : D} {xs : List D} {v : V} {f : PyData → List PyData → PyData} {Q : VK} (h : bestOk (x :: xs) = true) (hb : b ∈ x :: xs) (hf : toP b = f (toP x) (toPs xs)) (r : RepB m (.lst (x :: xs)) v) (k : ∀ v, Rep m b v → Q v m.H) : rBest K f [v] m.H Q := by
  obtain ⟨a, vs, rfl, e, r⟩ := r
  obtain ⟨hp, hal⟩ := best_of h
  obtain ⟨q1, q2⟩ := lays_of DEEP (x :: xs) hp
  refine ⟨a, vs, toP x, toPs xs, rfl, SqL.of e, dps_of DEEP (x :: xs) vs hp r, hal, Nat.le_trans q2 (by decide), PyData.plainAll_of_canLay0 _ q1, fun i w hw hd => ?_⟩
  obtain ⟨d, hd2, rd⟩ := reps_back r hw
  have e1 : (toPs (x :: xs))[i]? = some (toP d) := by rw [toPs_map, List.getElem?_map, hd2]; rfl
  have e2 : toP d = toP b := by
    have : (toPs (x :: xs))[i]? = some (f (toP x) (toPs xs)) := hd
    rw [e1] at this
    rw [hf]
    exact Option.some.inj this
  have e3 := toP_inj DEEP DEEP d b (plains_get hp d (List.mem_of_getElem? hd2)) (plains_get hp b hb) e2
  subst e3
  exact k w rd
theorem max_ok {X : Cx} : OpC (fun xs H Q => (∃ i j, xs = [.int i, .int j] ∧ Q (.int (if j > i then j else i)) H) ∨ rBest X.K PySem.W.maxD xs H Q) maxF := by
  intro m ds vs ent Q mo bs e k
  unfold maxF at e
  split at e
  · rename_i i j
    obtain ⟨v, u, rfl, b, c⟩ := two_of bs
    cases e
    exact .inl ⟨i, j, by rw [repI b, repI c], k _ m (Grow.refl mo) (.int _)⟩
  · rename_i x xs
    obtain ⟨v, rfl, b⟩ := one_of bs
    split at e
    · rename_i hb
      cases e
      exact .inr (best_ok hb (maxDD_mem x xs) (maxDD_toP x xs) b fun v hv => k v m (Grow.refl mo) hv)
    · cases e
  · cases e
theorem min_ok {X : Cx} : OpC (fun xs H Q => (∃ i j, xs = [.int i, .int j] ∧ Q (.int (if j < i then j else i)) H) ∨ rBest X.K PySem.W.minD xs H Q) minF := by
  intro m ds vs ent Q mo bs e k
  unfold minF at e
  split at e
  · rename_i i j
    obtain ⟨v, u, rfl, b, c⟩ := two_of bs
    cases e
    exact .inl ⟨i, j, by rw [repI b, repI c], k _ m (Grow.refl mo) (.int _)⟩
  · rename_i x xs
    obtain ⟨v, rfl, b⟩ := one_of bs
    split at e
    · rename_i hb
      cases e
      exact .inr (best_ok hb (minDD_mem x xs) (minDD_toP x xs) b fun v hv => k v m (Grow.refl mo) hv)
    · cases e
  · cases e
theorem ints_ofD {m : Mem} : ∀ (ds : List D) (vs : List V) (is : List Int), Reps m ds vs → intsOf ds = some is → vs = is.map V.int
  | [], _, is, .nil, e => by cases e; rfl
  | .int b :: ds, _, is, .cons (.int _) r, e => by
    have e : (intsOf ds).map (b :: ·) = some is := e
    obtain ⟨cs, h, rfl⟩ := Option.map_eq_some_iff.mp e
    rw [ints_ofD ds _ cs r h]; rfl
theorem sum_ok {X : Cx} : OpC (rSum X.K) sumF := by
  intro m ds vs ent Q mo bs e k
  unfold sumF at e
  split at e
  · rename_i xs
    obtain ⟨v, rfl, b⟩ := one_of bs
    obtain ⟨a, vs, rfl, h, r⟩ := b
    obtain ⟨cs, hc, rfl⟩ := Option.map_eq_some_iff.mp e
    have := ints_ofD xs vs cs r hc
    subst this
    exact ⟨a, cs, rfl, SqL.of h, k _ m (Grow.refl mo) (.int _)⟩
  · cases e
theorem reps_pairs {m : Mem} : ∀ {ps : List (D × V)}, (∀ p ∈ ps, Rep m p.1 p.2) → Reps m (ps.map (·.1)) (ps.map (·.2))
  | [], _ => .nil
  | p :: ps, h => .cons (h p List.mem_cons_self) (reps_pairs fun q hq => h q (List.mem_cons_of_mem _ hq))
theorem reps_zip {m : Mem} : ∀ {xs : List D} {vs : List V}, Reps m xs vs → ∀ p ∈ xs.zip vs, Rep m p.1 p.2
  | _, _, .nil, p, h => by cases h
  | _, _, .cons q r, p, h => by
    rw [List.zip_cons_cons] at h
    rcases List.mem_cons.mp h with rfl | h
    · exact q
    · exact reps_zip r p h
theorem zip_maps {xs : List D} : ∀ {vs : List V}, vs.length = xs.length → (xs.zip vs).map (·.1) = xs ∧ vs.zip (toPs xs) = (xs.zip vs).map fun p => (p.2, toP p.1) := by
  induction xs with
  | nil => intro vs h; rw [List.length_eq_zero_iff.mp h]; exact ⟨rfl, rfl⟩
  | cons x xs ih =>
    intro vs h
    match vs, h with
    | v :: vs, h =>
      obtain ⟨h1, h2⟩ := @ih vs (by simpa using h)
      constructor
      · rw [List.zip_cons_cons, List.map_cons, h1]
      · show (v, toP x) :: vs.zip (toPs xs) = _
        rw [h2]
        rfl
theorem reps_sort {m : Mem} {xs : List D} {vs : List V} (r : Reps m xs vs) : Reps m (sortDD xs) (((vs.zip (toPs xs)).mergeSort (PySem.W.dataLe false (·.2))).map (·.1)) := by
  obtain ⟨e1, e2⟩ := zip_maps (xs := xs) (vs := vs) r.len.symm
  have h1 : ((xs.zip vs).mergeSort (PySem.W.dataLe false fun p : D × V => toP p.1)).map (fun p => (p.2, toP p.1)) = ((xs.zip vs).map fun p => (p.2, toP p.1)).mergeSort (PySem.W.dataLe false (·.2)) := PySem.W.sort_maps (fun p : D × V => (p.2, toP p.1)) fun a _ b _ => rfl
  have h2 : ((xs.zip vs).mergeSort (PySem.W.dataLe false fun p : D × V => toP p.1)).map (·.1) = ((xs.zip vs).map (·.1)).mergeSort (PySem.W.dataLe false toP) := PySem.W.sort_maps (fun p : D × V => p.1) fun a _ b _ => rfl
  rw [e2, ← h1, List.map_map]
  rw [sortDD_eq]
  rw [e1] at h2
  rw [← h2]
  exact reps_pairs fun p hp => reps_zip r p ((List.mergeSort_perm _ _).mem_iff.mp hp)
theorem sorted_ok {X : Cx} : OpC (rSortedD X.K) sortedF := by
  intro m ds vs ent Q mo bs e k
  unfold sortedF at e
  split at e
  · rename_i xs
    obtain ⟨v, rfl, b⟩ := one_of bs
    obtain ⟨a, vs, rfl, h, r⟩ := b
    split at e
    · rename_i hb
      cases e
      unfold sortOk at hb
      rw [Bool.and_eq_true, Bool.and_eq_true] at hb
      obtain ⟨q1, q2⟩ := lays_of DEEP xs hb.1.1
      refine ⟨a, vs, toPs xs, rfl, SqL.of h, dps_of DEEP xs vs hb.1.1 r, alike_of hb.1.2, ?_, fun d hd => ?_, fun p hp => k _ _ (lay_grow mo hp) (new_lst mo hp (reps_sort r))⟩
      · rw [toPs_map]
        have hb2 := hb.2
        rw [Bool.or_eq_true] at hb2
        rcases hb2 with hb2 | hb2
        · refine .inl fun d hd => ?_
          obtain ⟨z, hz, rfl⟩ := List.mem_map.mp hd
          have := List.all_eq_true.mp hb2 z hz
          cases z with
          | tup ys =>
            cases ys with
            | nil => cases this
            | cons y ys => exact ⟨_, _, rfl⟩
          | _ => cases this
        · refine .inr fun d hd => ?_
          obtain ⟨z, hz, rfl⟩ := List.mem_map.mp hd
          have := List.all_eq_true.mp hb2 z hz
          rw [Bool.and_eq_true] at this
          refine ⟨isNon_toP (plains_get hb.1.1 z hz) (by simpa using this.1), fun ys e => ?_⟩
          cases z with
          | tup _ => simp [isTupD] at this
          | _ => cases e
      · rw [toPs_map] at hd
        obtain ⟨z, hz, rfl⟩ := List.mem_map.mp hd
        exact Nat.le_trans (lay_of DEEP z (plains_get hb.1.1 z hz)).2 (by decide)
    · cases e
  · cases e
/-- a built-in called by its name -/
theorem bi_sound {X : Cx} (hc : X.calm = true) (hu : X.A.units + 64 < cLine) (f : String) : ∃ r, (∀ (p pos : Pos) (e : Expr) (es : List Expr) (t : TA), Gl X (Str.ofString f) → X.mg (Str.ofString f) = none → biD f ≠ (fun _ => none) → L2.PA X (e :: es) t →
    starEach (e :: es) X.env = (false, eval e X.env) :: starEach es X.env → (backTo pos (starEach es X.env)).any (·.1) = false → L2.PE X (.Call (.Name (Str.ofString f) p) (e :: es) [] pos) (tCB r t)) ∧ OpC r (biD f) := by
  unfold biD
  by_cases h1 : f = "len"
  · subst h1
    rw [if_pos rfl]
    exact ⟨_, fun p pos e es t hg hm _ ha hs hp => pe_callB (call_len.or call_lenD) hg hm PySem.boot_len ha (by decide) (by decide) hs hp, len_ok⟩
  rw [if_neg h1]
  by_cases h2 : f = "all"
  · subst h2
    rw [if_pos rfl]
    exact ⟨_, fun p pos e es t hg hm _ ha hs hp => pe_callB (cr_all hc) hg hm (by decide +kernel) ha (by decide) (by decide) hs hp, all_ok⟩
  rw [if_neg h2]
  by_cases h3 : f = "any"
  · subst h3
    rw [if_pos rfl]
    exact ⟨_, fun p pos e es t hg hm _ ha hs hp => pe_callB (cr_any hc) hg hm (by decide +kernel) ha (by decide) (by decide) hs hp, any_ok⟩
  rw [if_neg h3]
  by_cases h4 : f = "str"
  · subst h4
    rw [if_pos rfl]
    exact ⟨_, fun p pos e es t hg hm _ ha hs hp => pe_callTy call_str_int hg hm (by decide +kernel) ha (by decide) (by decide) hs hp, str_ok⟩
  rw [if_neg h4]
  by_cases h5 : f = "int"
  · subst h5
    rw [if_pos rfl]
    exact ⟨_, fun p pos e es t hg hm _ ha hs hp => pe_callTy (call_int1.or call_int_str) hg hm (by decide +kernel) ha (by decide) (by decide) hs hp, int_okF (X := X)⟩
  rw [if_neg h5]
  by_cases h6 : f = "tuple"
  · subst h6
    rw [if_pos rfl]
    exact ⟨_, fun p pos e es t hg hm _ ha hs hp => pe_callTy call_tuple_of hg hm (by decide +kernel) ha (by decide) (by decide) hs hp, tuple_ok⟩
  rw [if_neg h6]
  by_cases h7 : f = "list"
  · subst h7
    rw [if_pos rfl]
    exact ⟨_, fun p pos e es t hg hm _ ha hs hp => pe_callTy call_list_of hg hm (by decide +kernel) ha (by decide) (by decide) hs hp, list_ok⟩
  rw [if_neg h7]
  by_cases h8 : f = "max"
  · subst h8
    rw [if_pos rfl]
    exact ⟨_, fun p pos e es t hg hm _ ha hs hp => pe_callB (CallR.or (call_max2 hc) (cr_maxD hc hu)) hg hm (by decide +kernel) ha (by decide) (by decide) hs hp, max_ok⟩
  rw [if_neg h8]
  by_cases h9 : f = "min"
  · subst h9
    rw [if_pos rfl]
    exact ⟨_, fun p pos e es t hg hm _ ha hs hp => pe_callB (CallR.or (call_min2 hc) (cr_minD hc hu)) hg hm (by decide +kernel) ha (by decide) (by decide) hs hp, min_ok⟩
  rw [if_neg h9]
  by_cases h10 : f = "sum"
  · subst h10
    rw [if_pos rfl]
    exact ⟨_, fun p pos e es t hg hm _ ha hs hp => pe_callB (cr_sum hc) hg hm (by decide +kernel) ha (by decide) (by decide) hs hp, sum_ok⟩
  rw [if_neg h10]
  by_cases h11 : f = "sorted"
  · subst h11
    rw [if_pos rfl]
    exact ⟨_, fun p pos e es t hg hm _ ha hs hp => pe_callB (cr_sortedD hu) hg hm (by decide +kernel) ha (by decide) (by decide) hs hp, sorted_ok⟩
  rw [if_neg h11]
  exact ⟨fun _ _ _ => False, fun p pos e es t hg hm hn ha hs hp => (hn rfl).elim, fun m ds vs ent Q mo bs e k => by cases e⟩
end Z

set_option Elab.async false
set_option linter.all false
set_option maxRecDepth 100000
set_option maxHeartbeats 4000000
namespace Z
open PySem PySem.Spec PyProof.Rows L2

/-! ### join, count -/
theorem strs_of {m : Mem} : ∀ (ds : List D) (vs : List V) (ys : List (List Nat)), Reps m ds vs → strsOf ds = some ys → vs = (ys.map SX.S).map V.str
  | [], _, ys, .nil, e => by cases e; rfl
  | .str x :: ds, _, ys, .cons (.str _) r, e => by
    have e : (strsOf ds).map (x :: ·) = some ys := e
    obtain ⟨cs, h, rfl⟩ := Option.map_eq_some_iff.mp e
    rw [strs_of ds _ cs r h]; rfl
theorem sumLen_eq (k : Nat) : ∀ ys : List (List Nat), sumLen k ys = ((ys.map SX.S).map (·.length)).sum + (ys.map SX.S).length * k
  | [] => by simp [sumLen]
  | x :: r => by
    have ih := sumLen_eq k r
    show x.length + k + sumLen k r = _
    rw [ih]
    simp only [List.map_cons, List.sum_cons, List.length_cons]
    have : (SX.S x).length = x.length := lenS x
    rw [this, Nat.add_mul]
    omega
theorem joinS_eq (a : List Nat) : ∀ ys : List (List Nat), TL.joinL a ys = joinS a ys
  | [] => rfl
  | [x] => rfl
  | x :: y :: r => by
    show x ++ (a ++ TL.joinL a (y :: r)) = x ++ a ++ joinS a (y :: r)
    rw [joinS_eq a (y :: r), List.append_assoc]
theorem join_ok {X : Cx} : OpM (fun x xs H Q => ∃ a p, ∃ ys : List Str, x = .str a ∧ xs = [.ref p] ∧ (SqL X.K H p (ys.map V.str) ∨ SqT X.K H p (ys.map V.str)) ∧
    (ys.map (·.length)).sum + ys.length * a.length ≤ 16777216 ∧ Q (.str (Txt.join a ys)) H) joinF := by
  intro m d ds v vs ent Q mo b bs e k
  unfold joinF at e
  split at e
  · rename_i sep xs
    obtain ⟨ys, hy, e⟩ := Option.bind_eq_some_iff.mp e
    split at e
    · rename_i hl
      cases e
      obtain ⟨u, rfl, c⟩ := one_of bs
      obtain ⟨a, zs, rfl, h, r⟩ := c
      have := strs_of xs zs ys r hy
      subst this
      have hs := repS b
      subst hs
      refine ⟨SX.S sep, a, ys.map SX.S, rfl, rfl, .inl (SqL.of h), ?_, ?_⟩
      · rw [sumLen_eq] at hl
        have : (SX.S sep).length = sep.length := lenS sep
        rw [this]
        exact hl
      · rw [SX.join_S, joinS_eq]
        exact k _ m (Grow.refl mo) (.str _)
    · cases e
  · cases e
open Builtin Builtin.Str StrLaws in
theorem chain_count (x : Str) (c : Nat) : ∀ (cuts : List Nat) (a f : Nat), ChainG x ⟨#[c]⟩ x.length a cuts f → (∀ k, f ≤ k → ¬ At x ⟨#[c]⟩ x.length k) → a ≤ x.length → cuts.length = (x.cps.toList.drop a).count c
  | [], a, f, h, hn, ha => by
    have e : f = a := h
    subst e
    symm
    show List.count c _ = 0
    rw [List.count_eq_zero]
    intro hm
    obtain ⟨j, hj⟩ := List.getElem?_of_mem hm
    rw [List.getElem?_drop] at hj
    exact hn (f + j) (by omega) ((subAt_one x c (f + j)).mpr hj)
  | d :: r, a, f, h, hn, ha => by
    obtain ⟨h1, h2, h3, h4⟩ := h
    have hd : x.cps.toList[d]? = some c := (subAt_one x c d).mp h2
    have hlt : d < x.cps.toList.length := (List.getElem?_eq_some_iff.mp hd).1
    have hx : x.cps.toList.length = x.length := Array.length_toList
    have ih := chain_count x c r (d + 1) f h4 hn (by omega)
    rw [List.length_cons, ih]
    have e1 : x.cps.toList.drop a = (x.cps.toList.drop a).take (d - a) ++ (x.cps.toList.drop a).drop (d - a) := (List.take_append_drop _ _).symm
    have e2 : (x.cps.toList.drop a).drop (d - a) = x.cps.toList.drop d := by rw [List.drop_drop]; congr 1; omega
    have e3 : x.cps.toList.drop d = c :: x.cps.toList.drop (d + 1) := by
      rw [List.drop_eq_getElem_cons hlt]
      congr 1
      rw [List.getElem?_eq_getElem hlt] at hd
      exact Option.some.inj hd
    have e4 : ((x.cps.toList.drop a).take (d - a)).count c = 0 := by
      rw [List.count_eq_zero]
      intro hm
      obtain ⟨j, hj⟩ := List.getElem?_of_mem hm
      have hlt2 : j < d - a := by
        have := (List.getElem?_eq_some_iff.mp hj).1
        rw [List.length_take] at this
        omega
      rw [List.getElem?_take_of_lt hlt2, List.getElem?_drop] at hj
      exact h3 (a + j) (by omega) (by omega) ((subAt_one x c (a + j)).mpr hj)
    rw [e1, List.count_append, e4, e2, e3, List.count_cons_self]
    omega
theorem count_one (x : List Nat) (c : Nat) : Txt.count (SX.S x) (SX.S [c]) = (x.count c : Nat) := by
  obtain ⟨f, h1, h2⟩ := StrLaws.occ_tight (SX.S x) (SX.S [c]) (by show 1 ≤ (#[c] : Array Nat).size; simp)
  have h := chain_count (SX.S x) c _ 0 f h1 h2 (Nat.zero_le _)
  show ((Builtin.Str.occurrences (SX.S x) (SX.S [c]) 0 (SX.S x).length ((SX.S x).length + 1)).length : Int) = _
  rw [h]
  simp [SX.S]
theorem count_ok : OpM (fun x xs H Q => ∃ a b, x = .str a ∧ xs = [.str b] ∧ Q (.int (Txt.count a b)) H) countF := by
  intro m d ds v vs ent Q mo b bs e k
  unfold countF at e
  split at e
  · rename_i x c
    cases e
    obtain ⟨u, rfl, cc⟩ := one_of bs
    have h1 := repS b
    have h2 := repS cc
    subst h1 h2
    refine ⟨SX.S x, SX.S [c], rfl, rfl, ?_⟩
    rw [count_one]
    exact k _ m (Grow.refl mo) (.int _)
  · cases e
theorem lcount_ok {X : Cx} : OpM (rCntD X.K) lcountF := by
  intro m d ds v vs ent Q mo b bs e k
  unfold lcountF at e
  split at e
  · rename_i xs y
    obtain ⟨u, rfl, cc⟩ := one_of bs
    obtain ⟨a, ws, rfl, h, r⟩ := b
    split at e
    · rename_i hp
      cases e
      obtain ⟨p1, p2⟩ := Bool.and_eq_true_iff.mp hp
      obtain ⟨l1, l2⟩ := lays_of DEEP xs p1
      obtain ⟨l3, l4⟩ := lay_of DEEP y p2
      refine ⟨a, u, ws, toPs xs, toP y, rfl, rfl, SqL.of h, dps_of DEEP xs ws p1 r, dpB_of p2 cc, PyData.plainAll_of_canLay0 _ l1, PyData.plain_of_canLay0 _ l3, Nat.le_trans l4 (by decide), ?_⟩
      have e1 : (toPs xs).countP (fun z => PyData.eqv z (toP y)) = xs.countP fun z => D.eqv z y := by
        rw [toPs_map, List.countP_map]
        apply List.countP_congr
        intro z hz
        show PyData.eqv (toP z) (toP y) = true ↔ D.eqv z y = true
        rw [eqv_of DEEP DEEP z y (plains_get p1 z hz) p2]
      rw [e1]
      exact k _ m (Grow.refl mo) (.int _)
    · cases e
  · cases e
theorem lindex_ok {X : Cx} : OpM (rIdxD X.K) lindexF := by
  intro m d ds v vs ent Q mo b bs e k
  unfold lindexF at e
  split at e
  · rename_i xs y
    obtain ⟨u, rfl, cc⟩ := one_of bs
    obtain ⟨a, ws, rfl, h, r⟩ := b
    split at e
    · rename_i hp
      obtain ⟨j, hj, rfl⟩ := Option.map_eq_some_iff.mp e
      obtain ⟨p1, p2⟩ := Bool.and_eq_true_iff.mp hp
      obtain ⟨l1, l2⟩ := lays_of 7 xs p1
      obtain ⟨l3, l4⟩ := lay_of DEEP y p2
      refine ⟨a, u, ws, toPs xs, toP y, j, rfl, rfl, SqL.of h, dps_of 7 xs ws p1 r, dpB_of p2 cc, PyData.plainAll_of_canLay0 _ l1, PyData.plain_of_canLay0 _ l3, Nat.le_trans l4 (by decide), ?_, k _ m (Grow.refl mo) (.int _)⟩
      unfold SeqAt.dataPlace
      rw [toPs_map, List.findIdx?_map, ← hj]
      have key : ∀ zs : List D, (∀ z ∈ zs, D.plain 7 z = true) → zs.findIdx? ((fun z => PyData.eqv z (toP y)) ∘ toP) = zs.findIdx? fun z => D.eqv z y := by
        intro zs
        induction zs with
        | nil => intro _; rfl
        | cons z zs ih =>
          intro hz
          rw [List.findIdx?_cons, List.findIdx?_cons, ih fun w hw => hz w (List.mem_cons_of_mem _ hw)]
          show (if PyData.eqv (toP z) (toP y) = true then _ else _) = _
          rw [eqv_of 7 DEEP z y (hz z List.mem_cons_self) p2]
      exact key xs fun z hz => plains_get p1 z hz
    · cases e
  · cases e
open Builtin Builtin.Str StrLaws in
theorem at_one (x : List Nat) (c k : Nat) : StrLaws.At (SX.S x) (SX.S [c]) (SX.S x).length k ↔ x[k]? = some c := by
  have := subAt_one (SX.S x) c k
  have e : (SX.S x).cps.toList = x := by simp [SX.S]
  rw [e] at this
  exact this
theorem find_one (x : List Nat) (c : Nat) : Txt.find (SX.S x) (SX.S [c]) = match x.findIdx? (· == c) with | some j => ((j : Nat) : Int) | none => -1 := by
  rcases find_whole (SX.S x) (SX.S [c]) with ⟨h1, h2⟩ | ⟨i, h1, h2, h3⟩
  · have : x.findIdx? (· == c) = none := by
      rw [List.findIdx?_eq_none_iff]
      intro y hy
      obtain ⟨j, hj⟩ := List.getElem?_of_mem hy
      have := h2 j
      rw [at_one, hj] at this
      simpa using this
    rw [this]
    exact h1
  · have hi := (at_one x c i).mp h2
    obtain ⟨hil, he⟩ := List.getElem?_eq_some_iff.mp hi
    have : x.findIdx? (· == c) = some i := by
      rw [List.findIdx?_eq_some_iff_getElem]
      refine ⟨hil, by simpa using he, fun j hj => ?_⟩
      have := h3 j hj
      rw [at_one, List.getElem?_eq_getElem (by omega)] at this
      simpa using this
    rw [this]
    exact h1
theorem sfind_ok : OpM (fun x xs H Q => ∃ a b, x = .str a ∧ xs = [.str b] ∧ Q (.int (Txt.find a b)) H) sfindF := by
  intro m d ds v vs ent Q mo b bs e k
  unfold sfindF at e
  split at e
  · rename_i x c
    cases e
    obtain ⟨u, rfl, cc⟩ := one_of bs
    have h1 := repS b
    have h2 := repS cc
    subst h1 h2
    refine ⟨SX.S x, SX.S [c], rfl, rfl, ?_⟩
    rw [find_one]
    exact k _ m (Grow.refl mo) (.int _)
  · cases e
theorem sindex_ok : OpM (fun x xs H Q => ∃ a b i rest, x = .str a ∧ xs = [.str b] ∧ Builtin.Str.occurrences a b 0 a.length 1 = i :: rest ∧ Q (.int (i : Nat)) H) sindexF := by
  intro m d ds v vs ent Q mo b bs e k
  unfold sindexF at e
  split at e
  · rename_i x c
    obtain ⟨j, hj, rfl⟩ := Option.map_eq_some_iff.mp e
    obtain ⟨u, rfl, cc⟩ := one_of bs
    have h1 := repS b
    have h2 := repS cc
    subst h1 h2
    have hf := find_one x c
    rw [hj] at hf
    unfold Txt.find at hf
    split at hf
    · rename_i i r ho
      have : i = j := by have := hf; simp only at this; omega
      subst this
      exact ⟨SX.S x, SX.S [c], i, r, rfl, rfl, ho, k _ m (Grow.refl mo) (.int _)⟩
    · simp only at hf
      omega
  · cases e
theorem start_eq (x y : List Nat) : Txt.startswith (SX.S x) (SX.S y) = y.isPrefixOf x := by
  unfold Txt.startswith Builtin.Str.subAt
  rw [Bool.eq_iff_iff]
  simp only [Bool.and_eq_true, decide_eq_true_eq, List.isPrefixOf_iff_prefix, beq_iff_eq, Nat.zero_add]
  have hx : (SX.S x).length = x.length := lenS x
  have hy : (SX.S y).length = y.length := lenS y
  rw [hx, hy]
  have e : (SX.S x).cps.extract 0 y.length = (x.take y.length).toArray := by simp [SX.S]
  rw [e]
  constructor
  · rintro ⟨h1, h2⟩
    have h3 : x.take y.length = y := by
      have := congrArg Array.toList h2
      simpa [SX.S] using this
    rw [← h3]
    exact List.take_prefix _ _
  · intro h
    refine ⟨h.length_le, ?_⟩
    have := List.prefix_iff_eq_take.mp h
    rw [← this]
theorem sstart_ok : OpM (fun x xs H Q => ∃ a b, x = .str a ∧ xs = [.str b] ∧ Q (.bl (Txt.startswith a b)) H) sstartF := by
  intro m d ds v vs ent Q mo b bs e k
  unfold sstartF at e
  split at e
  · rename_i x y
    cases e
    obtain ⟨u, rfl, cc⟩ := one_of bs
    have h1 := repS b
    have h2 := repS cc
    subst h1 h2
    refine ⟨SX.S x, SX.S y, rfl, rfl, ?_⟩
    rw [start_eq]
    exact k _ m (Grow.refl mo) (.bl _)
  · cases e
/-- what a method call's shape must be -/
structure MethShape (X : Cx) (a e : Expr) (es : List Expr) (m : Str) (apos pos : Pos) : Prop where
  base : attributeBase a m X.env (eval a X.env) = eval a X.env
  line : (apos.endLine == pos.line) = true
  star : starEach (e :: es) X.env = (false, eval e X.env) :: starEach es X.env
  plain : (backTo pos (starEach es X.env)).any (·.1) = false
  few : ((backTo pos (starEach (e :: es) X.env)).all (fun x => !x.1) && (backToKw pos (keywordEach [] X.env)).all (fun x => x.1.isSome)
      && decide ((e :: es).length + ([] : List Keyword).length + (if ([] : List Keyword).isEmpty then 0 else 1) < 30)) = true
theorem bm_sound {X : Cx} (hu : X.A.units + 64 < cLine) (t m : String) : ∃ r, (∀ (a e : Expr) (es : List Expr) (apos pos : Pos) (to : TE) (ta : TA), bmD t m ≠ (fun _ _ => none) → MethShape X a e es (Str.ofString m) apos pos → L2.PE X a to → L2.PA X (e :: es) ta →
    L2.PE X (.Call (.Attribute a (Str.ofString m) apos) (e :: es) [] pos) (tBM X.K t r to ta)) ∧ OpM r (bmD t m) := by
  unfold bmD
  by_cases h1 : t = "str" ∧ m = "join"
  · rw [if_pos h1]
    obtain ⟨rfl, rfl⟩ := h1
    exact ⟨_, fun a e es apos pos to ta _ s ho ha => pe_bm PySem.F.plainAttrs_str PySem.F.slot_str_join PySem.F.type_str_join mt_join ho ha s.base s.few s.line s.star s.plain, join_ok (X := X)⟩
  rw [if_neg h1]
  by_cases h2 : t = "str" ∧ m = "count"
  · rw [if_pos h2]
    obtain ⟨rfl, rfl⟩ := h2
    exact ⟨_, fun a e es apos pos to ta _ s ho ha => pe_bm PySem.F.plainAttrs_str PySem.F.slot_str_count PySem.F.type_str_count mt_count ho ha s.base s.few s.line s.star s.plain, count_ok⟩
  rw [if_neg h2]
  by_cases g0 : t = "list" ∧ m = "count"
  · rw [if_pos g0]
    obtain ⟨rfl, rfl⟩ := g0
    exact ⟨_, fun a e es apos pos to ta _ s ho ha => pe_bm PySem.F.plainAttrs_list PySem.F.slot_list_count PySem.F.type_list_count (mt_cntD hu) ho ha s.base s.few s.line s.star s.plain, lcount_ok (X := X)⟩
  rw [if_neg g0]
  by_cases g1 : t = "list" ∧ m = "index"
  · rw [if_pos g1]
    obtain ⟨rfl, rfl⟩ := g1
    exact ⟨_, fun a e es apos pos to ta _ s ho ha => pe_bm PySem.F.plainAttrs_list PySem.F.slot_list_index PySem.F.type_list_index (mt_idxD hu) ho ha s.base s.few s.line s.star s.plain, lindex_ok (X := X)⟩
  rw [if_neg g1]
  by_cases g2 : t = "str" ∧ m = "find"
  · rw [if_pos g2]
    obtain ⟨rfl, rfl⟩ := g2
    exact ⟨_, fun a e es apos pos to ta _ s ho ha => pe_bm PySem.F.plainAttrs_str PySem.F.slot_str_find PySem.F.type_str_find (mt_find) ho ha s.base s.few s.line s.star s.plain, sfind_ok⟩
  rw [if_neg g2]
  by_cases g3 : t = "str" ∧ m = "index"
  · rw [if_pos g3]
    obtain ⟨rfl, rfl⟩ := g3
    exact ⟨_, fun a e es apos pos to ta _ s ho ha => pe_bm PySem.F.plainAttrs_str PySem.F.slot_str_index PySem.F.type_str_index (mt_sindex) ho ha s.base s.few s.line s.star s.plain, sindex_ok⟩
  rw [if_neg g3]
  by_cases g4 : t = "str" ∧ m = "startswith"
  · rw [if_pos g4]
    obtain ⟨rfl, rfl⟩ := g4
    exact ⟨_, fun a e es apos pos to ta _ s ho ha => pe_bm PySem.F.plainAttrs_str PySem.F.slot_str_startswith PySem.F.type_str_startswith (mt_startswith) ho ha s.base s.few s.line s.star s.plain, sstart_ok⟩
  rw [if_neg g4]
  exact ⟨fun _ _ _ _ => False, fun a e es apos pos to ta hn _ _ _ => (hn rfl).elim, fun m d ds v vs ent Q mo b bs e k => by cases e⟩
end Z

set_option Elab.async false
set_option linter.all false
set_option maxRecDepth 100000
set_option maxHeartbeats 4000000
namespace Z
open PySem PySem.Spec PyProof.Rows L2

/-! ### a thing changed in its place -/
def Mem.put (m : Mem) (a : Addr) (o : HO) : Mem := ⟨upd m.H a o, m.F, m.ι⟩
theorem Ext.put {m : Mem} {a : Addr} {o : HO} (h : ¬ m.F a) : Ext m (m.put a o) :=
  ⟨fun b f => ⟨f, upd_ne fun e => h (e ▸ f)⟩, List.prefix_refl _⟩
theorem MOk.put {m : Mem} {a : Addr} {o : HO} (h : MOk m) : MOk (m.put a o) := by
  have key : ∀ b, m.H b ≠ none → upd m.H a o b ≠ none := fun b hb => by
    by_cases e : b = a
    · rw [e, upd_same]; simp
    · rw [upd_ne e]; exact hb
  exact ⟨fun b f => ⟨key b (h.fz b f).1, (h.fz b f).2⟩, h.nd, fun b hb => key b (h.io b hb)⟩
theorem gd_put {m : Mem} {a : Addr} {o : HO} {G : Addr → Prop} (h : ∀ b, G b → m.H b ≠ none ∧ ¬ m.F b ∧ b ∉ m.ι) : ∀ b, G b → (m.put a o).H b ≠ none ∧ ¬ (m.put a o).F b ∧ b ∉ (m.put a o).ι := fun b hb => by
  obtain ⟨h1, h2, h3⟩ := h b hb
  refine ⟨?_, h2, h3⟩
  show upd m.H a o b ≠ none
  by_cases e : b = a
  · rw [e, upd_same]; simp
  · rw [upd_ne e]; exact h1
section
variable {cl : String → Addr} {m : Mem} {G : Addr → Prop} {σ : L2.St} {s : St} {T : List EV}
theorem SR.put {A B : List EV} {d d' : D} {a : Addr} {o : HO} (h : SR m G σ (A ++ (.own d, some (.ref a)) :: B)) (ow : OwnAt (m.put a o) d' a) : SR (m.put a o) G σ (A ++ (.own d', some (.ref a)) :: B) := by
  have nd := h.nd
  rw [owns_append] at nd
  have e1 : owns ((Ent.own d, some (V.ref a)) :: B) = a :: owns B := rfl
  have e2 : owns ((Ent.own d', some (V.ref a)) :: B) = a :: owns B := rfl
  rw [e1] at nd
  have nd2 := nd
  rw [List.nodup_append] at nd2
  obtain ⟨n1, n2, n3⟩ := nd2
  have na : a ∉ owns B := (List.nodup_cons.mp n2).1
  have nA : a ∉ owns A := fun z => n3 a z a List.mem_cons_self rfl
  have ha : a ∈ owns (A ++ (Ent.own d, some (V.ref a)) :: B) := by rw [owns_append, e1]; exact List.mem_append_right _ List.mem_cons_self
  have x : Ext m (m.put a o) := Ext.put (h.fr a ha).1
  have keep : ∀ p ∈ A ++ (Ent.own d, some (V.ref a)) :: B, p ∈ A ∨ p ∈ B → EntOk (m.put a o) σ p.1 p.2 := fun p hp hAB => (h.ok p hp).keep x fun d2 b q1 q2 => by
    obtain ⟨pe, pv⟩ := p
    simp only at q1 q2
    subst q1 q2
    refine upd_ne fun e => ?_
    subst e
    rcases hAB with z | z
    · exact nA (mem_owns z)
    · exact na (mem_owns z)
  refine ⟨fun p hp => ?_, by rw [owns_append, e2]; exact nd, fun b hb => h.fr b (by rw [owns_append, e1]; rw [owns_append, e2] at hb; exact hb)⟩
  rcases List.mem_append.mp hp with hp | hp
  · exact keep p (List.mem_append_left _ hp) (.inl hp)
  · rcases List.mem_cons.mp hp with hp | hp
    · subst hp
      exact ⟨a, rfl, ow⟩
    · exact keep p (List.mem_append_right _ (List.mem_cons_of_mem _ hp)) (.inr hp)
theorem StoOk.put {a : Addr} {o : HO} {S : Store} (h : StoOk cl m S) (hF : ¬ m.F a) (hi : a ∉ m.ι) : StoOk cl (m.put a o) S :=
  ⟨h.len, fun n c b e1 e2 => (h.at_ n c b e1 e2).keep (Ext.put hF) (upd_ne fun e => hi (e ▸ List.mem_of_getElem? e2))⟩
theorem Good.put {i : Nat} {d d' : D} {a : Addr} {o : HO} (g : Good cl m G σ s T) (he : s.env[i]? = some (.own d)) (hv : σ[i]? = some (some (.ref a))) (ow : OwnAt (m.put a o) d' a) :
    Good cl (m.put a o) G σ (Z.put s i (.own d')) T ∧ Ext m (m.put a o) ∧ Prot G m (m.put a o) ∧ ¬ m.F a := by
  obtain ⟨A, B, e1, e2⟩ := zip_split he hv
  have sr := g.sr
  rw [e1, List.append_assoc, List.cons_append] at sr
  have ha : a ∈ owns (A ++ (.own d, some (.ref a)) :: (B ++ T)) := mem_owns (List.mem_append_right _ List.mem_cons_self)
  obtain ⟨f1, f2, f3⟩ := sr.fr a ha
  refine ⟨⟨g.mo.put, ?_, ?_, g.st.put f1 f2, gd_put g.gd, g.na.set (fun _ z => nomatch z)⟩, Ext.put f1, fun b hb => upd_ne fun e => f3 (e ▸ hb), f1⟩
  · show SR _ G σ ((s.env.set i (.own d')).zip σ ++ T)
    rw [e2, List.append_assoc, List.cons_append]
    exact sr.put ow
  · show (s.env.set i (.own d')).length = _
    rw [List.length_set]; exact g.ln
theorem Good.cell {n : Nat} {c c' : Cell} {a : Addr} {o : HO} (g : Good cl m G σ s T) (hn : s.sto[n]? = some c) (hi : m.ι[n]? = some a) (ok : CellOk cl (m.put a o) a c') :
    Good cl (m.put a o) G σ { s with sto := s.sto.set n c' } T ∧ Ext m (m.put a o) ∧ Prot G m (m.put a o) ∧ ¬ m.F a := by
  have hmem : a ∈ m.ι := List.mem_of_getElem? hi
  have f1 : ¬ m.F a := fun f => (g.mo.fz a f).2 hmem
  refine ⟨⟨g.mo.put, ⟨fun p hp => (g.sr.ok p hp).keep (Ext.put f1) fun d b q1 q2 => ?_, g.sr.nd, g.sr.fr⟩, g.ln, ⟨by rw [List.length_set]; exact g.st.len, fun k c2 b e1 e2 => ?_⟩, gd_put g.gd, g.na⟩, Ext.put f1, fun b hb => upd_ne fun e => (g.gd b hb).2.2 (e ▸ hmem), f1⟩
  · obtain ⟨pe, pv⟩ := p
    simp only at q1 q2
    subst q1 q2
    exact upd_ne fun e => (g.sr.fr b (mem_owns hp)).2.1 (e ▸ hmem)
  · by_cases h : k = n
    · subst h
      have e1' : s.sto[k]? = some c := hn
      have lt : k < s.sto.length := (List.getElem?_eq_some_iff.mp e1').1
      rw [List.getElem?_set_self lt] at e1
      cases e1
      have : b = a := by
        have e2' : m.ι[k]? = some b := e2
        rw [hi] at e2'
        exact (Option.some.inj e2').symm
      subst this
      exact ok
    · rw [List.getElem?_set_ne (Ne.symm h)] at e1
      refine (g.st.at_ k c2 b e1 e2).keep (Ext.put f1) (upd_ne fun e => ?_)
      subst e
      have h1 := (List.getElem?_eq_some_iff.mp (show m.ι[k]? = some b from e2))
      have h2 := (List.getElem?_eq_some_iff.mp hi)
      obtain ⟨l1, e1'⟩ := h1
      obtain ⟨l2, e2'⟩ := h2
      exact h ((List.getElem_inj g.mo.nd).mp (e1'.trans e2'.symm))
end
/-- a reading that changes the thing at its place follows f (what is handed in: only read) -/
def OpU (r : V → List V → Hp → VK → Prop) (f : D → List D → Option (D × D)) (P : Mem → List D → List V → Prop) : Prop := ∀ (m : Mem) (a : Addr) (d : D) (ds : List D) (vs : List V) (p : D × D) (Q : VK), OwnAt m d a → ¬ m.F a → P m ds vs → f d ds = some p →
  (∀ v o, OwnAt (m.put a o) p.1 a → Rep (m.put a o) p.2 v → Q v (upd m.H a o)) → r (.ref a) vs m.H Q
section
variable {X : Cx} {cl : String → Addr} {W : WX}
theorem cell_own {m : Mem} {c : Cell} {d : D} {a : Addr} (h : CellOk cl m a c) (e : cellD c = some d) : OwnAt m d a := by
  cases c with
  | ins _ _ => cases e
  | lst _ => cases e; exact h
  | dic _ => cases e; exact h
theorem own_cell {m : Mem} {c : Cell} {d : D} {a : Addr} (h : OwnAt m d a) (e : dCell d = some c) : CellOk cl m a c := by
  cases d with
  | lst _ => cases e; exact h
  | dic _ => cases e; exact h
  | _ => cases e
theorem upd_go {G : Addr → Prop} {σ : L2.St} {T T2 : List EV} {m m2 : Mem} {s2 : St} {r1 : Ent} {x : V} {r : V → Hp → VK → Prop} {f : D → Option (D × D)} {Q : VK}
    (ho : ∀ (a : Addr) (d : D) (p : D × D) (Q : VK), x = .ref a → OwnAt m2 d a → ¬ m2.F a → f d = some p → (∀ v o, OwnAt (m2.put a o) p.1 a → Rep (m2.put a o) p.2 v → Q v (upd m2.H a o)) → r x m2.H Q)
    (g : Good cl m2 G σ s2 T2) (hm : (r1, some x) ∈ T2) (hT : T.Sublist T2) (x2 : Ext m m2) (p2 : Prot G m m2) (q : okE cl W G σ T m Q (upd1 s2 r1 f)) : r x m2.H Q := by
  unfold upd1 at q
  split at q
  · rename_i i
    obtain ⟨d, hd, q1⟩ := want_opt want_E q
    obtain ⟨p, hp, q2⟩ := want_opt want_E q1
    have he : s2.env[i]? = some (.own d) := by
      unfold ownOf at hd
      split at hd
      · rename_i d' h; cases hd; exact h
      · cases hd
    obtain ⟨v, hv, a, rfl, ow⟩ := g.slot he
    have hx : σ[i]? = some (some x) := (g.sr.ok _ (List.mem_append_right _ hm)).2
    have ex : x = .ref a := by rw [hv] at hx; exact (Option.some.inj (Option.some.inj hx)).symm
    have nF : ¬ m2.F a := (g.put (o := .lst []) (d' := .lst []) he hv ⟨[], upd_same, .nil⟩).2.2.2
    refine ho a d p Q ex ow nF hp fun v o ow' rv => ?_
    obtain ⟨g3, x3, p3, _⟩ := g.put (o := o) he hv ow'
    exact q2 v _ (x2.trans x3) (p2.trans p3) ((g3.sub hT).val rv)
  · rename_i n
    obtain ⟨d, hd, q1⟩ := want_opt want_E q
    obtain ⟨p, hp, q2⟩ := want_opt want_E q1
    obtain ⟨c', hc', q3⟩ := want_opt want_E q2
    obtain ⟨c, hc, hcd⟩ := Option.bind_eq_some_iff.mp hd
    obtain ⟨x', ex', rx⟩ := g.sr.ok _ (List.mem_append_right _ hm)
    cases ex'
    cases rx with
    | obj hi =>
      rename_i a
      have ok := g.st.at_ n c a hc hi
      have nF : ¬ m2.F a := fun f => (g.mo.fz a f).2 (List.mem_of_getElem? hi)
      refine ho a d p Q rfl (cell_own ok hcd) nF hp fun v o ow' rv => ?_
      obtain ⟨g3, x3, p3, _⟩ := g.cell (o := o) hc hi (own_cell ow' hc')
      exact q3 v _ (x2.trans x3) (p2.trans p3) ((g3.sub hT).val rv)
  · exact q.elim
variable {a e : Expr} {es : List Expr} {ea : Ev} {el : EvL}
theorem fe_mutF {t : String} {f : D → List D → Option (D × D)} {r : V → List V → Hp → VK → Prop} (hr : ∀ to ta, L2.PE X a to → L2.PA X es ta → L2.PE X e (tBM X.K t r to ta)) (ho : OpU r f Reps) (hx : L2.PE X a (tM cl W ea)) (ha : L2.PA X es (tMA cl W el)) :
    L2.PE X e (tM cl W (mutF t f ea el)) := PE.imp (hr _ _ hx ha) fun σ H Q h => by
  obtain ⟨s, m, G, T, rfl, g, q⟩ := h
  refine tM_then want_E g (List.Sublist.refl _) (Ext.refl _) Prot.refl q fun r1 s1 x m1 x1 p1 g1 q1 => ?_
  obtain ⟨u, hu, q1⟩ := want_opt want_E q1
  refine ⟨ty_ok g1 (by simp) hu, tMA_then want_E g1 sub1 x1 p1 q1 fun rs s2 ys m2 x2 p2 l2 g2 q2 => ?_⟩
  obtain ⟨ds, ed, q3⟩ := want_opt want_E q2
  obtain ⟨m3, eH, ei, x3, g3, r3⟩ := Good.frzL g2 l2 ed
  have p3 : Prot G m2 m3 := fun b _ => by rw [eH]
  rw [← eH]
  exact upd_go (r := fun x H Q => r x ys H Q) (fun a d p Q ex ow nF hp k => by subst ex; exact ho m3 a d ds ys p Q ow nF r3 hp k) g3 (by simp) (sub1.trans (List.sublist_append_left _ _)) ((x1.trans x2).trans x3) ((p1.trans p2).trans p3) q3
theorem fe_mutR {t : String} {f : D → List D → Option (D × D)} {r : V → List V → Hp → VK → Prop} (hr : ∀ to ta, L2.PE X a to → L2.PA X es ta → L2.PE X e (tBM X.K t r to ta)) (ho : OpU r f RepBs) (hx : L2.PE X a (tM cl W ea)) (ha : L2.PA X es (tMA cl W el)) :
    L2.PE X e (tM cl W (mutR t f ea el)) := PE.imp (hr _ _ hx ha) fun σ H Q h => by
  obtain ⟨s, m, G, T, rfl, g, q⟩ := h
  refine tM_then want_E g (List.Sublist.refl _) (Ext.refl _) Prot.refl q fun r1 s1 x m1 x1 p1 g1 q1 => ?_
  obtain ⟨u, hu, q1⟩ := want_opt want_E q1
  refine ⟨ty_ok g1 (by simp) hu, tMA_then want_E g1 sub1 x1 p1 q1 fun rs s2 ys m2 x2 p2 l2 g2 q2 => ?_⟩
  obtain ⟨ds, ed, q3⟩ := want_opt want_E q2
  exact upd_go (r := fun x H Q => r x ys H Q) (fun a d p Q ex ow nF hp k => by subst ex; exact ho m2 a d ds ys p Q ow nF (g2.resL l2 ed) hp k) g2 (by simp) (sub1.trans (List.sublist_append_left _ _)) (x1.trans x2) (p1.trans p2) q3
/-- without arguments -/
theorem fe_mut0 {t : String} {f : D → List D → Option (D × D)} {r : V → List V → Hp → VK → Prop} (hr : ∀ to, L2.PE X a to → L2.PE X e (tBM0 X.K t r to)) (ho : OpU r f Reps) (hx : L2.PE X a (tM cl W ea)) :
    L2.PE X e (tM cl W (mutF t f ea nilL)) := PE.imp (hr _ hx) fun σ H Q h => by
  obtain ⟨s, m, G, T, rfl, g, q⟩ := h
  refine tM_then want_E g (List.Sublist.refl _) (Ext.refl _) Prot.refl q fun r1 s1 x m1 x1 p1 g1 q1 => ?_
  obtain ⟨u, hu, q2⟩ := want_opt want_E q1
  refine ⟨ty_ok g1 (by simp) hu, ?_⟩
  exact upd_go (r := fun x H Q => r x [] H Q) (fun a d p Q ex ow nF hp k => by subst ex; exact ho m1 a d [] [] p Q ow nF .nil hp k) g1 (by simp) sub1 x1 p1 q2
end
theorem append_ok : OpU rAppend appendF Reps := by
  intro m a d ds vs p Q ow nF r e k
  unfold appendF at e
  split at e
  · rename_i xs d
    split at e
    · rename_i hl
      cases e
      obtain ⟨ys, h, r1⟩ := ow
      cases r with
      | cons r2 rn =>
        rename_i y _
        cases rn
        refine ⟨a, ys, y, rfl, rfl, h, by rw [line_eq, ← r1.len]; exact hl, ?_⟩
        have x := Ext.put (m := m) (a := a) (o := .lst (ys ++ [y])) nF
        exact k _ _ ⟨_, upd_same, (Reps.mono x _ _ r1).append (.cons (Rep.mono x _ _ r2) .nil)⟩ .non
    · cases e
  · cases e
theorem extend_ok : OpU rExtend extendF RepBs := by
  intro m a d ds vs p Q ow nF r e k
  unfold extendF at e
  split at e
  · rename_i xs zs
    split at e
    · rename_i hl
      cases e
      obtain ⟨ys, h, r1⟩ := ow
      obtain ⟨v, rfl, b⟩ := one_of r
      obtain ⟨b, us, rfl, h2, r2⟩ := b
      refine ⟨a, b, ys, us, rfl, rfl, h, h2, by rw [line_eq, ← r1.len, ← r2.len]; exact hl, ?_⟩
      have x := Ext.put (m := m) (a := a) (o := .lst (ys ++ us)) nF
      exact k _ _ ⟨_, upd_same, (Reps.mono x _ _ r1).append (Reps.mono x _ _ r2)⟩ .non
    · cases e
  · cases e
theorem Reps.dropLast {m : Mem} {ds : List D} {vs : List V} (r : Reps m ds vs) : Reps m ds.dropLast vs.dropLast := by
  rw [List.dropLast_eq_take, List.dropLast_eq_take, r.len]
  exact r.take _
theorem pop_ok : OpU rPop popF Reps := by
  intro m a d ds vs p Q ow nF r e k
  unfold popF at e
  split at e
  · rename_i xs
    split at e
    · rename_i d hd
      cases e
      obtain ⟨ys, h, r1⟩ := ow
      cases r
      rw [List.getLast?_eq_getElem?] at hd
      obtain ⟨y, hy, ry⟩ := r1.get hd
      refine ⟨a, ys, y, rfl, rfl, h, by rw [← r1.len]; exact hy, ?_⟩
      have x := Ext.put (m := m) (a := a) (o := .lst ys.dropLast) nF
      exact k _ _ ⟨_, upd_same, Reps.mono x _ _ r1.dropLast⟩ (Rep.mono x _ _ ry)
    · cases e
  · cases e
theorem popAt_ok : OpU rPopAt popAtF Reps := by
  intro m a d ds vs p Q ow nF r e k
  unfold popAtF at e
  split at e
  · rename_i xs i
    split at e
    · rename_i hl
      obtain ⟨j, hj, e⟩ := Option.bind_eq_some_iff.mp e
      obtain ⟨d, hd, e⟩ := Option.map_eq_some_iff.mp e
      cases e
      obtain ⟨ys, h, r1⟩ := ow
      cases r with
      | cons r2 rn =>
        cases rn
        cases r2
        obtain ⟨y, hy, ry⟩ := r1.get hd
        have hj2 : L2.ixN xs.length i = some j := hj
        obtain ⟨s1, s2, s3, s4⟩ := ixN_seq hj2
        have hl2 : xs.length ≤ 16777216 := hl
        refine ⟨a, ys, i, j, y, rfl, rfl, h, by omega, by omega, by rw [← r1.len]; exact s1, hy, ?_⟩
        have x := Ext.put (m := m) (a := a) (o := .lst (ys.eraseIdx j)) nF
        exact k _ _ ⟨_, upd_same, Reps.mono x _ _ (r1.erase j)⟩ (Rep.mono x _ _ ry)
    · cases e
  · cases e
end Z

set_option Elab.async false
set_option linter.all false
set_option maxRecDepth 100000
set_option maxHeartbeats 4000000
namespace Z
open PySem PySem.Spec PyProof.Rows L2

/-! ### fields -/
theorem toNat_inj {a b : Char} (h : a.toNat = b.toNat) : a = b := Char.ext (UInt32.toNat_inj.mp h)
theorem ofS_inj {f g : String} (h : Str.ofString f = Str.ofString g) : f = g := by
  rw [Str.ofString_eq_toList, Str.ofString_eq_toList] at h
  injection h with h
  have h2 := congrArg Array.toList h
  simp only [List.toList_toArray] at h2
  have h3 : f.toList = g.toList := List.map_inj_right (fun a b e => toNat_inj e) |>.mp h2
  exact String.toList_inj.mp h3
theorem FldR.look {m : Mem} {f : String} : ∀ {fs : List (String × D)} {gs : List (Str × V)}, FldR m fs gs → ∀ {d : D}, fs.lookup f = some d → ∃ v, gs.lookup (Str.ofString f) = some v ∧ Rep m d v
  | _, _, .nil, d, h => by cases h
  | _, _, .cons (f := g) (d := d0) r rs, d, h => by
    by_cases e : f = g
    · subst e
      rw [List.lookup_cons_self] at h ⊢
      cases h
      exact ⟨_, rfl, r⟩
    · have e1 : (f == g) = false := beq_eq_false_iff_ne.mpr e
      have e2 : (Str.ofString f == Str.ofString g) = false := beq_eq_false_iff_ne.mpr fun z => e (ofS_inj z)
      rw [List.lookup_cons, e1] at h
      rw [List.lookup_cons, e2]
      exact rs.look h
theorem FldR.lookN {m : Mem} {f : String} : ∀ {fs : List (String × D)} {gs : List (Str × V)}, FldR m fs gs → fs.lookup f = none → gs.lookup (Str.ofString f) = none
  | _, _, .nil, _ => rfl
  | _, _, .cons (f := g) (d := d0) r rs, h => by
    by_cases e : f = g
    · subst e
      rw [List.lookup_cons_self] at h
      cases h
    · have e1 : (f == g) = false := beq_eq_false_iff_ne.mpr e
      have e2 : (Str.ofString f == Str.ofString g) = false := beq_eq_false_iff_ne.mpr fun z => e (ofS_inj z)
      rw [List.lookup_cons, e1] at h
      rw [List.lookup_cons, e2]
      exact rs.lookN h
theorem FldR.put {m : Mem} {f : String} {d : D} {v : V} (h : Rep m d v) : ∀ {fs : List (String × D)} {gs : List (Str × V)}, FldR m fs gs → FldR m (putFld f d fs) (putF (Str.ofString f) v gs)
  | _, _, .nil => .cons h .nil
  | _, _, .cons (f := g) (d := d0) r rs => by
    unfold putFld putF
    by_cases e : g = f
    · subst e
      rw [if_pos rfl, if_pos rfl]
      exact .cons h rs
    · rw [if_neg e, if_neg fun z => e (ofS_inj z)]
      exact .cons r (rs.put h)
theorem FldR.len {m : Mem} : ∀ {fs : List (String × D)} {gs : List (Str × V)}, FldR m fs gs → fs.length = gs.length
  | _, _, .nil => rfl
  | _, _, .cons _ r => congrArg Nat.succ r.len
/-- what instances' fields need of the classes -/
def FldF (K : PySem.W.Frag) (cl : String → Addr) (ok : String → String → Bool) : Prop := ∀ c f, ok c f = true → Cls K (cl c) ∧ NoAttr K (cl c) (Str.ofString f)
section
variable {X : Cx} {cl : String → Addr} {W : WX} {a b c e : Expr} {es : List Expr} {ea eb ec : Ev} {el : EvL} {pos : Pos}
theorem ins_of {ok : String → String → Bool} {f : String} {S : Store} {d v : D} (h : fldD ok f S d = some v) : ∃ n c fs, d = .obj n ∧ S[n]? = some (.ins c fs) ∧ ok c f = true ∧ fs.lookup f = some v := by
  unfold fldD at h
  split at h
  · rename_i n
    split at h
    · rename_i c fs hs
      split at h
      · rename_i hk
        exact ⟨n, c, fs, rfl, hs, hk, h⟩
      · cases h
    · cases h
  · cases h
theorem obj_at {m : Mem} {S : Store} {n : Nat} {c : Cell} {x : V} (st : StoOk cl m S) (hs : S[n]? = some c) (r : Rep m (.obj n) x) : ∃ a, x = .ref a ∧ m.ι[n]? = some a ∧ CellOk cl m a c := by
  cases r with
  | obj hi => exact ⟨_, rfl, hi, st.at_ n c _ hs hi⟩
theorem fe_fld {f : String} {ok : String → String → Bool} (hf : FldF X.K cl ok) (he : L2.PE X e (tM cl W ea)) (hb : attributeBase e (Str.ofString f) X.env (eval e X.env) = eval e X.env) :
    L2.PE X (.Attribute e (Str.ofString f) pos) (tM cl W (bnd1 ea fun s x => O ((fldD ok f s.sto x).map .val) s)) := by
  refine PE.imp (pe_fld (ta := tM cl W ea) he hb) fun σ H Q h => ?_
  refine tUn_of (r := fun x H1 Q => ∃ a C dx fs v, x = .ref a ∧ H1 a = some (.ins C dx fs) ∧ Cls X.K C ∧ NoAttr X.K C (Str.ofString f) ∧ fs.lookup (Str.ofString f) = some v ∧ Q v H1) (f := fun S x => (fldD ok f S x).map .val) ?_ h
  intro m S dx x ent Q mo st rb e k
  obtain ⟨v, hv, rfl⟩ := Option.map_eq_some_iff.mp e
  obtain ⟨n, c, fs, rfl, hs, hk, hl⟩ := ins_of hv
  obtain ⟨a, rfl, hi, q⟩ := obj_at st hs rb
  obtain ⟨dx, gs, hH, fr⟩ := q
  obtain ⟨u, hu, ru⟩ := fr.look hl
  obtain ⟨h1, h2⟩ := hf c f hk
  exact ⟨a, cl c, dx, gs, u, rfl, hH, h1, h2, hu, k u m (Grow.refl mo) ru⟩
end

/-! ### isinstance -/
def tv (cl : String → Addr) (t : String) : Value := if t ∈ tyNames then .type t else .ref (cl t)
/-- an instance's class, as isinstance wants it -/
structure InsTy (K : PySem.W.Frag) (C : Addr) : Prop where
  cls : Cls K C
  ha : PySem.W.findIn K (.ref C) "__class__" = some (some (.builtin "object.__class__"))
  hn : PySem.W.specialIn K (.builtin "object.__class__") "__get__" = some (some (.builtin "getset_descriptor.__get__"))
  tk : PySem.W.takesIn K (.builtin "object.__class__") = some true
  mr : PySem.W.mroIn K C (.type "object") = some true
def SubF (K : PySem.W.Frag) (cl : String → Addr) (sub : String → String → Option Bool) : Prop := ∀ c t b, sub c t = some b → PySem.W.kitOne K (tv cl c) (tv cl t) = some b ∧ (c ∉ tyNames → InsTy K (cl c))
theorem ty_plain {K : PySem.W.Frag} {cl : String → Addr} {m : Mem} {d : D} {x : V} (h : RepB m d x) (hd : tyName d ∈ tyNames) : TyX K m.H x (tv cl (tyName d)) := by
  unfold tv
  rw [if_pos hd]
  cases d with
  | non => cases h; exact .base .non
  | bl b => cases h; exact .base (.bl _)
  | int b => cases h; exact .base (.int _)
  | str b => cases h; exact .base (.str _)
  | tup b => cases h with
    | tup h1 f r => exact .base (.tup h1)
  | lst b => obtain ⟨a, xs, rfl, h1, _⟩ := h; exact .base (.lst h1)
  | dic b => obtain ⟨a, xs, rfl, h1, _⟩ := h; exact .base (.dK h1)
  | obj n => exact absurd hd (by simp [tyName, tyNames])
  | exc n => exact absurd hd (by simp [tyName, tyNames])
  | scr n => exact absurd hd (by simp [tyName, tyNames])
theorem isi_of {K : PySem.W.Frag} {cl : String → Addr} {sub : String → String → Option Bool} (hs : SubF K cl sub) {t : String} {m : Mem} {S : Store} {d : D} {x cv : V} {b : Bool} {Q : VK} (hc : ClsV cv (tv cl t)) (st : StoOk cl m S) (h : RepB m d x) (e : isiD sub S t d = some b) (q : Q (.bl b) m.H) : rIsi K [x, cv] m.H Q := by
  have key : ∃ c, TyX K m.H x (tv cl c) ∧ sub c t = some b := by
    unfold isiD at e
    split at e
    · rename_i n
      split at e
      · rename_i c fs hS
        obtain ⟨a, rfl, hi, q⟩ := obj_at st hS h
        obtain ⟨dx, gs, hH, fr⟩ := q
        split at e
        · cases e
        · rename_i hc2
          refine ⟨c, ?_, e⟩
          unfold tv
          rw [if_neg hc2]
          have h2 := (hs c t b e).2 hc2
          exact .base (.ins hH h2.cls h2.ha h2.hn h2.tk h2.mr)
      · cases e
    · cases e
    · cases e
    · rename_i d' h1 h2 h3
      have hn : tyName d ∈ tyNames := by
        cases d with
        | obj n => exact absurd rfl (h1 n)
        | exc n => exact absurd rfl (h2 n)
        | scr n => exact absurd rfl (h3 n)
        | _ => simp [tyName, tyNames]
      exact ⟨_, ty_plain h hn, e⟩
  obtain ⟨c, ht, hs2⟩ := key
  exact ⟨x, cv, tv cl c, tv cl t, b, rfl, hc, ht, (hs c t b hs2).1, q⟩
section
variable {X : Cx} {cl : String → Addr} {W : WX} {a c e : Expr} {es : List Expr} {ea : Ev} {el ek : EvL} {pos : Pos}
theorem fe_isi {t : String} {cv : V} {sub : String → String → Option Bool} (hr : ∀ t, L2.PA X [a, c] t → L2.PE X e (tCB (rIsi X.K) t)) (hs : SubF X.K cl sub) (hc : ClsV cv (tv cl t)) (ha : L2.PE X a (tM cl W ea)) (hcv : L2.PE X c (tC cv))
    (h1 : starEach [a, c] X.env = (false, eval a X.env) :: starEach [c] X.env) (h2 : starEach [c] X.env = (false, eval c X.env) :: starEach [] X.env) :
    L2.PE X e (tM cl W (bnd1 ea fun s d => O ((isiD sub s.sto t d).map fun b => .val (.bl b)) s)) := PE.imp (hr _ (pa_cons ha (pa_cons hcv pa_nil h2) h1)) fun σ H Q h => by
  obtain ⟨s, m, G, T, rfl, g, q⟩ := h
  refine tM_then want_E g (List.Sublist.refl _) (Ext.refl _) Prot.refl q fun r1 s1 x m1 x1 p1 g1 q1 => ?_
  obtain ⟨dx, ex, q2⟩ := want_opt want_E q1
  obtain ⟨en, ee, q3⟩ := want_O' q2
  obtain ⟨b, hb, rfl⟩ := Option.map_eq_some_iff.mp ee
  exact isi_of hs hc g1.st (g1.res (r := r1) (v := x) (by simp) ex) hb (q3 (.bl b) m1 x1 p1 ((g1.sub sub1).val (.bl b)))

/-! ### calls of defs -/
/-- what protects the caller's things -/
def GdOk (G : Addr → Prop) (m : Mem) : Prop := ∀ a, G a → m.H a ≠ none ∧ ¬ m.F a ∧ a ∉ m.ι
/-- a call's end -/
def okC (cl : String → Addr) (Q : VK) (E : XK) (G : Addr → Prop) (m : Mem) : RC → Prop
  | .ok d S => ∀ v m', Ext m m' → Prot G m m' → MOk m' → StoOk cl m' S → GdOk G m' → Rep m' d v → Q v m'.H
  | .exc c S => ∀ m', Ext m m' → Prot G m m' → MOk m' → StoOk cl m' S → GdOk G m' → E (.ref (cl c)) none m'.H
  | .stk => False
def spOf (cl : String → Addr) (cf : List D → Store → RC) (n : Nat) : Sp := fun vs H Q E => vs.length = n ∧ ∃ (ds : List D) (S : Store) (m : Mem) (G : Addr → Prop), m.H = H ∧ MOk m ∧ StoOk cl m S ∧ GdOk G m ∧ Reps m ds vs ∧ okC cl Q E G m (cf ds S)
/-- how a call's values go to the parameters: us written, ws by keywords, then the defaults -/
def KB (K : PySem.W.Frag) (fd : FuncData) (ps : List Str) (n : Nat) (ks : List Str) (dvs : List V) : Prop :=
  ∃ ds, Vals dvs ds ∧ ∀ (s : Shared) (us ws : List Value), K.In s.heap → us.length = n → ws.length = ks.length → BindsTo s fd ⟨us, ks.zip ws⟩ (ps.zip (us ++ (ws ++ ds)))
/-- the reading of a call: the written values, the keywords' values, then R -/
def tCl (n m : Nat) (R : L2.St → List V → List V → Hp → VK → Prop) (t tk : TA) : TE := fun σ H Q => t σ H fun vs H1 => tk σ H1 fun zs H2 => vs.length = n ∧ zs.length = m ∧ R σ vs zs H2 Q
/-- the callee at u with first ahead -/
def Runs (X : Cx) (u : Value) (first : List Value) (n : Nat) (ks : List Str) (R : L2.St → List V → List V → Hp → VK → Prop) : Prop :=
  ∀ (pins : List (Addr × Obj)) (s : Shared) (σ : L2.St) (H : Hp) (us ws : List Value) (vs zs : List V) (Q : VK), Inv X pins σ H s → Vals vs us → Vals zs ws → vs.length = n → zs.length = ks.length → R σ vs zs H Q →
    wpAny (model X.prog X.w) X.A (call u (first ++ us) (ks.zip ws)) (EP X pins σ Q) X.xe s
variable {R : L2.St → List V → List V → Hp → VK → Prop} {u : Value} {n : Nat} {ks : List Str} {x : Str} {p p2 apos : Pos} {o : Expr} {kws : List Keyword} {t tk : TA} {to : TE}
/-- the keywords as written -/
structure Kws (X : Cx) (kws : List Keyword) (ks : List Str) (pos : Pos) : Prop where
  all : (backToKw pos (keywordEach kws X.env)).all (·.1.isSome) = true
  nm : (backToKw pos (keywordEach kws X.env)).filterMap (·.1) = ks
theorem Kws.none {ks : List Str} (k : Kws X kws ks pos) : (backToKw pos (keywordEach kws X.env)).any (·.1.isNone) = false := by
  have h := k.all
  rw [List.all_eq_true] at h
  rw [List.any_eq_false]
  intro q hq z
  have := h q hq
  cases e : q.1 with
  | none => rw [e] at this; cases this
  | some _ => rw [e] at z; cases z
/-- the arguments, the keywords, and then the callee -/
theorem cl_go {first : List Value} (hR : Runs X u first n ks R) (hk : PySem.W.keepIn X.K u = true) (ha : L2.PA X (e :: es) t) (hkw : PK X kws tk) (kk : Kws X kws ks pos) (he : starEach (e :: es) X.env = (false, eval e X.env) :: starEach es X.env)
    (hpl : (backTo pos (starEach (e :: es) X.env)).any (·.1) = false) {pins : List (Addr × Obj)} {s : Shared} {σ : L2.St} {H : Hp} {Q : VK} (I : Inv X pins σ H s) (h : tCl n ks.length R t tk σ H Q) :
    wpAny (model X.prog X.w) X.A (callWith pos u first (backTo pos (starEach (e :: es) X.env)) (backToKw pos (keywordEach kws X.env))) (EP X pins σ Q) X.xe s := by
  have step : ∀ us s1, AP X pins σ (fun vs H1 => tk σ H1 fun zs H2 => vs.length = n ∧ zs.length = ks.length ∧ R σ vs zs H2 Q) us s1 → wpAny (model X.prog X.w) X.A (evalAll ((backToKw pos (keywordEach kws X.env)).map (·.2)))
      (fun ws s2 => X.K.In s2.heap ∧ wpAny (model X.prog X.w) X.A (call u (first ++ us) (((backToKw pos (keywordEach kws X.env)).filterMap (·.1)).zip ws)) (EP X pins σ Q) X.xe s2) X.xe s1 := fun us s1 hh => by
    obtain ⟨vs, H1, I1, r1, q1⟩ := hh
    refine thn (hkw.run pos pins s1 σ H1 _ I1 q1) fun ws s2 h2 => ?_
    obtain ⟨zs, H2, I2, r2, l1, l2, q2⟩ := h2
    refine ⟨I2.kIn, ?_⟩
    rw [kk.nm]
    exact hR pins s2 σ H2 us ws vs zs Q I2 r1 r2 l1 l2 q2
  exact PySem.W.callWith_KW (h₀ := X.base) (kws := kws) I.ok.mod.kin hk kk.all (thn (ha.run pos pins s σ H _ I h) step) (by rw [hpl, kk.none]; rfl) he
theorem cl_go0 {first : List Value} (hR : Runs X u first n ks R) (hk : PySem.W.keepIn X.K u = true) (hkw : PK X kws tk) (kk : Kws X kws ks pos) (hpl : (backTo pos (starEach [] X.env)).any (·.1) = false)
    {pins : List (Addr × Obj)} {s : Shared} {σ : L2.St} {H : Hp} {Q : VK} (I : Inv X pins σ H s) (h : tCl n ks.length R tNil tk σ H Q) :
    wpAny (model X.prog X.w) X.A (callWith pos u first (backTo pos (starEach [] X.env)) (backToKw pos (keywordEach kws X.env))) (EP X pins σ Q) X.xe s := by
  refine PySem.W.callWith_KW0 (h₀ := X.base) (kws := kws) I.ok.mod.kin hk kk.all (thn (hkw.run pos pins s σ H _ I h) fun ws s2 h2 => ?_) (by rw [hpl, kk.none]; rfl)
  obtain ⟨zs, H2, I2, r2, l1, l2, q2⟩ := h2
  refine ⟨I2.kIn, ?_⟩
  rw [kk.nm]
  exact hR pins s2 σ H2 [] ws [] zs Q I2 .nil r2 l1 l2 q2
theorem pe_clN (hR : Runs X u [] n ks R) (hk : PySem.W.keepIn X.K u = true) (hg : Gl X x) (hm : X.mg x = some u) (ha : L2.PA X (e :: es) t) (hkw : PK X kws tk) (kk : Kws X kws ks pos) (hdb : (x == ("__debug__" : Str)) = false)
    (he : starEach (e :: es) X.env = (false, eval e X.env) :: starEach es X.env) (hpl : (backTo pos (starEach (e :: es) X.env)).any (·.1) = false) : L2.PE X (.Call (.Name x p) (e :: es) kws pos) (tCl n ks.length R t tk) :=
  ⟨fun _ _ _ _ _ I h => wpAny_Call_Name_kw (ld_glob I hg hm (cl_go hR hk ha hkw kk he hpl I h) hdb)⟩
theorem pe_clN0 (hR : Runs X u [] n ks R) (hk : PySem.W.keepIn X.K u = true) (hg : Gl X x) (hm : X.mg x = some u) (hkw : PK X kws tk) (kk : Kws X kws ks pos) (hdb : (x == ("__debug__" : Str)) = false)
    (hpl : (backTo pos (starEach [] X.env)).any (·.1) = false) : L2.PE X (.Call (.Name x p) [] kws pos) (tCl n ks.length R tNil tk) :=
  ⟨fun _ _ _ _ _ I h => wpAny_Call_Name_kw (ld_glob I hg hm (cl_go0 hR hk hkw kk hpl I h) hdb)⟩
/-- the reading of a method's call -/
def tClM (C : Addr) (mn : Str) (n m : Nat) (R : Addr → L2.St → List V → List V → Hp → VK → Prop) (to : TE) (t tk : TA) : TE := fun σ H Q => to σ H fun x H1 => ∃ a dx fs, x = .ref a ∧ H1 a = some (.ins C dx fs) ∧ fs.lookup mn = none ∧ tCl n m (R a) t tk σ H1 Q
/-- the tree of a method's call -/
def MethTree (X : Cx) (o : Expr) (mn : Str) (apos pos : Pos) (es : List Expr) (kws : List Keyword) : Prop := ∃ pl : Sem Bool, eval (.Call (.Attribute o mn apos) es kws pos) X.env = (do
      let ov ← eval o X.env
      standAt apos.atName
      let (f, first) ← holding [ov] (getMethod ov mn pl)
      callWith pos f first (backTo pos (starEach es X.env)) (backToKw pos (keywordEach kws X.env)))
theorem pe_clM {C f : Addr} {mn : Str} {R : Addr → L2.St → List V → List V → Hp → VK → Prop} (hR : ∀ a, Runs X (.ref f) [.ref a] n ks (R a)) (c : Cls X.K C) (hm : Meth X.K C mn f) (ho : L2.PE X o to) (ha : L2.PA X (e :: es) t) (hkw : PK X kws tk) (kk : Kws X kws ks pos)
    (he : starEach (e :: es) X.env = (false, eval e X.env) :: starEach es X.env) (hpl : (backTo pos (starEach (e :: es) X.env)).any (·.1) = false) (ht : MethTree X o mn apos pos (e :: es) kws) : L2.PE X (.Call (.Attribute o mn apos) (e :: es) kws pos) (tClM C mn n ks.length R to t tk) := by
  obtain ⟨pl, ht⟩ := ht
  refine ⟨fun pins s σ H Q I h => PySem.W.methodCall_KW (pl := pl) (thn (ho.run pins s σ H _ I h) fun v s1 hh => ?_) ht⟩
  obtain ⟨y, H1, I1, rx, a, dx, fs, rfl, ea, l, q⟩ := hh
  obtain rfl : v = Value.ref a := rx
  exact getmeth_ok I1 ea c hm l (cl_go (hR a) hm.kp ha hkw kk he hpl I1 q)
theorem pe_clM0 {C f : Addr} {mn : Str} {R : Addr → L2.St → List V → List V → Hp → VK → Prop} (hR : ∀ a, Runs X (.ref f) [.ref a] n ks (R a)) (c : Cls X.K C) (hm : Meth X.K C mn f) (ho : L2.PE X o to) (hkw : PK X kws tk) (kk : Kws X kws ks pos)
    (hpl : (backTo pos (starEach [] X.env)).any (·.1) = false) (ht : MethTree X o mn apos pos [] kws) : L2.PE X (.Call (.Attribute o mn apos) [] kws pos) (tClM C mn n ks.length R to tNil tk) := by
  obtain ⟨pl, ht⟩ := ht
  refine ⟨fun pins s σ H Q I h => PySem.W.methodCall_KW (pl := pl) (thn (ho.run pins s σ H _ I h) fun v s1 hh => ?_) ht⟩
  obtain ⟨y, H1, I1, rx, a, dx, fs, rfl, ea, l, q⟩ := hh
  obtain rfl : v = Value.ref a := rx
  exact getmeth_ok I1 ea c hm l (cl_go0 (hR a) hm.kp hkw kk hpl I1 q)
/-! ### the callees -/
variable {CX : CXT} {k : Nat} {fd : FuncData} {ps : List Str} {sp : Sp} {dvs : List V} {f C : Addr}
/-- a def that stands at f, first: what stands ahead of the written values -/
theorem runs_fn {fv : List V} {fu : List Value} (F : FnOk X.prog X.w X.K X.mg X.base CX k f fd ps sp) (hr : Room k X.A) (hb : KB X.K fd ps (fv.length + n) ks dvs) (hx : ∀ σ, PassesAt CX X σ (WE W σ)) (rf : Vals fv fu) :
    Runs X (.ref f) fu n ks (fun σ vs zs H Q => sp (fv ++ (vs ++ (zs ++ dvs))) H Q (WE W σ)) := by
  intro pins s σ H us ws vs zs Q I r rz l1 l2 h
  obtain ⟨ds, rd, hB⟩ := hb
  have b := hB s (fu ++ us) ws I.kIn (by rw [List.length_append, ← rf.length, ← r.length, l1]) (rz.length.symm.trans l2)
  rw [List.append_assoc] at b
  refine wpAny_call (codeAny_mono (F.run X.A X.stack s H ⟨fu ++ us, ks.zip ws⟩ _ _ Q (WE W σ) hr I.env0 b (rf.append (r.append (rz.append rd))) h) fun z s' hq => ?_)
  cases z with
  | error e => exact hx σ pins H s e s' I hq
  | ok fl =>
    cases fl with
    | ret u => exact I.after hq
    | _ => exact hq.elim
/-- a class at C whose __init__ stands at f -/
theorem runs_mk (M : Mk X.K C f) (F : FnOk X.prog X.w X.K X.mg X.base CX k f fd ps sp) (hr : Room (k + 1) X.A) (hb : KB X.K fd ps (n + 1) ks dvs) (hx : ∀ σ, PassesAt CX X σ (WE W σ)) :
    Runs X (.ref C) [] n ks (fun σ vs zs H Q => ∀ x dx, H x = none → H dx = none → dx ≠ x → sp (.ref x :: (vs ++ (zs ++ dvs))) (upd (upd H dx (.own x)) x (.ins C dx [])) (fun v H2 => v = .non ∧ Q (.ref x) H2) (WE W σ)) := by
  intro pins s σ H us ws vs zs Q I r rz l1 l2 h
  obtain ⟨ds, rd, hB⟩ := hb
  have hq := h (s.heap.objs.size + 1) s.heap.objs.size (I.hok.fresh (Nat.le_succ _)) (I.hok.fresh (Nat.le_refl _)) (Nat.ne_of_lt (Nat.lt_succ_self _))
  have I2 := Inv.made (C := C) I
  have b := hB _ (Value.ref (s.heap.objs.size + 1) :: us) ws I2.kIn (by rw [List.length_cons, ← r.length, l1]) (rz.length.symm.trans l2)
  have rr : Vals (V.ref (s.heap.objs.size + 1) :: (vs ++ (zs ++ dvs))) (Value.ref (s.heap.objs.size + 1) :: (us ++ (ws ++ ds))) := .cons rfl (r.append (rz.append rd))
  have go := F.run _ X.stack _ _ ⟨Value.ref (s.heap.objs.size + 1) :: us, ks.zip ws⟩ _ _ _ (WE W σ) (hr.make C us (ks.zip ws)) (I2.env0.make C us (ks.zip ws)) b rr hq
  refine wpAny_call (make_map (f := f) I.kIn M.makes M.init (beq_iff_eq.mp M.fn) (codeAny_mono go fun z s' hq' => ?_))
  cases z with
  | error e => exact hx σ pins _ _ e s' I2 hq'
  | ok fl =>
    cases fl with
    | ret u =>
      obtain ⟨v, H', I3, rv, ev, q3⟩ := I2.after hq'
      subst ev
      exact ⟨rv, V.ref (s.heap.objs.size + 1), H', I3, rfl, q3⟩
    | _ => exact hq'.elim
end
end Z

set_option Elab.async false
set_option linter.all false
set_option maxRecDepth 100000
set_option maxHeartbeats 4000000
namespace Z
open PySem PySem.Spec PyProof.Rows L2

theorem frzL_app : ∀ {a b : List Ent} {x y : List D}, frzL a = some x → frzL b = some y → frzL (a ++ b) = some (x ++ y)
  | [], b, x, y, h1, h2 => by cases h1; exact h2
  | e :: a, b, x, y, h1, h2 => by
    unfold frzL at h1
    split at h1
    · rename_i d hd
      cases q : frzL a with
      | none => rw [q] at h1; cases h1
      | some x' =>
        rw [q] at h1
        cases h1
        show frzL (e :: (a ++ b)) = _
        unfold frzL
        rw [hd]
        simp only
        rw [frzL_app q h2]
        rfl
    · cases h1
section
variable {cl : String → Addr} {m m' : Mem} {G : Addr → Prop} {σ : L2.St} {s : St} {T : List EV} {S : Store}
/-- what the caller holds is protected -/
def Gc (G : Addr → Prop) (σ : L2.St) (s : St) (T : List EV) : Addr → Prop := fun a => G a ∨ a ∈ owns (s.env.zip σ ++ T)
theorem Good.gc (g : Good cl m G σ s T) : GdOk (Gc G σ s T) m := fun a h => h.elim (g.gd a) fun h => by
  obtain ⟨d, q⟩ := of_owns h
  obtain ⟨a', e, o⟩ := g.sr.ok _ q
  cases e
  obtain ⟨h1, h2, h3⟩ := g.sr.fr a h
  exact ⟨o.there, h1, h2⟩
theorem Good.called (g : Good cl m G σ s T) (x : Ext m m') (p : Prot (Gc G σ s T) m m') (mo : MOk m') (st : StoOk cl m' S) (gd : GdOk (Gc G σ s T) m') : Good cl m' G σ { s with sto := S } T :=
  ⟨mo, ⟨fun q hq => (g.sr.ok q hq).keep x fun d a e1 e2 => p a (.inr (by obtain ⟨qe, qv⟩ := q; simp only at e1 e2; subst e1 e2; exact mem_owns hq)), g.sr.nd, fun a ha => ⟨(gd a (.inr ha)).2.1, (gd a (.inr ha)).2.2, (g.sr.fr a ha).2.2⟩⟩, g.ln, st, fun a ha => gd a (.inl ha), g.na⟩
theorem Prot.gc (p : Prot (Gc G σ s T) m m') : Prot G m m' := fun a h => p a (.inl h)
end
section
variable {X : Cx} {cl : String → Addr} {W : WX} {a c e o : Expr} {es : List Expr} {ea eo : Ev} {el ek : EvL} {pos : Pos} {n nk : Nat} {dfl : List D} {dvs : List V} {cf : List D → Store → RC} {t tk : TA} {kws : List Keyword}
theorem fk_nil : PK X [] (tMA cl W nilL) := ⟨fun pos pins s σ H Q I h => pk_nil.run pos pins s σ H Q I (by
  obtain ⟨s, m, G, T, rfl, g, q⟩ := h
  exact q [] m (Ext.refl _) Prot.refl rfl (by simpa using g))⟩
theorem fk_cons {nm : Option Str} {kpos : Pos} (ha : L2.PE X e (tM cl W ea)) (hr : PK X kws (tMA cl W el)) : PK X (⟨nm, e, kpos⟩ :: kws) (tMA cl W (consL ea el)) := ⟨fun pos pins s σ H Q I h => (pk_cons ha hr).run pos pins s σ H Q I (by
  obtain ⟨s, m, G, T, rfl, g, q⟩ := h
  refine tM_then want_A g (List.Sublist.refl _) (Ext.refl _) Prot.refl q fun r1 s1 x m1 x1 p1 g1 q1 => ?_
  refine tMA_then want_A g1 sub1 x1 p1 q1 fun rs s2 ys m2 x2 p2 l2 g2 q2 => ?_
  exact q2 (x :: ys) m2 (x1.trans x2) (p1.trans p2) (by simp [l2]) (by simpa using g2))⟩
theorem nil_A {σ : L2.St} {H : Hp} {Q : List V → Hp → Prop} (h : tMA cl W nilL σ H Q) : tNil σ H Q := by
  obtain ⟨s, m, G, T, rfl, g, q⟩ := h
  exact q [] m (Ext.refl _) Prot.refl rfl (by simpa using g)
theorem tMA_len {β : Type} {G : Addr → Prop} {σ : L2.St} {T T1 : List EV} {m m1 : Mem} {K : R β → Prop} {s : St} {ev : EvL} {f : List Ent → St → R β} {Q1 : List V → Hp → Prop} (hn : ∀ s rs s', ev s = .ok rs s' → rs.length = n) (wk : Want cl W G σ T m K) (h : Good cl m1 G σ s T1) (hT : T.Sublist T1)
    (x : Ext m m1) (p : Prot G m m1) (q : K ((ev s).bind f))
    (k : ∀ rs s2 ys m2, Ext m1 m2 → Prot G m1 m2 → rs.length = ys.length → ys.length = n → Good cl m2 G σ s2 (T1 ++ rs.zip (ys.map some)) → K (f rs s2) → Q1 ys m2.H) : tMA cl W ev σ m1.H Q1 := by
  refine ⟨s, m1, G, T1, rfl, h, ?_⟩
  cases e : ev s with
  | ok r s2 =>
    rw [e] at q
    exact fun v m2 x2 p2 l g2 => k r s2 v m2 x2 p2 l (l.symm.trans (hn s r s2 e)) g2 q
  | exc c s2 =>
    rw [e] at q
    exact fun m2 x2 p2 g2 => wk.exc c s2 q m2 (x.trans x2) (p.trans p2) (g2.sub hT)
  | stk =>
    rw [e] at q
    exact wk.stk q
/-- the callee at the data: first ahead (fd: what it stands for), then the written values -/
theorem call_go {G : Addr → Prop} {σ : L2.St} {T T1 : List EV} {m m1 : Mem} {s2 : St} {rs rz : List Ent} {vs zs : List V} {ds dz : List D} {fv : List V} {fs : List D} {na : Nat} {Q : VK}
    (g : Good cl m1 G σ s2 (T1 ++ (rs.zip (vs.map some) ++ rz.zip (zs.map some)))) (hT : T.Sublist T1) (x : Ext m m1) (p : Prot G m m1) (l1 : rs.length = vs.length) (l2 : rz.length = zs.length) (e1 : frzL rs = some ds) (e2 : frzL rz = some dz)
    (rf : Reps m1 fs fv) (rd : ∀ m, Reps m dfl dvs) (hl : (fv ++ (vs ++ (zs ++ dvs))).length = na) (q : okE cl W G σ T m Q ((cf (fs ++ (ds ++ (dz ++ dfl))) s2.sto).r s2)) : spOf cl cf na (fv ++ (vs ++ (zs ++ dvs))) m1.H Q (WE W σ) := by
  rw [← List.zip_append (by simpa using l1), ← List.map_append] at g
  obtain ⟨m3, eH, ei, x3, g3, r3⟩ := Good.frzL g (by simp [l1, l2]) (frzL_app e1 e2)
  have g4 : Good cl m3 G σ s2 T := g3.sub (hT.trans (List.sublist_append_left _ _))
  have p3 : Prot G m1 m3 := fun b _ => by rw [eH]
  have r4 : Reps m3 (fs ++ (ds ++ (dz ++ dfl))) (fv ++ (vs ++ (zs ++ dvs))) := (Reps.mono x3 _ _ rf).append (by
    rw [← List.append_assoc, ← List.append_assoc]
    exact r3.append (rd m3))
  refine ⟨hl, _, s2.sto, m3, Gc G σ s2 T, eH, g4.mo, g4.st, g4.gc, r4, ?_⟩
  cases h : cf (fs ++ (ds ++ (dz ++ dfl))) s2.sto with
  | ok d S =>
    rw [h] at q
    intro v m' x' p' mo' st' gd' rv
    exact q v m' ((x.trans x3).trans x') ((p.trans p3).trans p'.gc) ((g4.called x' p' mo' st' gd').val rv)
  | exc c S =>
    rw [h] at q
    intro m' x' p' mo' st' gd'
    exact q m' ((x.trans x3).trans x') ((p.trans p3).trans p'.gc) (g4.called x' p' mo' st' gd')
  | stk =>
    rw [h] at q
    exact q
theorem len3 {fv vs zs dvs : List V} {n nk na : Nat} (l1 : vs.length = n) (l2 : zs.length = nk) (h : fv.length + (n + (nk + dvs.length)) = na) : (fv ++ (vs ++ (zs ++ dvs))).length = na := by
  simp only [List.length_append, l1, l2]
  exact h
/-- how many values an argument list gives -/
def Cnt (ev : EvL) (n : Nat) : Prop := ∀ s rs s', ev s = .ok rs s' → rs.length = n
theorem tCl_of {na : Nat} {ks : List Str} (hn : Cnt el n) (hk : Cnt ek ks.length) (rd : ∀ m, Reps m dfl dvs) (ha : n + (ks.length + dvs.length) = na) {σ : L2.St} {H : Hp} {Q : VK}
    (h : tM cl W (callE cf el ek dfl) σ H Q) : tCl n ks.length (fun σ vs zs H Q => spOf cl cf na ([] ++ (vs ++ (zs ++ dvs))) H Q (WE W σ)) (tMA cl W el) (tMA cl W ek) σ H Q := by
  obtain ⟨s, m, G, T, rfl, g, q⟩ := h
  refine tMA_len hn want_E g (List.Sublist.refl _) (Ext.refl _) Prot.refl q fun rs s1 vs m1 x1 p1 l1 n1 g1 q1 => ?_
  refine tMA_len hk want_E g1 (List.sublist_append_left _ _) x1 p1 q1 fun rz s2 zs m2 x2 p2 l2 n2 g2 q2 => ⟨n1, n2, ?_⟩
  obtain ⟨ds, e1, q3⟩ := want_opt want_E q2
  obtain ⟨dz, e2, q4⟩ := want_opt want_E q3
  exact call_go (fs := []) (by rw [List.append_assoc] at g2; exact g2) (List.Sublist.refl _) (x1.trans x2) (p1.trans p2) l1 l2 e1 e2 .nil rd (len3 n1 n2 (by simpa using ha)) q4
theorem tClM_of {na : Nat} {ks : List Str} {c mn : String} (hn : Cnt el n) (hk : Cnt ek ks.length) (rd : ∀ m, Reps m dfl dvs) (ha : 1 + (n + (ks.length + dvs.length)) = na) {σ : L2.St} {H : Hp} {Q : VK}
    (h : tM cl W (methE c mn cf eo el ek dfl) σ H Q) : tClM (cl c) (Str.ofString mn) n ks.length (fun a σ vs zs H Q => spOf cl cf na ([V.ref a] ++ (vs ++ (zs ++ dvs))) H Q (WE W σ)) (tM cl W eo) (tMA cl W el) (tMA cl W ek) σ H Q := by
  obtain ⟨s, m, G, T, rfl, g, q⟩ := h
  refine tM_then want_E g (List.Sublist.refl _) (Ext.refl _) Prot.refl q fun r0 s0 x0 m0 x0' p0 g0 q0 => ?_
  obtain ⟨k, hk0, q0'⟩ := want_opt want_E q0
  obtain ⟨k', hk1, hk2⟩ := Option.bind_eq_some_iff.mp hk0
  obtain ⟨d, hd, hk3⟩ := Option.bind_eq_some_iff.mp hk1
  have rb := g0.res (r := r0) (v := x0) (by simp) hd
  unfold insOf at hk3
  split at hk3
  · rename_i n0
    split at hk3
    · rename_i c' fs hS
      split at hk3
      · rename_i hc
        cases hk3
        subst hc
        unfold noMeth at hk2
        rw [hS] at hk2
        simp only at hk2
        split at hk2
        · rename_i hl
          cases hk2
          obtain ⟨a, rfl, hi, ok⟩ := obj_at g0.st hS rb
          obtain ⟨dx, gs, hH, fr⟩ := ok
          refine ⟨a, dx, gs, rfl, hH, fr.lookN (Option.isNone_iff_eq_none.mp hl), ?_⟩
          refine tMA_len hn want_E g0 sub1 x0' p0 q0' fun rs s1 vs m1 x1 p1 l1 n1 g1 q1 => ?_
          refine tMA_len hk want_E g1 (sub1.trans (List.sublist_append_left _ _)) (x0'.trans x1) (p0.trans p1) q1 fun rz s2 zs m2 x2 p2 l2 n2 g2 q2 => ⟨n1, n2, ?_⟩
          obtain ⟨ds, e1, q3⟩ := want_opt want_E q2
          obtain ⟨dz, e2, q4⟩ := want_opt want_E q3
          have ra : Rep m2 (.obj k) (.ref a) := .obj (prefix_get (x1.trans x2).io hi)
          exact call_go (fs := [.obj k]) (by rw [List.append_assoc] at g2; exact g2) sub1 ((x0'.trans x1).trans x2) ((p0.trans p1).trans p2) l1 l2 e1 e2 (.cons ra .nil) rd (len3 n1 n2 (by simpa using ha)) q4
        · cases hk2
      · cases hk3
    · cases hk3
  · cases hk3
/-- a new instance comes: its dict and it -/
theorem Good.made {m : Mem} {G : Addr → Prop} {σ : L2.St} {s : St} {T : List EV} {c : String} {x dx : Addr} (g : Good cl m G σ s T) (hx : m.H x = none) (hd : m.H dx = none) (ne : dx ≠ x) :
    ∃ m' : Mem, m'.H = upd (upd m.H dx (.own x)) x (.ins (cl c) dx []) ∧ Ext m m' ∧ Prot (Gc G σ s T) m m' ∧ MOk m' ∧ StoOk cl m' (s.sto ++ [.ins c []]) ∧ GdOk (Gc G σ s T) m' ∧ m'.ι[s.sto.length]? = some x := by
  have keep : ∀ a, m.H a ≠ none → upd (upd m.H dx (.own x)) x (.ins (cl c) dx []) a = m.H a := fun a ha => by
    have n1 : a ≠ x := fun e => ha (by rw [e]; exact hx)
    have n2 : a ≠ dx := fun e => ha (by rw [e]; exact hd)
    rw [upd_ne n1, upd_ne n2]
  have nx : x ∉ m.ι := fun z => g.mo.io x z hx
  have xt : Ext m ⟨upd (upd m.H dx (.own x)) x (.ins (cl c) dx []), m.F, m.ι ++ [x]⟩ := ⟨fun a f => ⟨f, keep a (g.mo.fz a f).1⟩, List.prefix_append _ _⟩
  refine ⟨⟨upd (upd m.H dx (.own x)) x (.ins (cl c) dx []), m.F, m.ι ++ [x]⟩, rfl, xt, fun a ha => keep a (g.gc a ha).1, ⟨fun a f => ⟨?_, fun z => ?_⟩, ?_, fun a ha => ?_⟩, ⟨by simp [g.st.len], fun k c' a e1 e2 => ?_⟩, fun a ha => ⟨?_, (g.gc a ha).2.1, fun z => ?_⟩, ?_⟩
  · show upd (upd m.H dx (.own x)) x (.ins (cl c) dx []) a ≠ none
    rw [keep a (g.mo.fz a f).1]; exact (g.mo.fz a f).1
  · rcases List.mem_append.mp z with z | z
    · exact (g.mo.fz a f).2 z
    · simp only [List.mem_singleton] at z
      subst z
      exact (g.mo.fz _ f).1 hx
  · refine List.nodup_append.mpr ⟨g.mo.nd, by simp, fun a ha b hb e => ?_⟩
    simp only [List.mem_singleton] at hb
    subst hb
    exact nx (e ▸ ha)
  · show upd (upd m.H dx (.own x)) x (.ins (cl c) dx []) a ≠ none
    rcases List.mem_append.mp ha with z | z
    · rw [keep a (g.mo.io a z)]; exact g.mo.io a z
    · simp only [List.mem_singleton] at z
      subst z
      rw [upd_same]; simp
  · by_cases hk : k < s.sto.length
    · rw [List.getElem?_append_left hk] at e1
      have e2' : (m.ι ++ [x])[k]? = some a := e2
      rw [List.getElem?_append_left (by rw [← g.st.len]; exact hk)] at e2'
      exact (g.st.at_ k c' a e1 e2').keep xt (keep a (g.mo.io a (List.mem_of_getElem? e2')))
    · have hk' : s.sto.length ≤ k := Nat.le_of_not_lt hk
      rw [List.getElem?_append_right hk'] at e1
      have k0 : k - s.sto.length = 0 := by
        have := (List.getElem?_eq_some_iff.mp e1).1
        simp at this
        omega
      rw [k0] at e1
      cases e1
      have ke : k = m.ι.length := by have := g.st.len; omega
      have e2' : (m.ι ++ [x])[k]? = some a := e2
      rw [ke, List.getElem?_concat_length] at e2'
      cases e2'
      exact ⟨dx, [], upd_same, .nil⟩
  · show upd (upd m.H dx (.own x)) x (.ins (cl c) dx []) a ≠ none
    rw [keep a (g.gc a ha).1]; exact (g.gc a ha).1
  · rcases List.mem_append.mp z with z | z
    · exact (g.gc a ha).2.2 z
    · simp only [List.mem_singleton] at z
      subst z
      exact (g.gc _ ha).1 hx
  · rw [g.st.len]
    exact List.getElem?_concat_length
theorem tMk_of {na : Nat} {ks : List Str} {c : String} (hn : Cnt el n) (hk : Cnt ek ks.length) (rd : ∀ m, Reps m dfl dvs) (ha : 1 + (n + (ks.length + dvs.length)) = na) {σ : L2.St} {H : Hp} {Q : VK}
    (h : tM cl W (mkE c cf el ek dfl) σ H Q) : tCl n ks.length (fun σ vs zs H Q => ∀ x dx, H x = none → H dx = none → dx ≠ x → spOf cl cf na (.ref x :: (vs ++ (zs ++ dvs))) (upd (upd H dx (.own x)) x (.ins (cl c) dx [])) (fun v H2 => v = .non ∧ Q (.ref x) H2) (WE W σ))
      (tMA cl W el) (tMA cl W ek) σ H Q := by
  obtain ⟨s, m, G, T, rfl, g, q⟩ := h
  refine tMA_len hn want_E g (List.Sublist.refl _) (Ext.refl _) Prot.refl q fun rs s1 vs m1 x1 p1 l1 n1 g1 q1 => ?_
  refine tMA_len hk want_E g1 (List.sublist_append_left _ _) x1 p1 q1 fun rz s2 zs m2 x2 p2 l2 n2 g2 q2 => ⟨n1, n2, fun x dx hx hd ne => ?_⟩
  obtain ⟨ds, e1, q3⟩ := want_opt want_E q2
  obtain ⟨dz, e2, q4⟩ := want_opt want_E q3
  rw [List.append_assoc, ← List.zip_append (by simpa using l1), ← List.map_append] at g2
  obtain ⟨m3, eH, ei, x3, g3, r3⟩ := Good.frzL g2 (by simp [l1, l2]) (frzL_app e1 e2)
  have g4 : Good cl m3 G σ s2 T := g3.sub (List.sublist_append_left _ _)
  have p3 : Prot G m2 m3 := fun b _ => by rw [eH]
  obtain ⟨m4, h4, x4, p4, mo4, st4, gd4, i4⟩ := g4.made (c := c) (x := x) (dx := dx) (by rw [eH]; exact hx) (by rw [eH]; exact hd) ne
  have r4 : Reps m4 (.obj s2.sto.length :: (ds ++ (dz ++ dfl))) (.ref x :: (vs ++ (zs ++ dvs))) := .cons (.obj i4) (by
    rw [← List.append_assoc, ← List.append_assoc]
    exact (Reps.mono x4 _ _ r3).append (rd m4))
  refine ⟨len3 (fv := [V.ref x]) n1 n2 (by simpa using ha), _, _, m4, Gc G σ s2 T, by rw [h4, eH], mo4, st4, gd4, r4, ?_⟩
  have xx : Ext m m4 := ((x1.trans x2).trans x3).trans x4
  have pp : Prot G m m4 := ((p1.trans p2).trans p3).trans p4.gc
  cases h : cf (.obj s2.sto.length :: (ds ++ (dz ++ dfl))) (s2.sto ++ [.ins c []]) with
  | ok d S =>
    rw [h] at q4
    intro v m' x' p' mo' st' gd' rv
    cases d with
    | non =>
      cases rv
      exact ⟨rfl, q4 (.ref x) m' (xx.trans x') (pp.trans p'.gc) ((g4.called (x4.trans x') (p4.trans p') mo' st' gd').val (.obj (prefix_get x'.io i4)))⟩
    | _ => exact q4.elim
  | exc c S =>
    rw [h] at q4
    intro m' x' p' mo' st' gd'
    exact q4 m' (xx.trans x') (pp.trans p'.gc) (g4.called (x4.trans x') (p4.trans p') mo' st' gd')
  | stk =>
    rw [h] at q4
    exact q4
end
end Z

set_option Elab.async false
set_option linter.all false
set_option maxRecDepth 100000
set_option maxHeartbeats 4000000
namespace Z
open PySem PySem.Spec PyProof.Rows L2

/-! ### entries that stand for no slot -/
def NA (e : Ent) : Prop := ∀ i, e ≠ .al i
theorem EntOk.chg {m : Mem} {σ σ' : L2.St} {e : Ent} {v : Option V} (h : EntOk m σ e v) (n : NA e) : EntOk m σ' e v := by
  cases e with
  | al i => exact absurd rfl (n i)
  | _ => exact h
theorem owns_perm {es es' : List EV} (p : es'.Perm es) : (owns es').Perm (owns es) := by
  unfold owns
  exact p.flatMap_right ownA
theorem SR.perm {m : Mem} {G : Addr → Prop} {σ : L2.St} {es es' : List EV} (h : SR m G σ es) (p : es'.Perm es) : SR m G σ es' :=
  ⟨fun q hq => h.ok q (p.subset hq), (owns_perm p).nodup_iff.mpr h.nd, fun a ha => h.fr a ((owns_perm p).subset ha)⟩
theorem SR.chg {m : Mem} {G : Addr → Prop} {σ σ' : L2.St} {es : List EV} (h : SR m G σ es) (n : ∀ p ∈ es, NA p.1) : SR m G σ' es :=
  ⟨fun p hp => (h.ok p hp).chg (n p hp), h.nd, h.fr⟩
theorem zip_split2 {α β : Type} : ∀ {l : List α} {k : List β} {i : Nat} {a : α} {b : β}, l[i]? = some a → k[i]? = some b → ∃ A B, l.zip k = A ++ (a, b) :: B ∧ ∀ a' b', (l.set i a').zip (k.set i b') = A ++ (a', b') :: B
  | [], _, _, _, _, h, _ => by simp at h
  | _ :: _, [], _, _, _, _, h => by simp at h
  | x :: l, y :: k, 0, a, b, h1, h2 => by
    simp at h1 h2
    subst h1 h2
    exact ⟨[], l.zip k, rfl, fun a' b' => rfl⟩
  | x :: l, y :: k, i + 1, a, b, h1, h2 => by
    obtain ⟨A, B, e1, e2⟩ := zip_split2 (l := l) (k := k) (i := i) (a := a) (b := b) (by simpa using h1) (by simpa using h2)
    exact ⟨(x, y) :: A, B, by simp [e1], fun a' b' => by simp [e2]⟩
theorem NoAl.zip {env : List Ent} {σ : L2.St} (h : NoAl env) : ∀ p ∈ env.zip σ, NA p.1 := fun p hp i e => h i (e ▸ (List.of_mem_zip (show (p.1, p.2) ∈ env.zip σ from hp)).1)
section
variable {cl : String → Addr} {m : Mem} {G : Addr → Prop} {σ : L2.St} {s : St} {T : List EV}
/-- stored -/
theorem Good.store {r : Ent} {v : V} {i : Nat} (g : Good cl m G σ s ((r, some v) :: T)) (hr : NA r) (hT : ∀ p ∈ T, NA p.1) (hi : i < s.env.length) : Good cl m G (σ.set i (some v)) (Z.put s i r) T := by
  have hs : i < σ.length := by have := g.ln; omega
  obtain ⟨A, B, e1, e2⟩ := zip_split2 (List.getElem?_eq_getElem hi) (List.getElem?_eq_getElem hs)
  refine ⟨g.mo, ?_, ?_, g.st, g.gd, g.na.set hr⟩
  · show SR m G _ ((s.env.set i r).zip (σ.set i (some v)) ++ T)
    rw [e2]
    have sr := g.sr
    rw [e1] at sr
    have nn : ∀ p ∈ A ++ (s.env[i], σ[i]) :: B, NA p.1 := by rw [← e1]; exact g.na.zip
    have pm : ((s.env[i], σ[i]) :: (A ++ (r, some v) :: (B ++ T))).Perm (A ++ (s.env[i], σ[i]) :: B ++ (r, some v) :: T) := by
      rw [List.append_assoc, List.cons_append]
      refine (List.perm_middle (l₁ := A) (a := (s.env[i], σ[i])) (l₂ := (r, some v) :: (B ++ T))).symm.trans (List.Perm.append_left A (List.Perm.cons _ ?_))
      exact (List.perm_middle (l₁ := B) (a := (r, some v)) (l₂ := T)).symm
    have sr2 := (sr.perm pm).sub (List.sublist_cons_self _ _)
    rw [List.append_assoc, List.cons_append]
    refine sr2.chg fun p hp => ?_
    rcases List.mem_append.mp hp with hp | hp
    · exact nn p (List.mem_append_left _ hp)
    · rcases List.mem_cons.mp hp with hp | hp
      · subst hp; exact hr
      · rcases List.mem_append.mp hp with hp | hp
        · exact nn p (List.mem_append_right _ (List.mem_cons_of_mem _ hp))
        · exact hT p hp
  · show (s.env.set i r).length = (σ.set i (some v)).length
    rw [List.length_set, List.length_set]; exact g.ln
theorem na_val {d : D} : NA (.val d) := fun _ z => nomatch z
theorem na_own {d : D} : NA (.own d) := fun _ z => nomatch z
/-- a list or a dict held alone becomes a cell -/
theorem Good.celled {r : Ent} {v : V} {c : Cell} (g : Good cl m G σ s (T ++ [(r, some v)])) (hc : cellOf r = some c) :
    ∃ m' a, v = .ref a ∧ m'.H = m.H ∧ Ext m m' ∧ Prot G m m' ∧ m'.ι[s.sto.length]? = some a ∧ Good cl m' G σ { s with sto := s.sto ++ [c] } T := by
  have key : ∃ d, r = .own d ∧ dCell d = some c := by
    unfold cellOf at hc
    split at hc
    · exact ⟨_, rfl, hc⟩
    · exact ⟨_, rfl, hc⟩
    · cases hc
  obtain ⟨d, rfl, hd⟩ := key
  have mem : (Ent.own d, some v) ∈ s.env.zip σ ++ (T ++ [(Ent.own d, some v)]) := List.mem_append_right _ (List.mem_append_right _ List.mem_cons_self)
  obtain ⟨a, e, ow⟩ := g.sr.ok _ mem
  cases e
  obtain ⟨f1, f2, f3⟩ := g.sr.fr a (mem_owns mem)
  have xt : Ext m ⟨m.H, m.F, m.ι ++ [a]⟩ := ⟨fun b f => ⟨f, rfl⟩, List.prefix_append _ _⟩
  have nd := g.sr.nd
  rw [← List.append_assoc, owns_append] at nd
  have e1 : owns [((Ent.own d), some (V.ref a))] = [a] := rfl
  rw [e1, List.nodup_append] at nd
  have na : a ∉ owns (s.env.zip σ ++ T) := fun z => nd.2.2 a z a List.mem_cons_self rfl
  have sr : SR m G σ (s.env.zip σ ++ T) := g.sr.sub (List.Sublist.append (List.Sublist.refl _) (List.sublist_append_left _ _))
  have st := g.st
  refine ⟨⟨m.H, m.F, m.ι ++ [a]⟩, a, rfl, rfl, xt, fun _ _ => rfl, by rw [st.len]; exact List.getElem?_concat_length, ⟨⟨fun b f => ⟨(g.mo.fz b f).1, fun z => ?_⟩, ?_, fun b hb => ?_⟩, ⟨fun p hp => (sr.ok p hp).keep xt fun _ _ _ _ => rfl, sr.nd, fun b hb => ⟨(sr.fr b hb).1, fun z => ?_, (sr.fr b hb).2.2⟩⟩, g.ln, ⟨by simp [st.len], fun k c' b q1 q2 => ?_⟩, fun b hb => ⟨(g.gd b hb).1, (g.gd b hb).2.1, fun z => ?_⟩, g.na⟩⟩
  · rcases List.mem_append.mp z with z | z
    · exact (g.mo.fz b f).2 z
    · simp only [List.mem_singleton] at z
      subst z
      exact f1 f
  · refine List.nodup_append.mpr ⟨g.mo.nd, by simp, fun x hx y hy e => ?_⟩
    simp only [List.mem_singleton] at hy
    subst hy
    exact f2 (e ▸ hx)
  · rcases List.mem_append.mp hb with z | z
    · exact g.mo.io b z
    · simp only [List.mem_singleton] at z
      subst z
      exact ow.there
  · rcases List.mem_append.mp z with z | z
    · exact (sr.fr b hb).2.1 z
    · simp only [List.mem_singleton] at z
      subst z
      exact na hb
  · by_cases hk : k < s.sto.length
    · have q1' : (s.sto ++ [c])[k]? = some c' := q1
      have q2' : (m.ι ++ [a])[k]? = some b := q2
      rw [List.getElem?_append_left hk] at q1'
      rw [List.getElem?_append_left (by rw [← st.len]; exact hk)] at q2'
      exact (st.at_ k c' b q1' q2').keep xt rfl
    · have q1' : (s.sto ++ [c])[k]? = some c' := q1
      have q2' : (m.ι ++ [a])[k]? = some b := q2
      rw [List.getElem?_append_right (Nat.le_of_not_lt hk)] at q1'
      have k0 : k - s.sto.length = 0 := by
        have := (List.getElem?_eq_some_iff.mp q1').1
        simp at this
        omega
      rw [k0] at q1'
      cases q1'
      have ke : k = m.ι.length := by have := st.len; omega
      rw [ke, List.getElem?_concat_length] at q2'
      cases q2'
      exact own_cell (ow.keep xt rfl) hd
  · rcases List.mem_append.mp z with z | z
    · exact (g.gd b hb).2.2 z
    · simp only [List.mem_singleton] at z
      subst z
      exact f3 hb
end

/-! ### statements' readings -/
section
variable (cl : String → Addr) (W : WX) (G : Addr → Prop) (m : Mem) (E : Ends)
def okS : Fl → Prop
  | .nx s' => ∀ σ' m', Ext m m' → Prot G m m' → Good cl m' G σ' s' [] → E.nx σ' m'.H
  | .rt d S => ∀ v m', Ext m m' → Prot G m m' → MOk m' → StoOk cl m' S → GdOk G m' → Rep m' d v → E.rt v m'.H
  | .bk s' => ∀ σ' m', Ext m m' → Prot G m m' → Good cl m' G σ' s' [] → E.bk σ' m'.H
  | .ct s' => ∀ σ' m', Ext m m' → Prot G m m' → Good cl m' G σ' s' [] → E.ct σ' m'.H
  | .exc c s' => ∀ σ' m', Ext m m' → Prot G m m' → Good cl m' G σ' s' [] → W (.ref (cl c)) none σ' m'.H
  | .stk => False
end
def tMS (cl : String → Addr) (W : WX) (ev : EvS) : TS := fun E σ H => ∃ (s : St) (m : Mem) (G : Addr → Prop), m.H = H ∧ Good cl m G σ s [] ∧ okS cl W G m E (ev s)
section
variable {X : Cx} {cl : String → Addr} {W : WX} {G : Addr → Prop} {m m1 : Mem} {E : Ends} {σ : L2.St} {s : St} {T : List EV}
theorem okS.on {x : Fl} (q : okS cl W G m E x) (e : Ext m m1) (p : Prot G m m1) : okS cl W G m1 E x := by
  cases x with
  | nx s => exact fun σ' m' x' p' g' => q σ' m' (e.trans x') (p.trans p') g'
  | rt d S => exact fun v m' x' p' => q v m' (e.trans x') (p.trans p')
  | bk s => exact fun σ' m' x' p' g' => q σ' m' (e.trans x') (p.trans p') g'
  | ct s => exact fun σ' m' x' p' g' => q σ' m' (e.trans x') (p.trans p') g'
  | exc c s => exact fun σ' m' x' p' g' => q σ' m' (e.trans x') (p.trans p') g'
  | stk => exact q
theorem S_then {ev : Ev} {f : Ent → St → Fl} {Q1 : VK} (h : Good cl m1 G σ s T) (x : Ext m m1) (p : Prot G m m1) (q : okS cl W G m E ((ev s).fl f))
    (k : ∀ r s2 y m2, Ext m m2 → Prot G m m2 → Good cl m2 G σ s2 (T ++ [(r, some y)]) → okS cl W G m E (f r s2) → Q1 y m2.H) : tM cl W ev σ m1.H Q1 := by
  refine ⟨s, m1, G, T, rfl, h, ?_⟩
  cases e : ev s with
  | ok r s2 =>
    rw [e] at q
    exact fun v m2 x2 p2 g2 => k r s2 v m2 (x.trans x2) (p.trans p2) g2 q
  | exc c s2 =>
    rw [e] at q
    exact fun m2 x2 p2 g2 => q σ m2 (x.trans x2) (p.trans p2) (g2.sub (List.nil_sublist _))
  | stk => rw [e] at q; exact q
theorem S_thenB {ev : EvB} {f : Bool → St → Fl} {Q1 : Bool → Hp → Prop} (h : Good cl m1 G σ s T) (x : Ext m m1) (p : Prot G m m1) (q : okS cl W G m E ((ev s).fl f))
    (k : ∀ b s2 m2, Ext m m2 → Prot G m m2 → Good cl m2 G σ s2 T → okS cl W G m E (f b s2) → Q1 b m2.H) : tMB cl W ev σ m1.H Q1 := by
  refine ⟨s, m1, G, T, rfl, h, ?_⟩
  cases e : ev s with
  | ok r s2 =>
    rw [e] at q
    exact fun m2 x2 p2 g2 => k r s2 m2 (x.trans x2) (p.trans p2) g2 q
  | exc c s2 =>
    rw [e] at q
    exact fun m2 x2 p2 g2 => q σ m2 (x.trans x2) (p.trans p2) (g2.sub (List.nil_sublist _))
  | stk => rw [e] at q; exact q
theorem S_thenA {ev : EvL} {f : List Ent → St → Fl} {Q1 : List V → Hp → Prop} (h : Good cl m1 G σ s T) (x : Ext m m1) (p : Prot G m m1) (q : okS cl W G m E ((ev s).fl f))
    (k : ∀ rs s2 ys m2, Ext m m2 → Prot G m m2 → rs.length = ys.length → Good cl m2 G σ s2 (T ++ rs.zip (ys.map some)) → okS cl W G m E (f rs s2) → Q1 ys m2.H) : tMA cl W ev σ m1.H Q1 := by
  refine ⟨s, m1, G, T, rfl, h, ?_⟩
  cases e : ev s with
  | ok r s2 =>
    rw [e] at q
    exact fun v m2 x2 p2 l g2 => k r s2 v m2 (x.trans x2) (p.trans p2) l g2 q
  | exc c s2 =>
    rw [e] at q
    exact fun m2 x2 p2 g2 => q σ m2 (x.trans x2) (p.trans p2) (g2.sub (List.nil_sublist _))
  | stk => rw [e] at q; exact q
theorem optF_some {α : Type} {x : Option α} {f : α → Fl} (h : okS cl W G m E (optF x f)) : ∃ a, x = some a ∧ okS cl W G m E (f a) := by
  cases x with
  | none => exact h.elim
  | some a => exact ⟨a, rfl, h⟩
variable {st : Stmt} {sts : List Stmt} {e e2 c : Expr} {ea eb : Ev} {el : EvL} {pos : Pos} {sa sb : EvS} {cc : EvB} {b : List Stmt}
/-- a statement by its own reading -/
theorem fs_set {i n : Nat} (hi : i < n) (ln : ∀ {σ H s pins}, Inv X pins σ H s → σ.length = n) (h2 : L2.PS X st (tAsg (tM cl W ea) (gName i))) : L2.PS X st (tMS cl W (setN i ea)) := by
  refine ⟨fun pins s σ H D I q => h2.run pins s σ H D I ?_⟩
  obtain ⟨s0, m, G, rfl, g, q⟩ := q
  have hl := ln I
  refine S_then (T := []) g (Ext.refl _) Prot.refl q fun r s2 y m2 x2 p2 g2 q2 => ?_
  have hi2 : i < s2.env.length := by have := g2.ln; omega
  show D.nx (σ.set i (some y)) m2.H
  unfold stor at q2
  split at q2
  · exact q2 _ _ x2 p2 (g2.store na_val (fun p hp => by cases hp) hi2)
  · exact q2 _ _ x2 p2 (g2.store na_own (fun p hp => by cases hp) hi2)
  · exact q2.elim
theorem fs_setc {i n : Nat} (hi : i < n) (h : ∀ te, L2.PE X e te → L2.PS X st (tAsg te (gName i))) (ln : ∀ {σ H s pins}, Inv X pins σ H s → σ.length = n) (he : L2.PE X e (tM cl W ea)) : L2.PS X st (tMS cl W (setC i ea)) := by
  have h2 := h _ he
  refine ⟨fun pins s σ H D I q => h2.run pins s σ H D I ?_⟩
  obtain ⟨s0, m, G, rfl, g, q⟩ := q
  have hl := ln I
  refine S_then (T := []) g (Ext.refl _) Prot.refl q fun r s2 y m2 x2 p2 g2 q2 => ?_
  obtain ⟨c, hc, q3⟩ := optF_some q2
  obtain ⟨m3, a, rfl, eH, x3, p3, hi3, g3⟩ := g2.celled hc
  have hi2 : i < s2.env.length := by have := g2.ln; omega
  show D.nx (σ.set i (some (.ref a))) m2.H
  rw [← eH]
  have g4 := g3.val (v := .ref a) (d := .obj s2.sto.length) (.obj hi3)
  exact q3 _ _ (x2.trans x3) (p2.trans p3) (g4.store (s := { s2 with sto := s2.sto ++ [c] }) (T := []) na_val (fun p hp => by cases hp) hi2)
theorem fs_ex (h : ∀ te, L2.PE X e te → L2.PS X st (tDrop te)) (he : L2.PE X e (tM cl W ea)) : L2.PS X st (tMS cl W (exS ea)) := PS.imp (h _ he) fun D σ H q => by
  obtain ⟨s0, m, G, rfl, g, q⟩ := q
  exact S_then (T := []) g (Ext.refl _) Prot.refl q fun r s2 y m2 x2 p2 g2 q2 => q2 σ m2 x2 p2 (g2.sub (List.nil_sublist _))
theorem fs_ret (he : L2.PE X e (tM cl W ea)) : L2.PS X (.Return (some e) pos) (tMS cl W (retS ea)) := PS.imp (ps_ret he) fun D σ H q => by
  obtain ⟨s0, m, G, rfl, g, q⟩ := q
  refine S_then (T := []) g (Ext.refl _) Prot.refl q fun r s2 y m2 x2 p2 g2 q2 => ?_
  obtain ⟨d, hd, q3⟩ := optF_some q2
  obtain ⟨m3, eH, ei, x3, g3⟩ := Good.frz (A := []) (B := []) g2 hd
  obtain ⟨y', ey, ry⟩ := g3.sr.ok (.val d, some y) (List.mem_append_right _ List.mem_cons_self)
  cases ey
  rw [← eH]
  exact q3 y m3 (x2.trans x3) (p2.trans fun b _ => by rw [eH]) g3.mo g3.st g3.gd ry
theorem fs_retN : L2.PS X (.Return none pos) (tMS cl W fun s => .rt .non s.sto) := PS.imp ps_retN fun D σ H q => by
  obtain ⟨s0, m, G, rfl, g, q⟩ := q
  exact q .non m (Ext.refl _) Prot.refl g.mo g.st g.gd .non
theorem fs_if (hc : L2.PT X c (tMB cl W cc)) (ha : L2.PSs X sts (tMS cl W sa)) (hb : L2.PSs X b (tMS cl W sb)) : L2.PS X (.If c sts b pos) (tMS cl W (ifS cc sa sb)) := PS.imp (ps_if hc ha hb) fun D σ H q => by
  obtain ⟨s0, m, G, rfl, g, q⟩ := q
  refine S_thenB (T := []) g (Ext.refl _) Prot.refl q fun k s2 m2 x2 p2 g2 q2 => ?_
  cases k with
  | true => exact ite_tt ⟨s2, m2, G, rfl, g2, okS.on (by simpa using q2) x2 p2⟩
  | false => exact ite_ff ⟨s2, m2, G, rfl, g2, okS.on (by simpa using q2) x2 p2⟩
theorem fs_pass : L2.PS X (.Pass pos) (tMS cl W fun s => .nx s) := PS.imp ps_pass fun D σ H q => by
  obtain ⟨s0, m, G, rfl, g, q⟩ := q
  exact q σ m (Ext.refl _) Prot.refl g
theorem fs_brk : L2.PS X (.Break pos) (tMS cl W fun s => .bk s) := PS.imp ps_break fun D σ H q => by
  obtain ⟨s0, m, G, rfl, g, q⟩ := q
  exact q σ m (Ext.refl _) Prot.refl g
theorem fs_cnt : L2.PS X (.Continue pos) (tMS cl W fun s => .ct s) := PS.imp ps_continue fun D σ H q => by
  obtain ⟨s0, m, G, rfl, g, q⟩ := q
  exact q σ m (Ext.refl _) Prot.refl g
theorem fs_nil : L2.PSs X [] (tMS cl W fun s => .nx s) := PSs.imp pss_nil fun D σ H q => by
  obtain ⟨s0, m, G, rfl, g, q⟩ := q
  exact q σ m (Ext.refl _) Prot.refl g
theorem fs_one (h : L2.PS X st (tMS cl W sa)) : L2.PSs X [st] (tMS cl W sa) := pss_one h
/-- one behind another -/
theorem fs_cons (h1 : L2.PS X st (tMS cl W sa)) (h2 : L2.PSs X sts (tMS cl W sb)) : L2.PSs X (st :: sts) (tMS cl W (seqF sa sb)) := PSs.imp (pss_cons h1 h2) fun D σ H q => by
  obtain ⟨s0, m, G, rfl, g, q⟩ := q
  refine ⟨s0, m, G, rfl, g, ?_⟩
  unfold seqF at q
  cases e : sa s0 with
  | nx s1 =>
    rw [e] at q
    exact fun σ' m' x' p' g' => ⟨s1, m', G, rfl, g', okS.on q x' p'⟩
  | rt d S => rw [e] at q; exact q
  | bk s1 => rw [e] at q; exact q
  | ct s1 => rw [e] at q; exact q
  | exc c s1 => rw [e] at q; exact q
  | stk => rw [e] at q; exact q
end
end Z

set_option Elab.async false
set_option linter.all false
set_option maxRecDepth 100000
set_option maxHeartbeats 4000000
namespace Z
open PySem PySem.Spec PyProof.Rows L2

theorem Good.rep {cl : String → Addr} {m : Mem} {G : Addr → Prop} {σ : L2.St} {s : St} {T : List EV} {d : D} {v : V} (g : Good cl m G σ s T) (h : (Ent.val d, some v) ∈ T) : Rep m d v := by
  obtain ⟨x, e, r⟩ := g.sr.ok _ (List.mem_append_right _ h)
  cases e
  exact r
/-! ### stores into lists and dicts -/
theorem RepK.any {m : Mem} (k : DK) : ∀ {ds : List (DK × D)} {vs : List (Key × V)}, RepK m ds vs → (vs.any fun kv => decide (kv.1 = kD k)) = ds.any fun p => decide (p.1 = k)
  | _, _, .nil => rfl
  | _, _, .cons (k := a) r rs => by
    rw [List.any_cons, List.any_cons, rs.any k]
    congr 1
    by_cases e : a = k
    · subst e; simp
    · simp only [decide_eq_false e]
      exact decide_eq_false fun z => e (kD_inj z)
theorem RepK.map {m : Mem} {k : DK} {d : D} {v : V} (h : Rep m d v) : ∀ {ds : List (DK × D)} {vs : List (Key × V)}, RepK m ds vs → RepK m (ds.map fun p => if p.1 = k then (p.1, d) else p) (vs.map fun kv => if kv.1 = kD k then (kv.1, v) else kv)
  | _, _, .nil => .nil
  | _, _, .cons (k := a) r rs => by
    rw [List.map_cons, List.map_cons]
    by_cases e : a = k
    · subst e
      rw [if_pos rfl, if_pos rfl]
      exact .cons h (rs.map h)
    · rw [if_neg e, if_neg fun z => e (kD_inj z)]
      exact .cons r (rs.map h)
theorem RepK.append {m : Mem} : ∀ {ds es : List (DK × D)} {vs ws : List (Key × V)}, RepK m ds vs → RepK m es ws → RepK m (ds ++ es) (vs ++ ws)
  | _, _, _, _, .nil, h => h
  | _, _, _, _, .cons q r, h => .cons q (r.append h)
theorem RepK.put {m : Mem} {k : DK} {d : D} {v : V} (h : Rep m d v) {ds : List (DK × D)} {vs : List (Key × V)} (r : RepK m ds vs) : RepK m (Z.putK k d ds) (L2.putK vs (kD k) v) := by
  unfold Z.putK L2.putK
  rw [r.any k]
  split
  · exact r.map h
  · exact r.append (.cons h .nil)
/-- o[k] = v -/
def rSet : TSet := fun o i v H Q => rSetL o i v H Q ∨ rSetD o i v H Q
theorem set_any {X : Cx} (hu : X.A.units + 1 < cLine) : PSet X rSet := by
  intro pins s σ H o i v ov iv u Q I ro ri rv h
  rcases h with h | h
  · exact set_list pins s σ H o i v ov iv u Q I ro ri rv h
  · exact set_dict hu pins s σ H o i v ov iv u Q I ro ri rv h
theorem of_key {m : Mem} {dk : D} {k : DK} {y : V} (h : DK.of dk = some k) (r : RepB m dk y) : y = kV (kD k) := by
  cases dk with
  | int i => cases h; exact repI r
  | str x => cases h; exact repS r
  | _ => cases h
/-- what a store does, at the thing's place -/
theorem set_ok {m : Mem} {a : Addr} {d d' dk dv : D} {y z : V} {Q : Hp → Prop} (ow : OwnAt m d a) (nF : ¬ m.F a) (ry : RepB m dk y) (rz : Rep m dv z) (e : setD d dk dv = some d') (k : ∀ o, OwnAt (m.put a o) d' a → Q (upd m.H a o)) : rSet (.ref a) y z m.H Q := by
  unfold setD at e
  split at e
  · rename_i xs
    unfold setL at e
    split at e
    · rename_i i
      obtain ⟨j, hj, rfl⟩ := Option.map_eq_some_iff.mp e
      obtain ⟨ys, h, r1⟩ := ow
      have hj2 : L2.ixN xs.length i = some j := hj
      refine .inl ⟨a, ys, i, j, rfl, repI ry, h, by rw [← r1.len]; exact hj2, ?_⟩
      have x := Ext.put (m := m) (a := a) (o := .lst (ys.set j z)) nF
      exact k _ ⟨_, upd_same, (Reps.mono x _ _ r1).set (Rep.mono x _ _ rz) j⟩
    · cases e
  · rename_i kvs
    split at e
    · rename_i hl
      obtain ⟨key, hk, rfl⟩ := Option.map_eq_some_iff.mp e
      obtain ⟨ys, h, r1⟩ := ow
      have hy := of_key hk ry
      subst hy
      refine .inr ⟨a, _, rfl, DPut.k h (by rw [line_eq, ← r1.len]; exact hl), ?_⟩
      have x := Ext.put (m := m) (a := a) (o := .dK (L2.putK ys (kD key) z)) nF
      exact k _ ⟨_, upd_same, (RepK.mono x _ _ r1).put (Rep.mono x _ _ rz)⟩
    · cases e
  · cases e
section
variable {X : Cx} {cl : String → Addr} {W : WX} {G : Addr → Prop} {m m1 : Mem} {E : Ends} {σ : L2.St} {s : St} {T : List EV}
theorem okS_E {x : R Ent} (q : okS cl W G m E (x.fl fun _ s => .nx s)) : okE cl W G σ [] m (fun _ H => E.nx σ H) x := by
  cases x with
  | ok r s => exact fun v m' x' p' g' => q σ m' x' p' (g'.sub (List.nil_sublist _))
  | exc c s => exact fun m' x' p' g' => q σ m' x' p' g'
  | stk => exact q
/-- o[k] = v behind o, k and v -/
theorem putI_go {x y z : V} {r1 : Ent} {dk dv : D} (g : Good cl m1 G σ s T) (hm : (r1, some x) ∈ T) (x1 : Ext m m1) (p1 : Prot G m m1) (ry : RepB m1 dk y) (rz : Rep m1 dv z) (q : okS cl W G m E (putI s r1 dk dv)) : rSet x y z m1.H fun H => E.nx σ H := by
  refine upd_go (T := []) (W := W) (r := fun x H Q => rSet x y z H fun H' => Q .non H') (Q := fun _ H => E.nx σ H) (fun a d p Q ex ow nF hp k => ?_) g hm (List.nil_sublist _) x1 p1 (okS_E q)
  obtain ⟨d', hd, rfl⟩ := Option.map_eq_some_iff.mp hp
  subst ex
  exact set_ok ow nF ry rz hd fun o ow' => k .non o ow' .non
/-! ### targets -/
def tMG (cl : String → Addr) (W : WX) (f : D → EvS) : TG := fun v σ H Q => ∃ (s : St) (m : Mem) (G : Addr → Prop) (d : D), m.H = H ∧ Good cl m G σ s [] ∧ Rep m d v ∧ okS cl W G m ⟨Q, fun _ _ => False, fun _ _ => False, fun _ _ => False⟩ (f d s)
def tMGs (cl : String → Addr) (W : WX) (f : List D → EvS) : TGs := fun vs σ H Q => ∃ (s : St) (m : Mem) (G : Addr → Prop) (ds : List D), m.H = H ∧ Good cl m G σ s [] ∧ Reps m ds vs ∧ okS cl W G m ⟨Q, fun _ _ => False, fun _ _ => False, fun _ _ => False⟩ (f ds s)
theorem PG.imp {e : Expr} {t t' : TG} (h : L2.PG X e t) (i : ∀ v σ H Q, σ.length = X.N.length → t' v σ H Q → t v σ H Q) : L2.PG X e t' := ⟨fun pins s σ H v u Q I r q => h.run pins s σ H v u Q I r (i v σ H Q I.len q)⟩
theorem PGs.imp {e : List Expr} {t t' : TGs} (h : L2.PGs X e t) (i : ∀ v σ H Q, t' v σ H Q → t v σ H Q) : L2.PGs X e t' := ⟨fun pins s σ H v u Q I r q => h.run pins s σ H v u Q I r (i v σ H Q q)⟩
variable {e e2 o k : Expr} {es : List Expr} {ea eo ek : Ev} {el : EvL} {pos pos' : Pos} {st : Stmt} {te : TE}
theorem fg_nm {i : Nat} (hi : i < X.N.length) (h : L2.PG X e (gName i)) : L2.PG X e (tMG cl W fun d s => .nx (put s i (.val d))) := PG.imp h fun v σ H Q hl q => by
  obtain ⟨s, m, G, d, rfl, g, r, q⟩ := q
  refine q _ m (Ext.refl _) Prot.refl ((g.val r).store (T := []) na_val (fun p hp => by cases hp) ?_)
  have := g.ln
  omega
theorem fg_sub (h : ∀ to ti t, L2.PE X o to → L2.PE X k ti → PSet X t → L2.PG X e (gSub to ti t)) (hu : X.A.units + 1 < cLine) (ho : L2.PE X o (tM cl W eo)) (hk : L2.PE X k (tM cl W ek)) : L2.PG X e (tMG cl W fun d => tgI eo ek d) := PG.imp (h _ _ _ ho hk (set_any hu)) fun v σ H Q hl q => by
  obtain ⟨s, m, G, d, rfl, g, r, q⟩ := q
  refine S_then (T := []) (E := ⟨Q, fun _ _ => False, fun _ _ => False, fun _ _ => False⟩) g (Ext.refl _) Prot.refl q fun r1 s1 x m1 x1 p1 g1 q1 => ?_
  refine S_then g1 x1 p1 q1 fun r2 s2 y m2 x2 p2 g2 q2 => ?_
  obtain ⟨dk, hdk, q3⟩ := optF_some q2
  exact putI_go (E := ⟨Q, fun _ _ => False, fun _ _ => False, fun _ _ => False⟩) g2 (by simp) x2 p2 (g2.res (r := r2) (v := y) (by simp) hdk) (Rep.mono x2 _ _ r) q3
theorem fgs_nil {Γ : Gam} : L2.PGs X [] (tMGs cl W (evTgs Γ [])) := PGs.imp pgs_nil fun vs σ H Q q => by
  obtain ⟨s, m, G, ds, rfl, g, r, q⟩ := q
  cases r with
  | nil =>
    unfold evTgs at q
    exact ⟨rfl, q σ m (Ext.refl _) Prot.refl g⟩
  | cons _ _ =>
    unfold evTgs at q
    exact q.elim
theorem fgs_cons {Γ : Gam} {t : Tg} {ts : List Tg} (h1 : L2.PG X e (tMG cl W (evTg Γ t))) (h2 : L2.PGs X es (tMGs cl W (evTgs Γ ts))) (hs : (assignEach (e :: es) X.env).map (·.2) = assign e X.env :: (assignEach es X.env).map (·.2)) :
    L2.PGs X (e :: es) (tMGs cl W (evTgs Γ (t :: ts))) := PGs.imp (pgs_cons h1 h2 hs) fun vs σ H Q q => by
  obtain ⟨s, m, G, ds, rfl, g, r, q⟩ := q
  cases r with
  | nil => unfold evTgs at q; exact q.elim
  | cons r rs =>
    rename_i d v ds vs
    unfold evTgs seqF at q
    refine ⟨v, vs, rfl, s, m, G, d, rfl, g, r, ?_⟩
    cases e : evTg Γ t d s with
    | nx s1 =>
      rw [e] at q
      exact fun σ' m' x' p' g' => ⟨s1, m', G, ds, rfl, g', Reps.mono x' _ _ rs, okS.on q x' p'⟩
    | rt d S => rw [e] at q; exact q
    | bk s1 => rw [e] at q; exact q
    | ct s1 => rw [e] at q; exact q
    | exc c s1 => rw [e] at q; exact q
    | stk => rw [e] at q; exact q
def NE : Fl → Prop
  | .rt _ _ => False
  | .bk _ => False
  | .ct _ => False
  | _ => True
theorem ne_fl {α : Type} {x : R α} {f : α → St → Fl} (h : ∀ a s, NE (f a s)) : NE (x.fl f) := by
  cases x with
  | ok a s => exact h a s
  | exc c s => trivial
  | stk => trivial
theorem ne_opt {α : Type} {x : Option α} {f : α → Fl} (h : ∀ a, NE (f a)) : NE (optF x f) := by
  cases x with
  | none => trivial
  | some a => exact h a
theorem ne_tg {Γ : Gam} (t : Tg) (d : D) (s : St) : NE (evTg Γ t d s) := by
  cases t with
  | nm i => trivial
  | sub o k => exact ne_fl fun x s1 => ne_fl fun y s2 => ne_opt fun dk => ne_fl fun _ _ => trivial
  | fld o f => exact ne_fl fun x s1 => ne_opt fun dx => ne_opt fun _ => trivial
theorem ne_tgs {Γ : Gam} : ∀ (ts : List Tg) (ds : List D) (s : St), NE (evTgs Γ ts ds s)
  | [], [], _ => by unfold evTgs; trivial
  | [], _ :: _, _ => by unfold evTgs; trivial
  | _ :: _, [], _ => by unfold evTgs; trivial
  | t :: ts, d :: ds, s => by
    unfold evTgs seqF
    have h := ne_tg (Γ := Γ) t d s
    cases e : evTg Γ t d s with
    | nx s1 => exact ne_tgs ts ds s1
    | rt _ _ => rw [e] at h; exact h
    | bk _ => rw [e] at h; exact h
    | ct _ => rw [e] at h; exact h
    | exc _ _ => trivial
    | stk => trivial
/-- a, b, .. = a tuple -/
theorem fs_sett {Γ : Gam} {ts : List Tg} (h : ∀ te g, L2.PE X e te → L2.PGs X es g → L2.PS X st (tAsg te (gTup X.K ts.length g))) (he : L2.PE X e (tM cl W ea)) (hg : L2.PGs X es (tMGs cl W (evTgs Γ ts))) : L2.PS X st (tMS cl W (setT ts.length ea (evTgs Γ ts))) := PS.imp (h _ _ he hg) fun D σ H q => by
  obtain ⟨s, m, G, rfl, g, q⟩ := q
  refine S_then (T := []) g (Ext.refl _) Prot.refl q fun r s1 y m1 x1 p1 g1 q1 => ?_
  obtain ⟨ds, hds, q2⟩ := optF_some q1
  obtain ⟨d, hd, ht⟩ := Option.bind_eq_some_iff.mp hds
  obtain ⟨m3, eH, ei, x3, g3⟩ := Good.frz (A := []) (B := []) g1 hd
  obtain ⟨y', ey, ry⟩ := g3.sr.ok (.val d, some y) (List.mem_append_right _ List.mem_cons_self)
  cases ey
  split at q2
  · rename_i hl
    unfold tupOf at ht
    split at ht
    · cases ht
      cases ry with
      | tup h1 f rs =>
        rename_i xs a
        rw [← eH]
        have q3 := okS.on q2 (x1.trans x3) (p1.trans fun b _ => by rw [eH])
        refine ⟨a, xs, rfl, SqT.of h1, by rw [← rs.len]; exact hl, s1, m3, G, ds, rfl, g3.sub (List.nil_sublist _), rs, ?_⟩
        have hne := ne_tgs (Γ := Γ) ts ds s1
        cases hx : evTgs Γ ts ds s1 with
        | nx s => rw [hx] at q3; exact q3
        | rt d S => rw [hx] at hne; exact hne.elim
        | bk s => rw [hx] at hne; exact hne.elim
        | ct s => rw [hx] at hne; exact hne.elim
        | exc c s => rw [hx] at q3; exact q3
        | stk => rw [hx] at q3; exact q3
    · cases ht
  · exact q2.elim
/-! ### fields -/
theorem clsD_of {S : Store} {n : Nat} {c : String} {fs : List (String × D)} (h : S[n]? = some (.ins c fs)) : clsD S (.obj n) = some c := by
  show (match S[n]? with
    | some (.ins c _) => some c
    | _ => none) = some c
  rw [h]
theorem putF_go {ok : String → String → Bool} {f : String} {x y : V} {dx d : D} (hf : FldF X.K cl ok) (g : Good cl m1 G σ s T) (x1 : Ext m m1) (p1 : Prot G m m1) (rx : RepB m1 dx x) (ry : Rep m1 d y) (q : okS cl W G m E (putFl ok f s dx d)) :
    ∃ a c dx' fs, clsD s.sto dx = some c ∧ x = .ref a ∧ m1.H a = some (.ins (cl c) dx' fs) ∧ Cls X.K (cl c) ∧ NoAttr X.K (cl c) (Str.ofString f) ∧ fs.length < 1000 ∧ E.nx σ (upd m1.H a (.ins (cl c) dx' (putF (Str.ofString f) y fs))) := by
  obtain ⟨S, hS, q2⟩ := optF_some q
  unfold setFldD at hS
  split at hS
  · rename_i n
    split at hS
    · rename_i c fs hc
      split at hS
      · rename_i hk
        cases hS
        obtain ⟨a, rfl, hi, okc⟩ := obj_at g.st hc rx
        obtain ⟨dx, gs, hH, fr⟩ := okc
        obtain ⟨h1, h2⟩ := hf c f hk.1
        have nF : ¬ m1.F a := fun z => (g.mo.fz a z).2 (List.mem_of_getElem? hi)
        have xt := Ext.put (m := m1) (a := a) (o := .ins (cl c) dx (putF (Str.ofString f) y gs)) nF
        obtain ⟨g3, x3, p3, _⟩ := g.cell (c' := .ins c (putFld f d fs)) (o := .ins (cl c) dx (putF (Str.ofString f) y gs)) hc hi ⟨dx, _, upd_same, (fr.mono xt).put (Rep.mono xt _ _ ry)⟩
        exact ⟨a, c, dx, gs, clsD_of hc, rfl, hH, h1, h2, by rw [← fr.len]; exact hk.2, q2 σ _ (x1.trans x3) (p1.trans p3) (g3.sub (List.nil_sublist _))⟩
      · cases hS
    · cases hS
  · cases hS
/-- o.f = e: e, then o -/
theorem fs_setf {ok : String → String → Bool} {f : String} (hf : FldF X.K cl ok) (h : ∀ ta tv, L2.PE X o ta → L2.PE X e tv → L2.PS X st (sFld X.K ta tv (Str.ofString f))) (he : L2.PE X e (tM cl W ea)) (ho : L2.PE X o (tM cl W eo)) : L2.PS X st (tMS cl W (setFd ea (tgF ok eo f))) := PS.imp (h _ _ ho he) fun D σ H q => by
  obtain ⟨s, m, G, rfl, g, q⟩ := q
  refine S_then (T := []) g (Ext.refl _) Prot.refl q fun r s1 y m1 x1 p1 g1 q1 => ?_
  obtain ⟨d, hd, q2⟩ := optF_some q1
  obtain ⟨m3, eH, ei, x3, g3⟩ := Good.frz (A := []) (B := []) g1 hd
  rw [← eH]
  refine S_then g3 (x1.trans x3) (p1.trans fun b _ => by rw [eH]) q2 fun r2 s2 x m4 x4 p4 g4 q4 => ?_
  obtain ⟨dx, hdx, q5⟩ := optF_some q4
  obtain ⟨a, c, dx', fs, _, h⟩ := putF_go (d := d) (y := y) hf g4 x4 p4 (g4.res (r := r2) (v := x) (by simp) hdx) (g4.rep (by simp)) q5
  exact ⟨a, cl c, dx', fs, h⟩
/-- .. a list or dict that becomes a cell -/
theorem fs_setfc {ok : String → String → Bool} {f : String} (hf : FldF X.K cl ok) (h : ∀ ta tv, L2.PE X o ta → L2.PE X e tv → L2.PS X st (sFld X.K ta tv (Str.ofString f))) (he : L2.PE X e (tM cl W ea)) (ho : L2.PE X o (tM cl W eo)) : L2.PS X st (tMS cl W (setFC ok ea eo f)) := PS.imp (h _ _ ho he) fun D σ H q => by
  obtain ⟨s, m, G, rfl, g, q⟩ := q
  refine S_then (T := []) g (Ext.refl _) Prot.refl q fun r s1 y m1 x1 p1 g1 q1 => ?_
  obtain ⟨c, hc, q2⟩ := optF_some q1
  obtain ⟨m3, a, rfl, eH, x3, p3, hi3, g3⟩ := g1.celled hc
  have g4 := g3.val (v := .ref a) (d := .obj s1.sto.length) (.obj hi3)
  rw [← eH]
  refine S_then g4 (x1.trans x3) (p1.trans p3) q2 fun r2 s2 x m4 x4 p4 g5 q4 => ?_
  obtain ⟨dx, hdx, q5⟩ := optF_some q4
  obtain ⟨a, c, dx', fs, _, h⟩ := putF_go (d := .obj s1.sto.length) (y := .ref a) hf g5 x4 p4 (g5.res (r := r2) (v := x) (by simp) hdx) (g5.rep (by simp)) q5
  exact ⟨a, cl c, dx', fs, h⟩
/-- o[k] = e: e, then o, then k -/
theorem fs_seti (h : ∀ te g, L2.PE X e te → L2.PG X e2 g → L2.PS X st (tAsg te g)) (hg : L2.PG X e2 (tMG cl W fun d => tgI eo ek d)) (he : L2.PE X e (tM cl W ea)) : L2.PS X st (tMS cl W (setFd ea (tgI eo ek))) := PS.imp (h _ _ he hg) fun D σ H q => by
  obtain ⟨s, m, G, rfl, g, q⟩ := q
  refine S_then (T := []) g (Ext.refl _) Prot.refl q fun r s1 y m1 x1 p1 g1 q1 => ?_
  obtain ⟨d, hd, q2⟩ := optF_some q1
  obtain ⟨m3, eH, ei, x3, g3⟩ := Good.frz (A := []) (B := []) g1 hd
  rw [← eH]
  have q3 := okS.on q2 (x1.trans x3) (p1.trans fun b _ => by rw [eH])
  refine ⟨s1, m3, G, d, rfl, g3.sub (List.nil_sublist _), g3.rep (by simp), ?_⟩
  have hne : NE (tgI eo ek d s1) := ne_fl fun x s1 => ne_fl fun y s2 => ne_opt fun dk => ne_fl fun _ _ => trivial
  show okS cl W G m3 _ (tgI eo ek d s1)
  cases hx : tgI eo ek d s1 with
  | nx s => rw [hx] at q3; exact q3
  | rt d S => rw [hx] at hne; exact hne.elim
  | bk s => rw [hx] at hne; exact hne.elim
  | ct s => rw [hx] at hne; exact hne.elim
  | exc c s => rw [hx] at q3; exact q3
  | stk => rw [hx] at q3; exact q3
/-! ### augmented -/
def rAug (op : Operator) : V → V → Hp → VK → Prop := fun x y H Q => (∃ i j d, x = .int i ∧ y = .int j ∧ augI2 op i j = some (.int d) ∧ Q (.int d) H) ∨ (op = .Add ∧ ∃ i j, x = .str i ∧ y = .str j ∧ i.length + j.length ≤ sizeLine ∧ Q (.str (i ++ j)) H)
theorem aug_op (op : Operator) : OpR X (inplaceOp op) (rAug op) := by
  intro pins s σ H x y v u Q I rx ry h
  rcases h with ⟨i, j, d, rfl, rfl, e, q⟩ | ⟨rfl, h⟩
  rotate_left
  · exact iop_add_str pins s σ H _ _ v u Q I rx ry h
  cases op with
  | Add => cases e; exact iop_add pins s σ H _ _ v u Q I rx ry ⟨_, _, rfl, rfl, q⟩
  | Sub => cases e; exact iop_sub pins s σ H _ _ v u Q I rx ry ⟨_, _, rfl, rfl, q⟩
  | BitXor =>
    unfold augI2 at e
    simp only at e
    split at e
    · rename_i hl
      cases e
      refine iop_xor pins s σ H _ _ v u Q I rx ry ⟨_, _, rfl, rfl, ?_⟩
      dsimp only
      rw [bitXor_pp (nn_iff.mp hl.1) (nn_iff.mp hl.2)]
      exact q
    · cases e
  | _ => cases e
theorem aug_int {op : Operator} {i j : Int} {d : D} (h : augI2 op i j = some d) : ∃ k, d = .int k := by
  unfold augI2 at h
  split at h
  · cases h; exact ⟨_, rfl⟩
  · cases h; exact ⟨_, rfl⟩
  · split at h
    · cases h; exact ⟨_, rfl⟩
    · cases h
  · cases h
theorem aug_go {op : Operator} {dx dy d : D} {x y : V} {H : Hp} {Q : VK} (rx : RepB m dx x) (ry : RepB m1 dy y) (h : augOp op dx dy = some d) (k : ∀ u, (∀ m, Rep m d u) → Q u H) : rAug op x y H Q := by
  unfold augOp at h
  split at h
  · obtain ⟨k', rfl⟩ := aug_int h
    exact .inl ⟨_, _, k', repI rx, repI ry, h, k _ fun m => .int k'⟩
  · rename_i a b
    unfold augS at h
    split at h
    · split at h
      · rename_i hl
        cases h
        refine .inr ⟨rfl, ⟨a.toArray⟩, ⟨b.toArray⟩, repS rx, repS ry, by rw [lenS, lenS, line_eq]; exact hl, ?_⟩
        have e2 : (⟨a.toArray⟩ : Str) ++ (⟨b.toArray⟩ : Str) = ⟨(a ++ b).toArray⟩ := by
          show Str.append _ _ = _
          simp [Str.append]
        rw [e2]
        exact k _ fun m => .str _
      · cases h
    · cases h
  · cases h
theorem fs_aug {i n : Nat} {op : Operator} (hi : i < n) (ln : ∀ {σ H s pins}, Inv X pins σ H s → σ.length = n) (h : ∀ te ti, L2.PE X e te → PIp X op ti → L2.PS X st (tAug i te ti)) (he : L2.PE X e (tM cl W ea)) : L2.PS X st (tMS cl W (augN i op ea)) := by
  have h2 := h _ _ he (aug_op op)
  refine ⟨fun pins s σ H D I q => h2.run pins s σ H D I ?_⟩
  obtain ⟨s0, m, G, rfl, g, q⟩ := q
  have hl := ln I
  obtain ⟨dx, hdx, q2⟩ := optF_some q
  have hs : s0.env[i]? = some (.val dx) := by
    unfold valOf at hdx
    split at hdx
    · rename_i heq; cases hdx; exact heq
    · cases hdx
  obtain ⟨v, hv, x, rfl, rx⟩ := g.slot hs
  refine ⟨x, hv, S_then (T := []) g (Ext.refl _) Prot.refl q2 fun r s1 y m1 x1 p1 g1 q3 => ?_⟩
  obtain ⟨dy, hdy, q4⟩ := optF_some q3
  obtain ⟨d, hd, q5⟩ := optF_some q4
  refine aug_go rx.b (g1.res (r := r) (v := y) (by simp) hdy) hd fun u hu => ?_
  have hi2 : i < s1.env.length := by have := g1.ln; omega
  exact q5 _ m1 x1 p1 (((g1.sub (List.nil_sublist _)).val (hu _)).store (T := []) na_val (fun p hp => by cases hp) hi2)
theorem fs_augf {ok : String → String → Bool} {f : String} {op : Operator} (hf : FldF X.K cl ok) (h : ∀ ta tv rd, L2.PE X o ta → L2.PE X e tv → InOp X op rd → L2.PS X st (sFldAug X.K ta tv rd (Str.ofString f))) (he : L2.PE X e (tM cl W ea)) (ho : L2.PE X o (tM cl W eo)) :
    L2.PS X st (tMS cl W (augFd ok eo f op ea)) := PS.imp (h _ _ _ ho he (aug_op op)) fun D σ H q => by
  obtain ⟨s, m, G, rfl, g, q⟩ := q
  refine S_then (T := []) g (Ext.refl _) Prot.refl q fun r s1 x m1 x1 p1 g1 q1 => ?_
  obtain ⟨dx, hdx, q2⟩ := optF_some q1
  obtain ⟨dv, hdv, q3⟩ := optF_some q2
  have rx := g1.res (r := r) (v := x) (by simp) hdx
  obtain ⟨n, c, fs, rfl, hs, hk, hl⟩ := ins_of hdv
  obtain ⟨a, rfl, hi, okc⟩ := obj_at g1.st hs rx
  obtain ⟨dx', gs, hH, fr⟩ := okc
  obtain ⟨u, hu, ru⟩ := fr.look hl
  obtain ⟨h1, h2⟩ := hf c f hk
  refine ⟨a, cl c, dx', gs, u, rfl, hH, h1, h2, hu, ?_⟩
  have g1' := (g1.val ru).val (d := .obj n) (v := .ref a) (.obj hi)
  refine S_then g1' x1 p1 q3 fun r2 s2 y m2 x2 p2 g2 q4 => ?_
  obtain ⟨dy, hdy, q5⟩ := optF_some q4
  obtain ⟨d, hd, q6⟩ := optF_some q5
  have rv : Rep m2 dv u := g2.rep (by simp)
  have ro : Rep m2 (.obj n) (.ref a) := g2.rep (by simp)
  refine aug_go rv.b (g2.res (r := r2) (v := y) (by simp) hdy) hd fun u hu => ?_
  split at q6
  · rename_i hcl
    obtain ⟨a2, c2, dx2, fs2, hc2, ea2, h6, _, _, h7, h8⟩ := putF_go hf g2 x2 p2 (show RepB m2 (.obj n) (.ref a) from ro) (hu _) q6
    cases ea2
    have hc1 : clsD s1.sto (.obj n) = some c := clsD_of hs
    rw [hcl, hc1] at hc2
    cases hc2
    exact ⟨dx2, fs2, h6, h7, h8⟩
  · exact q6.elim
/-- o[k] op= e of a list -/
theorem get_list : PGet X (rIxL X.K) := by
  intro pins s σ H o i ov iv Q I ro ri h
  obtain ⟨p, xs, k, z, rfl, rfl, hq, he, q⟩ := h
  cases ro
  obtain ⟨t, rfl⟩ := ri
  obtain ⟨its, r, pl, hz⟩ := I.list hq
  obtain ⟨j, h1, h2, h3, h4, h5⟩ := atI_get he
  obtain ⟨w, ew, rw'⟩ := r.get h2
  have hl := r.length
  have hn := line63
  have es : its.toArray.size = xs.length := by rw [List.size_toArray, ← hl]
  have ea : its.toArray[j]? = some w := by simpa using ew
  have fin : EP X pins σ Q w s := ⟨z, H, I, rw', q⟩
  rcases Int.lt_or_le k 0 with h0 | h0
  · rw [seqIndex_neg h0 h4] at h1
    have hj : (k + (its.toArray.size : Int)).toNat = j := by rw [es]; exact Option.some.inj h1
    exact wpAny_getItem_list_neg pl.isList h0 (by omega) (by omega) (by rw [hj]; exact ea) fin
  · rw [seqIndex_of h0 h5] at h1
    have hj : k.toNat = j := Option.some.inj h1
    exact wpAny_getItem_list pl.isList h0 (by omega) (by rw [hj]; exact ea) fin
theorem lst_of {S : Store} {dx : D} {xs : List D} {x : V} (st : StoOk cl m S) (r : RepB m dx x) (h : lstOf S dx = some xs) : ∃ a vs, x = .ref a ∧ m.H a = some (.lst vs) ∧ Reps m xs vs := by
  unfold lstOf at h
  split at h
  · cases h
    obtain ⟨a, vs, rfl, e, r⟩ := r
    exact ⟨a, vs, rfl, e, r⟩
  · rename_i n
    split at h
    · rename_i hs
      cases h
      obtain ⟨a, rfl, hi, okc⟩ := obj_at st hs r
      obtain ⟨vs, e, r⟩ := okc
      exact ⟨a, vs, rfl, e, r⟩
    · cases h
  · cases h
theorem fs_augi {op : Operator} (hu : X.A.units + 1 < cLine) (h : ∀ to ti te tget tip tset, L2.PE X o to → L2.PE X k ti → PGet X tget → L2.PE X e te → PIp X op tip → PSet X tset → L2.PS X st (tAugS to ti te tget tip tset)) (ho : L2.PE X o (tM cl W eo)) (hk : L2.PE X k (tM cl W ek)) (he : L2.PE X e (tM cl W ea)) :
    L2.PS X st (tMS cl W (augI eo ek op ea)) := PS.imp (h _ _ _ _ _ _ ho hk get_list he (aug_op op) (set_any hu)) fun D σ H q => by
  obtain ⟨s, m, G, rfl, g, q⟩ := q
  refine S_then (T := []) g (Ext.refl _) Prot.refl q fun r1 s1 x m1 x1 p1 g1 q1 => ?_
  refine S_then g1 x1 p1 q1 fun r2 s2 y m2 x2 p2 g2 q2 => ?_
  obtain ⟨dx, hdx, q3⟩ := optF_some q2
  obtain ⟨dk, hdk, q4⟩ := optF_some q3
  obtain ⟨dv, hdv, q5⟩ := optF_some q4
  obtain ⟨xs, hxs, hv⟩ := Option.bind_eq_some_iff.mp hdv
  obtain ⟨a, vs, rfl, hH, rs⟩ := lst_of g2.st (g2.res (r := r1) (v := x) (by simp) hdx) hxs
  obtain ⟨i, rfl, hi⟩ := idxL_int hv
  obtain ⟨v, hat, rv⟩ := atI_of rs hi
  have ry := repI (g2.res (r := r2) (v := y) (by simp) hdk)
  subst ry
  refine ⟨a, vs, i, v, rfl, rfl, SqL.of hH, hat, ?_⟩
  have g2' := (g2.val rv).val (d := .int i) (.int i)
  refine S_then g2' x2 p2 q5 fun r3 s3 z m3 x3 p3 g3 q6 => ?_
  obtain ⟨de, hde, q7⟩ := optF_some q6
  obtain ⟨d, hd, q8⟩ := optF_some q7
  have rv3 : Rep m3 dv v := g3.rep (by simp)
  refine aug_go rv3.b (g3.res (r := r3) (v := z) (by simp) hde) hd fun u hu => ?_
  exact putI_go (r1 := r1) g3 (by simp) x3 p3 (show RepB m3 (.int i) (.int i) from Rep.int i) (hu _) q8
/-! ### a, b = x, y: names -/
theorem stor1 {i : Nat} {is : List Nat} {r : Ent} {rs : List Ent} (q : okS cl W G m E (storL (i :: is) (r :: rs) s)) : NA r ∧ okS cl W G m E (storL is rs (put s i r)) := by
  cases r with
  | un => exact q.elim
  | al i => exact q.elim
  | val d => exact ⟨na_val, q⟩
  | own d => exact ⟨na_own, q⟩
theorem fs_par {i j n : Nat} (hi : i < n) (hj : j < n) (ln : ∀ {σ H s pins}, Inv X pins σ H s → σ.length = n) (h : ∀ ta, L2.PA X es ta → L2.PS X st (tPar i j ta)) (he : L2.PA X es (tMA cl W el)) : L2.PS X st (tMS cl W (parN [i, j] el)) := by
  have h2 := h _ he
  refine ⟨fun pins s σ H D I q => h2.run pins s σ H D I ?_⟩
  obtain ⟨s0, m, G, rfl, g, q⟩ := q
  have hl := ln I
  refine S_thenA (T := []) g (Ext.refl _) Prot.refl q fun rs s1 ys m1 x1 p1 l1 g1 q1 => ?_
  match rs, ys, l1, g1, q1 with
  | [], _, _, _, q1 => exact q1.elim
  | [r], _, _, _, q1 =>
    obtain ⟨_, q2⟩ := stor1 q1
    exact q2.elim
  | r :: r' :: r'' :: rs, _, _, _, q1 =>
    obtain ⟨_, q2⟩ := stor1 q1
    obtain ⟨_, q3⟩ := stor1 q2
    exact q3.elim
  | [r, r'], [y, y'], _, g1, q1 =>
    obtain ⟨n1, q2⟩ := stor1 q1
    obtain ⟨n2, q3⟩ := stor1 q2
    have hl1 := g1.ln
    have g2 := Good.store (r := r) (v := y) (i := i) (T := [(r', some y')]) g1 n1 (fun p hp => by simp only [List.mem_singleton] at hp; subst hp; exact n2) (by omega)
    have g3 := Good.store (r := r') (v := y') (i := j) (T := []) g2 n2 (fun p hp => by cases hp) (by show j < (s1.env.set i r).length; rw [List.length_set]; omega)
    exact ⟨y, y', rfl, q3 _ m1 x1 p1 g3⟩
  | [_, _], [], l, _, _ => simp at l
  | [_, _], [_], l, _, _ => simp at l
  | [_, _], _ :: _ :: _ :: _, l, _, _ => simp at l
theorem fs_par3 {i j k n : Nat} (hi : i < n) (hj : j < n) (hk : k < n) (ln : ∀ {σ H s pins}, Inv X pins σ H s → σ.length = n) (h : ∀ ta, L2.PA X es ta → L2.PS X st (tPar3 i j k ta)) (he : L2.PA X es (tMA cl W el)) : L2.PS X st (tMS cl W (parN [i, j, k] el)) := by
  have h2 := h _ he
  refine ⟨fun pins s σ H D I q => h2.run pins s σ H D I ?_⟩
  obtain ⟨s0, m, G, rfl, g, q⟩ := q
  have hl := ln I
  refine S_thenA (T := []) g (Ext.refl _) Prot.refl q fun rs s1 ys m1 x1 p1 l1 g1 q1 => ?_
  match rs, ys, l1, g1, q1 with
  | [], _, _, _, q1 => exact q1.elim
  | [r], _, _, _, q1 =>
    obtain ⟨_, q2⟩ := stor1 q1
    exact q2.elim
  | [r, r'], _, _, _, q1 =>
    obtain ⟨_, q2⟩ := stor1 q1
    obtain ⟨_, q3⟩ := stor1 q2
    exact q3.elim
  | r :: r' :: r'' :: r3 :: rs, _, _, _, q1 =>
    obtain ⟨_, q2⟩ := stor1 q1
    obtain ⟨_, q3⟩ := stor1 q2
    obtain ⟨_, q4⟩ := stor1 q3
    exact q4.elim
  | [r, r', r''], [y, y', y''], _, g1, q1 =>
    obtain ⟨n1, q2⟩ := stor1 q1
    obtain ⟨n2, q3⟩ := stor1 q2
    obtain ⟨n3, q4⟩ := stor1 q3
    have hl1 := g1.ln
    have g2 := Good.store (r := r) (v := y) (i := i) (T := [(r', some y'), (r'', some y'')]) g1 n1 (fun p hp => by
      simp only [List.mem_cons, List.not_mem_nil, or_false] at hp
      rcases hp with hp | hp
      · subst hp; exact n2
      · subst hp; exact n3) (by omega)
    have g3 := Good.store (r := r') (v := y') (i := j) (T := [(r'', some y'')]) g2 n2 (fun p hp => by simp only [List.mem_singleton] at hp; subst hp; exact n3) (by show j < (s1.env.set i r).length; rw [List.length_set]; omega)
    have g4 := Good.store (r := r'') (v := y'') (i := k) (T := []) g3 n3 (fun p hp => by cases hp) (by show k < ((s1.env.set i r).set j r').length; rw [List.length_set, List.length_set]; omega)
    exact ⟨y, y', y'', rfl, q4 _ m1 x1 p1 g4⟩
  | [_, _, _], [], l, _, _ => simp at l
  | [_, _, _], [_], l, _, _ => simp at l
  | [_, _, _], [_, _], l, _, _ => simp at l
  | [_, _, _], _ :: _ :: _ :: _ :: _, l, _, _ => simp at l
end
end Z

set_option Elab.async false
set_option linter.all false
set_option maxRecDepth 100000
set_option maxHeartbeats 4000000
namespace Z
open PySem PySem.Spec PyProof.Rows L2

/-! ### enumerate of anything that begins -/
set_option maxHeartbeats 1000000 in
theorem enum1_meets {v : Value} {o : Obj} {P : Heap → Prop} (B : Begins v o P) : Meets (Builtin.«enumerate.__new__» ⟨[.type "enumerate", v], []⟩) (fun _ R s => P s.heap ∧
      R (.ok (.ret (.ref (s.heap.push o).objs.size))) { s with heap := (s.heap.push o).push { cls := .type "enumerate", data := .fields #[.none, .bool false, .ref s.heap.objs.size, rawInt 0, .none, .none] } }) :=
  .of_wp fun prog w A R ⟨hp, g, d, tk, os⟩ ⟨hP, h⟩ => by
    have sub1 := sub_enumerate
    have it1 : ∀ {A1 : Around} {E1 Q1 : Value → Shared → Prop}, Q1 (.ref hp.objs.size) ⟨hp.push o, g, d, tk, os⟩ → wpAny (model prog w) A1 (pyIter v) Q1 E1 ⟨hp, g, d, tk, os⟩ := fun k => B.iter prog w _ _ ⟨hp, g, d, tk, os⟩ _ hP k
    wp_walk using it1
    refine wpAny_stack_any fun st => wpAny_pure ?_
    split
    · rename_i c _ _ _ _ _
      cases (c == Value.type "enumerate")
      all_goals
        wp_walk using it1
        exact ⟨_, rfl, h⟩
    · wp_walk using it1
      exact ⟨_, rfl, h⟩
theorem enum1_begins {prog : Program} {w : World} {A : Around} {E : Value → Shared → Prop} {s : Shared} {v : Value} {o : Obj} {P : Heap → Prop} {Q : Value → Shared → Prop} (B : Begins v o P) (hP : P s.heap)
    (h : ∀ h', IsEnum h' (s.heap.objs.size + 1) s.heap.objs.size 0 .none → h'.get? s.heap.objs.size = some o → (∀ b u, s.heap.get? b = some u → h'.get? b = some u) → Q (.ref (s.heap.objs.size + 1)) { s with heap := h' }) :
    wpAny (model prog w) A (call (.type "enumerate") [v]) Q E s := by
  have z1 : (s.heap.push o).objs.size = s.heap.objs.size + 1 := Heap.size_push ..
  refine callType_new F.called_enumerate (by decide) (F.typeCall_enumerate_1 _) (F.newCall_enumerate_1 _) (fun ob => F.args_object_init_2 ob _) F.entry_enumerate_new (enum1_meets B) ⟨hP, ?_⟩
  have e1 : IsEnum ((s.heap.push o).push { cls := .type "enumerate", data := .fields #[.none, .bool false, .ref s.heap.objs.size, rawInt 0, .none, .none] }) (s.heap.push o).objs.size s.heap.objs.size 0 .none := Heap.get?_push_size _ rfl
  rw [z1] at e1
  show _ ∧ Q (.ref (s.heap.push o).objs.size) _
  rw [z1]
  exact ⟨⟨_, e1, rfl⟩, h _ e1 (Heap.get?_push_of_some _ (Heap.get?_push_size _ B.free)) fun b u x => Heap.get?_push_of_some _ (Heap.get?_push_of_some _ x)⟩

theorem vals_back : ∀ {xs : List V} {us : List Value} {i : Nat} {u : Value}, Vals xs us → us[i]? = some u → ∃ v, xs[i]? = some v ∧ RelV v u
  | _, _, _, _, .nil, h => by simp at h
  | _, _, 0, _, .cons r _, h => by simp at h; subst h; exact ⟨_, rfl, r⟩
  | _, _, i + 1, _, .cons _ r, h => by
    obtain ⟨v, e, q⟩ := vals_back (i := i) r (by simpa using h)
    exact ⟨v, by simpa using e, q⟩
/-! ### what is walked: a list, a tuple, a text -/
inductive Src where
  | lst (a : Addr) | tup (a : Addr) | str (x : Str)
def Src.v : Src → V
  | .lst a => .ref a
  | .tup a => .ref a
  | .str x => .str x
def Src.has (K : PySem.W.Frag) (H : Hp) : Src → List V → Prop
  | .lst a, xs => SqL K H a xs
  | .tup a, xs => SqT K H a xs
  | .str x, xs => xs = x.cps.toList.map fun c => V.str ⟨#[c]⟩
/-- its iterator at it, i items gone through -/
def Src.at (it : Addr) (i : Nat) (h : Heap) : Src → Prop
  | .lst a => h.IsListIter it a i
  | .tup a => h.IsTupleIter it a i
  | .str x => ∃ t, h.IsStrIter it (strIterType x) x t i
def Src.own : Src → List Addr
  | .lst a => [a]
  | .tup a => [a]
  | .str _ => []
theorem Src.obj {S : Src} {it : Addr} {i : Nat} {h : Heap} (st : S.at it i h) : ∃ o, h.get? it = some o ∧ (∀ v, o.data ≠ .cell v) ∧ o.cls ≠ .type "list" ∧ o.cls ≠ .type "tuple" := by
  cases S with
  | lst a =>
    obtain ⟨o, e, c, d⟩ := st
    refine ⟨o, e, fun v z => (by rw [d] at z; cases z), by rw [c]; decide, by rw [c]; decide⟩
  | tup a =>
    obtain ⟨o, e, c, d⟩ := st
    refine ⟨o, e, fun v z => (by rw [d] at z; cases z), by rw [c]; decide, by rw [c]; decide⟩
  | str x =>
    obtain ⟨t, o, e, c, d⟩ := st
    refine ⟨o, e, fun v z => (by rw [d] at z; cases z), ?_, ?_⟩
    · rw [c]; unfold strIterType; split <;> decide
    · rw [c]; unfold strIterType; split <;> decide
theorem Src.keep {S : Src} {it : Addr} {i : Nat} {h h' : Heap} (st : S.at it i h) (k : ∀ o, h.get? it = some o → h'.get? it = some o) : S.at it i h' := by
  cases S with
  | lst a => exact Heap.IsListIter.at st k
  | tup a => exact Heap.IsTupleIter.at st k
  | str x =>
    obtain ⟨t, o, e, r⟩ := st
    exact ⟨t, o, k o e, r⟩
section
variable {X : Cx} {pins : List (Addr × Obj)} {σ : L2.St} {H : Hp} {s : Shared}
theorem Src.inj {S : Src} {xs ys : List V} (I : Inv X pins σ H s) (h : S.has X.K H xs) (h' : S.has X.K H ys) : xs = ys := by
  cases S with
  | lst a => exact I.list_inj h h'
  | tup a => exact I.tuple_inj h h'
  | str x => exact h.trans h'.symm
/-- what its iterator draws, as things stand now -/
theorem Src.draws {S : Src} {xs : List V} {it : Addr} {i : Nat} (I : Inv X pins σ H s) (hc : X.calm = true) (h : S.has X.K H xs) (st : S.at it i s.heap) :
    ∃ (P : Nat → Value → Prop) (St : Nat → Heap → Prop), Draws X.prog X.w X.A.in1 it (it :: S.own) xs.length P St ∧ St i s.heap ∧ (∀ j h', St j h' → S.at it j h') ∧ (∀ j u, P j u → ∃ v, xs[j]? = some v ∧ RelV v u) ∧
      ∀ b ∈ S.own, ∃ o, s.heap.get? b = some o ∧ (o.cls = .type "list" ∨ o.cls = .type "tuple") := by
  have hh : X.A.in1.handled = none := I.ok.hd hc
  obtain ⟨oi, ei, _, nl, nt⟩ := Src.obj st
  cases S with
  | lst a =>
    obtain ⟨its, rv, p, _⟩ := I.list h
    obtain ⟨o, e, cc⟩ : ∃ o, s.heap.get? a = some o ∧ o.cls = .type "list" := by
      obtain ⟨o, n, e, c, _⟩ := p
      exact ⟨o, e, c⟩
    have ne : a ≠ it := fun z => nl (by rw [z] at e; rw [e] at ei; cases ei; exact cc)
    refine ⟨fun i v => its.toArray[i]? = some v, fun i h => h.IsListIter it a i ∧ h.IsList a its.toArray, ?_, ⟨st, p.isList⟩, fun j h' q => q.1, fun j u q => ?_, fun b hb => ?_⟩
    · have D := Draws.list (prog := X.prog) (w := X.w) hh it a ne its.toArray
      rw [List.size_toArray, ← rv.length] at D
      exact D
    · obtain ⟨v, hv, rv'⟩ := vals_back rv (show its[j]? = some u by simpa using q)
      exact ⟨v, hv, rv'⟩
    · simp only [Src.own, List.mem_singleton] at hb
      subst hb
      exact ⟨o, e, .inl cc⟩
  | tup a =>
    obtain ⟨its, rv, p, _⟩ := I.tuple h
    obtain ⟨o, e, cc⟩ : ∃ o, s.heap.get? a = some o ∧ o.cls = .type "tuple" := by
      obtain ⟨o, e, c, _⟩ := p
      exact ⟨o, e, c⟩
    have ne : a ≠ it := fun z => nt (by rw [z] at e; rw [e] at ei; cases ei; exact cc)
    refine ⟨fun i v => its.toArray[i]? = some v, fun i h => h.IsTupleIter it a i ∧ h.IsTuple a its.toArray, ?_, ⟨st, (show s.heap.IsTuple a its.toArray from p)⟩, fun j h' q => q.1, fun j u q => ?_, fun b hb => ?_⟩
    · have D := Draws.tuple (prog := X.prog) (w := X.w) hh it a ne its.toArray
      rw [List.size_toArray, ← rv.length] at D
      exact D
    · obtain ⟨v, hv, rv'⟩ := vals_back rv (show its[j]? = some u by simpa using q)
      exact ⟨v, hv, rv'⟩
    · simp only [Src.own, List.mem_singleton] at hb
      subst hb
      exact ⟨o, e, .inr cc⟩
  | str x =>
    obtain ⟨t, st⟩ := st
    have hx : xs = x.cps.toList.map fun c => V.str ⟨#[c]⟩ := h
    subst hx
    refine ⟨fun i v => ∃ c u, x.cps[i]? = some c ∧ v = .str ⟨#[c]⟩ u, fun i h => h.IsStrIter it (strIterType x) x t i, ?_, st, fun j h' q => ⟨t, q⟩, fun j u q => ?_, fun b hb => nomatch hb⟩
    · have D := Draws.text (prog := X.prog) (w := X.w) hh it x t
      rw [List.length_map, Array.length_toList]
      exact D
    · obtain ⟨c, k, hx, rfl⟩ := q
      refine ⟨.str ⟨#[c]⟩, ?_, k, rfl⟩
      rw [List.getElem?_map, Array.getElem?_toList, hx]
      rfl
/-- how it begins -/
theorem Src.begins {S : Src} {xs : List V} {u : Value} (I : Inv X pins σ H s) (h : S.has X.K H xs) (r : RelV S.v u) :
    ∃ (o : Obj) (P : Heap → Prop), Begins u o P ∧ P s.heap ∧ (∀ h' it, h'.get? it = some o → S.at it 0 h') ∧ ∀ b ∈ S.own, b < s.heap.objs.size := by
  cases S with
  | lst a =>
    obtain ⟨its, rv, p, _⟩ := I.list h
    cases (show u = Value.ref a from r)
    refine ⟨_, _, begins_list a its.toArray, p.isList, fun h' it e => ⟨_, e, rfl, rfl⟩, fun b hb => ?_⟩
    simp only [Src.own, List.mem_singleton] at hb
    subst hb
    exact p.lt
  | tup a =>
    obtain ⟨its, rv, p, _⟩ := I.tuple h
    cases (show u = Value.ref a from r)
    refine ⟨_, _, begins_tuple a its.toArray, (show s.heap.IsTuple a its.toArray from p), fun h' it e => ⟨_, e, rfl, rfl⟩, fun b hb => ?_⟩
    simp only [Src.own, List.mem_singleton] at hb
    subst hb
    obtain ⟨o, e, _⟩ := p
    exact Heap.lt_size e
  | str x =>
    obtain ⟨t, rfl⟩ := (show ∃ t, u = Value.str x t from r)
    exact ⟨_, _, begins_text x t, True.intro, fun h' it e => ⟨t, _, e, rfl, rfl⟩, fun b hb => nomatch hb⟩
end
/-- pairs of two sources -/
def Jz (K : PySem.W.Frag) (S1 S2 : Src) : L2.It :=
  ⟨fun i H => ∃ (xs ys : List V) (x y : V), S1.has K H xs ∧ S2.has K H ys ∧ xs[i]? = some x ∧ ys[i]? = some y,
    fun i H v H' => ∃ T x y, v = .ref T ∧ H T = none ∧ H' = upd H T (.tup [x, y]) ∧ (∀ xs, S1.has K H xs → xs[i]? = some x) ∧ ∀ ys, S2.has K H ys → ys[i]? = some y,
    fun i H => ∃ xs ys : List V, S1.has K H xs ∧ S2.has K H ys ∧ i = min xs.length ys.length⟩
/-- a source, numbered -/
def Je (K : PySem.W.Frag) (S : Src) : L2.It :=
  ⟨fun i H => ∃ (xs : List V) (x : V), S.has K H xs ∧ xs[i]? = some x,
    fun i H v H' => ∃ T x, v = .ref T ∧ H T = none ∧ H' = upd H T (.tup [.int (i : Nat), x]) ∧ ∀ xs, S.has K H xs → xs[i]? = some x,
    fun i H => ∃ xs : List V, S.has K H xs ∧ i = xs.length⟩
theorem turn_zipS {P : Program} {w : World} {K : PySem.W.Frag} {elts : List Expr} {kk : Nat} {tpos : Pos} {S1 S2 : Src} {z TI TO i1 i2 : Addr} (D : ZipSep2 z TI TO i1 i2 (i1 :: S1.own) (i2 :: S2.own)) :
    Turn P w K (.Tuple elts kk tpos) (Jz K S1 S2) [z, TI, TO, i1, i2] z (fun i h => IsZip h z TI TO .none ∧ IsTupOf2 h TI (.ref i1) (.ref i2) ∧ (∃ x y, IsTupOf2 h TO x y) ∧ S1.at i1 i h ∧ S2.at i2 i h) where
  mem := by simp
  obj := fun i h st c hc => by
    obtain ⟨hz, hTI, ⟨x, y, hTO⟩, st1, st2⟩ := st
    simp only [List.mem_cons, List.not_mem_nil, or_false] at hc
    rcases hc with rfl | rfl | rfl | rfl | rfl
    · exact ⟨_, hz, fun v q => nomatch q⟩
    · exact ⟨_, hTI, fun v q => nomatch q⟩
    · exact ⟨_, hTO, fun v q => nomatch q⟩
    · obtain ⟨o, e, d, _⟩ := Src.obj st1; exact ⟨o, e, d⟩
    · obtain ⟨o, e, d, _⟩ := Src.obj st2; exact ⟨o, e, d⟩
  keep := fun i h h' st k => by
    obtain ⟨hz, hTI, ⟨x, y, hTO⟩, st1, st2⟩ := st
    exact ⟨k z (by simp) _ hz, k TI (by simp) _ hTI, ⟨x, y, k TO (by simp) _ hTO⟩, Src.keep st1 (k i1 (by simp)), Src.keep st2 (k i2 (by simp))⟩
  item := by
    rintro X rfl rfl rfl hc i pins s σ H E I hf ⟨hz, hTI, ⟨x0, y0, hTO⟩, st1, st2⟩ ⟨xs, ys, x, y, h1, h2, hx, hy⟩
    obtain ⟨P1, T1, D1, q1, b1, c1, _⟩ := Src.draws I hc h1 st1
    obtain ⟨P2, T2, D2, q2, b2, c2, _⟩ := Src.draws I hc h2 st2
    have hzl : z < s.heap.objs.size := Heap.lt_size hz
    have hTIl : TI < s.heap.objs.size := Heap.lt_size hTI
    have hTOl : TO < s.heap.objs.size := Heap.lt_size hTO
    have l1 : i1 < s.heap.objs.size := by obtain ⟨o, e, _⟩ := Src.obj st1; exact Heap.lt_size e
    have l2 : i2 < s.heap.objs.size := by obtain ⟨o, e, _⟩ := Src.obj st2; exact Heap.lt_size e
    refine wpAny_pyNext_zipD2_item D D1 D2 hz hTI hTO q1 q2 (List.getElem?_eq_some_iff.mp hx).1 (List.getElem?_eq_some_iff.mp hy).1 fun u1 u2 h' tk p1 p2 z' TO' t1 t2 hT hsz hk => ?_
    obtain ⟨v1, hv1, r1⟩ := c1 i u1 p1
    obtain ⟨v2, hv2, r2⟩ := c2 i u2 p2
    refine ⟨_, rfl, wpAny_letOwnedTupleGo_zip (s := { s with heap := h', toks := tk }) z' fun h'' z'' sb => ?_⟩
    have hT2 : h''.get? s.heap.objs.size = some { cls := .type "tuple", data := .seq #[u1, u2] } := (sb.2 _ (Nat.ne_of_gt hzl)).trans hT
    have new : ObjOk X.prog X.w (upd H s.heap.objs.size (.tup [v1, v2])) h'' s.heap.objs.size (.tup [v1, v2]) := ⟨by show 2 ≤ sizeLine; decide, [u1, u2], .cons r1 (.cons r2 .nil), ⟨_, hT2, rfl, _, rfl⟩⟩
    have kk2 : ∀ b o, b ∉ [z, TI, TO, i1, i2] → s.heap.get? b = some o → h''.get? b = some o := fun b o hb e => by
      simp only [List.mem_cons, List.not_mem_nil, or_false, not_or] at hb
      exact (sb.2 b hb.1).trans (hk b o hb.1 hb.2.2.1 hb.2.2.2.1 hb.2.2.2.2 e)
    have I1 := I.turnedNew (t' := tk) kk2 hf (Nat.le_refl _) new
    have z1 : i1 ≠ z := fun e => D.zf1 (by rw [← e]; exact List.mem_cons_self)
    have z2 : i2 ≠ z := fun e => D.zf2 (by rw [← e]; exact List.mem_cons_self)
    refine ⟨.ref s.heap.objs.size, _, I1, rfl, ⟨_, v1, v2, rfl, I.hok.fresh (Nat.le_refl _), rfl, fun l hl => ?_, fun l hl => ?_⟩, ⟨z'', (sb.2 _ D.TIz).trans (hk _ _ D.TIz D.TITO D.TIi1 D.TIi2 hTI), ⟨u1, u2, (sb.2 _ D.TOz).trans TO'⟩, ?_, ?_⟩, fun b hb => ?_⟩
    · rw [Src.inj I hl h1]; exact hv1
    · rw [Src.inj I hl h2]; exact hv2
    · exact Src.keep (b1 _ _ t1) fun o e => (sb.2 _ z1).trans e
    · exact Src.keep (b2 _ _ t2) fun o e => (sb.2 _ z2).trans e
    · have hlt : b < s.heap.objs.size := by
        have hb' := hb
        simp only [List.mem_cons, List.not_mem_nil, or_false] at hb'
        rcases hb' with rfl | rfl | rfl | rfl | rfl <;> assumption
      rw [upd_ne (Nat.ne_of_lt hlt)]
      exact (hf b hb).1
  done := by
    rintro X rfl rfl rfl hc i pins s σ H E I hf ⟨hz, hTI, ⟨x0, y0, hTO⟩, st1, st2⟩ ⟨xs, ys, h1, h2, he⟩
    obtain ⟨P1, T1, D1, q1, b1, c1, _⟩ := Src.draws I hc h1 st1
    obtain ⟨P2, T2, D2, q2, b2, c2, _⟩ := Src.draws I hc h2 st2
    refine wpAny_pyNext_zipD2_end D D1 D2 hz hTI hTO q1 q2 (by omega) (by omega) (by omega) fun h' tk hk => ⟨rfl, I.turnedL (t' := tk) (ch := [z, TI, TO, i1, i2]) (fun b o hb e => ?_) hf⟩
    simp only [List.mem_cons, List.not_mem_nil, or_false, not_or] at hb
    exact hk b o hb.1 hb.2.2.1 hb.2.2.2.1 hb.2.2.2.2 e
  self := fun A i s Q E st h => wpAny_pyIter_zip st.1 h
theorem turn_enumS {P : Program} {w : World} {K : PySem.W.Frag} {elts : List Expr} {kk : Nat} {tpos : Pos} {S : Src} {e it : Addr} (ne : e ≠ it) (no : e ∉ S.own) :
    Turn P w K (.Tuple elts kk tpos) (Je K S) [e, it] e (fun i h => (∃ old, IsEnum h e it ((i : Nat) : Int) old) ∧ S.at it i h) where
  mem := by simp
  obj := fun i h st c hc => by
    obtain ⟨⟨old, he⟩, st1⟩ := st
    simp only [List.mem_cons, List.not_mem_nil, or_false] at hc
    rcases hc with rfl | rfl
    · exact ⟨_, he, fun v q => nomatch q⟩
    · obtain ⟨o, e, d, _⟩ := Src.obj st1; exact ⟨o, e, d⟩
  keep := fun i h h' st k => by
    obtain ⟨⟨old, he⟩, st1⟩ := st
    exact ⟨⟨old, k e (by simp) _ he⟩, Src.keep st1 (k it (by simp))⟩
  item := by
    rintro X rfl rfl rfl hc i pins s σ H E I hf ⟨⟨old, he⟩, st1⟩ ⟨xs, x, h1, hx⟩
    obtain ⟨P1, T1, D1, q1, b1, c1, _⟩ := Src.draws I hc h1 st1
    have hel : e < s.heap.objs.size := Heap.lt_size he
    have l1 : it < s.heap.objs.size := by obtain ⟨o, e, _⟩ := Src.obj st1; exact Heap.lt_size e
    have nf : e ∉ it :: S.own := fun z => (List.mem_cons.mp z).elim ne no
    refine wpAny_pyNext_enum_itemD D1 he q1 (List.getElem?_eq_some_iff.mp hx).1 ne nf fun u h' tk p1 ho t1 hT hsz hk => ?_
    obtain ⟨v, hv, r⟩ := c1 i u p1
    refine ⟨_, rfl, wpAny_letOwnedTupleGo_enum (s := { s with heap := h', toks := tk + 1 }) ho fun h'' he' sb => ?_⟩
    have hT2 : h''.get? s.heap.objs.size = some { cls := .type "tuple", data := .seq #[.int i tk, u] } := (sb.2 _ (Nat.ne_of_gt hel)).trans hT
    have new : ObjOk X.prog X.w (upd H s.heap.objs.size (.tup [.int (i : Nat), v])) h'' s.heap.objs.size (.tup [.int (i : Nat), v]) := ⟨by show 2 ≤ sizeLine; decide, [.int i tk, u], .cons ⟨_, rfl⟩ (.cons r .nil), ⟨_, hT2, rfl, _, rfl⟩⟩
    have kk2 : ∀ b o, b ∉ [e, it] → s.heap.get? b = some o → h''.get? b = some o := fun b o hb q => by
      simp only [List.mem_cons, List.not_mem_nil, or_false, not_or] at hb
      exact (sb.2 b hb.1).trans (hk b o hb.1 hb.2 q)
    have I1 := I.turnedNew (t' := tk + 1) kk2 hf (Nat.le_refl _) new
    refine ⟨.ref s.heap.objs.size, _, I1, rfl, ⟨_, v, rfl, I.hok.fresh (Nat.le_refl _), rfl, fun l hl => ?_⟩, ⟨⟨u, ?_⟩, ?_⟩, fun b hb => ?_⟩
    · rw [Src.inj I hl h1]; exact hv
    · have e1 : ((i + 1 : Nat) : Int) = (i : Int) + 1 := by omega
      rw [e1]; exact he'
    · exact Src.keep (b1 _ _ t1) fun o q => (sb.2 _ (Ne.symm ne)).trans q
    · have hlt : b < s.heap.objs.size := by
        have hb' := hb
        simp only [List.mem_cons, List.not_mem_nil, or_false] at hb'
        rcases hb' with rfl | rfl <;> assumption
      rw [upd_ne (Nat.ne_of_lt hlt)]
      exact (hf b hb).1
  done := by
    rintro X rfl rfl rfl hc i pins s σ H E I hf ⟨⟨old, he⟩, st1⟩ ⟨xs, h1, hx⟩
    obtain ⟨P1, T1, D1, q1, b1, c1, _⟩ := Src.draws I hc h1 st1
    subst hx
    obtain ⟨f0, f1, f2, f3, f4, f5⟩ := hf it (by simp)
    exact wpAny_pyNext_enum_endD D1 he q1 fun h' eb => ⟨rfl, I.turned (t' := s.toks) (fun b o hb q => eb b o hb q) f0 f1 f3 f4 f5⟩
  self := fun A i s Q E st h => let ⟨⟨_, he⟩, _⟩ := st; wpAny_pyIter_enum he h
/-! ### what a loop's head gives -/
def rIter (K : PySem.W.Frag) (x : V) (H : Hp) (R : L2.It → Hp → Prop) : Prop :=
  (∃ a xs, x = .ref a ∧ SqL K H a xs ∧ R (Itl K a) H) ∨ (∃ a xs, x = .ref a ∧ SqT K H a xs ∧ R (Itt K a) H) ∨ ∃ z, x = .str z ∧ R (Its z) H
section
variable {X : Cx} {tg e e2 : Expr} {te : TE} {ta : TA} {p pos tpos : Pos} {elts : List Expr} {kk : Nat}
theorem pi_any (he : L2.PE X e te) : L2.PI X tg e (fun σ H R => te σ H fun x H1 => rIter X.K x H1 R) := by
  refine ⟨fun pins s σ H R I h => thn (he.run pins s σ H _ I h) fun u s1 hh => ?_⟩
  obtain ⟨x, H1, I1, r1, q⟩ := hh
  rcases q with ⟨a, xs, rfl, hq, q⟩ | ⟨a, xs, rfl, hq, q⟩ | ⟨z, rfl, q⟩
  · obtain ⟨its, rv, pl, _⟩ := I1.list hq
    cases r1
    exact wpAny_pyIter_list pl.isList (pi_one (tk := s1.toks) I1 _ (turn_list a _) ⟨_, Heap.get?_push_size _ rfl, rfl, rfl⟩ q)
  · obtain ⟨its, rv, pl, _⟩ := I1.tuple hq
    cases r1
    exact wpAny_pyIter_tuple (show s1.heap.IsTuple a its.toArray from pl) (pi_one (tk := s1.toks) I1 _ (turn_tuple a _) ⟨_, Heap.get?_push_size _ rfl, rfl, rfl⟩ q)
  · obtain ⟨t, rfl⟩ := r1
    refine wpAny_pyIter_strU (pi_one (tk := s1.toks) I1 _ (turn_str _ z t (strIterType z) ?_) ⟨_, Heap.get?_push_size _ rfl, rfl, rfl⟩ q)
    unfold strIterType
    split
    · exact .inl rfl
    · exact .inr rfl
theorem boot_zip' : bootBuiltins "zip" = some (.type "zip") := PyProof.Rows.boot_zip
theorem pi_zipS (hg : Gl X "zip") (hm : X.mg "zip" = none) (ha : L2.PA X [e, e2] ta) (h1 : starEach [e, e2] X.env = (false, eval e X.env) :: starEach [e2] X.env) (h2 : (backTo pos (starEach [e2] X.env)).any (·.1) = false) :
    L2.PI X (.Tuple elts kk tpos) (.Call (.Name "zip" p) [e, e2] [] pos) (fun σ H R => ta σ H fun vs H1 => ∃ S1 S2 xs ys, vs = [Src.v S1, Src.v S2] ∧ S1.has X.K H1 xs ∧ S2.has X.K H1 ys ∧ R (Jz X.K S1 S2) H1) := by
  refine ⟨fun pins s σ H R I h => Call_ (ld_blt I hg hm PyProof.Rows.boot_zip (PyProof.Rows.callWith_type1 (thn (ha.run pos pins s σ H _ I h) fun us s1 hh => ?_) h1 h2))⟩
  obtain ⟨vs, H1, I1, r1, S1, S2, xs, ys, rfl, hx, hy, q⟩ := hh
  obtain ⟨u1, u2, rfl, ru1, ru2⟩ := vals2 r1
  obtain ⟨o1, P1, B1, p1, b1, c1⟩ := Src.begins I1 hx ru1
  obtain ⟨o2, P2, B2, p2, b2, c2⟩ := Src.begins I1 hy ru2
  refine zip_begins2 B1 B2 p1 p2 fun h' hz hTI hTO g1 g2 hsz hk => wpAny_pyIter_zip hz ?_
  have I2 : Inv X pins σ H1 { s1 with heap := h' } := I1.kept (t' := s1.toks) hk
  refine ⟨s1.heap.objs.size + 4, [s1.heap.objs.size + 4, s1.heap.objs.size + 2, s1.heap.objs.size + 3, s1.heap.objs.size, s1.heap.objs.size + 1], _, _, H1, rfl, I2, turn_zipS (zip_sep2 c1 c2), ⟨hz, hTI, ⟨_, _, hTO⟩, b1 _ _ g1, b2 _ _ g2⟩, fun c hc => ?_, q⟩
  have hle : s1.heap.objs.size ≤ c := by
    simp only [List.mem_cons, List.not_mem_nil, or_false] at hc
    rcases hc with rfl | rfl | rfl | rfl | rfl
    · exact Nat.le_add_right _ _
    · exact Nat.le_add_right _ _
    · exact Nat.le_add_right _ _
    · exact Nat.le_refl _
    · exact Nat.le_add_right _ _
  exact I1.fpOk hle (I1.hok.fresh hle)
theorem pi_enumS (hg : Gl X "enumerate") (hm : X.mg "enumerate" = none) (ha : L2.PA X [e] ta) (h1 : starEach [e] X.env = (false, eval e X.env) :: starEach [] X.env) (h2 : (backTo pos (starEach [] X.env)).any (·.1) = false) :
    L2.PI X (.Tuple elts kk tpos) (.Call (.Name "enumerate" p) [e] [] pos) (fun σ H R => ta σ H fun vs H1 => ∃ S xs, vs = [Src.v S] ∧ S.has X.K H1 xs ∧ R (Je X.K S) H1) := by
  refine ⟨fun pins s σ H R I h => Call_ (ld_blt I hg hm boot_enumerate (PyProof.Rows.callWith_type1 (thn (ha.run pos pins s σ H _ I h) fun us s1 hh => ?_) h1 h2))⟩
  obtain ⟨vs, H1, I1, r1, S1, xs, rfl, hx, q⟩ := hh
  obtain ⟨u1, rfl, ru1⟩ := vals1 r1
  obtain ⟨o1, P1, B1, p1, b1, c1⟩ := Src.begins I1 hx ru1
  refine enum1_begins B1 p1 fun h' he g1 hk => wpAny_pyIter_enum he ?_
  have I2 : Inv X pins σ H1 { s1 with heap := h' } := I1.kept (t' := s1.toks) hk
  refine ⟨s1.heap.objs.size + 1, [s1.heap.objs.size + 1, s1.heap.objs.size], _, _, H1, rfl, I2, turn_enumS (S := S1) (it := s1.heap.objs.size) (Nat.succ_ne_self _) (fun z => absurd (c1 _ z) (Nat.not_lt_of_le (Nat.le_add_right _ 1))), ⟨⟨.none, he⟩, b1 _ _ g1⟩, fun c hc => ?_, q⟩
  have hle : s1.heap.objs.size ≤ c := by
    simp only [List.mem_cons, List.not_mem_nil, or_false] at hc
    rcases hc with rfl | rfl
    · exact Nat.le_add_right _ _
    · exact Nat.le_refl _
  exact I1.fpOk hle (I1.hok.fresh hle)
end

/-! ### the walk as a list of data -/
/-- what an iterator yields while the things it walks stay -/
def Goes (J : L2.It) (ds : List D) (m0 : Mem) : Prop := ∀ m, Ext m0 m → MOk m → J.stop ds.length m.H ∧ ∀ (i : Nat) (d : D), ds[i]? = some d → J.go i m.H ∧ ∀ x H', J.yld i m.H x H' → ∃ m', m'.H = H' ∧ Grow m m' ∧ Rep m' d x
theorem Goes.ext {J : L2.It} {ds : List D} {m0 m : Mem} (g : Goes J ds m0) (x : Ext m0 m) : Goes J ds m := fun m' x' mo => g m' (x.trans x') mo
section
variable {K : PySem.W.Frag} {m0 : Mem}
theorem reps_at {m : Mem} {ds : List D} {vs : List V} (r : Reps m ds vs) {i : Nat} {d : D} {x : V} (hd : ds[i]? = some d) (hx : vs[i]? = some x) : Rep m d x := by
  obtain ⟨v, hv, rv⟩ := r.get hd
  rw [hv] at hx
  cases hx
  exact rv
theorem goes_lst {ds : List D} {a : Addr} (r : Rep m0 (.lst ds) (.ref a)) : Goes (Itl K a) ds m0 := fun m x mo => by
  cases Rep.mono x _ _ r with
  | lst h f rs =>
    rename_i vs
    refine ⟨⟨vs, SqL.of h, by rw [rs.len]; exact Nat.le_refl _⟩, fun i d hd => ?_⟩
    obtain ⟨v, hv, rv⟩ := rs.get hd
    refine ⟨⟨vs, v, SqL.of h, hv⟩, fun y H' q => ?_⟩
    obtain ⟨rfl, q⟩ := q
    exact ⟨m, rfl, Grow.refl mo, reps_at rs hd (q vs (SqL.of h))⟩
theorem goes_tup {ds : List D} {a : Addr} (r : Rep m0 (.tup ds) (.ref a)) : Goes (Itt K a) ds m0 := fun m x mo => by
  cases Rep.mono x _ _ r with
  | tup h f rs =>
    rename_i vs
    refine ⟨⟨vs, SqT.of h, by rw [rs.len]; exact Nat.le_refl _⟩, fun i d hd => ?_⟩
    obtain ⟨v, hv, rv⟩ := rs.get hd
    refine ⟨⟨vs, v, SqT.of h, hv⟩, fun y H' q => ?_⟩
    obtain ⟨rfl, q⟩ := q
    exact ⟨m, rfl, Grow.refl mo, reps_at rs hd (q vs (SqT.of h))⟩
theorem goes_str {x : List Nat} : Goes (Its ⟨x.toArray⟩) (x.map fun c => .str [c]) m0 := fun m _ mo => by
  refine ⟨by show x.toArray.size ≤ _; simp, fun i d hd => ?_⟩
  rw [List.getElem?_map] at hd
  obtain ⟨c, hc, rfl⟩ := Option.map_eq_some_iff.mp hd
  refine ⟨by show i < x.toArray.size; rw [List.size_toArray]; exact (List.getElem?_eq_some_iff.mp hc).1, fun y H' q => ?_⟩
  obtain ⟨rfl, k, hk, rfl⟩ := q
  have hk2 : x[i]? = some k := by simpa using hk
  rw [hc] at hk2
  cases hk2
  exact ⟨m, rfl, Grow.refl mo, .str [c]⟩
theorem rngL_at : ∀ (n : Nat) (lo : Int) {i : Nat} {d : D}, (rngL lo n)[i]? = some d → i < n ∧ d = .int (lo + (i : Int))
  | 0, _, i, d, h => by simp [rngL] at h
  | n + 1, lo, 0, d, h => by simp [rngL] at h; subst h; simp
  | n + 1, lo, i + 1, d, h => by
    have h' : (rngL (lo + 1) n)[i]? = some d := by simpa [rngL] using h
    obtain ⟨h1, h2⟩ := rngL_at n (lo + 1) h'
    exact ⟨by omega, by rw [h2]; congr 1; push_cast; omega⟩
theorem rngL_len : ∀ (n : Nat) (lo : Int), (rngL lo n).length = n
  | 0, _ => rfl
  | n + 1, lo => congrArg Nat.succ (rngL_len n (lo + 1))
theorem rngC_at (c : Int) : ∀ (n : Nat) (lo : Int) {i : Nat} {d : D}, (rngC lo c n)[i]? = some d → i < n ∧ d = .int (lo + (i : Nat) * c)
  | 0, _, i, d, h => by simp [rngC] at h
  | n + 1, lo, 0, d, h => by simp [rngC] at h; subst h; simp
  | n + 1, lo, i + 1, d, h => by
    have h' : (rngC (lo + c) c n)[i]? = some d := by simpa [rngC] using h
    obtain ⟨h1, h2⟩ := rngC_at c n (lo + c) h'
    refine ⟨by omega, by rw [h2]; congr 1; push_cast; rw [Int.add_mul, Int.one_mul]; omega⟩
theorem rngC_len (c : Int) : ∀ (n : Nat) (lo : Int), (rngC lo c n).length = n
  | 0, _ => rfl
  | n + 1, lo => congrArg Nat.succ (rngC_len c n (lo + c))
theorem goes_rng {lo : Int} {n : Nat} : Goes (Itr lo n) (rngL lo n) m0 := fun m _ mo => by
  refine ⟨by show n ≤ _; rw [rngL_len]; exact Nat.le_refl _, fun i d hd => ?_⟩
  obtain ⟨h1, rfl⟩ := rngL_at n lo hd
  refine ⟨h1, fun y H' q => ?_⟩
  obtain ⟨rfl, rfl⟩ := q
  exact ⟨m, rfl, Grow.refl mo, .int _⟩
theorem goes_rngC {lo c : Int} {n : Nat} : Goes (Itc lo c n) (rngC lo c n) m0 := fun m _ mo => by
  refine ⟨by show n ≤ _; rw [rngC_len]; exact Nat.le_refl _, fun i d hd => ?_⟩
  obtain ⟨h1, rfl⟩ := rngC_at c n lo hd
  refine ⟨h1, fun y H' q => ?_⟩
  obtain ⟨rfl, rfl⟩ := q
  exact ⟨m, rfl, Grow.refl mo, .int _⟩
theorem goes_rev {ds : List D} {a : Addr} (r : Rep m0 (.lst ds) (.ref a)) : Goes (Itv K a ds.length) ds.reverse m0 := fun m x mo => by
  cases Rep.mono x _ _ r with
  | lst h f rs =>
    rename_i vs
    refine ⟨by show ds.length ≤ _; rw [List.length_reverse]; exact Nat.le_refl _, fun i d hd => ?_⟩
    have hi : i < ds.length := by have := (List.getElem?_eq_some_iff.mp hd).1; rwa [List.length_reverse] at this
    rw [List.getElem?_reverse hi] at hd
    obtain ⟨v, hv, rv⟩ := rs.get hd
    refine ⟨⟨hi, vs, v, SqL.of h, hv⟩, fun y H' q => ?_⟩
    obtain ⟨rfl, q⟩ := q
    exact ⟨m, rfl, Grow.refl mo, reps_at rs hd (q vs (SqL.of h))⟩
theorem goes_revT {ds : List D} {a : Addr} (r : Rep m0 (.tup ds) (.ref a)) : Goes (RT.ItvT K a ds.length) ds.reverse m0 := fun m x mo => by
  cases Rep.mono x _ _ r with
  | tup h f rs =>
    rename_i vs
    refine ⟨by show ds.length ≤ _; rw [List.length_reverse]; exact Nat.le_refl _, fun i d hd => ?_⟩
    have hi : i < ds.length := by have := (List.getElem?_eq_some_iff.mp hd).1; rwa [List.length_reverse] at this
    rw [List.getElem?_reverse hi] at hd
    obtain ⟨v, hv, rv⟩ := rs.get hd
    refine ⟨⟨hi, vs, v, SqT.of h, hv⟩, fun y H' q => ?_⟩
    obtain ⟨rfl, q⟩ := q
    exact ⟨m, rfl, Grow.refl mo, reps_at rs hd (q vs (SqT.of h))⟩
/-- a source of these data -/
def SrcOf (K : PySem.W.Frag) (S : Src) (ds : List D) (m0 : Mem) : Prop := ∀ m, Ext m0 m → ∃ vs, S.has K m.H vs ∧ Reps m ds vs
theorem src_of {d : D} {ds : List D} {v : V} (h : seqD d = some ds) (r : Rep m0 d v) : ∃ S, v = Src.v S ∧ SrcOf K S ds m0 := by
  cases r with
  | tup h1 f rs =>
    cases h
    rename_i vs a
    refine ⟨.tup a, rfl, fun m x => ?_⟩
    cases Rep.mono x _ _ (Rep.tup h1 f rs) with
    | tup h2 f2 rs2 => exact ⟨_, SqT.of h2, rs2⟩
  | lst h1 f rs =>
    cases h
    rename_i vs a
    refine ⟨.lst a, rfl, fun m x => ?_⟩
    cases Rep.mono x _ _ (Rep.lst h1 f rs) with
    | lst h2 f2 rs2 => exact ⟨_, SqL.of h2, rs2⟩
  | str x =>
    cases h
    refine ⟨.str ⟨x.toArray⟩, rfl, fun m _ => ⟨_, rfl, ?_⟩⟩
    show Reps m (x.map fun c => .str [c]) (x.toArray.toList.map fun c => V.str ⟨#[c]⟩)
    rw [List.toList_toArray]
    induction x with
    | nil => exact .nil
    | cons c x ih => exact .cons (.str [c]) ih
  | _ => cases h
theorem zipL_at : ∀ {xs ys : List D} {i : Nat} {d : D}, (zipL xs ys)[i]? = some d → ∃ x y, xs[i]? = some x ∧ ys[i]? = some y ∧ d = .tup [x, y]
  | [], _, _, _, h => by simp [zipL] at h
  | _ :: _, [], _, _, h => by simp [zipL] at h
  | x :: xs, y :: ys, 0, d, h => by simp [zipL] at h; subst h; exact ⟨x, y, rfl, rfl, rfl⟩
  | x :: xs, y :: ys, i + 1, d, h => by
    obtain ⟨a, b, h1, h2, h3⟩ := zipL_at (i := i) (by simpa [zipL] using h)
    exact ⟨a, b, by simpa using h1, by simpa using h2, h3⟩
theorem zipL_len : ∀ {xs ys : List D}, (zipL xs ys).length = min xs.length ys.length
  | [], _ => by simp [zipL]
  | _ :: _, [] => by simp [zipL]
  | x :: xs, y :: ys => by simp only [zipL, List.length_cons, zipL_len (xs := xs) (ys := ys)]; omega
theorem enuL_at : ∀ {xs : List D} {k i : Nat} {d : D}, (enuL k xs)[i]? = some d → ∃ x, xs[i]? = some x ∧ d = .tup [.int ((k + i : Nat) : Int), x]
  | [], _, _, _, h => by simp [enuL] at h
  | x :: xs, k, 0, d, h => by simp [enuL] at h; subst h; exact ⟨x, rfl, by simp⟩
  | x :: xs, k, i + 1, d, h => by
    obtain ⟨a, h1, h3⟩ := enuL_at (k := k + 1) (i := i) (by simpa [enuL] using h)
    refine ⟨a, by simpa using h1, ?_⟩
    rw [h3]
    have : k + 1 + i = k + (i + 1) := by omega
    rw [this]
theorem enuL_len : ∀ {xs : List D} {k : Nat}, (enuL k xs).length = xs.length
  | [], _ => rfl
  | x :: xs, k => congrArg Nat.succ (enuL_len (xs := xs) (k := k + 1))
theorem pair_new {m : Mem} {T : Addr} {d1 d2 : D} {x y : V} (mo : MOk m) (hT : m.H T = none) (r1 : Rep m d1 x) (r2 : Rep m d2 y) : ∃ m', m'.H = upd m.H T (.tup [x, y]) ∧ Grow m m' ∧ Rep m' (.tup [d1, d2]) (.ref T) :=
  ⟨m.lay T (.tup [x, y]) True, rfl, lay_grow mo hT, new_tup mo hT (.cons r1 (.cons r2 .nil))⟩
theorem goes_zip {S1 S2 : Src} {xs ys : List D} (h1 : SrcOf K S1 xs m0) (h2 : SrcOf K S2 ys m0) : Goes (Jz K S1 S2) (zipL xs ys) m0 := fun m e mo => by
  obtain ⟨vs, a1, r1⟩ := h1 m e
  obtain ⟨us, a2, r2⟩ := h2 m e
  refine ⟨⟨vs, us, a1, a2, by rw [zipL_len, r1.len, r2.len]⟩, fun i d hd => ?_⟩
  obtain ⟨x, y, hx, hy, rfl⟩ := zipL_at hd
  obtain ⟨v, hv, rv⟩ := r1.get hx
  obtain ⟨u, hu, ru⟩ := r2.get hy
  refine ⟨⟨vs, us, v, u, a1, a2, hv, hu⟩, fun z H' q => ?_⟩
  obtain ⟨T, v', u', rfl, hT, rfl, q1, q2⟩ := q
  exact pair_new mo hT (reps_at r1 hx (q1 vs a1)) (reps_at r2 hy (q2 us a2))
theorem goes_enum {S : Src} {xs : List D} (h1 : SrcOf K S xs m0) : Goes (Je K S) (enuL 0 xs) m0 := fun m e mo => by
  obtain ⟨vs, a1, r1⟩ := h1 m e
  refine ⟨⟨vs, a1, by rw [enuL_len, r1.len]⟩, fun i d hd => ?_⟩
  obtain ⟨x, hx, rfl⟩ := enuL_at hd
  obtain ⟨v, hv, rv⟩ := r1.get hx
  refine ⟨⟨vs, v, a1, hv⟩, fun z H' q => ?_⟩
  obtain ⟨T, v', rfl, hT, rfl, q1⟩ := q
  rw [Nat.zero_add]
  exact pair_new mo hT (.int _) (reps_at r1 hx (q1 vs a1))
end
end Z

set_option Elab.async false
set_option linter.all false
set_option maxRecDepth 100000
set_option maxHeartbeats 4000000
namespace Z
open PySem PySem.Spec PyProof.Rows L2

/-! ### loops' heads as readings -/
def okI (cl : String → Addr) (W : WX) (G : Addr → Prop) (σ : L2.St) (T : List EV) (m : Mem) (Q : L2.It → Hp → Prop) : R (List D) → Prop
  | .ok ds s' => ∀ J m', Ext m m' → Prot G m m' → Good cl m' G σ s' T → Z.Goes J ds m' → Q J m'.H
  | .exc c s' => excP cl W G σ T m c s'
  | .stk => False
def tI (cl : String → Addr) (W : WX) (ev : St → R (List D)) : TI := fun σ H Q => ∃ (s : St) (m : Mem) (G : Addr → Prop) (T : List EV), m.H = H ∧ Good cl m G σ s T ∧ okI cl W G σ T m Q (ev s)
section
variable {X : Cx} {cl : String → Addr} {W : WX} {G : Addr → Prop} {σ : L2.St} {T : List EV} {m : Mem} {Q : L2.It → Hp → Prop}
theorem want_I : Want cl W G σ T m (okI cl W G σ T m Q) := ⟨fun _ _ h => h, fun h => h⟩
theorem PI.imp {tg e : Expr} {t t' : TI} (h : L2.PI X tg e t) (i : ∀ σ H Q, t' σ H Q → t σ H Q) : L2.PI X tg e t' := ⟨fun pins s σ H Q I q => h.run pins s σ H Q I (i σ H Q q)⟩
variable {tg e : Expr} {es : List Expr} {ea : Ev} {el : EvL}
theorem fi_seq (he : L2.PE X e (tM cl W ea)) : L2.PI X tg e (tI cl W (itSeq ea seqD)) := PI.imp (pi_any he) fun σ H Q h => by
  obtain ⟨s, m, G, T, rfl, g, q⟩ := h
  refine tM_then want_I g (List.Sublist.refl _) (Ext.refl _) Prot.refl q fun r1 s1 x m1 x1 p1 g1 q1 => ?_
  obtain ⟨ds, hds, q2⟩ := want_opt want_I q1
  obtain ⟨d, hd, hs⟩ := Option.bind_eq_some_iff.mp hds
  obtain ⟨m2, eH, ei, x2, g2⟩ := Good.frz (A := T) (B := []) g1 hd
  have r := g2.rep (d := d) (v := x) (by simp)
  rw [← eH]
  have fin : ∀ J, Z.Goes J ds m2 → Q J m2.H := fun J gs => q2 J m2 (x1.trans x2) (p1.trans fun b _ => by rw [eH]) (g2.sub (List.sublist_append_left _ _)) gs
  cases r with
  | tup h f rs => cases hs; exact .inr (.inl ⟨_, _, rfl, SqT.of h, fin _ (goes_tup (.tup h f rs))⟩)
  | lst h f rs => cases hs; exact .inl ⟨_, _, rfl, SqL.of h, fin _ (goes_lst (.lst h f rs))⟩
  | str x => cases hs; exact .inr (.inr ⟨_, rfl, fin _ goes_str⟩)
  | _ => cases hs
theorem fi_rev {it : Expr} (h : ∀ te, L2.PE X e te → L2.PI X tg it (RT.iRevA X.K te)) (he : L2.PE X e (tM cl W ea)) : L2.PI X tg it (tI cl W (itSeq ea revS)) := PI.imp (h _ he) fun σ H Q h => by
  obtain ⟨s, m, G, T, rfl, g, q⟩ := h
  refine tM_then want_I g (List.Sublist.refl _) (Ext.refl _) Prot.refl q fun r1 s1 x m1 x1 p1 g1 q1 => ?_
  obtain ⟨ds, hds, q2⟩ := want_opt want_I q1
  obtain ⟨d, hd, hs⟩ := Option.bind_eq_some_iff.mp hds
  obtain ⟨m2, eH, ei, x2, g2⟩ := Good.frz (A := T) (B := []) g1 hd
  have r := g2.rep (d := d) (v := x) (by simp)
  rw [← eH]
  have fin : ∀ J, Z.Goes J ds m2 → Q J m2.H := fun J gs => q2 J m2 (x1.trans x2) (p1.trans fun b _ => by rw [eH]) (g2.sub (List.sublist_append_left _ _)) gs
  cases r with
  | tup h f rs =>
    cases hs
    refine ⟨_, _, rfl, .inr ⟨SqT.of h, ?_⟩⟩
    rw [← rs.len]
    exact fin _ (goes_revT (.tup h f rs))
  | lst h f rs =>
    cases hs
    refine ⟨_, _, rfl, .inl ⟨SqL.of h, ?_⟩⟩
    rw [← rs.len]
    exact fin _ (goes_rev (.lst h f rs))
  | _ => cases hs
/-- a head with arguments, all let go of -/
theorem fi_args {f : List D → Option (List D)} {r : List V → Hp → (L2.It → Hp → Prop) → Prop} {it : Expr} {n : Nat} (hn : Cnt el n) (h : ∀ ta, L2.PA X es ta → L2.PI X tg it (fun σ H R => ta σ H fun vs H1 => r vs H1 R)) (ha : L2.PA X es (tMA cl W el))
    (ho : ∀ (m : Mem) (ds : List D) (vs : List V) (xs : List D) (R : L2.It → Hp → Prop), vs.length = n → Reps m ds vs → f ds = some xs → (∀ J, Z.Goes J xs m → R J m.H) → r vs m.H R) : L2.PI X tg it (tI cl W (itArgs el f)) := PI.imp (h _ ha) fun σ H Q h => by
  obtain ⟨s, m, G, T, rfl, g, q⟩ := h
  refine tMA_len hn want_I g (List.Sublist.refl _) (Ext.refl _) Prot.refl q fun rs s1 ys m1 x1 p1 l1 n1 g1 q1 => ?_
  obtain ⟨ds, hds, q2⟩ := want_opt want_I q1
  obtain ⟨dl, hd, hs⟩ := Option.bind_eq_some_iff.mp hds
  obtain ⟨m2, eH, ei, x2, g2, r2⟩ := Good.frzL g1 l1 hd
  rw [← eH]
  exact ho m2 dl ys ds Q n1 r2 hs fun J gs => q2 J m2 (x1.trans x2) (p1.trans fun b _ => by rw [eH]) (g2.sub (List.sublist_append_left _ _)) gs
theorem zip_ok {K : PySem.W.Frag} (m : Mem) (ds : List D) (vs : List V) (xs : List D) (R : L2.It → Hp → Prop) (_ : vs.length = 2) (r : Reps m ds vs) (h : zipD ds = some xs) (k : ∀ J, Z.Goes J xs m → R J m.H) :
    ∃ S1 S2 xs ys, vs = [Src.v S1, Src.v S2] ∧ S1.has K m.H xs ∧ S2.has K m.H ys ∧ R (Jz K S1 S2) m.H := by
  unfold zipD at h
  split at h
  · obtain ⟨l1, h1, h⟩ := Option.bind_eq_some_iff.mp h
    obtain ⟨l2, h2, rfl⟩ := Option.map_eq_some_iff.mp h
    cases r with
    | cons r1 r =>
      cases r with
      | cons r2 r =>
        cases r
        obtain ⟨S1, rfl, s1⟩ := src_of (K := K) h1 r1
        obtain ⟨S2, rfl, s2⟩ := src_of (K := K) h2 r2
        obtain ⟨v1, a1, _⟩ := s1 m (Ext.refl _)
        obtain ⟨v2, a2, _⟩ := s2 m (Ext.refl _)
        exact ⟨S1, S2, v1, v2, rfl, a1, a2, k _ (goes_zip s1 s2)⟩
  · cases h
theorem enum_ok {K : PySem.W.Frag} (m : Mem) (ds : List D) (vs : List V) (xs : List D) (R : L2.It → Hp → Prop) (_ : vs.length = 1) (r : Reps m ds vs) (h : enuD ds = some xs) (k : ∀ J, Z.Goes J xs m → R J m.H) :
    ∃ S xs, vs = [Src.v S] ∧ S.has K m.H xs ∧ R (Je K S) m.H := by
  unfold enuD at h
  split at h
  · obtain ⟨l1, h1, rfl⟩ := Option.map_eq_some_iff.mp h
    cases r with
    | cons r1 r =>
      cases r
      obtain ⟨S1, rfl, s1⟩ := src_of (K := K) h1 r1
      obtain ⟨v1, a1, _⟩ := s1 m (Ext.refl _)
      exact ⟨S1, v1, rfl, a1, k _ (goes_enum s1)⟩
  · cases h
theorem inR_ok {i : Int} (h : inR i = true) : -(2 ^ 62) ≤ i ∧ i < 2 ^ 62 := by
  unfold inR at h
  have := blt_iff.mp h
  omega
/-- range of one, two or three bounds, by how many are written -/
def rRng : Nat → List V → Hp → (L2.It → Hp → Prop) → Prop
  | 1, vs, H, R => ∃ j : Int, vs = [.int j] ∧ -(2 ^ 62) ≤ j ∧ j < 2 ^ 62 ∧ R (Itr 0 j.toNat) H
  | 2, vs, H, R => ∃ i j : Int, vs = [.int i, .int j] ∧ (-(2 ^ 62) ≤ i ∧ i < 2 ^ 62 ∧ -(2 ^ 62) ≤ j ∧ j < 2 ^ 62) ∧ R (Itr i (j - i).toNat) H
  | 3, vs, H, R => ∃ (i j c : Int) (k : Nat), vs = [.int i, .int j, .int c] ∧ RgC i j c k ∧ R (Itc i c k) H
  | _, _, _, _ => False
end
/-! ### targets of names -/
def gNames : List Nat → TGs
  | [] => gNil
  | i :: is => gCons (gName i) (gNames is)
def gTgt (K : PySem.W.Frag) (tg : List Nat) : TG :=
  match tg with
  | [i] => gName i
  | is => gTup K is.length (gNames is)
section
variable {cl : String → Addr} {m : Mem} {G : Addr → Prop} {T : List EV}
theorem wipe_set {σ : L2.St} {v : Option V} {i : Nat} : ∀ {vs : List Nat}, i ∈ vs → wipe (σ.set i v) vs = wipe σ vs
  | [], h => by cases h
  | k :: vs, h => by
    unfold wipe
    by_cases hk : i ∈ vs
    · rw [wipe_set hk]
    · have e : i = k := by
        rcases List.mem_cons.mp h with h | h
        · exact h
        · exact absurd h hk
      subst e
      have : ∀ (vs : List Nat) (τ : L2.St), i ∉ vs → (wipe (τ.set i v) vs).set i none = (wipe τ vs).set i none := by
        intro vs
        induction vs with
        | nil => intro τ _; show (τ.set i v).set i none = τ.set i none; rw [List.set_set]
        | cons k vs ih =>
          intro τ hn
          simp only [List.mem_cons, not_or] at hn
          show ((wipe (τ.set i v) vs).set k none).set i none = ((wipe τ vs).set k none).set i none
          rw [List.set_comm _ _ (Ne.symm hn.1), ih τ hn.2, List.set_comm _ _ hn.1]
      exact this vs σ hk
theorem putL_go {K : PySem.W.Frag} : ∀ {is : List Nat} {ds : List D} {vs : List V} {σ : L2.St} {s s1 : St}, putL is ds s = some s1 → Good cl m G σ s T → (∀ p ∈ T, NA p.1) → Reps m ds vs → (∀ i ∈ is, i < s.env.length) →
    ∃ σ1, Good cl m G σ1 s1 T ∧ ds.length = is.length ∧ (∀ Q, Q σ1 m.H → gNames is vs σ m.H Q) ∧ (∀ ws, (∀ i ∈ is, i ∈ ws) → wipe σ1 ws = wipe σ ws) ∧ s1.env.length = s.env.length
  | [], [], _, σ, s, s1, h, g, _, .nil, _ => by cases h; exact ⟨σ, g, rfl, fun Q q => ⟨rfl, q⟩, fun _ _ => rfl, rfl⟩
  | [], _ :: _, _, _, _, _, h, _, _, _, _ => by cases h
  | _ :: _, [], _, _, _, _, h, _, _, _, _ => by cases h
  | i :: is, d :: ds, _, σ, s, s1, h, g, hT, .cons r rs, hi => by
    rename_i v vs
    have g1 : Good cl m G σ s ((.val d, some v) :: T) := by
      have := g.new (Grow.refl g.mo) (e := .val d) (v := v) r
      refine ⟨this.mo, this.sr.perm ?_, this.ln, this.st, this.gd, this.na⟩
      exact List.Perm.append_left _ (List.perm_append_singleton _ _).symm
    have g2 := g1.store (i := i) na_val hT (hi i List.mem_cons_self)
    obtain ⟨σ1, g3, l, q3, w3, e3⟩ := putL_go (K := K) (is := is) (ds := ds) h g2 hT rs (fun j hj => by show j < (s.env.set i (.val d)).length; rw [List.length_set]; exact hi j (List.mem_cons_of_mem _ hj))
    refine ⟨σ1, g3, congrArg Nat.succ l, fun Q q => ⟨v, vs, rfl, q3 Q q⟩, fun ws hw => ?_, ?_⟩
    · rw [w3 ws fun j hj => hw j (List.mem_cons_of_mem _ hj)]
      exact wipe_set (hw i List.mem_cons_self)
    · rw [e3]; show (s.env.set i (.val d)).length = _; rw [List.length_set]
theorem bind_go {K : PySem.W.Frag} {tg : List Nat} {d : D} {x : V} {σ : L2.St} {s s1 : St} (h : bindT tg d s = some s1) (g : Good cl m G σ s T) (hT : ∀ p ∈ T, NA p.1) (r : Rep m d x) (hi : ∀ i ∈ tg, i < s.env.length) :
    ∃ σ1, Good cl m G σ1 s1 T ∧ (∀ Q, Q σ1 m.H → gTgt K tg x σ m.H Q) ∧ (∀ ws, (∀ i ∈ tg, i ∈ ws) → wipe σ1 ws = wipe σ ws) ∧ s1.env.length = s.env.length := by
  have many : ∀ {is : List Nat}, bindTup is d s = some s1 → (∀ i ∈ is, i < s.env.length) → ∃ σ1, Good cl m G σ1 s1 T ∧ (∀ Q, Q σ1 m.H → gTup K is.length (gNames is) x σ m.H Q) ∧ (∀ ws, (∀ i ∈ is, i ∈ ws) → wipe σ1 ws = wipe σ ws) ∧ s1.env.length = s.env.length := fun {is} h hi => by
    cases r with
    | tup h1 f rs =>
      obtain ⟨σ1, g1, l, q1, w1, e1⟩ := putL_go (K := K) h g hT rs hi
      exact ⟨σ1, g1, fun Q q => ⟨_, _, rfl, SqT.of h1, by rw [← rs.len]; exact l, q1 Q q⟩, w1, e1⟩
    | _ => cases h
  match tg, h, hi with
  | [], h, hi => exact many h hi
  | [i], h, hi =>
    cases h
    have g1 : Good cl m G σ s ((.val d, some x) :: T) := by
      have := g.new (Grow.refl g.mo) (e := .val d) (v := x) r
      refine ⟨this.mo, this.sr.perm ?_, this.ln, this.st, this.gd, this.na⟩
      exact List.Perm.append_left _ (List.perm_append_singleton _ _).symm
    exact ⟨_, g1.store (i := i) na_val hT (hi i List.mem_cons_self), fun Q q => q, fun ws hw => wipe_set (hw i List.mem_cons_self), by show (s.env.set i (.val d)).length = _; rw [List.length_set]⟩
  | i :: j :: is, h, hi => exact many h hi
/-! ### loops -/
theorem NoAl.unset {env : List Ent} (h : NoAl env) : ∀ (is : List Nat), NoAl (unset env is)
  | [] => h
  | i :: is => (h.unset is).set fun _ z => nomatch z
theorem unset_len {env : List Ent} : ∀ (is : List Nat), (unset env is).length = env.length
  | [] => rfl
  | i :: is => by show ((Z.unset env is).set i .un).length = _; rw [List.length_set]; exact unset_len is
theorem SR.forget {σ : L2.St} {A B : List EV} {e : Ent} {v : Option V} (h : SR m G σ (A ++ (e, v) :: B)) : SR m G σ (A ++ (.un, v) :: B) := by
  have h2 : SR m G σ (A ++ B) := h.sub (List.Sublist.append (List.Sublist.refl _) (List.sublist_cons_self _ _))
  have eo : owns (A ++ (Ent.un, v) :: B) = owns (A ++ B) := by rw [owns_append, owns_append]; rfl
  refine ⟨fun p hp => ?_, by rw [eo]; exact h2.nd, fun a ha => h2.fr a (by rw [← eo]; exact ha)⟩
  rcases List.mem_append.mp hp with hp | hp
  · exact h2.ok p (List.mem_append_left _ hp)
  · rcases List.mem_cons.mp hp with hp | hp
    · subst hp; trivial
    · exact h2.ok p (List.mem_append_right _ hp)
theorem Good.forget1 {σ : L2.St} {s : St} {i : Nat} (g : Good cl m G σ s T) : Good cl m G σ { s with env := s.env.set i .un } T := by
  by_cases hi : i < s.env.length
  · have hs : i < σ.length := by have := g.ln; omega
    obtain ⟨A, B, e1, e2⟩ := zip_split (List.getElem?_eq_getElem hi) (List.getElem?_eq_getElem hs)
    refine ⟨g.mo, ?_, by show (s.env.set i .un).length = _; rw [List.length_set]; exact g.ln, g.st, g.gd, g.na.set fun _ z => nomatch z⟩
    have sr := g.sr
    rw [e1, List.append_assoc, List.cons_append] at sr
    show SR m G σ ((s.env.set i .un).zip σ ++ T)
    rw [e2, List.append_assoc, List.cons_append]
    exact sr.forget
  · have : s.env.set i .un = s.env := List.set_eq_of_length_le (Nat.le_of_not_lt hi)
    rw [this]
    exact g
theorem Good.mask {σ : L2.St} {s : St} (g : Good cl m G σ s T) : ∀ (is : List Nat), Good cl m G σ (Z.mask is s) T
  | [] => g
  | i :: is => (g.mask is).forget1
end
section
variable {X : Cx} {cl : String → Addr} {W : WX} {G : Addr → Prop} {m : Mem} {E : Ends} {σ : L2.St}
variable {tg c iter : Expr} {body : List Stmt} {st : Stmt} {sb : EvS} {cc : EvB} {it : St → R (List D)} {tgs msk : List Nat}
theorem S_thenI {T : List EV} {m1 : Mem} {s : St} {f : List D → St → Fl} {Q1 : L2.It → Hp → Prop} (h : Good cl m1 G σ s T) (x : Ext m m1) (p : Prot G m m1) (q : okS cl W G m E ((it s).fl f))
    (k : ∀ ds s2 J m2, Ext m m2 → Prot G m m2 → Good cl m2 G σ s2 T → Z.Goes J ds m2 → okS cl W G m E (f ds s2) → Q1 J m2.H) : tI cl W it σ m1.H Q1 := by
  refine ⟨s, m1, G, T, rfl, h, ?_⟩
  cases e : it s with
  | ok ds s2 =>
    rw [e] at q
    exact fun J m2 x2 p2 g2 gs => k ds s2 J m2 (x.trans x2) (p.trans p2) g2 gs q
  | exc c s2 =>
    rw [e] at q
    exact fun m2 x2 p2 g2 => q σ m2 (x.trans x2) (p.trans p2) (g2.sub (List.nil_sublist _))
  | stk => rw [e] at q; exact q
/-- what a turn's body is to reach -/
theorem loop_ends {x : Fl} {again : St → Fl} {m0 m : Mem} (x0 : Ext m0 m) (p0 : Prot G m0 m) (q : okS cl W G m0 E (match (generalizing := false) x with
    | .nx s2 => again s2
    | .ct s2 => again s2
    | .bk s2 => .nx s2
    | .rt d S => .rt d S
    | .exc c s2 => .exc c s2
    | .stk => .stk)) : okS cl W G m { E with
      nx := fun σ' H' => ∃ s2 m2, m2.H = H' ∧ Ext m0 m2 ∧ Prot G m0 m2 ∧ Good cl m2 G σ' s2 [] ∧ okS cl W G m0 E (again s2),
      ct := fun σ' H' => ∃ s2 m2, m2.H = H' ∧ Ext m0 m2 ∧ Prot G m0 m2 ∧ Good cl m2 G σ' s2 [] ∧ okS cl W G m0 E (again s2), bk := E.nx } x := by
  cases x with
  | nx s2 => exact fun σ' m' x' p' g' => ⟨s2, m', rfl, x0.trans x', p0.trans p', g', q⟩
  | ct s2 => exact fun σ' m' x' p' g' => ⟨s2, m', rfl, x0.trans x', p0.trans p', g', q⟩
  | bk s2 => exact fun σ' m' x' p' g' => q σ' m' (x0.trans x') (p0.trans p') g'
  | rt d S => exact fun v m' x' p' => q v m' (x0.trans x') (p0.trans p')
  | exc c s2 => exact fun σ' m' x' p' g' => q σ' m' (x0.trans x') (p0.trans p') g'
  | stk => exact q
theorem fs_whl {W0 : Nat} (h : ∀ tc tb, L2.PT X c tc → L2.PSs X body tb → L2.PS X st (tWhile tc tb)) (hc : L2.PT X c (tMB cl W cc)) (hb : L2.PSs X body (tMS cl W sb)) : L2.PS X st (tMS cl W (whlF cc sb msk W0)) := PS.imp (h _ _ hc hb) fun D σ H q => by
  obtain ⟨s0, m0, G, rfl, g0, q0⟩ := q
  refine ⟨fun k σ H => ∃ s m, m.H = H ∧ Ext m0 m ∧ Prot G m0 m ∧ Good cl m G σ s [] ∧ okS cl W G m0 D (whlF cc sb msk k s), ⟨W0, s0, m0, rfl, Ext.refl _, Prot.refl, g0, q0⟩, fun k σ H hw => ?_⟩
  obtain ⟨s, m, rfl, x, p, g, q⟩ := hw
  cases k with
  | zero => exact q.elim
  | succ k =>
    unfold whlF at q
    refine ⟨s, m, G, [], rfl, g, ?_⟩
    cases e : cc s with
    | ok b s1 =>
      rw [e] at q
      intro m' x' p' g'
      cases b with
      | false => exact ite_ff (q σ m' (x.trans x') (p.trans p') g')
      | true =>
        refine ite_tt ⟨_, ?_, s1, m', G, rfl, g', loop_ends (again := fun s2 => whlF cc sb msk k (mask msk s2)) (x.trans x') (p.trans p') ?_⟩
        · rintro σ' H' ⟨s2, m2, eH, x2, p2, g2, q2⟩
          exact ⟨k, Nat.lt_succ_self k, mask msk s2, m2, eH, x2, p2, g2.mask msk, q2⟩
        · dsimp only at q
          revert q
          cases sb s1 <;> exact id
    | exc c s1 =>
      rw [e] at q
      exact fun m' x' p' g' => q σ m' (x.trans x') (p.trans p') g'
    | stk => rw [e] at q; exact q
theorem okS.mono {E E' : Ends} {x : Fl} (hn : ∀ σ H, E.nx σ H → E'.nx σ H) (hr : ∀ v H, E.rt v H → E'.rt v H) (hb : ∀ σ H, E.bk σ H → E'.bk σ H) (hc : ∀ σ H, E.ct σ H → E'.ct σ H) (q : okS cl W G m E x) : okS cl W G m E' x := by
  cases x with
  | nx s2 => exact fun σ' m' x' p' g' => hn _ _ (q σ' m' x' p' g')
  | ct s2 => exact fun σ' m' x' p' g' => hc _ _ (q σ' m' x' p' g')
  | bk s2 => exact fun σ' m' x' p' g' => hb _ _ (q σ' m' x' p' g')
  | rt d S => exact fun v m' x' p' a b c d => hr _ _ (q v m' x' p' a b c d)
  | exc c s2 => exact q
  | stk => exact q
/-- behind a statement the slots are as many as ever -/
theorem pss_len {t : TS} (h : L2.PSs X body t) : L2.PSs X body (fun D σ H => t { D with nx := fun σ' H' => σ'.length = X.N.length → D.nx σ' H', ct := fun σ' H' => σ'.length = X.N.length → D.ct σ' H', bk := fun σ' H' => σ'.length = X.N.length → D.bk σ' H' } σ H) :=
  ⟨fun pins s σ H D I q => thn (h.run pins s σ H _ I q) fun f s1 z => by
    cases f with
    | next => obtain ⟨σ', H', I', q⟩ := z; exact ⟨σ', H', I', q I'.len⟩
    | brk => obtain ⟨σ', H', I', q⟩ := z; exact ⟨σ', H', I', q I'.len⟩
    | cont => obtain ⟨σ', H', I', q⟩ := z; exact ⟨σ', H', I', q I'.len⟩
    | ret u => exact z⟩
theorem fs_for (ht : ∀ i ∈ tgs, i < X.N.length) (h : ∀ wi g tb, L2.PI X tg iter wi → L2.PG X tg g → L2.PSs X body tb → L2.PS X st (tFor wi g tb)) (hi : L2.PI X tg iter (tI cl W it)) (hg : L2.PG X tg (gTgt X.K tgs)) (hb : L2.PSs X body (tMS cl W sb)) :
    L2.PS X st (tMS cl W (forS tgs msk it sb)) := by
  have h2 := h _ _ _ hi hg (pss_len hb)
  refine ⟨fun pins s σ H D I q => h2.run pins s σ H D I ?_⟩
  obtain ⟨s0, m0, G, rfl, g0, q0⟩ := q
  have hl : σ.length = X.N.length := I.len
  refine S_thenI (T := []) g0 (Ext.refl _) Prot.refl q0 fun ds s1 J m1 x1 p1 g1 gs q1 => ?_
  refine ⟨fun i k σ' H => ∃ s m, m.H = H ∧ Ext m1 m ∧ Prot G m1 m ∧ Good cl m G σ' s [] ∧ σ'.length = X.N.length ∧ i ≤ ds.length ∧ k = ds.length - i ∧ okS cl W G m0 D (forL tgs msk sb (ds.drop i) s), ⟨ds.length, s1, m1, rfl, Ext.refl _, Prot.refl, g1, hl, Nat.zero_le _, rfl, q1⟩, fun i k σ' H hw => ?_⟩
  obtain ⟨s, m, rfl, x, p, g, hn, hle, rfl, q⟩ := hw
  obtain ⟨js, jg⟩ := gs m x g.mo
  by_cases hlt : i < ds.length
  · have hd : ds[i]? = some ds[i] := List.getElem?_eq_getElem hlt
    have hdr : ds.drop i = ds[i] :: ds.drop (i + 1) := List.drop_eq_getElem_cons hlt
    rw [hdr] at q
    unfold forL at q
    obtain ⟨go, yl⟩ := jg i _ hd
    cases hbt : bindT tgs ds[i] s with
    | none => rw [hbt] at q; exact q.elim
    | some s2 =>
      rw [hbt] at q
      refine .inr ⟨go, fun σ' H' => ∃ s2 m2, m2.H = H' ∧ Ext m1 m2 ∧ Prot G m1 m2 ∧ Good cl m2 G σ' s2 [] ∧ σ'.length = X.N.length ∧ okS cl W G m0 D (forL tgs msk sb (ds.drop (i + 1)) (mask msk s2)), ?_, fun v H' y => ?_⟩
      · rintro σ2 H2 ⟨s3, m3, eH, x3, p3, g3, n3, q3⟩
        exact ⟨ds.length - (i + 1), by omega, mask msk s3, m3, eH, x3, p3, g3.mask msk, n3, hlt, rfl, q3⟩
      · obtain ⟨m', rfl, gr, rd⟩ := yl v H' y
        have g' := g.grow gr
        have x' : Ext m1 m' := x.trans (gr.ext g.mo)
        have p' : Prot G m1 m' := p.trans (g.prot gr)
        have hne : s.env.length = X.N.length := g.ln.trans hn
        obtain ⟨σ2, g2, qq, _, e2⟩ := bind_go (K := X.K) hbt g' (fun p hp => by cases hp) rd (fun j hj => by rw [hne]; exact ht j hj)
        refine qq _ ⟨s2, m', G, rfl, g2, ?_⟩
        have q3 := okS.on q (x1.trans x') (p1.trans p')
        have again : ∀ σ3 s3 m3, Ext m' m3 → Prot G m' m3 → Good cl m3 G σ3 s3 [] → okS cl W G m0 D (forL tgs msk sb (ds.drop (i + 1)) (mask msk s3)) → σ3.length = X.N.length →
            ∃ s2 m2, m2.H = m3.H ∧ Ext m1 m2 ∧ Prot G m1 m2 ∧ Good cl m2 G σ3 s2 [] ∧ σ3.length = X.N.length ∧ okS cl W G m0 D (forL tgs msk sb (ds.drop (i + 1)) (mask msk s2)) :=
          fun σ3 s3 m3 x3 p3 g3 q4 l3 => ⟨s3, m3, rfl, x'.trans x3, p'.trans p3, g3, l3, q4⟩
        dsimp only at q
        cases hx : sb s2 with
        | nx s3 => rw [hx] at q; exact fun σ3 m3 x3 p3 g3 l3 => again σ3 s3 m3 x3 p3 g3 q l3
        | ct s3 => rw [hx] at q; exact fun σ3 m3 x3 p3 g3 l3 => again σ3 s3 m3 x3 p3 g3 q l3
        | bk s3 => rw [hx] at q; exact fun σ3 m3 x3 p3 g3 _ => q σ3 m3 ((x1.trans x').trans x3) ((p1.trans p').trans p3) g3
        | rt d S => rw [hx] at q; exact fun v m3 x3 p3 => q v m3 ((x1.trans x').trans x3) ((p1.trans p').trans p3)
        | exc c s3 => rw [hx] at q; exact fun σ3 m3 x3 p3 g3 => q σ3 m3 ((x1.trans x').trans x3) ((p1.trans p').trans p3) g3
        | stk => rw [hx] at q; exact q
  · have e : i = ds.length := by omega
    subst e
    rw [List.drop_length] at q
    exact .inl ⟨js, q σ' m (x1.trans x) (p1.trans p) g⟩
end
end Z

set_option Elab.async false
set_option linter.all false
set_option maxRecDepth 100000
set_option maxHeartbeats 4000000
namespace Z
open PySem PySem.Spec PyProof.Rows L2

/-! ### a block's own slots -/
def isAl : Ent → Bool
  | .al _ => true
  | _ => false
theorem na_iff {e : Ent} : isAl e = false → NA e := fun h i z => by subst z; cases h
def noal (T : List EV) : List EV := T.filter fun p => !isAl p.1
theorem noal_na {T : List EV} : ∀ p ∈ noal T, NA p.1 := fun p hp => by
  have := (List.mem_filter.mp hp).2
  exact na_iff (by simpa using this)
theorem noal_owns : ∀ (T : List EV), owns (noal T) = owns T
  | [] => rfl
  | (e, v) :: T => by
    have ih := noal_owns T
    cases e with
    | al i => exact ih
    | un => exact ih
    | val d => exact ih
    | own d =>
      show ownA (.own d, v) ++ owns (noal T) = ownA (.own d, v) ++ owns T
      rw [ih]
section
variable {cl : String → Addr} {m m2 : Mem} {G : Addr → Prop} {σ : L2.St} {s s2 : St} {T : List EV}
theorem Good.perm {T' : List EV} (g : Good cl m G σ s T) (p : T'.Perm T) : Good cl m G σ s T' := ⟨g.mo, g.sr.perm (List.Perm.append_left _ p), g.ln, g.st, g.gd, g.na⟩
theorem Good.unfilter {X : List EV} (g : Good cl m G σ s T) (h : Good cl m2 G σ s2 (noal T ++ X)) : Good cl m2 G σ s2 (T ++ X) := by
  refine ⟨h.mo, ⟨fun p hp => ?_, ?_, fun a ha => h.sr.fr a ?_⟩, h.ln, h.st, h.gd, h.na⟩
  · rcases List.mem_append.mp hp with hp | hp
    · exact h.sr.ok p (List.mem_append_left _ hp)
    · rcases List.mem_append.mp hp with hp | hp
      · by_cases hal : isAl p.1 = true
        · have o := g.sr.ok p (List.mem_append_right _ hp)
          obtain ⟨e, v⟩ := p
          cases e with
          | al i => exact o
          | _ => cases hal
        · exact h.sr.ok p (List.mem_append_right _ (List.mem_append_left _ (List.mem_filter.mpr ⟨hp, by simp [hal]⟩)))
      · exact h.sr.ok p (List.mem_append_right _ (List.mem_append_right _ hp))
  · have nd := h.sr.nd
    rw [owns_append, owns_append, noal_owns] at nd
    rw [owns_append, owns_append]
    exact nd
  · rw [owns_append, owns_append, noal_owns]
    rw [owns_append, owns_append] at ha
    exact ha
theorem SR.un {es : List EV} {v : Option V} (h : SR m G σ es) : SR m G σ ((.un, v) :: es) :=
  ⟨fun p hp => (List.mem_cons.mp hp).elim (fun e => by subst e; trivial) (h.ok p), h.nd, h.fr⟩
theorem Good.step_in {i : Nat} {e : Ent} {v : Option V} (g : Good cl m G σ s T) (hT : ∀ p ∈ T, NA p.1) (he : s.env[i]? = some e) (hv : σ[i]? = some v) : Good cl m G (σ.set i none) { s with env := s.env.set i .un } (T ++ [(e, v)]) := by
  obtain ⟨A, B, e1, e2⟩ := zip_split2 he hv
  have nn : ∀ p ∈ A ++ (e, v) :: B, NA p.1 := by rw [← e1]; exact g.na.zip
  refine ⟨g.mo, ?_, ?_, g.st, g.gd, g.na.set fun _ z => nomatch z⟩
  · show SR m G _ ((s.env.set i .un).zip (σ.set i none) ++ (T ++ [(e, v)]))
    rw [e2]
    have sr := g.sr
    rw [e1] at sr
    have pm : (A ++ (Ent.un, (none : Option V)) :: B ++ (T ++ [(e, v)])).Perm ((.un, none) :: (A ++ (e, v) :: B ++ T)) := by
      rw [List.append_assoc, List.cons_append]
      refine List.perm_middle.trans (List.Perm.cons _ ?_)
      rw [List.append_assoc, List.cons_append]
      refine List.Perm.append_left A ?_
      rw [← List.append_assoc]
      exact List.perm_append_singleton (e, v) (B ++ T)
    refine (SR.perm (SR.un sr) pm).chg fun p hp => ?_
    rcases List.mem_append.mp hp with hp | hp
    · rcases List.mem_append.mp hp with hp | hp
      · exact nn p (List.mem_append_left _ hp)
      · rcases List.mem_cons.mp hp with hp | hp
        · subst hp; exact fun _ z => nomatch z
        · exact nn p (List.mem_append_right _ (List.mem_cons_of_mem _ hp))
    · rcases List.mem_append.mp hp with hp | hp
      · exact hT p hp
      · simp only [List.mem_singleton] at hp
        subst hp
        exact nn (e, v) (List.mem_append_right _ List.mem_cons_self)
  · show (s.env.set i .un).length = (σ.set i none).length
    rw [List.length_set, List.length_set]; exact g.ln
/-- an entry back into its slot -/
theorem Good.step_out {i : Nat} {e : Ent} {v : Option V} (g : Good cl m G σ s ((e, v) :: T)) (hr : NA e) (hT : ∀ p ∈ T, NA p.1) (hi : i < s.env.length) : Good cl m G (σ.set i v) { s with env := s.env.set i e } T := by
  have hs : i < σ.length := by have := g.ln; omega
  obtain ⟨A, B, e1, e2⟩ := zip_split2 (List.getElem?_eq_getElem hi) (List.getElem?_eq_getElem hs)
  have nn : ∀ p ∈ A ++ (s.env[i], σ[i]) :: B, NA p.1 := by rw [← e1]; exact g.na.zip
  refine ⟨g.mo, ?_, ?_, g.st, g.gd, g.na.set hr⟩
  · show SR m G _ ((s.env.set i e).zip (σ.set i v) ++ T)
    rw [e2]
    have sr := g.sr
    rw [e1] at sr
    have pm : ((s.env[i], σ[i]) :: (A ++ (e, v) :: (B ++ T))).Perm (A ++ (s.env[i], σ[i]) :: B ++ (e, v) :: T) := by
      rw [List.append_assoc, List.cons_append]
      refine (List.perm_middle (l₁ := A)).symm.trans (List.Perm.append_left A (List.Perm.cons _ ?_))
      exact (List.perm_middle (l₁ := B)).symm
    have sr2 := (sr.perm pm).sub (List.sublist_cons_self _ _)
    rw [List.append_assoc, List.cons_append]
    refine sr2.chg fun p hp => ?_
    rcases List.mem_append.mp hp with hp | hp
    · exact nn p (List.mem_append_left _ hp)
    · rcases List.mem_cons.mp hp with hp | hp
      · subst hp; exact hr
      · rcases List.mem_append.mp hp with hp | hp
        · exact nn p (List.mem_append_right _ (List.mem_cons_of_mem _ hp))
        · exact hT p hp
  · show (s.env.set i e).length = (σ.set i v).length
    rw [List.length_set, List.length_set]; exact g.ln
def kept (env : List Ent) (σ : L2.St) : List Nat → List EV
  | [] => []
  | i :: is => kept env σ is ++ [(env.getD i .un, (σ[i]?).join)]
theorem unset_out {env : List Ent} {i : Nat} : ∀ {is : List Nat}, i ∉ is → (unset env is)[i]? = env[i]?
  | [], _ => rfl
  | k :: is, h => by
    simp only [List.mem_cons, not_or] at h
    show ((Z.unset env is).set k .un)[i]? = _
    rw [List.getElem?_set_ne (Ne.symm h.1)]
    exact unset_out h.2
theorem Good.block_in (g : Good cl m G σ s T) (hT : ∀ p ∈ T, NA p.1) : ∀ {own : List Nat}, own.Nodup → (∀ i ∈ own, i < s.env.length) → Good cl m G (wipe σ own) { s with env := unset s.env own } (T ++ kept s.env σ own) ∧ ∀ p ∈ T ++ kept s.env σ own, NA p.1
  | [], _, _ => ⟨by simpa [kept, wipe, unset] using g, by simpa [kept] using hT⟩
  | i :: is, nd, hi => by
    obtain ⟨n1, n2⟩ := List.nodup_cons.mp nd
    obtain ⟨g1, h1⟩ := g.block_in hT n2 fun j hj => hi j (List.mem_cons_of_mem _ hj)
    have hlt := hi i List.mem_cons_self
    have hs : i < σ.length := by have := g.ln; omega
    have he : (unset s.env is)[i]? = some (s.env.getD i .un) := by
      rw [unset_out n1, List.getD_eq_getElem?_getD, List.getElem?_eq_getElem hlt]; rfl
    have hv : (wipe σ is)[i]? = some ((σ[i]?).join) := by
      rw [wipe_out n1, List.getElem?_eq_getElem hs]; rfl
    have g2 := g1.step_in h1 he hv
    refine ⟨by rw [List.append_assoc] at g2; exact g2, fun p hp => ?_⟩
    rcases List.mem_append.mp hp with hp | hp
    · exact hT p hp
    · rcases List.mem_append.mp (show p ∈ kept s.env σ is ++ [(s.env.getD i .un, (σ[i]?).join)] from hp) with hp | hp
      · exact h1 p (List.mem_append_right _ hp)
      · simp only [List.mem_singleton] at hp
        subst hp
        intro k z
        have : s.env[i]? = some (.al k) := by
          rw [← unset_out n1, he]
          exact congrArg some z
        exact g.na k (List.mem_of_getElem? this)
theorem back_set {env0 env : List Ent} {i : Nat} {e : Ent} : ∀ {is : List Nat}, i ∉ is → back env0 (env.set i e) is = (back env0 env is).set i e
  | [], _ => rfl
  | k :: is, h => by
    simp only [List.mem_cons, not_or] at h
    show (back env0 (env.set i e) is).set k _ = ((back env0 env is).set k _).set i e
    rw [back_set h.2, List.set_comm _ _ h.1]
theorem wipe_back {σ : L2.St} {i : Nat} {is : List Nat} (n : i ∉ is) (h : i < σ.length) : (wipe σ (i :: is)).set i ((σ[i]?).join) = wipe σ is := by
  show ((wipe σ is).set i none).set i _ = _
  rw [List.set_set]
  apply List.ext_getElem?
  intro j
  by_cases e : i = j
  · subst e
    rw [List.getElem?_set_self (by rw [wipe_length]; exact h), wipe_out n, List.getElem?_eq_getElem h]
    rfl
  · rw [List.getElem?_set_ne e]
theorem Good.block_out {env0 : List Ent} {X : List EV} : ∀ {own : List Nat} {s2 : St}, own.Nodup → (∀ i ∈ own, i < σ.length) → Good cl m2 G (wipe σ own) s2 (T ++ (kept env0 σ own ++ X)) → (∀ p ∈ T ++ (kept env0 σ own ++ X), NA p.1) → Good cl m2 G σ { s2 with env := back env0 s2.env own } (T ++ X)
  | [], s2, _, _, g, _ => by simpa [kept, wipe, back] using g
  | i :: is, s2, nd, hi, g, hn => by
    obtain ⟨n1, n2⟩ := List.nodup_cons.mp nd
    have hlt := hi i List.mem_cons_self
    have pm : ((env0.getD i .un, (σ[i]?).join) :: (T ++ (kept env0 σ is ++ X))).Perm (T ++ (kept env0 σ (i :: is) ++ X)) := by
      show (_ :: _).Perm (T ++ ((kept env0 σ is ++ [(env0.getD i .un, (σ[i]?).join)]) ++ X))
      rw [List.append_assoc (kept env0 σ is), ← List.append_assoc T, ← List.append_assoc T]
      exact List.perm_middle.symm
    have hn2 : ∀ p ∈ (env0.getD i .un, (σ[i]?).join) :: (T ++ (kept env0 σ is ++ X)), NA p.1 := fun p hp => hn p (pm.subset hp)
    have g1 := (g.perm pm).step_out (i := i) (hn2 _ List.mem_cons_self) (fun p hp => hn2 p (List.mem_cons_of_mem _ hp)) (by rw [g.ln, wipe_length]; exact hlt)
    rw [wipe_back n1 hlt] at g1
    have g2 := Good.block_out (own := is) n2 (fun j hj => hi j (List.mem_cons_of_mem _ hj)) g1 fun p hp => hn2 p (List.mem_cons_of_mem _ hp)
    have eb : back env0 s2.env (i :: is) = back env0 (s2.env.set i (env0.getD i .un)) is := (back_set n1).symm
    rw [eb]
    exact g2
/-- a turn's end: the block's own slots forgotten -/
theorem Good.block_turn (g : Good cl m G σ s T) (hT : ∀ p ∈ T, NA p.1) {own : List Nat} (nd : own.Nodup) (hi : ∀ i ∈ own, i < s.env.length) : Good cl m G (wipe σ own) { s with env := unset s.env own } T := (g.block_in hT nd hi).1.sub (List.sublist_append_left _ _)
theorem Good.putT {A B : List EV} {d d' : D} {a : Addr} {o : HO} (g : Good cl m G σ s (A ++ (.own d, some (.ref a)) :: B)) (ow : OwnAt (m.put a o) d' a) :
    Good cl (m.put a o) G σ s (A ++ (.own d', some (.ref a)) :: B) ∧ Ext m (m.put a o) ∧ Prot G m (m.put a o) ∧ ¬ m.F a := by
  have sr := g.sr
  rw [← List.append_assoc] at sr
  have ha : a ∈ owns ((s.env.zip σ ++ A) ++ (.own d, some (.ref a)) :: B) := mem_owns (List.mem_append_right _ List.mem_cons_self)
  obtain ⟨f1, f2, f3⟩ := sr.fr a ha
  refine ⟨⟨g.mo.put, ?_, g.ln, g.st.put f1 f2, gd_put g.gd, g.na⟩, Ext.put f1, fun b hb => upd_ne fun e => f3 (e ▸ hb), f1⟩
  rw [← List.append_assoc]
  exact sr.put ow
theorem wipe_wipe {σ : L2.St} : ∀ (vs : List Nat), wipe (wipe σ vs) vs = wipe σ vs := by
  intro vs
  apply List.ext_getElem?
  intro j
  by_cases h : j ∈ vs
  · have key : ∀ (τ : L2.St) (vs : List Nat), j ∈ vs → (wipe τ vs)[j]? = if j < τ.length then some none else none := by
      intro τ vs
      induction vs with
      | nil => intro h; cases h
      | cons k vs ih =>
        intro h
        show ((wipe τ vs).set k none)[j]? = _
        by_cases e : k = j
        · subst e
          by_cases hl : k < τ.length
          · rw [List.getElem?_set_self (by rw [wipe_length]; exact hl), if_pos hl]
          · rw [List.getElem?_eq_none (by rw [List.length_set, wipe_length]; omega), if_neg hl]
        · rw [List.getElem?_set_ne e]
          exact ih ((List.mem_cons.mp h).resolve_left fun z => e z.symm)
    rw [key _ vs h, key _ vs h, wipe_length]
  · rw [wipe_out h]
end
/-! ### comprehensions -/
/-- no exception is let out -/
def noW : WX := fun _ _ _ _ => False
section
variable {X : Cx} {cl : String → Addr} {W : WX} {G : Addr → Prop} {m : Mem} {σ : L2.St} {s : St} {T : List EV}
theorem okI_ok {it : St → R (List D)} {tgs own : List Nat} {el : Ev} {tt : EvB} {Q : VK} (q : okE cl W G σ T m Q (compE tgs own it el tt s)) :
    (∃ c s', it s = .exc c s' ∧ excP cl W G σ T m c s') ∨ ∃ ds s1 vs s2, it s = .ok ds s1 ∧ ds.length ≤ LINE ∧ compL tgs own el tt ds { s1 with env := unset s1.env own } = .ok vs s2 ∧ okE cl W G σ T m Q (.ok (.own (.lst vs)) { s2 with env := back s1.env s2.env own }) := by
  unfold compE at q
  cases e : it s with
  | stk => rw [e] at q; exact q.elim
  | exc c s' => rw [e] at q; exact .inl ⟨c, s', rfl, q⟩
  | ok ds s1 =>
    rw [e] at q
    change okE cl W G σ T m Q (if ds.length ≤ LINE then _ else _) at q
    split at q
    · rename_i hl
      cases e2 : compL tgs own el tt ds { s1 with env := unset s1.env own } with
      | ok vs s2 => rw [e2] at q; exact .inr ⟨ds, s1, vs, s2, rfl, hl, e2, q⟩
      | exc c s' => rw [e2] at q; exact q.elim
      | stk => rw [e2] at q; exact q.elim
    · exact q.elim
theorem comp_turn {tgs own : List Nat} {el : Ev} {tt : EvB} {d : D} {ds vs : List D} {s s2 : St} (h : compL tgs own el tt (d :: ds) s = .ok vs s2) :
    ∃ s1, bindT tgs d s = some s1 ∧ ((∃ sa r sb v vs', tt s1 = .ok true sa ∧ el sa = .ok r sb ∧ frz r = some v ∧ compL tgs own el tt ds { sb with env := unset sb.env own } = .ok vs' s2 ∧ vs = v :: vs') ∨
      ∃ sa, tt s1 = .ok false sa ∧ compL tgs own el tt ds { sa with env := unset sa.env own } = .ok vs s2) := by
  unfold compL at h
  cases e0 : bindT tgs d s with
  | none => rw [e0] at h; cases h
  | some s1 =>
    rw [e0] at h
    refine ⟨s1, rfl, ?_⟩
    dsimp only at h
    cases e1 : tt s1 with
    | stk => rw [e1] at h; cases h
    | exc c s' => rw [e1] at h; cases h
    | ok b sa =>
      rw [e1] at h
      cases b with
      | false => exact .inr ⟨sa, rfl, h⟩
      | true =>
        dsimp only at h
        cases e2 : el sa with
        | stk => rw [e2] at h; cases h
        | exc c s' => rw [e2] at h; cases h
        | ok r sb =>
          rw [e2] at h
          dsimp only at h
          cases e3 : frz r with
          | none => rw [e3] at h; cases h
          | some v =>
            rw [e3] at h
            dsimp only at h
            cases e4 : compL tgs own el tt ds { sb with env := unset sb.env own } with
            | ok vs' s3 =>
              rw [e4] at h
              cases h
              exact .inl ⟨sa, r, sb, v, vs', rfl, e2, e3, e4, rfl⟩
            | exc c s' => rw [e4] at h; cases h
            | stk => rw [e4] at h; cases h
theorem comp_go {it : St → R (List D)} {tgs own : List Nat} {el : Ev} {tt : EvB} {H : Hp} {Q : VK} (hlen : σ.length = X.N.length) (nd : own.Nodup) (ho : ∀ i ∈ own, i < X.N.length) (htg : ∀ i ∈ tgs, i ∈ own) (h : tM cl W (compE tgs own it el tt) σ H Q) :
    tLc (tI cl W it) (gTgt X.K tgs) (tMB cl noW tt) (tM cl noW el) own σ H Q := by
  obtain ⟨s, m0, G, T, rfl, g0, q⟩ := h
  rcases okI_ok q with ⟨c, s', e, q⟩ | ⟨ds, s1, vs, sE, e, hl, hc, q⟩
  · exact ⟨s, m0, G, T, rfl, g0, by rw [e]; exact q⟩
  refine ⟨s, m0, G, T, rfl, g0, ?_⟩
  rw [e]
  intro J m1 x1 p1 g1 gs Dn hD
  have hn1 : s1.env.length = X.N.length := g1.ln.trans hlen
  have ho1 : ∀ i ∈ own, i < s1.env.length := fun i hi => by rw [hn1]; exact ho i hi
  -- in the block
  obtain ⟨g2, na2⟩ := (g1.sub (T' := noal T) List.filter_sublist).block_in noal_na nd ho1
  -- the new list
  have gr : Grow m1 (m1.lay Dn (.lst []) False) := lay_grow g1.mo hD
  have g3 := g2.new gr (e := .own (.lst [])) (v := .ref Dn) (new_lst g1.mo hD .nil)
  have x2 := gr.ext g1.mo
  have hT : ∀ acc : List D, ∀ p ∈ (noal T ++ kept s1.env σ own) ++ [((Ent.own (.lst acc)), some (V.ref Dn))], NA p.1 := fun acc p hp => by
    rcases List.mem_append.mp hp with hp | hp
    · exact na2 p hp
    · simp only [List.mem_singleton] at hp
      subst hp
      exact na_own
  refine ⟨fun i k H => ∃ st m acc rest, m.H = H ∧ Ext m1 m ∧ Prot G m1 m ∧ Good cl m G (wipe σ own) st ((noal T ++ kept s1.env σ own) ++ [((Ent.own (.lst acc)), some (V.ref Dn))]) ∧ i ≤ ds.length ∧ k = ds.length - i ∧ acc.length ≤ i ∧ compL tgs own el tt (ds.drop i) st = .ok rest sE ∧ acc ++ rest = vs,
    ⟨ds.length, _, _, [], vs, rfl, x2, g1.prot gr, g3, Nat.zero_le _, rfl, Nat.le_refl _, hc, rfl⟩, fun i k H hw => ?_⟩
  obtain ⟨st, m, acc, rest, rfl, x, p, g, hle, rfl, hacc, hcl, hvs⟩ := hw
  obtain ⟨js, jg⟩ := gs m x g.mo
  by_cases hlt : i < ds.length
  · have hd : ds[i]? = some ds[i] := List.getElem?_eq_getElem hlt
    have hdr : ds.drop i = ds[i] :: ds.drop (i + 1) := List.drop_eq_getElem_cons hlt
    rw [hdr] at hcl
    obtain ⟨go, yl⟩ := jg i _ hd
    obtain ⟨sb, hb, alt⟩ := comp_turn hcl
    refine .inr ⟨go, fun H => ∃ st m acc rest, m.H = H ∧ Ext m1 m ∧ Prot G m1 m ∧ Good cl m G (wipe σ own) st ((noal T ++ kept s1.env σ own) ++ [((Ent.own (.lst acc)), some (V.ref Dn))]) ∧ acc.length ≤ i + 1 ∧ compL tgs own el tt (ds.drop (i + 1)) st = .ok rest sE ∧ acc ++ rest = vs, ?_, fun v H' y => ?_⟩
    · rintro H' ⟨st', m', acc', rest', eH, x', p', g', ha', hc', hv'⟩
      exact ⟨ds.length - (i + 1), by omega, st', m', acc', rest', eH, x', p', g', hlt, rfl, ha', hc', hv'⟩
    · obtain ⟨m', rfl, gr', rd⟩ := yl v H' y
      have g' := g.grow gr'
      have x' : Ext m1 m' := x.trans (gr'.ext g.mo)
      have p' : Prot G m1 m' := p.trans (g.prot gr')
      have hne : st.env.length = X.N.length := g.ln.trans ((wipe_length σ own).trans hlen)
      obtain ⟨σ2, gb, qq, wb, eb⟩ := bind_go (K := X.K) hb g' (hT acc) rd (fun j hj => by rw [hne]; exact ho j (htg j hj))
      have w2 : wipe σ2 own = wipe σ own := (wb own htg).trans (wipe_wipe own)
      have ho2 : ∀ {s3 : St} {m3 : Mem} {T3 : List EV}, Good cl m3 G σ2 s3 T3 → ∀ i ∈ own, i < s3.env.length := fun {s3 m3 T3} g3 i hi => by
        have h1 := g3.ln
        have h2 := gb.ln
        rw [eb, hne] at h2
        rw [h1, ← h2]
        exact ho i hi
      refine qq _ ⟨w2, sb, m', G, _, rfl, gb, ?_⟩
      rcases alt with ⟨sa, r, sc, vv, vs', e1, e2, e3, e4, rfl⟩ | ⟨sa, e1, e4⟩
      · rw [e1]
        intro m3 x3 p3 g3
        refine ite_tt ⟨sa, m3, G, _, rfl, g3, ?_⟩
        rw [e2]
        intro y4 m4 x4 p4 g4
        -- let go of what comes, then append
        obtain ⟨m5, eH5, ei5, x5, g5⟩ := Good.frz (B := []) g4 e3
        have hin : (Ent.own (.lst acc), some (V.ref Dn)) ∈ ((noal T ++ kept s1.env σ own) ++ [((Ent.own (.lst acc)), some (V.ref Dn))]) ++ [(Ent.val vv, some y4)] := by simp
        obtain ⟨a, ea, xs, hH5, rxs⟩ := g5.sr.ok _ (List.mem_append_right _ hin)
        cases ea
        have ry : Rep m5 vv y4 := g5.rep (by simp)
        rw [← eH5]
        refine ⟨xs, hH5, by rw [← rxs.len, line_eq]; have : ds.length ≤ LINE := hl; omega, ?_⟩
        have g5' : Good cl m5 G σ2 sc ((noal T ++ kept s1.env σ own) ++ (Ent.own (.lst acc), some (V.ref Dn)) :: []) := g5.sub (List.sublist_append_left _ _)
        have nF : ¬ m5.F Dn := (g5'.putT (d' := .lst []) (o := .lst []) ⟨[], upd_same, .nil⟩).2.2.2
        have x6 := Ext.put (m := m5) (a := Dn) (o := .lst (xs ++ [y4])) nF
        obtain ⟨g6, x6', p6, _⟩ := g5'.putT (d' := .lst (acc ++ [vv])) (o := .lst (xs ++ [y4])) ⟨_, upd_same, (Reps.mono x6 _ _ rxs).append (.cons (Rep.mono x6 _ _ ry) .nil)⟩
        have g7 := g6.block_turn (hT _) nd (ho2 g6)
        rw [w2] at g7
        exact ⟨_, _, acc ++ [vv], vs', rfl, x'.trans ((x3.trans x4).trans (x5.trans x6)), p'.trans ((p3.trans p4).trans (Prot.trans (fun b _ => by rw [eH5]) p6)), g7, by simp; omega, e4, by rw [List.append_assoc]; exact hvs⟩
      · rw [e1]
        intro m3 x3 p3 g3
        refine ite_ff ?_
        have g7 := g3.block_turn (hT _) nd (ho2 g3)
        rw [w2] at g7
        exact ⟨_, m3, acc, rest, rfl, x'.trans x3, p'.trans p3, g7, by omega, e4, hvs⟩
  · have ee : i = ds.length := by omega
    subst ee
    rw [List.drop_length] at hcl
    cases hcl
    rw [List.append_nil] at hvs
    subst hvs
    refine .inl ⟨js, ?_⟩
    rw [List.append_assoc] at g
    have g8 := Good.block_out (env0 := s1.env) nd (fun i hi => by rw [hlen]; exact ho i hi) g (by rw [← List.append_assoc]; exact hT acc)
    have g9 := g1.unfilter (X := [(Ent.own (.lst acc), some (V.ref Dn))]) g8
    exact q (.ref Dn) m (x1.trans x) (p1.trans p) g9
end
end Z

set_option Elab.async false
set_option linter.all false
set_option maxRecDepth 100000
set_option maxHeartbeats 4000000
namespace Z
open PySem PySem.Spec PyProof.Rows L2
/-! ### a dict's comprehension -/
section
variable {X : Cx} {cl : String → Addr} {W : WX} {G : Addr → Prop} {m : Mem} {σ : L2.St} {s : St} {T : List EV}
theorem okD_ok {it : St → R (List D)} {tgs own : List Nat} {ek el : Ev} {tt : EvB} {Q : VK} (q : okE cl W G σ T m Q (dcompE tgs own it ek el tt s)) :
    (∃ c s', it s = .exc c s' ∧ excP cl W G σ T m c s') ∨ ∃ ds s1 vs s2, it s = .ok ds s1 ∧ dcompL tgs own ek el tt ds [] { s1 with env := unset s1.env own } = .ok vs s2 ∧ okE cl W G σ T m Q (.ok (.own (.dic vs)) { s2 with env := back s1.env s2.env own }) := by
  unfold dcompE at q
  cases e : it s with
  | stk => rw [e] at q; exact q.elim
  | exc c s' => rw [e] at q; exact .inl ⟨c, s', rfl, q⟩
  | ok ds s1 =>
    rw [e] at q
    change okE cl W G σ T m Q (match dcompL tgs own ek el tt ds [] { s1 with env := unset s1.env own } with
      | .ok kvs s2 => .ok (.own (.dic kvs)) { s2 with env := back s1.env s2.env own }
      | _ => .stk) at q
    cases e2 : dcompL tgs own ek el tt ds [] { s1 with env := unset s1.env own } with
    | ok vs s2 => rw [e2] at q; exact .inr ⟨ds, s1, vs, s2, rfl, e2, q⟩
    | exc c s' => rw [e2] at q; exact q.elim
    | stk => rw [e2] at q; exact q.elim
theorem dcomp_turn {tgs own : List Nat} {ek el : Ev} {tt : EvB} {d : D} {ds : List D} {acc vs : List (DK × D)} {s s2 : St} (h : dcompL tgs own ek el tt (d :: ds) acc s = .ok vs s2) :
    ∃ s1, bindT tgs d s = some s1 ∧ ((∃ sa kd kk sk r sb v, tt s1 = .ok true sa ∧ ek sa = .ok (.val kd) sk ∧ DK.of kd = some kk ∧ el sk = .ok r sb ∧ frz r = some v ∧ acc.length < LINE ∧ dcompL tgs own ek el tt ds (Z.putK kk v acc) { sb with env := unset sb.env own } = .ok vs s2) ∨
      ∃ sa, tt s1 = .ok false sa ∧ dcompL tgs own ek el tt ds acc { sa with env := unset sa.env own } = .ok vs s2) := by
  unfold dcompL at h
  cases e0 : bindT tgs d s with
  | none => rw [e0] at h; cases h
  | some s1 =>
    rw [e0] at h
    refine ⟨s1, rfl, ?_⟩
    dsimp only at h
    cases e1 : tt s1 with
    | stk => rw [e1] at h; cases h
    | exc c s' => rw [e1] at h; cases h
    | ok b sa =>
      rw [e1] at h
      cases b with
      | false => exact .inr ⟨sa, rfl, h⟩
      | true =>
        dsimp only at h
        cases e2 : ek sa with
        | stk => rw [e2] at h; cases h
        | exc c s' => rw [e2] at h; cases h
        | ok rk sk =>
          rw [e2] at h
          cases rk with
          | val kd =>
            dsimp only at h
            cases e3 : el sk with
            | stk => rw [e3] at h; cases h
            | exc c s' => rw [e3] at h; cases h
            | ok r sb =>
              rw [e3] at h
              dsimp only at h
              cases e4 : DK.of kd with
              | none => rw [e4] at h; cases h
              | some kk =>
                rw [e4] at h
                dsimp only at h
                cases e5 : frz r with
                | none => rw [e5] at h; cases h
                | some v =>
                  rw [e5] at h
                  dsimp only at h
                  split at h
                  · rename_i hl
                    exact .inl ⟨sa, kd, kk, sk, r, sb, v, rfl, e2, e4, e3, e5, hl, h⟩
                  · cases h
          | _ => cases h
theorem key_of {kd : D} {kk : DK} {y : V} (h : DK.of kd = some kk) (r : Rep m kd y) : y = kV (kD kk) := by
  cases kd with
  | int i => cases h; cases r; rfl
  | str x => cases h; cases r; rfl
  | _ => cases h
theorem new_dic {m : Mem} {a : Addr} {ds : List (DK × D)} {xs : List (Key × V)} (mo : MOk m) (h : m.H a = none) (r : RepK m ds xs) : EntNew m (m.lay a (.dK xs) False) (.own (.dic ds)) (.ref a) :=
  ⟨a, rfl, ⟨xs, upd_same, RepK.mono ((lay_grow mo h).ext mo) _ _ r⟩, h, fun z => z.elim (fun f => (mo.fz a f).1 h) fun z => z.2⟩
theorem dcomp_go {it : St → R (List D)} {tgs own : List Nat} {ek el : Ev} {tt : EvB} {H : Hp} {Q : VK} (hlen : σ.length = X.N.length) (nd : own.Nodup) (ho : ∀ i ∈ own, i < X.N.length) (htg : ∀ i ∈ tgs, i ∈ own) (h : tM cl W (dcompE tgs own it ek el tt) σ H Q) :
    tDc (tI cl W it) (gTgt X.K tgs) (tMB cl noW tt) (tM cl noW ek) (tM cl noW el) own σ H Q := by
  obtain ⟨s, m0, G, T, rfl, g0, q⟩ := h
  rcases okD_ok q with ⟨c, s', e, q⟩ | ⟨ds, s1, vs, sE, e, hc, q⟩
  · exact ⟨s, m0, G, T, rfl, g0, by rw [e]; exact q⟩
  refine ⟨s, m0, G, T, rfl, g0, ?_⟩
  rw [e]
  intro J m1 x1 p1 g1 gs Dn hD
  have hn1 : s1.env.length = X.N.length := g1.ln.trans hlen
  have ho1 : ∀ i ∈ own, i < s1.env.length := fun i hi => by rw [hn1]; exact ho i hi
  -- in the block
  obtain ⟨g2, na2⟩ := (g1.sub (T' := noal T) List.filter_sublist).block_in noal_na nd ho1
  -- the new list
  have gr : Grow m1 (m1.lay Dn (.dK []) False) := lay_grow g1.mo hD
  have g3 := g2.new gr (e := .own (.dic [])) (v := .ref Dn) (new_dic g1.mo hD .nil)
  have x2 := gr.ext g1.mo
  have hT : ∀ acc : List (DK × D), ∀ p ∈ (noal T ++ kept s1.env σ own) ++ [((Ent.own (.dic acc)), some (V.ref Dn))], NA p.1 := fun acc p hp => by
    rcases List.mem_append.mp hp with hp | hp
    · exact na2 p hp
    · simp only [List.mem_singleton] at hp
      subst hp
      exact na_own
  refine ⟨fun i k H => ∃ st m acc, m.H = H ∧ Ext m1 m ∧ Prot G m1 m ∧ Good cl m G (wipe σ own) st ((noal T ++ kept s1.env σ own) ++ [((Ent.own (.dic acc)), some (V.ref Dn))]) ∧ i ≤ ds.length ∧ k = ds.length - i ∧ dcompL tgs own ek el tt (ds.drop i) acc st = .ok vs sE,
    ⟨ds.length, _, _, [], rfl, x2, g1.prot gr, g3, Nat.zero_le _, rfl, hc⟩, fun i k H hw => ?_⟩
  obtain ⟨st, m, acc, rfl, x, p, g, hle, rfl, hcl⟩ := hw
  obtain ⟨js, jg⟩ := gs m x g.mo
  by_cases hlt : i < ds.length
  · have hd : ds[i]? = some ds[i] := List.getElem?_eq_getElem hlt
    have hdr : ds.drop i = ds[i] :: ds.drop (i + 1) := List.drop_eq_getElem_cons hlt
    rw [hdr] at hcl
    obtain ⟨go, yl⟩ := jg i _ hd
    obtain ⟨sb, hb, alt⟩ := dcomp_turn hcl
    refine .inr ⟨go, fun H => ∃ st m acc, m.H = H ∧ Ext m1 m ∧ Prot G m1 m ∧ Good cl m G (wipe σ own) st ((noal T ++ kept s1.env σ own) ++ [((Ent.own (.dic acc)), some (V.ref Dn))]) ∧ dcompL tgs own ek el tt (ds.drop (i + 1)) acc st = .ok vs sE, ?_, fun v H' y => ?_⟩
    · rintro H' ⟨st', m', acc', eH, x', p', g', hc'⟩
      exact ⟨ds.length - (i + 1), by omega, st', m', acc', eH, x', p', g', hlt, rfl, hc'⟩
    · obtain ⟨m', rfl, gr', rd⟩ := yl v H' y
      have g' := g.grow gr'
      have x' : Ext m1 m' := x.trans (gr'.ext g.mo)
      have p' : Prot G m1 m' := p.trans (g.prot gr')
      have hne : st.env.length = X.N.length := g.ln.trans ((wipe_length σ own).trans hlen)
      obtain ⟨σ2, gb, qq, wb, eb⟩ := bind_go (K := X.K) hb g' (hT acc) rd (fun j hj => by rw [hne]; exact ho j (htg j hj))
      have w2 : wipe σ2 own = wipe σ own := (wb own htg).trans (wipe_wipe own)
      have ho2 : ∀ {s3 : St} {m3 : Mem} {T3 : List EV}, Good cl m3 G σ2 s3 T3 → ∀ i ∈ own, i < s3.env.length := fun {s3 m3 T3} g3 i hi => by
        have h1 := g3.ln
        have h2 := gb.ln
        rw [eb, hne] at h2
        rw [h1, ← h2]
        exact ho i hi
      refine qq _ ⟨w2, sb, m', G, _, rfl, gb, ?_⟩
      rcases alt with ⟨sa, kd, kk, sk, r, sc, vv, e1, ek1, ek2, e2, e3, hal, e4⟩ | ⟨sa, e1, e4⟩
      · rw [e1]
        intro m3 x3 p3 g3
        refine ite_tt ⟨sa, m3, G, _, rfl, g3, ?_⟩
        rw [ek1]
        intro yk mk xk pk gk
        refine ⟨sk, mk, G, _, rfl, gk, ?_⟩
        rw [e2]
        intro y4 m4 x4 p4 g4
        -- let go of what comes, then put
        obtain ⟨m5, eH5, ei5, x5, g5⟩ := Good.frz (B := []) g4 e3
        have hin : (Ent.own (.dic acc), some (V.ref Dn)) ∈ (((noal T ++ kept s1.env σ own) ++ [((Ent.own (.dic acc)), some (V.ref Dn))]) ++ [(Ent.val kd, some yk)]) ++ [(Ent.val vv, some y4)] := by simp
        obtain ⟨a, ea, xs, hH5, rxs⟩ := g5.sr.ok _ (List.mem_append_right _ hin)
        cases ea
        have ry : Rep m5 vv y4 := g5.rep (by simp)
        have rk : Rep m5 kd yk := g5.rep (by simp)
        rw [← eH5]
        have hky : yk = kV (kD kk) := key_of ek2 rk
        refine ⟨xs, kD kk, hky, hH5, by rw [← rxs.len, line_eq]; exact hal, ?_⟩
        have g5' : Good cl m5 G σ2 sc ((noal T ++ kept s1.env σ own) ++ (Ent.own (.dic acc), some (V.ref Dn)) :: []) := g5.sub ((List.sublist_append_left _ _).trans (List.sublist_append_left _ _))
        have nF : ¬ m5.F Dn := (g5'.putT (d' := .dic []) (o := .dK []) ⟨[], upd_same, .nil⟩).2.2.2
        have x6 := Ext.put (m := m5) (a := Dn) (o := .dK (L2.putK xs (kD kk) y4)) nF
        obtain ⟨g6, x6', p6, _⟩ := g5'.putT (d' := .dic (Z.putK kk vv acc)) (o := .dK (L2.putK xs (kD kk) y4)) ⟨_, upd_same, RepK.put (Rep.mono x6 _ _ ry) (RepK.mono x6 _ _ rxs)⟩
        have g7 := g6.block_turn (hT _) nd (ho2 g6)
        rw [w2] at g7
        exact ⟨_, _, Z.putK kk vv acc, rfl, x'.trans ((x3.trans (xk.trans x4)).trans (x5.trans x6)), p'.trans ((p3.trans (pk.trans p4)).trans (Prot.trans (fun b _ => by rw [eH5]) p6)), g7, e4⟩
      · rw [e1]
        intro m3 x3 p3 g3
        refine ite_ff ?_
        have g7 := g3.block_turn (hT _) nd (ho2 g3)
        rw [w2] at g7
        exact ⟨_, m3, acc, rfl, x'.trans x3, p'.trans p3, g7, e4⟩
  · have ee : i = ds.length := by omega
    subst ee
    rw [List.drop_length] at hcl
    cases hcl
    refine .inl ⟨js, ?_⟩
    rw [List.append_assoc] at g
    have g8 := Good.block_out (env0 := s1.env) nd (fun i hi => by rw [hlen]; exact ho i hi) g (by rw [← List.append_assoc]; exact hT vs)
    have g9 := g1.unfilter (X := [(Ent.own (.dic vs), some (V.ref Dn))]) g8
    exact q (.ref Dn) m (x1.trans x) (p1.trans p) g9
end
end Z

set_option Elab.async false
set_option linter.all false
set_option maxRecDepth 100000
set_option maxHeartbeats 4000000
namespace Z
open PySem PySem.Spec PyProof.Rows L2
/-! ### len, list, tuple of a range -/
def rgK (f : String) (a b : Int) (H : Hp) (Q : VK) : Prop := (f = "len" ∧ Q (.int ((b - a).toNat : Nat)) H) ∨ (f = "list" ∧ ∀ q, H q = none → Q (.ref q) (upd H q (.lst (rgV a b)))) ∨ (f = "tuple" ∧ ∀ q, H q = none → Q (.ref q) (upd H q (.tup (rgV a b))))
def tRgF (f : String) (te : L2.St → Hp → (Int → Int → Hp → Prop) → Prop) : TE := fun σ H Q => te σ H fun a b H1 => RgOk a b ∧ rgK f a b H1 Q
def rgNames : List String := ["len", "list", "tuple"]
section
variable {X : Cx} {e : Expr} {te : L2.St → Hp → (Int → Int → Hp → Prop) → Prop} {p pos : Pos}
theorem pe_lenRg (hg : Gl X "len") (hm : X.mg "len" = none) (he : PRg X e te) (na : starEach [e] X.env = (false, eval e X.env) :: starEach [] X.env := by rfl) : L2.PE X (.Call (.Name "len" p) [e] [] pos) (fun σ H Q => te σ H fun a b H1 => RgOk a b ∧ Q (.int ((b - a).toNat : Nat)) H1) := by
  refine ⟨fun pins s σ H Q I h => ?_⟩
  refine wpAny_Call_Name_kw (ld_blt I hg hm PySem.boot_len ?_)
  refine PyProof.Rows.callWith_builtin1 (args_cons (thn (he pins s σ H _ I h) fun x s1 ⟨r, a, b, t, u, v, H1, ex, hr, I1, ok, q⟩ => args_nil ?_) na) na rfl
  subst ex
  obtain ⟨b1, b2, b3, b4, b5⟩ := ok
  exact call_len_range (n := (b - a).toNat) hr (rangeSize_nat a b) (by omega) ⟨.int ((b - a).toNat : Nat), H1, I1.tok _, ⟨_, rfl⟩, q⟩
variable {f : String}
theorem pe_rgF (hf : rgNames.contains f = true) (hc : X.calm = true) (hg : Gl X (Str.ofString f)) (hm : X.mg (Str.ofString f) = none) (he : PRg X e te) (na : starEach [e] X.env = (false, eval e X.env) :: starEach [] X.env) : L2.PE X (.Call (.Name (Str.ofString f) p) [e] [] pos) (tRgF f te) := by
  have : f ∈ rgNames := by simpa using hf
  simp only [rgNames, List.mem_cons, List.not_mem_nil, or_false] at this
  rcases this with rfl | rfl | rfl
  · refine PE.imp (pe_lenRg hg hm he na) fun σ H Q h => ?_
    have e : (fun a b H1 => RgOk a b ∧ rgK "len" a b H1 Q) = fun a b H1 => RgOk a b ∧ Q (.int ((b - a).toNat : Nat)) H1 := by
      funext a b H1
      simp [rgK]
    show te σ H _
    rw [← e]
    exact h
  · refine PE.imp (pe_listRg hc hg hm he na) fun σ H Q h => ?_
    have e : (fun a b H1 => RgOk a b ∧ rgK "list" a b H1 Q) = fun a b H1 => RgOk a b ∧ ∀ q, H1 q = none → Q (.ref q) (upd H1 q (.lst (rgV a b))) := by
      funext a b H1
      simp [rgK]
    show te σ H _
    rw [← e]
    exact h
  · refine PE.imp (pe_tupRg hc hg hm he na) fun σ H Q h => ?_
    have e : (fun a b H1 => RgOk a b ∧ rgK "tuple" a b H1 Q) = fun a b H1 => RgOk a b ∧ ∀ q, H1 q = none → Q (.ref q) (upd H1 q (.tup (rgV a b))) := by
      funext a b H1
      simp [rgK]
    show te σ H _
    rw [← e]
    exact h
theorem reps_rg {m : Mem} : ∀ (n : Nat) (lo : Int), Reps m (rngL lo n) ((List.range n).map fun i => V.int (lo + (i : Nat)))
  | 0, _ => .nil
  | n + 1, lo => by
    rw [List.range_succ_eq_map, List.map_cons, List.map_map]
    have h := reps_rg (m := m) n (lo + 1)
    refine .cons (by simpa using Rep.int lo) ?_
    have e : ((fun i : Nat => V.int (lo + (i : Nat))) ∘ Nat.succ) = fun i : Nat => V.int (lo + 1 + (i : Nat)) := by
      funext i
      simp only [Function.comp_apply]
      congr 1
      omega
    rw [e]
    exact h
theorem rg_ok {m : Mem} {f : String} {a b : Int} {ent : Ent} {Q : VK} (mo : MOk m) (h : rgB f a b = some ent) (k : ∀ v m', Grow m m' → EntNew m m' ent v → Q v m'.H) : RgOk a b ∧ rgK f a b m.H Q := by
  unfold rgB at h
  split at h
  · rename_i hc
    rw [Bool.and_eq_true, Bool.and_eq_true] at hc
    have h1 := abs_lt hc.1.1
    have h2 := abs_lt hc.1.2
    have h3 := of_decide_eq_true hc.2
    refine ⟨⟨by omega, by omega, by omega, by omega, h3⟩, ?_⟩
    split at h
    · rename_i hf
      cases h
      exact .inl ⟨hf, k _ m (Grow.refl mo) (.int _)⟩
    · split at h
      · rename_i hf
        cases h
        exact .inr (.inl ⟨hf, fun q hq => k _ _ (lay_grow mo hq) (new_lst mo hq (reps_rg _ _))⟩)
      · split at h
        · rename_i hf
          cases h
          exact .inr (.inr ⟨hf, fun q hq => k _ _ (lay_grow mo hq) (new_tup mo hq (reps_rg _ _))⟩)
        · cases h
  · cases h
variable {cl : String → Addr} {W : WX} {a b : Expr} {ea eb : Ev}
theorem fe_brg1 {p2 pos2 : Pos} (hf : rgNames.contains f = true) (hc : X.calm = true) (hg : Gl X (Str.ofString f)) (hm : X.mg (Str.ofString f) = none) (hg2 : Gl X "range") (hm2 : X.mg "range" = none) (ha : L2.PE X a (tM cl W ea)) (na : starEach [a] X.env = (false, eval a X.env) :: starEach [] X.env)
    (na2 : starEach [.Call (.Name "range" p2) [a] [] pos2] X.env = (false, eval (.Call (.Name "range" p2) [a] [] pos2) X.env) :: starEach [] X.env) :
    L2.PE X (.Call (.Name (Str.ofString f) p) [.Call (.Name "range" p2) [a] [] pos2] [] pos) (tM cl W (bnd1 ea fun s d => O (rgB1 f d) s)) :=
  PE.imp (pe_rgF hf hc hg hm (prg_1 hg2 hm2 ha na) na2) fun σ H Q h => tUn_of (r := fun x H Q => ∃ n, x = .int n ∧ RgOk 0 n ∧ rgK f 0 n H Q) (f := fun _ d => rgB1 f d) (fun m S dx x ent Q mo st b e k => by
    cases dx with
    | int i =>
      cases b
      exact ⟨i, rfl, rg_ok mo e k⟩
    | _ => cases e) h
theorem fe_brg2 {p2 pos2 : Pos} (hf : rgNames.contains f = true) (hc : X.calm = true) (hg : Gl X (Str.ofString f)) (hm : X.mg (Str.ofString f) = none) (hg2 : Gl X "range") (hm2 : X.mg "range" = none) (ha : L2.PE X a (tM cl W ea)) (hb : L2.PE X b (tM cl W eb)) (na : starEach [a, b] X.env = (false, eval a X.env) :: starEach [b] X.env)
    (nb : starEach [b] X.env = (false, eval b X.env) :: starEach [] X.env) (hp : (backTo pos2 (starEach [b] X.env)).any (·.1) = false)
    (na2 : starEach [.Call (.Name "range" p2) [a, b] [] pos2] X.env = (false, eval (.Call (.Name "range" p2) [a, b] [] pos2) X.env) :: starEach [] X.env) :
    L2.PE X (.Call (.Name (Str.ofString f) p) [.Call (.Name "range" p2) [a, b] [] pos2] [] pos) (tM cl W (bnd2 ea eb fun s x y => O (rgB2 f x y) s)) :=
  PE.imp (pe_rgF hf hc hg hm (prg_2 hg2 hm2 ha hb na nb hp) na2) fun σ H Q h => tOp_of (r := fun x y H Q => ∃ i j, x = .int i ∧ y = .int j ∧ RgOk i j ∧ rgK f i j H Q) (f := fun _ x y => rgB2 f x y) (fun m S dx dy x y ent Q mo st bx bY e k => by
    cases dx with
    | int i =>
      cases dy with
      | int j => exact ⟨i, j, repI bx, repI bY, rg_ok mo e k⟩
      | _ => cases e
    | _ => cases e) h
end
end Z

set_option Elab.async false
set_option linter.all false
set_option maxRecDepth 100000
set_option maxHeartbeats 4000000
namespace Z
open PySem PySem.Spec PyProof.Rows L2
/-! ### set(xs) of a list of ints, its table in order -/
section
variable {P : Program} {w : World} {A : Around} {E : Value → Shared → Prop} {s : Shared}
/-- the empty set that a call of set lays down -/
def bare (w : World) : Obj := { cls := .type "set", dict := none, data := .set #[] 0 (.fresh 0 0 (!w.params.followText "set-order")) }
theorem ints_get {vs : Array Value} {ns : List Int} (h : IntsAre vs.toList ns) (i : Nat) (v : Value) (e : vs[i]? = some v) : ∃ k t, ns[i]? = some k ∧ v = .int k t := by
  have hl : vs.size = ns.length := by rw [← Array.length_toList]; exact IntsAre.length h
  have hi : i < ns.length := by rw [← hl]; exact (Array.getElem?_eq_some_iff.mp e).1
  obtain ⟨t, q⟩ := IntsAre.int_at h i v (by rw [Array.getElem?_toList]; exact e)
  refine ⟨ns[i], t, List.getElem?_eq_getElem hi, q.trans ?_⟩
  rw [List.getD_eq_getElem?_getD, List.getElem?_eq_getElem hi] <;> rfl
/-- what the call leaves behind -/
def SetLaid (w : World) (s : Shared) (ns : List Int) (s' : Shared) : Prop :=
  ∃ (h' : Heap) (tk c : Nat), s' = { s with heap := h', toks := tk } ∧ SetR w h' s.heap.objs.size (fun j => decide (j ∈ ns)) c ∧ c ≤ ns.length ∧ ∀ b o, s.heap.get? b = some o → h'.get? b = some o
/-- set.__init__ of the empty set with a list of ints -/
theorem init_set_list {l : Addr} {vs : Array Value} {ns : List Int} (hh : A.handled = none) (hl : s.heap.IsList l vs) (hi : IntsAre vs.toList ns) (hb : ns.length + 1 < scanBound) :
    codeAny (model P w) A (.call (.builtin "set.__init__") ⟨[.ref s.heap.objs.size, .ref l], []⟩) (wants (fun r s₂ => r = .none ∧ SetLaid w s ns s₂) E) { s with heap := s.heap.push (bare w) } := by
  have hS : (s.heap.push (bare w)).get? s.heap.objs.size = some (bare w) := Heap.get?_push_size _ rfl
  have hT : Shared.TypeIs { s with heap := s.heap.push (bare w) } (.ref s.heap.objs.size) "set" := ⟨_, hS, rfl⟩
  refine codeAny_call_builtin F.called_set.init.plain F.entry_set_init (check_set_init_1 hT ?_)
  have hsz : vs.size = ns.length := by rw [← Array.length_toList]; exact IntsAre.length hi
  have hlS : l < s.heap.objs.size := by
    obtain ⟨ol, hol, _⟩ := hl
    exact Heap.lt_size hol
  have hl1 : (s.heap.push (bare w)).IsList l vs := hl.push _
  obtain ⟨ol, hol', hcl, nl, hdl⟩ := id hl1
  obtain ⟨ocls, odict, odata, oslots⟩ := ol
  simp only at hcl hdl
  subst hcl; subst hdl
  have hsls := F.sub_list_set
  have hslf := F.sub_list_frozenset
  have hne : (Value.type "list" == Value.type "dict") = false := by decide
  unfold Builtin.«set.__init__» noKeywords Builtin.Frozenset.updateFrom
  unfold bare at hS hT hl1 hol' ⊢
  generalize hPI : pyIter = PI
  wp_walk
  subst hPI
  refine wpAny_pyIter_list hl1 ?_
  refine wpAny_bind (wpAny_runValue ?_)
  have hh3 : A.in1.in1.handled = none := by simp [hh]
  have hz : (s.heap.push (bare w)).objs.size = s.heap.objs.size + 1 := Heap.size_push ..
  unfold bare at hz
  have n1 : l ≠ (s.heap.push { cls := .type "set", dict := none, data := .set #[] 0 (.fresh 0 0 (!w.params.followText "set-order")) }).objs.size := by rw [hz]; exact Nat.ne_of_lt (Nat.lt_succ_of_lt hlS)
  have n2 : s.heap.objs.size ∉ [(s.heap.push { cls := .type "set", dict := none, data := .set #[] 0 (.fresh 0 0 (!w.params.followText "set-order")) }).objs.size, l] := by
    simp only [List.mem_cons, List.not_mem_nil, or_false, not_or]
    rw [hz]
    exact ⟨Nat.ne_of_lt (Nat.lt_succ_self _), Nat.ne_of_gt hlS⟩
  refine set_update_ints ((Walks.list hh3 _ l n1 vs).toS) s.heap.objs.size n2 ns hsz hb (ints_get hi) (vs.size - 0) 0 _ (by omega) (Nat.zero_le _) ?hC ?hA ?hB
  case hC => exact ⟨⟨_, Heap.get?_push_size _ rfl, rfl, rfl⟩, (hl1.push _)⟩
  case hA => exact ⟨0, Nat.le_refl 0, setR_new_at (Heap.get?_push_of_some _ hS)⟩
  intro s' c hm hc hR
  refine wpAny_pure ?_
  refine wpAny_pure ⟨rfl, s'.heap, s'.toks, c, ?_, hR, by omega, fun b o e => ?_⟩
  · obtain ⟨h', g', d', tk', os'⟩ := s'
    have eg : g' = s.gens := hm.gens
    have ed : d' = s.drawn := hm.drawn
    have eo : os' = s.os := hm.os
    rw [eg, ed, eo]
  · have hb0 : b < s.heap.objs.size := Heap.lt_size e
    exact hm.heap b o (by simp only [List.mem_cons, List.not_mem_nil, or_false, not_or]; rw [hz]; exact ⟨Nat.ne_of_lt hb0, Nat.ne_of_lt (Nat.lt_succ_of_lt hb0)⟩) (Heap.get?_push_of_some _ (Heap.get?_push_of_some _ e))
theorem call_set_lst {l : Addr} {vs : Array Value} {ns : List Int} {Q : Value → Shared → Prop} (hh : A.handled = none) (hl : s.heap.IsList l vs) (hi : IntsAre vs.toList ns) (hb : ns.length + 1 < scanBound)
    (k : ∀ s', SetLaid w s ns s' → Q (.ref s.heap.objs.size) s') : wpAny (model P w) A (call (.type "set") [.ref l]) Q E s := by
  obtain ⟨c, tl, hmro⟩ := F.called_set.mro
  have hmade := F.called_set.made
  have hsub := F.called_set.sub
  refine wpAny_call (codeAny_of_tree ?_)
  show wpAny _ _ (callAny (.type "set") _) _ _ _
  refine wpAny_pure ⟨Code.quiet_builtin _ (by decide +kernel), codeAny_builtin F.entry_type_call ?_⟩
  rw [Around.under_plain (weight_type_call_type "set" [.ref l] []) rfl]
  have h1 := F.called_set.notType
  have h2 := F.called_set.canCreate
  have hct := F.typeCall_set_1 (.ref l)
  repeat (any_goals (first | assumption | wp_step))
  refine codeAny_mono (code_set_led1 (.ref l) (E := E) (Q₁ := fun obj s₁ => obj = .ref s.heap.objs.size ∧ s₁ = { s with heap := s.heap.push (bare w) }) ⟨rfl, rfl⟩) fun r s₁ hr => ?_
  match r, hr with
  | .error e, hr => exact hr
  | .ok (.ret obj), hr =>
    obtain ⟨rfl, rfl⟩ := hr
    have hT : Shared.TypeIs { s with heap := s.heap.push (bare w) } (.ref s.heap.objs.size) "set" := ⟨_, Heap.get?_push_size _ rfl, rfl⟩
    have hli := F.called_set.init.lookup
    have hbi := F.called_set.init.bind (.ref s.heap.objs.size)
    repeat (any_goals (first | assumption | wp_step))
    refine codeAny_mono (init_set_list (E := E) hh hl hi hb) fun r₂ s₂ hr₂ => ?_
    match r₂, hr₂ with
    | .error e, hr₂ => exact hr₂
    | .ok (.ret r), hr₂ =>
      obtain ⟨rfl, hL⟩ := hr₂
      repeat (any_goals (first | assumption | wp_step))
      exact k _ hL
end
/-! ### len(set(x)), sorted(set(x)) -/
theorem mem_insI {k j : Int} : ∀ {xs : List Int}, j ∈ insI k xs ↔ j = k ∨ j ∈ xs
  | [] => by simp [insI]
  | x :: xs => by
    unfold insI
    split
    · simp
    · split
      · rename_i h
        subst h
        simp
      · rw [List.mem_cons, mem_insI, List.mem_cons]
        constructor
        · rintro (h | h | h)
          · exact .inr (.inl h)
          · exact .inl h
          · exact .inr (.inr h)
        · rintro (h | h | h)
          · exact .inr (.inl h)
          · exact .inl h
          · exact .inr (.inr h)
theorem insI_up {k : Int} : ∀ {xs : List Int}, xs.Pairwise (· < ·) → (insI k xs).Pairwise (· < ·)
  | [], _ => by simp [insI]
  | x :: xs, h => by
    unfold insI
    obtain ⟨h1, h2⟩ := List.pairwise_cons.mp h
    split
    · rename_i hk
      refine List.pairwise_cons.mpr ⟨fun j hj => ?_, h⟩
      rcases List.mem_cons.mp hj with rfl | hj
      · exact hk
      · exact Int.lt_trans hk (h1 j hj)
    · split
      · exact h
      · rename_i hk hn
        refine List.pairwise_cons.mpr ⟨fun j hj => ?_, insI_up h2⟩
        rcases mem_insI.mp hj with rfl | hj
        · omega
        · exact h1 j hj
theorem mem_srtI {j : Int} : ∀ {xs : List Int}, j ∈ srtI xs ↔ j ∈ xs
  | [] => by simp [srtI]
  | x :: xs => by
    unfold srtI
    rw [mem_insI, mem_srtI, List.mem_cons]
theorem srtI_up : ∀ (xs : List Int), (srtI xs).Pairwise (· < ·)
  | [] => List.Pairwise.nil
  | x :: xs => insI_up (srtI_up xs)
theorem up_nodup {xs : List Int} (h : xs.Pairwise (· < ·)) : xs.Nodup := h.imp fun q e => by subst e; exact Int.lt_irrefl _ q
theorem up_eq {xs ys : List Int} (h1 : xs.Pairwise (· < ·)) (h2 : ys.Pairwise (· < ·)) (e : ∀ j, j ∈ xs ↔ j ∈ ys) : xs = ys :=
  List.Perm.eq_of_pairwise (fun a b _ _ p q => absurd (Int.lt_trans p q) (Int.lt_irrefl _)) h1 h2 ((List.perm_ext_iff_of_nodup (up_nodup h1) (up_nodup h2)).mpr e)
theorem setR_len {w : World} {h : Heap} {a : Addr} {ns : List Int} {c : Nat} (R : SetR w h a (fun j => decide (j ∈ ns)) c) : c = (srtI ns).length := by
  obtain ⟨o, es, ep, t, ho, hex, hd, g, nd, hm, hb, hf, hn, hr, hl⟩ := R
  have e := (List.perm_ext_iff_of_nodup nd (up_nodup (srtI_up ns))).mpr fun j => by rw [← hm j, mem_srtI, decide_eq_true_iff]
  have e2 := e.length_eq
  rw [List.length_map, Array.length_toList] at e2
  rw [← hn, e2]
def stK (K : PySem.W.Frag) (f : String) (x : V) (H : Hp) (Q : VK) : Prop := ∃ (l : Addr) (ns : List Int), x = .ref l ∧ (SqL K H l (ns.map V.int) ∨ SqT K H l (ns.map V.int)) ∧ ns.length ≤ 1000 ∧
  ((f = "len" ∧ Q (.int ((srtI ns).length : Nat)) H) ∨ (f = "sorted" ∧ (srtI ns).length < 64 ∧ ∀ q, H q = none → Q (.ref q) (upd H q (.lst ((srtI ns).map V.int)))))
theorem reps_int {m : Mem} : ∀ is : List Int, Reps m (is.map D.int) (is.map V.int)
  | [] => .nil
  | i :: is => .cons (.int i) (reps_int is)
def stNames : List String := ["len", "sorted"]
theorem ints_vals : ∀ {ns : List Int} {us : List Value}, Vals (ns.map V.int) us → IntsAre us ns
  | [], _, .nil => .nil
  | n :: ns, _, .cons r t => by
    obtain ⟨k, rfl⟩ := r
    exact .cons n k (ints_vals t)
section
variable {X : Cx} {a : Expr} {ta : TE} {p p2 q2 pos : Pos} {pins : List (Addr × Obj)} {σ : L2.St} {H : Hp}
/-- set(x) of a list or a tuple of ints -/
theorem call_set_any {l : Addr} {ns : List Int} {A : Around} {E : Value → Shared → Prop} {s : Shared} {Q : Value → Shared → Prop} (I : Inv X pins σ H s) (hh : A.handled = none) (h : SqL X.K H l (ns.map V.int) ∨ SqT X.K H l (ns.map V.int)) (hb : ns.length ≤ 1000)
    (k : ∀ s', SetLaid X.w s ns s' → Q (.ref s.heap.objs.size) s') : wpAny (model X.prog X.w) A (call (.type "set") [.ref l]) Q E s := by
  have hb2 : ns.length + 1 < scanBound := by unfold scanBound; omega
  rcases h with h | h
  · obtain ⟨its, r, pl, hz⟩ := I.list h
    exact call_set_lst hh pl.isList (by simpa using ints_vals r) hb2 k
  · obtain ⟨its, r, pt, hz⟩ := I.tuple h
    exact call_set_tupI ns hh (show s.heap.IsTuple l its.toArray from pt) (by simpa using ints_vals r) hb2 fun h' tk c R hc kk => k _ ⟨h', tk, c, rfl, R, hc, kk⟩
theorem pe_lenSt (hc : X.calm = true) (hg : Gl X "len") (hm : X.mg "len" = none) (hg2 : Gl X "set") (hm2 : X.mg "set" = none) (ha : L2.PE X a ta)
    (na : starEach [a] X.env = (false, eval a X.env) :: starEach [] X.env) (na2 : starEach [.Call (.Name "set" p2) [a] [] q2] X.env = (false, eval (.Call (.Name "set" p2) [a] [] q2) X.env) :: starEach [] X.env) :
    L2.PE X (.Call (.Name "len" p) [.Call (.Name "set" p2) [a] [] q2] [] pos) (fun σ H Q => ta σ H fun x H1 => stK X.K "len" x H1 Q) := by
  refine ⟨fun pins s σ H Q I h => ?_⟩
  refine wpAny_Call_Name_kw (ld_blt I hg hm PySem.boot_len ?_)
  refine callWith_builtin1 (args_cons ?_ rfl) na2 rfl
  refine wpAny_Call_Name_kw (ld_blt I hg2 hm2 PyProof.Rows.boot_set ?_)
  refine callWith_type1 (args_cons (thn (ha.run pins s σ H _ I h) fun v s1 ⟨x, H1, I1, r1, q1⟩ => args_nil ?_) na) na rfl
  obtain ⟨l, ns, rfl, hq, hl, q1⟩ := q1
  cases r1
  have q1 : Q (.int ((srtI ns).length : Nat)) H1 := by
    rcases q1 with ⟨_, q⟩ | ⟨hf, _⟩
    · exact q
    · exact absurd hf (by decide)
  refine call_set_any I1 (I1.ok.hd hc) hq hl fun s' hL => ?_
  obtain ⟨h', tk, c, rfl, R, hcl, kk⟩ := hL
  have hcn := setR_len R
  have I2 : Inv X pins σ H1 { s1 with heap := h', toks := tk } := I1.kept kk
  obtain ⟨o, es, ep, t, ho, hex, hd, g, nd, hm, hb, hf, hn, hr, hl2⟩ := R
  refine args_nil ?_
  exact call_len_set ho hex hd hf (by rw [hn]; omega) ⟨.int ((srtI ns).length : Nat), H1, I2.tok _, ⟨_, by rw [hn, hcn]⟩, q1⟩
theorem pe_sortedSt (hc : X.calm = true) (hg : Gl X "sorted") (hm : X.mg "sorted" = none) (hg2 : Gl X "set") (hm2 : X.mg "set" = none) (ha : L2.PE X a ta)
    (na : starEach [a] X.env = (false, eval a X.env) :: starEach [] X.env) (na2 : starEach [.Call (.Name "set" p2) [a] [] q2] X.env = (false, eval (.Call (.Name "set" p2) [a] [] q2) X.env) :: starEach [] X.env) :
    L2.PE X (.Call (.Name "sorted" p) [.Call (.Name "set" p2) [a] [] q2] [] pos) (fun σ H Q => ta σ H fun x H1 => stK X.K "sorted" x H1 Q) := by
  refine ⟨fun pins s σ H Q I h => ?_⟩
  refine wpAny_Call_Name_kw (ld_blt I hg hm PyProof.Rows.boot_sorted ?_)
  refine callWith_builtin1 (args_cons ?_ rfl) na2 rfl
  refine wpAny_Call_Name_kw (ld_blt I hg2 hm2 PyProof.Rows.boot_set ?_)
  refine callWith_type1 (args_cons (thn (ha.run pins s σ H _ I h) fun v s1 ⟨x, H1, I1, r1, q1⟩ => args_nil ?_) na) na rfl
  obtain ⟨l, ns, rfl, hq, hl, q1⟩ := q1
  cases r1
  have q1 : (srtI ns).length < 64 ∧ ∀ q, H1 q = none → Q (.ref q) (upd H1 q (.lst ((srtI ns).map V.int))) := by
    rcases q1 with ⟨hf, _⟩ | ⟨_, q⟩
    · exact absurd hf (by decide)
    · exact q
  refine call_set_any I1 (I1.ok.hd hc) hq hl fun s' hL => ?_
  obtain ⟨h', tk, c, rfl, R, hcl, kk⟩ := hL
  have hcn := setR_len R
  refine args_nil ?_
  refine sorted_set R (I1.ok.hd hc) (by rw [hcn]; exact q1.1) fun s' p out c2 ks k2 g o hp hg hi hs hm hlk => ?_
  have e : ks = srtI ns := up_eq hs (srtI_up ns) fun j => by rw [hm j, mem_srtI, decide_eq_true_iff]
  subst e
  have k3 : ∀ b o, s1.heap.get? b = some o → s'.heap.get? b = some o := fun b o e => k2 b o (kk b o e)
  have hp1 : s1.heap.objs.size ≤ p := Nat.le_trans (Nat.le_of_lt R.lt) hp
  have hn : H1 p = none := I1.hok.fresh hp1
  have hlen : ((srtI ns).map V.int).length ≤ sizeLine := by rw [List.length_map, sizeLine_eq]; omega
  have J : Inv X pins σ (upd H1 p (.lst ((srtI ns).map V.int))) s' :=
    Inv.call' (ch := []) I1 o (Un.laid k3 hp1 hn) (I1.hok.laid k3 hp1 ⟨hlen, out.toList, c2, vals_of_ints hi, hg⟩) (by rw [g]; exact I1.bare) (fun _ z => nomatch z)
  exact ⟨.ref p, _, J, rfl, q1.2 p hn⟩
theorem st_ok {m : Mem} {f : String} {d : D} {x : V} {ent : Ent} {Q : VK} (mo : MOk m) (b : RepB m d x) (h : stB f d = some ent) (k : ∀ v m', Grow m m' → EntNew m m' ent v → Q v m'.H) : stK X.K f x m.H Q := by
  unfold stB at h
  obtain ⟨is, hn, h⟩ := Option.bind_eq_some_iff.mp h
  have key : ∃ (l : Addr), x = .ref l ∧ (SqL X.K m.H l (is.map V.int) ∨ SqT X.K m.H l (is.map V.int)) := by
    cases d with
    | lst xs =>
      obtain ⟨a, vs, rfl, e, r⟩ := b
      have := ints_ofD xs vs is r hn
      subst this
      exact ⟨a, rfl, .inl (SqL.of e)⟩
    | tup xs =>
      obtain ⟨a, vs, rfl, e, f, r⟩ := repT b
      have := ints_ofD xs vs is r hn
      subst this
      exact ⟨a, rfl, .inr (SqT.of e)⟩
    | _ => cases hn
  obtain ⟨l, rfl, hq⟩ := key
  unfold stI at h
  split at h
  · rename_i hb
    refine ⟨l, is, rfl, hq, Nat.le_of_ble_eq_true hb, ?_⟩
    split at h
    · rename_i hf
      cases h
      exact .inl ⟨hf, k _ m (Grow.refl mo) (.int _)⟩
    · split at h
      · rename_i hf
        split at h
        · rename_i h64
          cases h
          refine .inr ⟨hf, blt_iff.mp h64, fun q hq => k _ _ (lay_grow mo hq) (new_lst mo hq ?_)⟩
          exact reps_int _
        · cases h
      · cases h
  · cases h
variable {cl : String → Addr} {W : WX} {ea : Ev} {f : String}
theorem fe_bst (hf : stNames.contains f = true) (hc : X.calm = true) (hg : Gl X (Str.ofString f)) (hm : X.mg (Str.ofString f) = none) (hg2 : Gl X "set") (hm2 : X.mg "set" = none) (ha : L2.PE X a (tM cl W ea))
    (na : starEach [a] X.env = (false, eval a X.env) :: starEach [] X.env) (na2 : starEach [.Call (.Name "set" p2) [a] [] q2] X.env = (false, eval (.Call (.Name "set" p2) [a] [] q2) X.env) :: starEach [] X.env) :
    L2.PE X (.Call (.Name (Str.ofString f) p) [.Call (.Name "set" p2) [a] [] q2] [] pos) (tM cl W (bnd1 ea fun s d => O (stB f d) s)) := by
  have key : L2.PE X (.Call (.Name (Str.ofString f) p) [.Call (.Name "set" p2) [a] [] q2] [] pos) (fun σ H Q => tM cl W ea σ H fun x H1 => stK X.K f x H1 Q) := by
    have : f ∈ stNames := by simpa using hf
    simp only [stNames, List.mem_cons, List.not_mem_nil, or_false] at this
    rcases this with rfl | rfl
    · exact pe_lenSt hc hg hm hg2 hm2 ha na na2
    · exact pe_sortedSt hc hg hm hg2 hm2 ha na na2
  exact PE.imp key fun σ H Q h => tUn_of (r := fun x H Q => stK X.K f x H Q) (f := fun _ d => stB f d) (fun m S dx x ent Q mo st b e k => st_ok mo b e k) h
end
end Z

set_option Elab.async false
set_option linter.all false
set_option maxRecDepth 100000
set_option maxHeartbeats 4000000
namespace Z
open PySem PySem.Spec PyProof.Rows L2
/-! ### one of several defs, called -/
def tVals (vs : List V) : TA := fun _ H Q => Q vs H
theorem pa_vals0 {X : Cx} : L2.PA X [] (tVals []) := PA.imp pa_nil fun σ H Q h => h
theorem pa_vals1 {X : Cx} {e : Expr} {es : List Expr} {v : V} {vs : List V} (h : L2.PE X e (tC v)) (r : L2.PA X es (tVals vs)) (hs : starEach (e :: es) X.env = (false, eval e X.env) :: starEach es X.env) : L2.PA X (e :: es) (tVals (v :: vs)) := PA.imp (pa_cons h r hs) fun σ H Q h => h
section
variable {X : Cx} {cl : String → Addr} {W : WX} {ei : Ev} {el : EvL} {ns ys : List Expr} {ix y : Expr} {fs : List String} {rs : List Addr} {p1 p2 pos : Pos} {cf : String → List D → Store → RC} {n : Nat}
theorem fe_sel (hn : L2.PA X ns (tVals (rs.map V.ref))) (hns : rs.length ≤ sizeLine) (hl : fs.length = rs.length) (hi : L2.PE X ix (tM cl W ei)) (hpi : PlainIx ix)
    (hcall : ∀ (j : Nat) f a, fs[j]? = some f → rs[j]? = some a → Runs X (.ref a) [] n [] (fun σ vs zs H Q => spOf cl (cf f) n ([] ++ (vs ++ (zs ++ []))) H Q (WE W σ)) ∧ PySem.W.keepIn X.K (.ref a) = true)
    (hc : Cnt el n) (ha : L2.PA X (y :: ys) (tMA cl W el)) (hkw : PK X [] (tMA cl W nilL)) (kk : Kws X [] [] pos) (he : starEach (y :: ys) X.env = (false, eval y X.env) :: starEach ys X.env) (hpl : (backTo pos (starEach (y :: ys) X.env)).any (·.1) = false) :
    L2.PE X (.Call (.Subscript (.List ns p1) ix p2) (y :: ys) [] pos) (tM cl W (selE cf fs ei el)) := by
  have hf : L2.PE X (.Subscript (.List ns p1) ix p2) (tOp (rIxL X.K) (tLst (tVals (rs.map V.ref))) (tM cl W ei)) := pe_ix ix_list (pe_lst hn) hi hpi
  have nil0 : Cnt nilL ([] : List Str).length := fun s r s' h => by cases h; rfl
  refine ⟨fun pins s σ H Q I h => ?_⟩
  show wpAny _ _ (do callWith pos (← eval (.Subscript (.List ns p1) ix p2) X.env) [] (backTo pos (starEach (y :: ys) X.env)) (backToKw pos (keywordEach [] X.env))) _ _ s
  refine wpAny_bind (thn (hf.run pins s σ H (fun x H1 => ∃ (j : Nat) (f : String) (a : Addr), fs[j]? = some f ∧ rs[j]? = some a ∧ x = .ref a ∧ tCl n ([] : List Str).length (fun σ vs zs H Q => spOf cl (cf f) n ([] ++ (vs ++ (zs ++ []))) H Q (WE W σ)) (tMA cl W el) (tMA cl W nilL) σ H1 Q) I ?_) fun v s1 hh => ?_)
  · obtain ⟨s0, m, G, T, rfl, g, q⟩ := h
    refine ⟨by simpa using hns, fun D hD => ?_⟩
    have gr := lay_grow (o := .lst (rs.map V.ref)) (f := True) g.mo hD
    refine tM_then (m1 := m.lay D (.lst (rs.map V.ref)) True) want_E (g.grow gr) (List.Sublist.refl _) (gr.ext g.mo) (g.prot gr) q fun r s2 u m2 x2 p2 g2 q2 => ?_
    obtain ⟨f, ef, q3⟩ := want_opt want_E q2
    obtain ⟨d, ed, ef⟩ := Option.bind_eq_some_iff.mp ef
    have b := g2.res (r := r) (v := u) (by simp) ed
    cases d with
    | int i =>
      have ef : ((Z.ixN fs.length i).bind fun j => fs[j]?) = some f := ef
      obtain ⟨j, ej, ej2⟩ := Option.bind_eq_some_iff.mp ef
      have hj : j < rs.length := by rw [← hl]; exact (List.getElem?_eq_some_iff.mp ej2).1
      have eu : u = .int i := by cases b; rfl
      subst eu
      have hD2 : m2.H D = some (.lst (rs.map V.ref)) := (x2.fr D (Or.inr ⟨rfl, trivial⟩)).2.trans upd_same
      refine ⟨D, rs.map V.ref, i, .ref rs[j], rfl, rfl, SqL.of hD2, ?_, j, f, rs[j], ej2, List.getElem?_eq_getElem hj, rfl, ?_⟩
      · unfold L2.atI
        have e2 : L2.ixN (rs.map V.ref).length i = some j := by rw [List.length_map, ← hl]; exact ej
        rw [e2]
        show (rs.map V.ref)[j]? = _
        rw [List.getElem?_map, List.getElem?_eq_getElem hj]
        rfl
      · exact tCl_of (dfl := []) (dvs := []) hc nil0 (fun m => .nil) (by simp) ⟨s2, m2, G, T, rfl, g2.sub sub1, okE.on q3 ((gr.ext g.mo).trans x2) ((g.prot gr).trans p2)⟩
    | _ => cases ef
  · obtain ⟨x, H1, I1, r1, j, f, a, e1, e2, rfl, q1⟩ := hh
    obtain rfl : v = Value.ref a := r1
    obtain ⟨hR, hk⟩ := hcall j f a e1 e2
    exact cl_go hR hk ha hkw kk he hpl I1 q1
end
/-! ### a def that is asked about the exception that is handled -/
/-- what it promises: x, i of an exception of the class at C -/
def AskW (P : Program) (w : World) (K : PySem.W.Frag) (mg : Str → Option Value) (base : Heap) (lv : Nat) (fa : Addr) (fdat : FuncData) (prm : List Str) (C : Addr) (x : List Nat) (i : Int) : Prop :=
  ∀ (A : Around) (out : List Env) (s0 : Shared) (H : Hp) (ars : Args) (us : List Value) (Q : VK) (E : XK) (pin : Addr × Obj), L2H.RoomH lv A → L2H.PinOk out H s0 pin → Zc (.ref C) none pin.2 → (∃ vs, pin.2.data = .fields vs) → Env0 P w K mg base A out s0 H → BindsTo s0 fdat ars (prm.zip us) → Vals [.ref pin.1] us →
    (∀ (H' : Hp) (t : Addr), (∀ b, H b ≠ none → H' b = H b) → H t = none → H' t = some (.tup [sV x, .int i]) → Q (.ref t) H') → codeAny (model P w) A (.call (.ref fa) ars) (CR (L2.CX P w) out P w H s0 Q E) s0
/-- its call in an except suite: f(e) -/
def tAskW (pin : Addr) (i : Nat) (x : List Nat) (k : Int) : TE := fun σ H Q => σ[i]? = some (some (.ref pin)) ∧ ∀ (H' : Hp) (t : Addr), (∀ b, H b ≠ none → H' b = H b) → H t = none → H' t = some (.tup [sV x, .int k]) → Q (.ref t) H'
theorem pe_askW {X : Cx} {lv : Nat} {fa C : Addr} {fdat : FuncData} {prm : List Str} {x : List Nat} {k : Int} {nm : Str} {a : Expr} {q pos : Pos} {i : Nat} {pin : Addr × Obj} {W : WX} (F : AskW X.prog X.w X.K X.mg X.base lv fa fdat prm C x k) (hl : prm.length = 1) (hr : L2H.RoomH lv X.A) (hp : pin ∈ X.pn)
    (hz : Zc (.ref C) none pin.2) (hd : ∃ vs, pin.2.data = .fields vs) (hg : Gl X nm) (hm : X.mg nm = some (.ref fa)) (hk : PySem.W.keepIn X.K (.ref fa) = true) (hb : Binds X.K fdat prm []) (tk : Takes X W) (ha : L2.PE X a (tVar i)) (hdb : (nm == ("__debug__" : Str)) = false)
    (hst : starEach [a] X.env = (false, eval a X.env) :: starEach [] X.env) : L2.PE X (.Call (.Name nm q) [a] [] pos) (tAskW pin.1 i x k) := by
  refine ⟨fun pins s σ H Q I ⟨hv, h⟩ => ?_⟩
  refine wpAny_Call_Name_kw (ld_glob I hg hm ?_ hdb)
  have harg : L2.PA X [a] (tCons (tVar i) tNil) := pa_cons ha pa_nil hst
  refine PySem.W.callWith_K (h₀ := X.base) I.ok.mod.kin hk (thn (harg.run pos pins s σ H (fun vs H1 => vs = [.ref pin.1] ∧ H1 = H) I ⟨_, hv, rfl, rfl⟩) fun us s1 ⟨vs, H1, I1, rv, e1, e2⟩ => ⟨I1.kIn, ?_⟩) hst rfl
  subst e1 e2
  have P1 := I1.pin pin (List.mem_append_left _ hp)
  have hpin : L2H.PinOk X.stack H1 s1 pin := ⟨P1.1, P1.2.1, fun hm => (List.mem_cons.mp (I1.stkSub pin.1 hm)).elim P1.2.2.1 P1.2.2.2.1, P1.2.2.2.2⟩
  have b := hb s1 us I1.kIn (by rw [List.append_nil, hl, ← rv.length]; rfl)
  rw [List.append_nil] at b
  refine wpAny_call (codeAny_mono (F X.A X.stack s1 H1 ⟨us, []⟩ us Q (WE W σ) pin hr hpin hz hd I1.env0 b rv h) fun r s' hq => ?_)
  cases r with
  | error e => exact passAt tk σ pins H1 s1 e s' I1 hq
  | ok fl =>
    cases fl with
    | ret u => exact I1.after hq
    | next => exact hq.elim
    | brk => exact hq.elim
    | cont => exact hq.elim
end Z

set_option Elab.async false
set_option linter.all false
set_option maxRecDepth 100000
set_option maxHeartbeats 4000000
namespace Z
open PySem PySem.Spec PyProof.Rows L2
/-! ### len of an instance whose class has its own __len__ -/
/-- the reading -/
def tLenO (C : Addr) (sp : Sp) (W : WX) (to : TE) : TE := fun σ H Q => to σ H fun x H1 => ∃ a dx fs, [x] = [V.ref a] ∧ H1 a = some (.ins C dx fs) ∧ sp [.ref a] H1 (fun z H' => ∃ i, z = .int i ∧ 0 ≤ i ∧ i < 2 ^ 63 ∧ Q z H') (WE W σ)
theorem spOf_len {cl : String → Addr} {cf : List D → Store → RC} {n : Nat} {vs : List V} {H : Hp} {Q : VK} {E : XK} (h : spOf cl (fun ds S => lenR (cf ds S)) n vs H Q E) : spOf cl cf n vs H (fun z H' => ∃ i, z = .int i ∧ 0 ≤ i ∧ i < 2 ^ 63 ∧ Q z H') E := by
  obtain ⟨hn, ds, S, m, G, e, mo, st, gd, rd, q⟩ := h
  refine ⟨hn, ds, S, m, G, e, mo, st, gd, rd, ?_⟩
  dsimp only at q
  cases hc : cf ds S with
  | ok d S' =>
    rw [hc] at q
    unfold lenR at q
    split at q
    · rename_i k S2 heq
      cases heq
      split at q
      · rename_i hk
        intro v m' x p mo' st' gd' rv
        have hv : v = .int (.ofNat k) := by cases rv; rfl
        have hk2 := Nat.blt_eq.mp hk
        refine ⟨_, hv, Int.natCast_nonneg k, ?_, q v m' x p mo' st' gd' rv⟩
        show (Int.ofNat k) < 2 ^ 63
        have : (Int.ofNat k) = (k : Int) := rfl
        omega
      · exact q.elim
    · exact q.elim
    · rename_i heq
      cases heq
    · exact q.elim
  | exc c S' =>
    rw [hc] at q
    exact q
  | stk =>
    rw [hc] at q
    exact q
theorem tLenO_of {cl : String → Addr} {W : WX} {c : String} {cf : List D → Store → RC} {eo : Ev} {σ : L2.St} {H : Hp} {Q : VK} (h : tM cl W (lenOE c cf eo) σ H Q) : tLenO (cl c) (spOf cl cf 1) W (tM cl W eo) σ H Q := by
  obtain ⟨s, m, G, T, rfl, g, q⟩ := h
  refine tM_then want_E g (List.Sublist.refl _) (Ext.refl _) Prot.refl q fun r0 s0 x0 m0 x0' p0 g0 q0 => ?_
  obtain ⟨k, hk0, q0'⟩ := want_opt want_E q0
  obtain ⟨d, hd, hk3⟩ := Option.bind_eq_some_iff.mp hk0
  have rb := g0.res (r := r0) (v := x0) (by simp) hd
  unfold insOf at hk3
  split at hk3
  · rename_i n0
    split at hk3
    · rename_i c' fs hS
      split at hk3
      · rename_i hc
        cases hk3
        subst hc
        obtain ⟨a, rfl, hi, ok⟩ := obj_at g0.st hS rb
        obtain ⟨dx, gs, hH, fr⟩ := ok
        refine ⟨a, dx, gs, rfl, hH, spOf_len ?_⟩
        have ra : Rep m0 (.obj k) (.ref a) := .obj hi
        exact call_go (cf := fun ds S => lenR (cf ds S)) (fs := [.obj k]) (rs := []) (rz := []) (vs := []) (zs := []) (ds := []) (dz := []) (dfl := []) (dvs := []) (T1 := T) (s2 := s0) (m1 := m0) (by simpa using g0.sub sub1) (List.Sublist.refl _) x0' p0 rfl rfl rfl rfl (.cons ra .nil) (fun m => .nil) rfl q0'
      · cases hk3
    · cases hk3
  · cases hk3
section
variable {X : Cx} {W : WX} {CX : CXT} {k : Nat} {fd : FuncData} {ps : List Str} {sp : Sp} {f C : Addr} {e : Expr} {to : TE} {x : Str} {p pos : Pos}
theorem pe_lenO (hm : Meth X.K C "__len__" f) (F : FnOk X.prog X.w X.K X.mg X.base CX k f fd ps sp) (hr : Room (k + 1) X.A) (hb : KB X.K fd ps 1 [] []) (hx : ∀ σ, PassesAt CX X σ (WE W σ)) (hg : Gl X "len") (hf : X.mg "len" = none) (he : L2.PE X e to)
    (hs : starEach [e] X.env = (false, eval e X.env) :: starEach [] X.env) : L2.PE X (.Call (.Name "len" p) [e] [] pos) (tLenO C sp W to) := by
  have ha : L2.PA X [e] (tCons to tNil) := pa_cons he pa_nil hs
  refine ⟨fun pins s σ H Q I h => ?_⟩
  refine wpAny_Call_Name_kw (ld_blt I hg hf (show bootBuiltins "len" = some (.builtin "len") by decide +kernel) ?_ (by decide) (by decide))
  refine PyProof.Rows.callWith_builtin1 (thn (ha.run pos pins s σ H (fun vs H1 => ∃ a dx fs, vs = [V.ref a] ∧ H1 a = some (.ins C dx fs) ∧ sp [.ref a] H1 (fun z H' => ∃ i, z = .int i ∧ 0 ≤ i ∧ i < 2 ^ 63 ∧ Q z H') (WE W σ)) I ?_) fun us s1 hh => ?_) hs rfl
  · exact h
  · obtain ⟨vs, H1, I1, r1, a, dx, fs, rfl, e1, q1⟩ := hh
    obtain ⟨u, rfl, ru⟩ := r1.one
    cases (show u = Value.ref a from ru)
    obtain ⟨mA, O, r, _, _, _⟩ := ins_get I1.hok e1
    obtain ⟨od, J, _⟩ := O.look
    obtain ⟨m, hF⟩ := I1.fr
    obtain ⟨ds, rd, hB⟩ := hb
    have ed : ds = [] := by
      cases rd
      rfl
    subst ed
    have b := hB s1 [.ref a] [] I1.kIn rfl rfl
    refine PySem.W.len_K hF I1.ok.mod.kin J hm.at_ hm.fn (wpAny_call (codeAny_mono (F.run X.A.in1 X.stack s1 H1 ⟨[.ref a], []⟩ _ _ _ (WE W σ) (Room.in1 hr) I1.env0.in1 b r1 q1) fun z s' hq => ?_))
    cases z with
    | error e => exact hx σ pins H1 s1 e s' I1 hq
    | ok fl =>
      cases fl with
      | ret u =>
        obtain ⟨z, H', I', rz, i, ei, h0, h1, qz⟩ := I1.after hq
        subst ei
        obtain ⟨t, e⟩ := (show ∃ t, u = Value.int i t from rz)
        subst e
        exact ⟨⟨h0, h1⟩, .int i, H', I'.tok _, ⟨_, rfl⟩, qz⟩
      | _ => exact hq.elim
end
end Z

set_option Elab.async false
set_option linter.all false
set_option maxRecDepth 100000
set_option maxHeartbeats 4000000
namespace Z
open PySem PySem.Spec PyProof.Rows L2

/-! ### raise, try -/
/-- an own exception class that hangs on ValueError -/
structure ExcOk (X : Cx) (x : Str) (C : Addr) : Prop where
  ex : ∃ B initId newId bmB, ExcBaseFacts B newId initId bmB ∧ PySem.W.excIn X.K C bmB newId = true
  gl : X.mg x = some (.ref C)
  kp : PySem.W.keepIn X.K (.ref C) = true
  ra : Raises X (.ref C)
section
variable {X : Cx} {cl : String → Addr} {W : WX} {x : Str} {C : Addr} {p p1 p2 pos : Pos}
/-- X(): an own exception class, nothing handed in -/
theorem pmk0 (e : ExcOk X x C) (hg : Gl X x) (hdb : (x == ("__debug__" : Str)) = false) : PMk X (.Call (.Name x p) [] [] p1) (fun _ H Q => Q (.ref C) none H) := by
  obtain ⟨B, initId, newId, bmB, F, q⟩ := e.ex
  intro pins s σ H Q I h
  obtain ⟨bm, N, nm, qn, bs, hdct, sn, sub, ab, col, dd, k0, k1, k2, k3, k5, mN, hC, hN, hni, T⟩ := exc_obj I.kIn q
  refine wpAny_Call_Name_kw (ld_glob I hg e.gl (PySem.W.callWith_K0 I.kIn e.kp ?_) hdb)
  exact wpAny_call_exc_subT (rest := []) F T hC hN hni (fun h' a hm => mk_of I hm e.ra h (I.hok.gone hm.new)) (Nat.zero_le _)
theorem fs_raise {c : String} (hC : C = cl c) (e : ExcOk X x C) (hc : X.calm = true) (tk : Takes X W) (hg : Gl X x) (hdb : (x == ("__debug__" : Str)) = false) : L2.PS X (.Raise (some (.Call (.Name x p) [] [] p1)) none pos) (tMS cl W fun s => .exc c s) :=
  PS.imp (ps_raise hc tk (pmk0 e hg hdb)) fun D σ H q => by
    obtain ⟨s, m, G, rfl, g, q⟩ := q
    subst hC
    exact q σ m (Ext.refl _) Prot.refl g
def ExmF (K : PySem.W.Frag) (cl : String → Addr) (exm : String → String → Option Bool) : Prop := ∀ c t b, exm c t = some b → PySem.W.exmOne K (.ref (cl c)) (tv cl t) = some b
variable {body : List Stmt} {b₀ : Stmt} {suite : List Stmt} {sb sh : EvS}
theorem fs_try {exm : String → String → Option Bool} {c : String} (hx : ExmF X.K cl exm) (hs : X.stack = X.env :: X.outer) (hf : X.env.frame = some X.env.locals) (hn : Names X x (tv cl c)) (tk : Takes X W)
    (hb : ∀ (W : WX) (pn : List (Addr × Obj)) (xe : Value → Shared → Prop), Takes (X.tr pn xe) W → PassesOwn (model X.prog X.w) X.A X.env xe → L2.PSs (X.tr pn xe) body (tMS cl W sb))
    (hsu : ∀ (a : Addr) (pn : List (Addr × Obj)), L2.PSs (X.suite a pn) (b₀ :: suite) (tMS cl noW sh)) (hsx : ∀ s c s', sh s ≠ .exc c s') :
    L2.PS X (.Try body [.ExceptHandler (some (.Name x p)) none (b₀ :: suite) p1] [] [] pos) (tMS cl W (tryS exm sb c sh)) :=
  PS.imp (ps_try_only (ts := fun _ _ _ => tMS cl noW sh) (tb := fun W => tMS cl W sb) hs hf hn tk hb (fun a oe cls d pn _ _ => hsu a _)) fun D σ H q => by
    obtain ⟨s, m, G, rfl, g, q⟩ := q
    refine ⟨s, m, G, rfl, g, ?_⟩
    unfold tryS at q
    cases e : sb s with
    | exc c' s1 =>
      rw [e] at q
      obtain ⟨b, hb2, q2⟩ := optF_some q
      intro σ' m' x' p' g'
      refine ⟨b, hx c' c b hb2, fun e => ?_, fun e => ?_⟩
      · subst e
        intro a ha
        rw [if_pos rfl] at q2
        refine ⟨s1, m', G, rfl, g', ?_⟩
        have q3 := okS.on q2 x' p'
        have nx := hsx s1
        cases e2 : sh s1 with
        | exc c2 s2 => exact absurd e2 (nx c2 s2)
        | nx s2 => rw [e2] at q3; exact q3
        | rt d S => rw [e2] at q3; exact q3
        | bk s2 => rw [e2] at q3; exact q3
        | ct s2 => rw [e2] at q3; exact q3
        | stk => rw [e2] at q3; exact q3
      · subst e
        rw [if_neg Bool.false_ne_true] at q2
        exact q2 σ' m' x' p' g'
    | nx s2 => rw [e] at q; exact q
    | rt d S => rw [e] at q; exact q
    | bk s2 => rw [e] at q; exact q
    | ct s2 => rw [e] at q; exact q
    | stk => rw [e] at q; exact q

/-- try .. except X as n: return f(n) -/
theorem fs_tryw {exm : String → String → Option Bool} {wh : String → Option (List Nat × Int)} {c : String} {n : Str} {i : Nat} {call : Expr} {p3 : Pos} (hx : ExmF X.K cl exm) (hs : X.stack = X.env :: X.outer) (hf : X.env.frame = some X.env.locals) (hN : X.N.Nodup) (hi : X.N[i]? = some n)
    (hln : X.env.kindOf n = some .local) (hn : Names X x (tv cl c)) (tk : Takes X W)
    (hb : ∀ (W : WX) (pn : List (Addr × Obj)) (xe : Value → Shared → Prop), Takes (X.tr pn xe) W → PassesOwn (model X.prog X.w) X.A X.env xe → L2.PSs (X.tr pn xe) body (tMS cl W sb))
    (hw : ∀ c' r, wh c' = some r → ∀ (a : Addr) (oe : Obj) (pn : List (Addr × Obj)), Zc (.ref (cl c')) none oe → (∃ vs, oe.data = .fields vs) → L2.PE (X.suite a ((a, oe) :: pn)) call (tAskW a i r.1 r.2)) :
    L2.PS X (.Try body [.ExceptHandler (some (.Name x p)) (some n) [.Return (some call) p3] p1] [] [] pos) (tMS cl W (trywS exm wh sb c)) :=
  PS.imp (ps_try_as (i := i) (suite := []) (ts := fun a cv dd D σ H => ∃ c' r, cv = .ref (cl c') ∧ dd = none ∧ wh c' = some r ∧ (∃ σ0 : L2.St, σ = σ0.set i (some (.ref a))) ∧
      ∀ (H' : Hp) (t : Addr), (∀ b, H b ≠ none → H' b = H b) → H t = none → H' t = some (.tup [sV r.1, .int r.2]) → D.rt (.ref t) H') (tb := fun W => tMS cl W sb) hs hf hN hi hln hn tk hb (fun a oe cv dd pn hz hd => by
    refine ⟨fun pins s σ H D I h => ?_⟩
    obtain ⟨c', r, rfl, rfl, hr, ⟨σ0, e⟩, q⟩ := h
    have il : i < σ0.length := by
      have e1 : σ.length = X.N.length := I.len
      have e2 := (List.getElem?_eq_some_iff.mp hi).1
      rw [e, List.length_set] at e1
      omega
    have hσ : σ[i]? = some (some (V.ref a)) := by rw [e, List.getElem?_set_self il]
    exact (pss_one (ps_ret (hw c' r hr a oe pn hz hd))).run pins s σ H D I ⟨hσ, q⟩)) fun D σ H q => by
    obtain ⟨s, m, G, rfl, g, q⟩ := q
    refine ⟨s, m, G, rfl, g, ?_⟩
    unfold trywS at q
    cases e : sb s with
    | exc c' s1 =>
      rw [e] at q
      obtain ⟨b, hb2, q2⟩ := optF_some q
      intro σ' m' x' p' g'
      refine ⟨b, hx c' c b hb2, fun e => ?_, fun e => ?_⟩
      · subst e
        intro a ha
        rw [if_pos rfl] at q2
        obtain ⟨r, hr, q3⟩ := optF_some q2
        have q4 := okS.on q3 x' p'
        refine ⟨c', r, rfl, rfl, hr, ⟨_, rfl⟩, fun H' t hk ht he => ?_⟩
        have x2 : Ext m' ⟨H', fun b => m'.F b ∨ b = t, m'.ι⟩ := ⟨fun b f => ⟨.inl f, hk b (g'.mo.fz b f).1⟩, List.prefix_refl _⟩
        have ti : t ∉ m'.ι := fun z => g'.mo.io t z ht
        refine q4 (.ref t) ⟨H', fun b => m'.F b ∨ b = t, m'.ι⟩ x2 (fun b hb => hk b (g'.gd b hb).1) ⟨fun b f => ?_, g'.mo.nd, fun b hb => ?_⟩ ⟨g'.st.len, fun k cc b e1 e2 => (g'.st.at_ k cc b e1 e2).keep x2 (hk b (g'.mo.io b (List.mem_of_getElem? e2)))⟩ (fun b hb => ?_) (.tup he (.inr rfl) (.cons (.str _) (.cons (.int _) .nil)))
        · rcases f with f | rfl
          · exact ⟨by show H' b ≠ none; rw [hk b (g'.mo.fz b f).1]; exact (g'.mo.fz b f).1, (g'.mo.fz b f).2⟩
          · exact ⟨by show H' b ≠ none; rw [he]; simp, ti⟩
        · show H' b ≠ none
          rw [hk b (g'.mo.io b hb)]
          exact g'.mo.io b hb
        · obtain ⟨q1, q2, q3⟩ := g'.gd b hb
          exact ⟨by show H' b ≠ none; rw [hk b q1]; exact q1, fun f => f.elim q2 fun e => q1 (e ▸ ht), q3⟩
      · subst e
        rw [if_neg Bool.false_ne_true] at q2
        exact q2 σ' m' x' p' g'
    | nx s2 => rw [e] at q; exact q
    | rt d S => rw [e] at q; exact q
    | bk s2 => rw [e] at q; exact q
    | ct s2 => rw [e] at q; exact q
    | stk => rw [e] at q; exact q
theorem fs_nope {st : Stmt} : L2.PS X st (tMS cl W fun _ => .stk) := ⟨fun pins s σ H D I h => by
  obtain ⟨_, _, _, _, _, q⟩ := h
  exact q.elim⟩
theorem fe_nope {a : Expr} : L2.PE X a (tM cl W stkE) := ⟨fun pins s σ H Q I h => by
  obtain ⟨_, _, _, _, _, _, q⟩ := h
  exact q.elim⟩
theorem ft_nope {a : Expr} : L2.PT X a (tMB cl W (tst stkE)) := ⟨fun pins s σ H Q I h => by
  obtain ⟨_, _, _, _, _, _, q⟩ := h
  exact q.elim⟩
end
end Z

set_option Elab.async false
set_option linter.all false
set_option maxRecDepth 100000
set_option maxHeartbeats 4000000
namespace Z
open PySem PySem.Spec PyProof.Rows L2

/-! ### shapes of expressions -/
def isStar : Expr → Bool
  | .Starred .. => true
  | _ => false
theorem star_cons {e : Expr} {es : List Expr} {env : Env} (h : isStar e = false) : starEach (e :: es) env = (false, eval e env) :: starEach es env := by
  cases e <;> first
    | rfl
    | cases h
theorem star_plain {pos : Pos} {env : Env} : ∀ {es : List Expr}, es.all (fun e => !isStar e) = true → (backTo pos (starEach es env)).any (·.1) = false ∧ (backTo pos (starEach es env)).all (fun x => !x.1) = true
  | [], _ => ⟨rfl, rfl⟩
  | e :: es, h => by
    rw [List.all_cons, Bool.and_eq_true] at h
    have h1 : isStar e = false := by simpa using h.1
    obtain ⟨a, b⟩ := star_plain (pos := pos) (env := env) h.2
    rw [star_cons h1]
    exact ⟨a, b⟩
def notSuper : Expr → Bool
  | .Call (.Name ..) [] [] _ => false
  | _ => true
theorem base_of {o : Expr} {m : Str} {env : Env} (h : notSuper o = true) : attributeBase o m env (eval o env) = eval o env := by
  unfold attributeBase
  split
  · cases h
  · rfl
/-- its truth is its value's -/
def plainTest : Expr → Bool
  | .UnaryOp .Not .. => false
  | .BoolOp .. => false
  | .IfExp .. => false
  | .Compare .. => false
  | _ => true
theorem test_of {e : Expr} {env : Env} (h : plainTest e = true) : ∀ whole, isTrue e env whole = (do let v ← whole; standAt e.pos; holding [v] (truthy v)) := fun whole => by
  cases e with
  | BoolOp => cases h
  | IfExp => cases h
  | Compare => cases h
  | UnaryOp op x p =>
    cases op with
    | Not => cases h
    | _ => rfl
  | _ => rfl
def isComp : Expr → Bool
  | .ListComp .. => true
  | .SetComp .. => true
  | .DictComp .. => true
  | _ => false
theorem sw_no {v : Expr} {t : Option Expr} {l : Nat} {env : Env} (h : isComp v = false) : swapsWith v t l env = pure false := by
  cases v <;> first
    | rfl
    | cases h
theorem sws_no {v : Expr} {ts : List Expr} {l : Nat} {env : Env} (h : isComp v = false) : swapsWithSole ts v l env = pure false := by
  match ts with
  | [] => rfl
  | [t] => exact sw_no h
  | _ :: _ :: _ => rfl
def plainIx : Expr → Bool
  | .Slice .. => false
  | _ => true
theorem ix_of {b : Expr} (h : plainIx b = true) : PlainIx b := fun o i => by
  cases b <;> first
    | rfl
    | cases h
def isSetE : Expr → Bool
  | .Set .. => true
  | _ => false
theorem fold_of {e : Expr} {env : Env} (h : isSetE e = false) : ∀ x, foldedSetIterable e env x = pure x := fun x => by
  cases e <;> first
    | rfl
    | cases h
theorem meth_tree {X : Cx} {o : Expr} {mn : Str} {apos pos : Pos} {es : List Expr} {kws : List Keyword} (hb : attributeBase o mn X.env (eval o X.env) = eval o X.env) (hl : (apos.endLine == pos.line) = true)
    (hf : methodCallForm (es.length + kws.length) (backTo pos (starEach es X.env)) (backToKw pos (keywordEach kws X.env)) = true) : MethTree X o mn apos pos es kws := by
  refine ⟨(do return (← importBound o X.env).getD true), ?_⟩
  show (do
    let ov ← attributeBase o mn X.env (eval o X.env)
    standAt apos.atName
    methodCall o mn apos pos X.env ov (es.length + kws.length) (backTo pos (starEach es X.env)) (backToKw pos (keywordEach kws X.env))) = _
  rw [hb]
  unfold methodCall calleeOf methodCallPos
  rw [hf]
  simp only [if_true, Bool.not_true, Bool.false_or, hl, pure_bind]
/-! ### the tables -/
/-- what may be called, what the module's names stand for -/
structure Tab where
  /-- class ("" for a def), name, how many values are written, the keywords' names, the defaults that fill up -/
  calls : List (String × String × Nat × List String × List D)
  glbs : List String
  frees : List String
  clss : List String
  excs : List String
mutual
def dSame : D → D → Bool
  | .non, .non => true
  | .bl a, .bl b => a == b
  | .int a, .int b => a == b
  | .str a, .str b => a == b
  | .tup a, .tup b => dSames a b
  | _, _ => false
def dSames : List D → List D → Bool
  | [], [] => true
  | a :: as, b :: bs => dSame a b && dSames as bs
  | _, _ => false
end
mutual
theorem dSame_eq : ∀ (a b : D), dSame a b = true → a = b
  | .non, .non, _ => rfl
  | .bl a, .bl b, h => by rw [show a = b from eq_of_beq h]
  | .int a, .int b, h => by rw [show a = b from eq_of_beq h]
  | .str a, .str b, h => by rw [show a = b from eq_of_beq h]
  | .tup a, .tup b, h => by rw [dSames_eq a b h]
  | .non, .bl _, h | .non, .int _, h | .non, .str _, h | .non, .tup _, h | .non, .lst _, h | .non, .dic _, h | .non, .obj _, h | .non, .exc _, h | .non, .scr _, h => by cases h
  | .bl _, .non, h | .bl _, .int _, h | .bl _, .str _, h | .bl _, .tup _, h | .bl _, .lst _, h | .bl _, .dic _, h | .bl _, .obj _, h | .bl _, .exc _, h | .bl _, .scr _, h => by cases h
  | .int _, .non, h | .int _, .bl _, h | .int _, .str _, h | .int _, .tup _, h | .int _, .lst _, h | .int _, .dic _, h | .int _, .obj _, h | .int _, .exc _, h | .int _, .scr _, h => by cases h
  | .str _, .non, h | .str _, .bl _, h | .str _, .int _, h | .str _, .tup _, h | .str _, .lst _, h | .str _, .dic _, h | .str _, .obj _, h | .str _, .exc _, h | .str _, .scr _, h => by cases h
  | .tup _, .non, h | .tup _, .bl _, h | .tup _, .int _, h | .tup _, .str _, h | .tup _, .lst _, h | .tup _, .dic _, h | .tup _, .obj _, h | .tup _, .exc _, h | .tup _, .scr _, h => by cases h
  | .lst _, _, h => by cases h
  | .dic _, _, h => by cases h
  | .obj _, _, h => by cases h
  | .exc _, _, h => by cases h
  | .scr _, _, h => by cases h
theorem dSames_eq : ∀ (a b : List D), dSames a b = true → a = b
  | [], [], _ => rfl
  | a :: as, b :: bs, h => by
    have h2 : (dSame a b && dSames as bs) = true := h
    rw [Bool.and_eq_true] at h2
    rw [dSame_eq a b h2.1, dSames_eq as bs h2.2]
  | [], _ :: _, h => by cases h
  | _ :: _, [], h => by cases h
end
def Tab.has (T : Tab) (c f : String) (n : Nat) (ks : List String) (dfl : List D) : Bool := T.calls.any fun q => q.1 == c && (q.2.1 == f && (q.2.2.1 == n && (q.2.2.2.1 == ks && dSames q.2.2.2.2 dfl)))
theorem Tab.has_mem {T : Tab} {c f : String} {n : Nat} {ks : List String} {dfl : List D} (h : T.has c f n ks dfl = true) : (c, f, n, ks, dfl) ∈ T.calls := by
  obtain ⟨q, hq, e⟩ := List.any_eq_true.mp h
  obtain ⟨a, b, d, k, dd⟩ := q
  simp only [Bool.and_eq_true, beq_iff_eq] at e
  obtain ⟨rfl, rfl, rfl, rfl, e5⟩ := e
  rw [← dSames_eq _ _ e5]
  exact hq
/-- where a piece of text stands: the slots' names, the scope, in a block, in an except suite -/
structure Wh where
  N : List Str
  sc : Scope
  blk : Option Scope
  hot : Bool
def Wh.vis (c : Wh) (x : Str) : Bool := match c.sc.names.lookup x with
  | some .local => true
  | some .cell => true
  | some .free => true
  | _ => false
def Wh.loc (c : Wh) (x : Str) : Bool := match c.sc.names.lookup x with
  | some .local => true
  | some .cell => (match c.blk with
    | none => true
    | some s => decide (s.names.lookup x = some .cell))
  | _ => false
def Wh.gl (c : Wh) (x : Str) : Bool := match c.sc.names.lookup x with
  | some .globalImplicit => true
  | _ => false
def noDbg (x : Str) : Bool := !(x == ("__debug__" : Str)) && !(x == ("__classdict__" : Str))
def cstB : D → Const → Bool
  | .non, .none => true
  | .bl a, .bool b => a == b
  | .int a, .int b => a == b
  | .str a, .str b => decide (b = ⟨a.toArray⟩)
  | _, _ => false
/-- a name at slot i -/
def Wh.slot (c : Wh) (i : Nat) (x : Str) : Bool := decide (c.N[i]? = some x)
def Es.len : Es → Nat
  | .nil => 0
  | .cons _ es => es.len + 1
def tgOk (c : Wh) : List Nat → List Expr → Bool
  | [], [] => true
  | i :: is, .Name x _ :: es => c.slot i x && (c.loc x && tgOk c is es)
  | _, _ => false
/-- a target of one name, or of several -/
def tgtOk (c : Wh) : List Nat → Expr → Bool
  | [i], .Name x _ => c.slot i x && c.loc x
  | is, .Tuple es _ _ => !c.hot && (decide (is.length ≠ 1) && tgOk c is es)
  | _, _ => false
def Wh.inner (c : Wh) (scope : Scope) : Wh := ⟨c.N, relS scope c.sc, some scope, c.hot⟩
def mutOk (t m : String) : Bool := t == "list" && (m == "append" || m == "extend" || m == "pop" || m == "popAt")
def mutNm (m : String) : String := if m = "popAt" then "pop" else m
end Z

set_option Elab.async false
set_option linter.all false
set_option maxRecDepth 100000
set_option maxHeartbeats 4000000
namespace Z
open PySem PySem.Spec PyProof.Rows L2

def biNames : List String := ["len", "all", "any", "str", "int", "tuple", "list", "max", "min", "sum", "sorted"]
def bmNames : List (String × String) := [("str", "join"), ("str", "count"), ("list", "count"), ("list", "index"), ("str", "find"), ("str", "index"), ("str", "startswith")]
/-- what a type's name stands for in isinstance -/
def tyRef (T : Tab) (t : String) : Bool := (tyNames.contains t && (T.frees.contains t && t != "NoneType")) || (!tyNames.contains t && T.clss.contains t)
def ownP (c : Wh) (own : List Nat) : List (Str × Nat) := own.map fun i => (c.N.getD i Str.empty, i)
def isTup : Expr → Bool
  | .Tuple .. => true
  | _ => false
/-- the names of defs that may be called with n values -/
def chkNs (T : Tab) (c : Wh) (n : Nat) : List String → List Expr → Bool
  | [], [] => true
  | f :: fs, .Name x _ :: es => decide (x = Str.ofString f) && (c.gl x && (noDbg x && (T.has "" f n [] [] && chkNs T c n fs es)))
  | _, _ => false
mutual
def chkE (T : Tab) (c : Wh) : E → Expr → Bool
  | .var i, a => (match a with
    | .Name x _ => c.slot i x && (c.vis x && noDbg x)
    | _ => false)
  | .cst d, a => (match a with
    | .Constant k _ _ => cstB d k
    | _ => false)
  | .glb g, a => (match a with
    | .Name x _ => decide (x = Str.ofString g) && (c.gl x && (noDbg x && T.glbs.contains g))
    | _ => false)
  | .bin op l r, a => (match a with
    | .BinOp x op' y _ => decide (op = op') && (chkE T c l x && chkE T c r y)
    | _ => false)
  | .neg e, a => (match a with
    | .UnaryOp .USub x _ => chkE T c e x
    | _ => false)
  | .nt e, a => (match a with
    | .UnaryOp .Not x _ => chkE T c e x
    | _ => false)
  | .cmp op l r, a => !c.hot && (match a with
    | .Compare x [op'] [y] _ => decide (op = op') && (!behindInMarks op y && (chkE T c l x && chkE T c r y))
    | _ => false)
  | .chain o1 o2 l m r, a => !c.hot && (match a with
    | .Compare x [p1, p2] [y, z] _ => decide (o1 = p1) && (decide (o2 = p2) && (!lastMarks [o1, o2] [y, z] && (chkE T c l x && (chkE T c m y && chkE T c r z))))
    | _ => false)
  | .and es, a => (match a with
    | .BoolOp .And xs _ => chkA T c es xs
    | _ => false)
  | .or es, a => (match a with
    | .BoolOp .Or xs _ => chkA T c es xs
    | _ => false)
  | .ife t l r, a => (match a with
    | .IfExp z x y _ => chkE T c t z && (chkE T c l x && chkE T c r y)
    | _ => false)
  | .tup es, a => (match a with
    | .Tuple xs _ _ => chkEs T c es xs
    | _ => false)
  | .lst es, a => (match a with
    | .List xs _ => chkEs T c es xs
    | _ => false)
  | .dsp _ _, _ => false
  | .lenO o k, a => !c.hot && (match a with
    | .Call (.Name x _) [y] [] _ => decide (x = Str.ofString "len") && (c.gl x && (T.frees.contains "len" && (k != "" && (T.has k "__len__" 0 [] [] && (!isStar y && chkE T c o y)))))
    | _ => false)
  | .sel fs i es, a => !c.hot && (match a with
    | .Call (.Subscript (.List ns _) ix _) (y :: ys) [] _ => plainIx ix && (decide (fs.length < 1000) && (chkNs T c es.len fs ns && (chkE T c i ix && chkEs T c es (y :: ys))))
    | _ => false)
  | .idx l r, a => !c.hot && (match a with
    | .Subscript x y _ => plainIx y && (chkE T c l x && chkE T c r y)
    | _ => false)
  | .slc l lo hi, a => (match a with
    | .Subscript x (.Slice lo' hi' none _) _ => chkE T c l x && (chkEo T c lo lo' && chkEo T c hi hi')
    | _ => false)
  | .rev l, a => (match a with
    | .Subscript x (.Slice none none (some (.UnaryOp .USub (.Constant (.int 1) _ _) _)) _) _ => chkE T c l x
    | _ => false)
  | .call f es kw ks dfl, a => !c.hot && (match a with
    | .Call (.Name x _) xs kws _ => decide (x = Str.ofString f) && (c.gl x && (noDbg x && (T.has "" f es.len kw dfl && (chkEs T c es xs && chkKw T c kw ks kws))))
    | _ => false)
  | .mk k es kw ks dfl, a => !c.hot && (match a with
    | .Call (.Name x _) xs kws _ => decide (x = Str.ofString k) && (c.gl x && (noDbg x && (k != "" && (T.clss.contains k && (T.has k "__init__" es.len kw dfl && (chkEs T c es xs && chkKw T c kw ks kws))))))
    | _ => false)
  | .meth o k m es kw ks dfl, a => !c.hot && (match a with
    | .Call (.Attribute y m' apos) xs kws pos => decide (m' = Str.ofString m) && (notSuper y && ((apos.endLine == pos.line) && (k != "" && (m != "__init__" && (T.has k m es.len kw dfl && (decide (xs.length + kws.length < 29) && (chkE T c o y && (chkEs T c es xs && chkKw T c kw ks kws))))))))
    | _ => false)
  | .bi f es, a => !c.hot && (match a with
    | .Call (.Name x _) (y :: ys) [] _ => decide (x = Str.ofString f) && (c.gl x && (biNames.contains f && (T.frees.contains f && chkEs T c es (y :: ys))))
    | _ => false)
  | .bm o t m es, a => !c.hot && (match a with
    | .Call (.Attribute y m' apos) (z :: zs) [] pos => decide (m' = Str.ofString m) && (bmNames.contains (t, m) && (notSuper y && ((apos.endLine == pos.line) && (decide (zs.length < 28) && (chkE T c o y && chkEs T c es (z :: zs))))))
    | _ => false)
  | .isi e t, a => (match a with
    | .Call (.Name x _) [y, .Name z _] [] _ => decide (x = Str.ofString "isinstance") && (c.gl x && (T.frees.contains "isinstance" && (decide (z = Str.ofString t) && (c.gl z && (noDbg z && (tyRef T t && (!isStar y && chkE T c e y)))))))
    | _ => false)
  | .mut o t m es, a => mutOk t m && (match a with
    | .Call (.Attribute y m' apos) zs [] pos => decide (m' = Str.ofString (mutNm m)) && (notSuper y && ((apos.endLine == pos.line) && (decide (zs.length < 28) && ((if m = "pop" then decide (zs.length = 0) else decide (zs.length ≠ 0)) && (chkE T c o y && chkEs T c es zs)))))
    | _ => false)
  | .fld o f, a => (match a with
    | .Attribute y f' _ => decide (f' = Str.ofString f) && (notSuper y && chkE T c o y)
    | _ => false)
  | .comp el tg it ifs own, a => !c.hot && (match a with
    | .ListComp x [⟨tgx, itx, ifsx, as⟩] scope _ => decide (as = 0) && (blkC c.N c.sc scope (ownP c own) && (decide own.Nodup && (own.all (fun i => decide (i < c.N.length)) && (tg.all (fun i => own.contains i) && (tgtOk (c.inner scope) tg tgx && (!isSetE itx &&
        (chkIt T c (isTup tgx) it itx && (chkE T (c.inner scope) el x && chkTs T (c.inner scope) ifs ifsx))))))))
    | _ => false)
  | .dcomp ek ev tg it ifs own, a => !c.hot && (match a with
    | .DictComp x y [⟨tgx, itx, ifsx, as⟩] scope _ => decide (as = 0) && (blkC c.N c.sc scope (ownP c own) && (decide own.Nodup && (own.all (fun i => decide (i < c.N.length)) && (tg.all (fun i => own.contains i) && (tgtOk (c.inner scope) tg tgx && (!isSetE itx &&
        (chkIt T c (isTup tgx) it itx && (chkE T (c.inner scope) ek x && (chkE T (c.inner scope) ev y && chkTs T (c.inner scope) ifs ifsx)))))))))
    | _ => false)
  | .brg1 f e, a => !c.hot && (match a with
    | .Call (.Name x _) [.Call (.Name z _) [y] [] _] [] _ => decide (x = Str.ofString f) && (c.gl x && (rgNames.contains f && (T.frees.contains f && (decide (z = Str.ofString "range") && (c.gl z && (T.frees.contains "range" && (!isStar y && chkE T c e y)))))))
    | _ => false)
  | .brg2 f e e2, a => !c.hot && (match a with
    | .Call (.Name x _) [.Call (.Name z _) [y, y2] [] _] [] _ => decide (x = Str.ofString f) && (c.gl x && (rgNames.contains f && (T.frees.contains f && (decide (z = Str.ofString "range") && (c.gl z && (T.frees.contains "range" && (!isStar y && (!isStar y2 && (chkE T c e y && chkE T c e2 y2)))))))))
    | _ => false)
  | .bst f e, a => !c.hot && (match a with
    | .Call (.Name x _) [.Call (.Name z _) [y] [] _] [] _ => decide (x = Str.ofString f) && (c.gl x && (stNames.contains f && (T.frees.contains f && (decide (z = Str.ofString "set") && (c.gl z && (T.frees.contains "set" && (!isStar y && chkE T c e y)))))))
    | _ => false)
def chkEs (T : Tab) (c : Wh) : Es → List Expr → Bool
  | .nil, xs => (match xs with
    | [] => true
    | _ => false)
  | .cons e es, xs => (match xs with
    | x :: xs => !isStar x && (chkE T c e x && chkEs T c es xs)
    | _ => false)
/-- the parts of an and, an or -/
def chkA (T : Tab) (c : Wh) : Es → List Expr → Bool
  | .nil, _ => false
  | .cons e es, xs => (match xs with
    | x :: xs => chkE T c e x && (match es, xs with
      | .nil, [] => true
      | .nil, _ :: _ => false
      | es, xs => chkA T c es xs)
    | _ => false)
def chkTs (T : Tab) (c : Wh) : Es → List Expr → Bool
  | .nil, xs => (match xs with
    | [] => true
    | _ => false)
  | .cons e es, xs => (match es, xs with
    | .nil, [x] => chkE T c e x
    | _, _ => false)
def chkKw (T : Tab) (c : Wh) : List String → Es → List Keyword → Bool
  | kw, .nil, kws => (match kw, kws with
    | [], [] => true
    | _, _ => false)
  | kw, .cons e es, kws => (match kw, kws with
    | k :: kw, ⟨some n, v, _⟩ :: kws => decide (n = Str.ofString k) && (chkE T c e v && chkKw T c kw es kws)
    | _, _ => false)
def chkEo (T : Tab) (c : Wh) : Eo → Option Expr → Bool
  | .no, x => (match x with
    | none => true
    | _ => false)
  | .so e, x => (match x with
    | some x => chkE T c e x
    | _ => false)
def chkIt (T : Tab) (c : Wh) (tp : Bool) : It → Expr → Bool
  | .seq e, a => chkE T c e a
  | .rng es, a => (match a with
    | .Call (.Name x _) xs [] _ => decide (x = Str.ofString "range") && (c.gl x && (T.frees.contains "range" && (decide (0 < xs.length ∧ xs.length < 4) && chkEs T c es xs)))
    | _ => false)
  | .enu e, a => tp && (match a with
    | .Call (.Name x _) [y] [] _ => decide (x = Str.ofString "enumerate") && (c.gl x && (T.frees.contains "enumerate" && (!isStar y && chkE T c e y)))
    | _ => false)
  | .zip l r, a => tp && (match a with
    | .Call (.Name x _) [y, z] [] _ => decide (x = Str.ofString "zip") && (c.gl x && (T.frees.contains "zip" && (!isStar y && (!isStar z && (chkE T c l y && chkE T c r z)))))
    | _ => false)
  | .rev e, a => (match a with
    | .Call (.Name x _) [y] [] _ => decide (x = Str.ofString "reversed") && (c.gl x && (T.frees.contains "reversed" && (!isStar y && chkE T c e y)))
    | _ => false)
end
/-! ### what stands around a piece of text -/
structure GamOk (P : Program) (w : World) (K : PySem.W.Frag) (mg : Str → Option Value) (base : Heap) (T : Tab) (cl : String → Addr) (Γ : Gam) (L : Nat) : Prop where
  fld : FldF K cl Γ.fld
  sub : SubF K cl Γ.sub
  exm : ExmF K cl Γ.exm
  frees : ∀ x ∈ T.frees, mg (Str.ofString x) = none
  glbs : ∀ x ∈ T.glbs, ∃ u v d, mg (Str.ofString x) = some u ∧ RelV v u ∧ Γ.gc x = some d ∧ ∀ m, Rep m d v
  clss : ∀ c ∈ T.clss, mg (Str.ofString c) = some (.ref (cl c))
  excs : ∀ c ∈ T.excs, (∃ B initId newId bmB, ExcBaseFacts B newId initId bmB ∧ PySem.W.excIn K (cl c) bmB newId = true) ∧ mg (Str.ofString c) = some (.ref (cl c)) ∧ PySem.W.keepIn K (.ref (cl c)) = true ∧
    PySem.W.subIn K (.ref (cl c)) (.type "BaseException") = some true ∧ PySem.W.typeIn K (.ref (cl c)) = some (.type "type")
  fns : ∀ c f n ks dfl, (c, f, n, ks, dfl) ∈ T.calls → ∃ (a : Addr) (fd : FuncData) (ps : List Str) (dvs : List V), FnOk P w K mg base (L2.CX P w) L a fd ps (spOf cl (Γ.cf c f) ps.length) ∧ (∀ m, Reps m dfl dvs) ∧
    (if c = "" then 0 else 1) + (n + (ks.length + dvs.length)) = ps.length ∧ KB K fd ps ((if c = "" then 0 else 1) + n) (ks.map Str.ofString) dvs ∧
    (c = "" → mg (Str.ofString f) = some (.ref a) ∧ PySem.W.keepIn K (.ref a) = true) ∧ (c ≠ "" → f = "__init__" → Mk K (cl c) a) ∧ (c ≠ "" → f ≠ "__init__" → Cls K (cl c) ∧ Meth K (cl c) (Str.ofString f) a)
  wh : ∀ f c r, Γ.wh f c = some r → ∃ (fa : Addr) (fdat : FuncData) (prm : List Str), AskW P w K mg base 1 fa fdat prm (cl c) r.1 r.2 ∧ prm.length = 1 ∧ mg (Str.ofString f) = some (.ref fa) ∧ PySem.W.keepIn K (.ref fa) = true ∧ Binds K fdat prm []
structure COk (T : Tab) (cl : String → Addr) (Γ : Gam) (L : Nat) (X : Cx) (W : WX) (c : Wh) : Prop where
  N : X.N = c.N
  nd : c.N.Nodup
  sc : X.env.scope = c.sc
  kind : c.sc.kind = .function
  fn : ∀ x, c.loc x = true → X.fn x = true ∨ c.sc.names.lookup x = some .local
  calm : c.hot = false → X.calm = true ∧ Room (L + 1) X.A
  tk : Takes X W
  po : PassesOwn (model X.prog X.w) X.A X.env X.xe
  top : c.blk = none → X.stack = X.env :: X.outer ∧ X.env.frame = some X.env.locals
  g : GamOk X.prog X.w X.K X.mg X.base T cl Γ L
section
variable {T : Tab} {cl : String → Addr} {Γ : Gam} {L : Nat} {X : Cx} {W : WX} {c : Wh}
theorem COk.gl (o : COk T cl Γ L X W c) {x : Str} (h : c.gl x = true) : Gl X x := by
  show X.env.scope.names.lookup x = _
  rw [o.sc]
  unfold Wh.gl at h
  split at h
  · assumption
  · cases h
theorem COk.vis (o : COk T cl Γ L X W c) {x : Str} (h : c.vis x = true) : Vis X.env.scope x := by
  rw [o.sc]
  unfold Wh.vis at h
  split at h
  · exact .inl (by assumption)
  · exact .inr (.inl (by assumption))
  · exact .inr (.inr (by assumption))
  · cases h
theorem COk.loc (o : COk T cl Γ L X W c) {x : Str} (h : c.loc x = true) : Loc X.env.scope x := by
  rw [o.sc]
  unfold Wh.loc at h
  split at h
  · exact .inl (by assumption)
  · exact .inr (by assumption)
  · cases h
theorem COk.slot (o : COk T cl Γ L X W c) {i : Nat} {x : Str} (h : c.slot i x = true) : X.N[i]? = some x := by
  rw [o.N]
  exact of_decide_eq_true h
theorem dbg_of {x : Str} (h : noDbg x = true) : (x == ("__debug__" : Str)) = false ∧ (x == ("__classdict__" : Str)) = false := by
  unfold noDbg at h
  simp only [Bool.and_eq_true, Bool.not_eq_true'] at h
  exact h
theorem COk.units (o : COk T cl Γ L X W c) (h : c.hot = false) : X.A.units + 64 < cLine := (o.calm h).2.units
theorem COk.room (o : COk T cl Γ L X W c) (h : c.hot = false) : Room L X.A := (o.calm h).2.mono (Nat.le_succ L)
/-- in a comprehension -/
theorem COk.inner (o : COk T cl Γ L X W c) {scope : Scope} {own : List Nat} (hk : scope.kind = .function) (s : Shared) (H : Hp) (C : Addr) (ce : List (Str × Addr)) (fp : List Addr) : COk T cl Γ L (X.blk s H scope (compEnvC scope ce C X.env) fp) noW (c.inner scope) := by
  have hsc : (compEnvC scope ce C X.env).scope = relS scope c.sc := by
    show relS scope X.env.scope = _
    rw [o.sc]
  refine ⟨o.N, o.nd, hsc, hk, fun x hx => ?_, o.calm, fun u s' h => ?_, fun e s' h => h.elim, (fun z => nomatch z), o.g⟩
  · unfold Wh.loc at hx
    split at hx
    · exact .inr (by assumption)
    · refine .inl ?_
      show (scope.names.lookup x == some .cell) = true
      have : scope.names.lookup x = some .cell := of_decide_eq_true hx
      rw [this]
      rfl
    · cases hx
  · obtain ⟨a, B, sI, pins, σ, H', cls, d, _, _, _, _, _, _, _, _, z⟩ := h
    exact z.elim
end
end Z

set_option Elab.async false
set_option linter.all false
set_option maxRecDepth 100000
set_option maxHeartbeats 8000000
namespace Z
open PySem PySem.Spec PyProof.Rows L2

theorem evEs_cnt {Γ : Gam} {bw : Bool} : ∀ (es : Es), Cnt (evEs Γ bw es) es.len
  | .nil => fun s rs s' h => by cases h; rfl
  | .cons e es => fun s rs s' h => by
    change (evE Γ bw e s).bind (fun x s1 => (evEs Γ bw es s1).bind fun xs s2 => .ok (x :: xs) s2) = .ok rs s' at h
    cases h1 : evE Γ bw e s with
    | ok x s1 =>
      rw [h1] at h
      change (evEs Γ bw es s1).bind (fun xs s2 => .ok (x :: xs) s2) = .ok rs s' at h
      cases h2 : evEs Γ bw es s1 with
      | ok xs s2 =>
        rw [h2] at h
        cases h
        exact congrArg Nat.succ (evEs_cnt es s1 xs s' h2)
      | exc c s2 => rw [h2] at h; cases h
      | stk => rw [h2] at h; cases h
    | exc c s1 => rw [h1] at h; cases h
    | stk => rw [h1] at h; cases h
section
variable {X : Cx} {cl : String → Addr} {W : WX} {a b c : Expr} {ea eb : Ev} {cc : EvB} {pos : Pos}
/-- a if c else b, as a test -/
theorem ft_if (hc : L2.PT X c (tMB cl W cc)) (ha : L2.PT X a (tMB cl W (tst ea))) (hb : L2.PT X b (tMB cl W (tst eb))) : L2.PT X (.IfExp c a b pos) (tMB cl W (tst (ite3 cc ea eb))) := by
  refine ⟨fun pins s σ H Q I h => ?_⟩
  obtain ⟨s0, m, G, T, rfl, g, q⟩ := h
  have e : tst (ite3 cc ea eb) s0 = (cc s0).bind fun k s1 => if k = true then tst ea s1 else tst eb s1 := by
    show ((cc s0).bind fun k s1 => if k = true then ea s1 else eb s1).bind toBe = _
    rw [bind_assoc']
    congr 1
    funext k s1
    split <;> rfl
  rw [e] at q
  show wpAny _ _ (isTrue c X.env (eval c X.env) >>= fun k => if k = true then isTrue a X.env (eval a X.env) else isTrue b X.env (eval b X.env)) _ _ s
  refine wpAny_bind (thn (hc.run pins s σ m.H (fun k H1 => if k = true then tMB cl W (tst ea) σ H1 Q else tMB cl W (tst eb) σ H1 Q) I ?_) fun k s1 hh => ?_)
  · refine tMB_then want_B g (List.Sublist.refl _) (Ext.refl _) Prot.refl q fun k s2 m2 x2 p2 g2 q2 => ?_
    cases k with
    | true => exact ite_tt ⟨s2, m2, G, T, rfl, g2, okB.on (by simpa using q2) x2 p2⟩
    | false => exact ite_ff ⟨s2, m2, G, T, rfl, g2, okB.on (by simpa using q2) x2 p2⟩
  · obtain ⟨H1, I1, q1⟩ := hh
    cases k with
    | true =>
      rw [if_pos rfl] at q1 ⊢
      exact ha.run pins s1 σ H1 Q I1 q1
    | false =>
      rw [if_neg Bool.false_ne_true] at q1 ⊢
      exact hb.run pins s1 σ H1 Q I1 q1
theorem fin_val {e : E} {Γ : Gam} (h : ∀ bw, L2.PE X a (tM cl W (evE Γ bw e))) (hp : plainTest a = true) : (∀ bw, L2.PE X a (tM cl W (evE Γ bw e))) ∧ ∀ bw, L2.PT X a (tMB cl W (tst (evE Γ bw e))) := ⟨h, fun bw => ft_val (h bw) (test_of hp)⟩
end
theorem biOk_ne {f : String} (h : biNames.contains f = true) : biD f ≠ fun _ => none := by
  have : f ∈ biNames := by simpa using h
  simp only [biNames, List.mem_cons, List.not_mem_nil, or_false] at this
  intro z
  rcases this with rfl | rfl | rfl | rfl | rfl | rfl | rfl | rfl | rfl | rfl | rfl
  · exact absurd (congrFun z [.lst []]) (by simp [biD, lenF])
  · exact absurd (congrFun z [.lst []]) (by simp [biD, allF, boolsOf])
  · exact absurd (congrFun z [.lst []]) (by simp [biD, anyF, boolsOf])
  · exact absurd (congrFun z [.int 0]) (by simp [biD, strF])
  · exact absurd (congrFun z [.int 0]) (by simp [biD, intF])
  · exact absurd (congrFun z [.lst []]) (by simp [biD, tupleF])
  · exact absurd (congrFun z [.lst []]) (by simp [biD, listF])
  · exact absurd (congrFun z [.int 0, .int 0]) (by simp [biD, maxF])
  · exact absurd (congrFun z [.int 0, .int 0]) (by simp [biD, minF])
  · exact absurd (congrFun z [.lst []]) (by simp [biD, sumF, intsOf])
  · exact absurd (congrFun z [.lst []]) (by simp [biD, sortedF, sortOk, alikeD, toPs, D.plains])
theorem bmOk_ne {t m : String} (h : bmNames.contains (t, m) = true) : bmD t m ≠ fun _ _ => none := by
  have : (t, m) ∈ bmNames := by simpa using h
  simp only [bmNames, List.mem_cons, List.not_mem_nil, or_false, Prod.mk.injEq] at this
  intro z
  rcases this with ⟨rfl, rfl⟩ | ⟨rfl, rfl⟩ | ⟨rfl, rfl⟩ | ⟨rfl, rfl⟩ | ⟨rfl, rfl⟩ | ⟨rfl, rfl⟩ | ⟨rfl, rfl⟩
  · exact absurd (congrFun (congrFun z (.str [])) [.lst []]) (by simp [bmD, joinF, strsOf, sumLen])
  · exact absurd (congrFun (congrFun z (.str [])) [.str [0]]) (by simp [bmD, countF])
  · exact absurd (congrFun (congrFun z (.lst [])) [.int 0]) (by simp [bmD, lcountF, D.plains, D.plain])
  · exact absurd (congrFun (congrFun z (.lst [.int 0])) [.int 0]) (by simp [bmD, lindexF, D.plains, D.plain, D.eqv])
  · exact absurd (congrFun (congrFun z (.str [])) [.str [0]]) (by simp [bmD, sfindF])
  · exact absurd (congrFun (congrFun z (.str [0])) [.str [0]]) (by simp [bmD, sindexF])
  · exact absurd (congrFun (congrFun z (.str [])) [.str []]) (by simp [bmD, sstartF])
theorem cst_rep {d : D} {k : Const} (h : cstB d k = true) {X : Cx} {j : Nat} {pos : Pos} : ∃ v, L2.PE X (.Constant k j pos) (tC v) ∧ ∀ m, Rep m d v := by
  unfold cstB at h
  split at h
  · exact ⟨_, pe_non, fun m => .non⟩
  · rw [← eq_of_beq h]; exact ⟨_, pe_bl, fun m => .bl _⟩
  · rw [← eq_of_beq h]; exact ⟨_, pe_int, fun m => .int _⟩
  · rw [of_decide_eq_true h]; exact ⟨_, pe_str, fun m => .str _⟩
  · cases h
theorem boot_ty {t : String} (h : tyNames.contains t = true) (hn : t ≠ "NoneType") : bootBuiltins (Str.ofString t) = some (.type t) ∧ Str.ofString t ≠ "__name__" := by
  have : t ∈ tyNames := by simpa using h
  simp only [tyNames, List.mem_cons, List.not_mem_nil, or_false] at this
  rcases this with rfl | rfl | rfl | rfl | rfl | rfl | rfl
  · exact absurd rfl hn
  all_goals exact ⟨by decide +kernel, by decide⟩
end Z

set_option Elab.async false
set_option linter.all false
set_option maxRecDepth 100000
set_option maxHeartbeats 8000000
namespace Z
open PySem PySem.Spec PyProof.Rows L2

theorem b2 {a b : Bool} (h : (a && b) = true) : a = true ∧ b = true := Bool.and_eq_true_iff.mp h
theorem nt2 {a : Bool} (h : (!a) = true) : a = false := by simpa using h
section
variable {T : Tab} {cl : String → Addr} {Γ : Gam} {L : Nat}
def SE (T : Tab) (cl : String → Addr) (Γ : Gam) (L : Nat) (e : E) : Prop := ∀ {X : Cx} {W : WX} {c : Wh} {a : Expr}, COk T cl Γ L X W c → chkE T c e a = true → (∀ bw, L2.PE X a (tM cl W (evE Γ bw e))) ∧ ∀ bw, L2.PT X a (tMB cl W (tst (evE Γ bw e)))
def SEs (T : Tab) (cl : String → Addr) (Γ : Gam) (L : Nat) (es : Es) : Prop := ∀ {X : Cx} {W : WX} {c : Wh}, COk T cl Γ L X W c →
  (∀ {xs : List Expr}, chkEs T c es xs = true → (∀ bw, L2.PA X xs (tMA cl W (evEs Γ bw es))) ∧ xs.all (fun e => !isStar e) = true ∧ xs.length = es.len) ∧
  (∀ {xs : List Expr} {pos : Pos}, chkA T c es xs = true → ((∀ bw, L2.PE X (.BoolOp .And xs pos) (tM cl W (evA Γ true bw es))) ∧ ∀ bw, L2.PW X (.BoolOp .And xs pos) (tMB cl W (tst (evA Γ true bw es)))) ∧
    (∀ bw, L2.PE X (.BoolOp .Or xs pos) (tM cl W (evA Γ false bw es))) ∧ ∀ bw, L2.PW X (.BoolOp .Or xs pos) (tMB cl W (tst (evA Γ false bw es)))) ∧
  (∀ {xs : List Expr}, chkTs T c es xs = true → PTs X xs (tMB cl W (evTs Γ es))) ∧
  (∀ {kw : List String} {kws : List Keyword}, chkKw T c kw es kws = true → PK X kws (tMA cl W (evEs Γ false es)) ∧ (∀ pos, Kws X kws (kw.map Str.ofString) pos) ∧ kws.length = es.len ∧ kw.length = es.len)
def SEo (T : Tab) (cl : String → Addr) (Γ : Gam) (L : Nat) (e : Eo) : Prop := ∀ {X : Cx} {W : WX} {c : Wh} {x : Option Expr}, COk T cl Γ L X W c → chkEo T c e x = true → L2.PO X x (tMO cl W (evEo Γ e))
def SIt (T : Tab) (cl : String → Addr) (Γ : Gam) (L : Nat) (e : Z.It) : Prop := ∀ {X : Cx} {W : WX} {c : Wh} {a tg : Expr}, COk T cl Γ L X W c → chkIt T c (isTup tg) e a = true → L2.PI X tg a (tI cl W (evIt Γ e))
theorem isTup_of {e : Expr} (h : isTup e = true) : ∃ es k p, e = .Tuple es k p := by
  cases e <;> first
    | exact ⟨_, _, _, rfl⟩
    | cases h
/-- argument lists' marks -/
theorem few_of {X : Cx} {xs : List Expr} {kws : List Keyword} {ks : List Str} {pos : Pos} (h : xs.all (fun e => !isStar e) = true) (k : Kws X kws ks pos) (hl : xs.length + kws.length < 29) :
    methodCallForm (xs.length + kws.length) (backTo pos (starEach xs X.env)) (backToKw pos (keywordEach kws X.env)) = true := by
  unfold methodCallForm
  rw [(star_plain (pos := pos) (env := X.env) h).2, k.all]
  simp only [Bool.true_and, decide_eq_true_eq]
  split <;> omega
theorem star_head {x : Expr} {xs : List Expr} {env : Env} (h : (x :: xs).all (fun e => !isStar e) = true) : starEach (x :: xs) env = (false, eval x env) :: starEach xs env := by
  rw [List.all_cons] at h
  exact star_cons (nt2 (b2 h).1)
theorem star_tail {x : Expr} {xs : List Expr} {env : Env} {pos : Pos} (h : (x :: xs).all (fun e => !isStar e) = true) : (backTo pos (starEach xs env)).any (·.1) = false := by
  rw [List.all_cons] at h
  exact (star_plain (b2 h).2).1
theorem shape_of {X : Cx} {y z : Expr} {zs : List Expr} {m : Str} {apos pos : Pos} (hb : notSuper y = true) (hl : (apos.endLine == pos.line) = true) (hs : (z :: zs).all (fun e => !isStar e) = true) (hn : zs.length < 28) : MethShape X y z zs m apos pos := by
  refine ⟨base_of hb, hl, star_head hs, star_tail hs, ?_⟩
  rw [(star_plain (pos := pos) (env := X.env) hs).2]
  simp only [Bool.true_and, keywordEach, backToKw, List.map_nil, List.all_nil, List.length_cons, List.length_nil, List.isEmpty_nil, if_true, decide_eq_true_eq]
  omega
variable {X : Cx} {W : WX} {c : Wh}
/-- calls of defs -/
theorem s_call {f : String} {es ks : Es} {kw : List String} {dfl : List D} {x : Str} {p pos : Pos} {xs : List Expr} {kws : List Keyword} (o : COk T cl Γ L X W c) (hh : c.hot = false) (hx : x = Str.ofString f) (hg : c.gl x = true) (hd : noDbg x = true) (ht : T.has "" f es.len kw dfl = true)
    (h1 : (∀ bw, L2.PA X xs (tMA cl W (evEs Γ bw es))) ∧ xs.all (fun e => !isStar e) = true ∧ xs.length = es.len) (h2 : PK X kws (tMA cl W (evEs Γ false ks)) ∧ (∀ pos, Kws X kws (kw.map Str.ofString) pos) ∧ kws.length = ks.len ∧ kw.length = ks.len) :
    L2.PE X (.Call (.Name x p) xs kws pos) (tM cl W (callE (Γ.cf "" f) (evEs Γ false es) (evEs Γ false ks) dfl)) := by
  subst hx
  obtain ⟨a, fd, ps, dvs, F, rd, hlen, kb, hf, _, _⟩ := o.g.fns _ _ _ _ _ (Tab.has_mem ht)
  obtain ⟨hm, hk⟩ := hf rfl
  obtain ⟨ha, hst, hxl⟩ := h1
  obtain ⟨hkw, hkk, hkl, hkn⟩ := h2
  have hR := runs_fn (W := W) (fv := []) (fu := []) F (o.room hh) (n := es.len) (ks := kw.map Str.ofString) kb (fun σ => passAt o.tk σ) .nil
  have hn : es.len + ((kw.map Str.ofString).length + dvs.length) = ps.length := by rw [List.length_map]; simpa using hlen
  have hk2 : Cnt (evEs Γ false ks) (kw.map Str.ofString).length := by rw [List.length_map, hkn]; exact evEs_cnt ks
  match xs, ha, hst, hxl with
  | [], ha, _, hxl =>
    refine PE.imp (pe_clN0 hR hk (o.gl hg) hm hkw (hkk pos) (dbg_of hd).1 rfl) fun σ H Q h => ?_
    cases es with
    | cons _ _ => simp [Es.len] at hxl
    | nil => exact nil_A (tCl_of (na := ps.length) (n := 0) (evEs_cnt .nil) hk2 rd hn h)
  | y :: ys, ha, hst, _ => exact PE.imp (pe_clN hR hk (o.gl hg) hm (ha false) hkw (hkk pos) (dbg_of hd).1 (star_head hst) (star_plain hst).1) fun σ H Q h => tCl_of (evEs_cnt es) hk2 rd hn h
theorem s_mk {k : String} {es ks : Es} {kw : List String} {dfl : List D} {x : Str} {p pos : Pos} {xs : List Expr} {kws : List Keyword} (o : COk T cl Γ L X W c) (hh : c.hot = false) (hx : x = Str.ofString k) (hg : c.gl x = true) (hd : noDbg x = true) (hk0 : k ≠ "") (hkc : k ∈ T.clss) (ht : T.has k "__init__" es.len kw dfl = true)
    (h1 : (∀ bw, L2.PA X xs (tMA cl W (evEs Γ bw es))) ∧ xs.all (fun e => !isStar e) = true ∧ xs.length = es.len) (h2 : PK X kws (tMA cl W (evEs Γ false ks)) ∧ (∀ pos, Kws X kws (kw.map Str.ofString) pos) ∧ kws.length = ks.len ∧ kw.length = ks.len) :
    L2.PE X (.Call (.Name x p) xs kws pos) (tM cl W (mkE k (Γ.cf k "__init__") (evEs Γ false es) (evEs Γ false ks) dfl)) := by
  subst hx
  obtain ⟨a, fd, ps, dvs, F, rd, hlen, kb, _, hM, _⟩ := o.g.fns _ _ _ _ _ (Tab.has_mem ht)
  have M := hM hk0 rfl
  have hm := o.g.clss k hkc
  rw [if_neg hk0] at hlen kb
  obtain ⟨ha, hst, hxl⟩ := h1
  obtain ⟨hkw, hkk, hkl, hkn⟩ := h2
  have hR := runs_mk (W := W) M F (o.calm hh).2 (n := es.len) (ks := kw.map Str.ofString) (by rw [Nat.add_comm]; exact kb) (fun σ => passAt o.tk σ)
  have hn : 1 + (es.len + ((kw.map Str.ofString).length + dvs.length)) = ps.length := by rw [List.length_map]; exact hlen
  have hk2 : Cnt (evEs Γ false ks) (kw.map Str.ofString).length := by rw [List.length_map, hkn]; exact evEs_cnt ks
  match xs, ha, hst, hxl with
  | [], ha, _, hxl =>
    refine PE.imp (pe_clN0 hR M.kp (o.gl hg) hm hkw (hkk pos) (dbg_of hd).1 rfl) fun σ H Q h => ?_
    cases es with
    | cons _ _ => simp [Es.len] at hxl
    | nil => exact nil_A (tMk_of (na := ps.length) (n := 0) (evEs_cnt .nil) hk2 rd hn h)
  | y :: ys, ha, hst, _ => exact PE.imp (pe_clN hR M.kp (o.gl hg) hm (ha false) hkw (hkk pos) (dbg_of hd).1 (star_head hst) (star_plain hst).1) fun σ H Q h => tMk_of (evEs_cnt es) hk2 rd hn h
theorem tM_mono {ev : Ev} {σ : L2.St} {H : Hp} {Q Q' : VK} (h : tM cl W ev σ H Q) (k : ∀ v H, Q v H → Q' v H) : tM cl W ev σ H Q' := by
  obtain ⟨s, m, G, T', e, g, q⟩ := h
  refine ⟨s, m, G, T', e, g, ?_⟩
  cases hx : ev s with
  | ok r s' => rw [hx] at q; exact fun v m' x p g => k _ _ (q v m' x p g)
  | exc c s' => rw [hx] at q; exact q
  | stk => rw [hx] at q; exact q
theorem s_meth {k m : String} {es ks : Es} {kw : List String} {dfl : List D} {y : Expr} {apos pos : Pos} {xs : List Expr} {kws : List Keyword} {eo : Ev} (o : COk T cl Γ L X W c) (hh : c.hot = false) (hb : notSuper y = true) (hl : (apos.endLine == pos.line) = true) (hk0 : k ≠ "") (hm0 : m ≠ "__init__")
    (ht : T.has k m es.len kw dfl = true) (hfew : xs.length + kws.length < 29) (ho : L2.PE X y (tM cl W eo))
    (h1 : (∀ bw, L2.PA X xs (tMA cl W (evEs Γ bw es))) ∧ xs.all (fun e => !isStar e) = true ∧ xs.length = es.len) (h2 : PK X kws (tMA cl W (evEs Γ false ks)) ∧ (∀ pos, Kws X kws (kw.map Str.ofString) pos) ∧ kws.length = ks.len ∧ kw.length = ks.len) :
    L2.PE X (.Call (.Attribute y (Str.ofString m) apos) xs kws pos) (tM cl W (methE k m (Γ.cf k m) eo (evEs Γ false es) (evEs Γ false ks) dfl)) := by
  obtain ⟨a, fd, ps, dvs, F, rd, hlen, kb, _, _, hM⟩ := o.g.fns _ _ _ _ _ (Tab.has_mem ht)
  obtain ⟨hC, hMe⟩ := hM hk0 hm0
  rw [if_neg hk0] at hlen kb
  obtain ⟨ha, hst, hxl⟩ := h1
  obtain ⟨hkw, hkk, hkl, hkn⟩ := h2
  have hR : ∀ r : Addr, Runs X (.ref a) [.ref r] es.len (kw.map Str.ofString) (fun σ vs zs H Q => spOf cl (Γ.cf k m) ps.length ([V.ref r] ++ (vs ++ (zs ++ dvs))) H Q (WE W σ)) := fun r =>
    runs_fn (W := W) (fv := [.ref r]) (fu := [.ref r]) F (o.room hh) (n := es.len) (ks := kw.map Str.ofString) kb (fun σ => passAt o.tk σ) (.cons rfl .nil)
  have hn : 1 + (es.len + ((kw.map Str.ofString).length + dvs.length)) = ps.length := by rw [List.length_map]; exact hlen
  have hk2 : Cnt (evEs Γ false ks) (kw.map Str.ofString).length := by rw [List.length_map, hkn]; exact evEs_cnt ks
  have tr := meth_tree (X := X) (o := y) (mn := Str.ofString m) (apos := apos) (pos := pos) (es := xs) (kws := kws) (base_of hb) hl (few_of hst (hkk pos) hfew)
  match xs, ha, hst, hxl, tr with
  | [], ha, _, hxl, tr =>
    refine PE.imp (pe_clM0 hR hC hMe ho hkw (hkk pos) rfl tr) fun σ H Q h => ?_
    cases es with
    | cons _ _ => simp [Es.len] at hxl
    | nil =>
      have h3 := tClM_of (c := k) (mn := m) (na := ps.length) (n := 0) (evEs_cnt .nil) hk2 rd hn h
      refine tM_mono h3 fun x H1 hh => ?_
      obtain ⟨a', dx, fs, e1, e2, e3, q⟩ := hh
      exact ⟨a', dx, fs, e1, e2, e3, nil_A q⟩
  | y' :: ys, ha, hst, _, tr => exact PE.imp (pe_clM hR hC hMe ho (ha false) hkw (hkk pos) (star_head hst) (star_plain hst).1 tr) fun σ H Q h => tClM_of (evEs_cnt es) hk2 rd hn h
/-- a built-in's method -/
theorem s_bm {t m : String} {es : Es} {y z : Expr} {zs : List Expr} {apos pos : Pos} {eo : Ev} (o : COk T cl Γ L X W c) (hh : c.hot = false) (hm : bmNames.contains (t, m) = true) (hb : notSuper y = true) (hl : (apos.endLine == pos.line) = true) (hn : zs.length < 28) (ho : L2.PE X y (tM cl W eo))
    (h1 : (∀ bw, L2.PA X (z :: zs) (tMA cl W (evEs Γ bw es))) ∧ (z :: zs).all (fun e => !isStar e) = true ∧ (z :: zs).length = es.len) :
    L2.PE X (.Call (.Attribute y (Str.ofString m) apos) (z :: zs) [] pos) (tM cl W (bmE t (bmD t m) eo (evEs Γ true es))) := by
  obtain ⟨r, hr, hop⟩ := bm_sound (X := X) (o.units hh) t m
  exact fe_bm (fun to ta h3 h4 => hr _ _ _ _ _ _ _ (bmOk_ne hm) (shape_of hb hl h1.2.1 hn) h3 h4) hop ho (h1.1 true)
theorem s_bi {f : String} {es : Es} {y : Expr} {ys : List Expr} {x : Str} {p pos : Pos} (o : COk T cl Γ L X W c) (hh : c.hot = false) (hx : x = Str.ofString f) (hg : c.gl x = true) (hf : biNames.contains f = true) (hfr : f ∈ T.frees)
    (h1 : (∀ bw, L2.PA X (y :: ys) (tMA cl W (evEs Γ bw es))) ∧ (y :: ys).all (fun e => !isStar e) = true ∧ (y :: ys).length = es.len) : L2.PE X (.Call (.Name x p) (y :: ys) [] pos) (tM cl W (biE (biD f) (evEs Γ true es))) := by
  subst hx
  obtain ⟨r, hr, hop⟩ := bi_sound (X := X) (o.calm hh).1 (o.units hh) f
  exact fe_bi (fun t ht => hr _ _ _ _ _ (o.gl hg) (o.g.frees f hfr) (biOk_ne hf) ht (star_head h1.2.1) (star_tail h1.2.1)) hop (h1.1 true)
theorem s_isi {t : String} {y : Expr} {x z : Str} {p p2 pos : Pos} {ea : Ev} (o : COk T cl Γ L X W c) (hx : x = Str.ofString "isinstance") (hg : c.gl x = true) (hf : "isinstance" ∈ T.frees) (hz : z = Str.ofString t) (hgz : c.gl z = true) (hd : noDbg z = true) (ht : tyRef T t = true) (hs : isStar y = false) (hy : L2.PE X y (tM cl W ea)) :
    L2.PE X (.Call (.Name x p) [y, .Name z p2] [] pos) (tM cl W (bnd1 ea fun s d => O ((isiD Γ.sub s.sto t d).map fun b => .val (.bl b)) s)) := by
  subst hx hz
  have key : ∃ cv, ClsV cv (tv cl t) ∧ L2.PE X (.Name (Str.ofString t) p2) (tC cv) := by
    unfold tyRef at ht
    rw [Bool.or_eq_true] at ht
    unfold tv
    rcases ht with h | h
    · obtain ⟨h1, h⟩ := b2 h
      obtain ⟨h2, h3⟩ := b2 h
      have hn : t ≠ "NoneType" := by simpa using h3
      have h1' : t ∈ tyNames := by simpa using h1
      obtain ⟨hb, hnn⟩ := boot_ty h1 hn
      rw [if_pos h1']
      exact ⟨.ty t, .ty t, pe_bltn (o.gl hgz) (o.g.frees t (by simpa using h2)) hb rfl hnn (dbg_of hd).1⟩
    · obtain ⟨h1, h2⟩ := b2 h
      have h1' : t ∉ tyNames := by simpa using h1
      rw [if_neg h1']
      exact ⟨.ref (cl t), .own (cl t), pe_glob (o.gl hgz) (o.g.clss t (by simpa using h2)) rfl (dbg_of hd).1⟩
  obtain ⟨cv, hc, hcv⟩ := key
  exact fe_isi (fun ta h => pe_callB call_isi (o.gl hg) (o.g.frees _ hf) (by decide +kernel) h (by decide) (by decide) (star_cons hs) rfl) o.g.sub hc hy hcv (star_cons hs) rfl
theorem s_mut {t m : String} {es : Es} {y : Expr} {zs : List Expr} {apos pos : Pos} {e : E} (hm : mutOk t m = true) (hb : notSuper y = true) (hl : (apos.endLine == pos.line) = true) (hn : zs.length < 28) (hz : (if m = "pop" then decide (zs.length = 0) else decide (zs.length ≠ 0)) = true) (ho : L2.PE X y (tM cl W (evE Γ true e)))
    (h1 : (∀ bw, L2.PA X zs (tMA cl W (evEs Γ bw es))) ∧ zs.all (fun e => !isStar e) = true ∧ zs.length = es.len) (bw : Bool) :
    L2.PE X (.Call (.Attribute y (Str.ofString (mutNm m)) apos) zs [] pos) (tM cl W (evE Γ bw (.mut e t m es))) := by
  unfold mutOk at hm
  obtain ⟨ht, hm2⟩ := b2 hm
  have ht' : t = "list" := eq_of_beq ht
  subst ht'
  simp only [Bool.or_eq_true, beq_iff_eq] at hm2
  rcases hm2 with ((rfl | rfl) | rfl) | rfl
  · match zs, h1, hz, hn with
    | z :: zs, h1, _, hn =>
      have s := shape_of (X := X) (m := Str.ofString "append") hb hl h1.2.1 (by simpa using Nat.lt_of_succ_lt hn)
      exact fe_mutF (fun to ta a b => pe_bm PySem.F.plainAttrs_list PySem.F.slot_list_append PySem.F.type_list_append mt_append a b s.base s.few s.line s.star s.plain) append_ok ho (h1.1 false)
  · match zs, h1, hz, hn with
    | z :: zs, h1, _, hn =>
      have s := shape_of (X := X) (m := Str.ofString "extend") hb hl h1.2.1 (by simpa using Nat.lt_of_succ_lt hn)
      exact fe_mutR (fun to ta a b => pe_bm PySem.F.plainAttrs_list PySem.F.slot_list_extend PySem.F.type_list_extend mt_extend a b s.base s.few s.line s.star s.plain) extend_ok ho (h1.1 true)
  · match zs, h1, hz with
    | [], h1, _ =>
      cases es with
      | cons _ _ => have := h1.2.2; simp [Es.len] at this
      | nil => exact fe_mut0 (fun to a => pe_bm0 PySem.F.plainAttrs_list PySem.F.slot_list_pop PySem.F.type_list_pop mt_pop a (base_of hb) hl) pop_ok ho
  · match zs, h1, hz, hn with
    | z :: zs, h1, _, hn =>
      have s := shape_of (X := X) (m := Str.ofString "pop") hb hl h1.2.1 (by simpa using Nat.lt_of_succ_lt hn)
      exact fe_mutF (fun to ta a b => pe_bm PySem.F.plainAttrs_list PySem.F.slot_list_pop PySem.F.type_list_pop mt_popAt a b s.base s.few s.line s.star s.plain) popAt_ok ho (h1.1 false)
end
end Z

set_option Elab.async false
set_option linter.all false
set_option maxRecDepth 100000
set_option maxHeartbeats 8000000
namespace Z
open PySem PySem.Spec PyProof.Rows L2

section
variable {T : Tab} {cl : String → Addr} {Γ : Gam} {L : Nat} {X : Cx} {W : WX} {c : Wh}
theorem slot_lt {i : Nat} {x : Str} (h : c.slot i x = true) : i < c.N.length := (List.getElem?_eq_some_iff.mp (of_decide_eq_true h)).1
theorem s_name {i : Nat} {x : Str} {p : Pos} (o : COk T cl Γ L X W c) (h1 : c.slot i x = true) (h2 : c.loc x = true) : L2.PG X (.Name x p) (gName i) :=
  pg_name (by rw [o.N]; exact o.nd) (o.slot h1) (o.loc h2) (by rw [o.sc]; exact o.fn x h2)
theorem s_names (o : COk T cl Γ L X W c) : ∀ {is : List Nat} {es : List Expr}, tgOk c is es = true → L2.PGs X es (gNames is) ∧ (assignEach es X.env).length = is.length ∧ (assignEach es X.env).findIdx? (·.1) = none ∧ ∀ i ∈ is, i < c.N.length
  | [], [], _ => ⟨pgs_nil, rfl, rfl, fun i h => by cases h⟩
  | i :: is, e :: es, h => by
    unfold tgOk at h
    split at h
    · rename_i heq _
      cases heq
    · rename_i heq1 heq2
      cases heq1
      cases heq2
      obtain ⟨h1, h⟩ := b2 h
      obtain ⟨h2, h3⟩ := b2 h
      obtain ⟨q1, q2, q3, q4⟩ := s_names o h3
      refine ⟨pgs_cons (s_name o h1 h2) q1 rfl, congrArg Nat.succ q2, ?_, fun j hj => ?_⟩
      · show List.findIdx? (·.1) ((false, _) :: assignEach _ X.env) = none
        rw [List.findIdx?_cons]
        simp [q3]
      · rcases List.mem_cons.mp hj with rfl | hj
        · exact slot_lt h1
        · exact q4 j hj
    · cases h
  | [], _ :: _, h => by cases h
  | _ :: _, [], h => by cases h
theorem gTgt_many {K : PySem.W.Frag} {is : List Nat} (h : is.length ≠ 1) : gTgt K is = gTup K is.length (gNames is) := by
  unfold gTgt
  split
  · exact absurd rfl h
  · rfl
theorem s_tgt {is : List Nat} {a : Expr} (o : COk T cl Γ L X W c) (h : tgtOk c is a = true) : L2.PG X a (gTgt X.K is) ∧ ∀ i ∈ is, i < c.N.length := by
  unfold tgtOk at h
  split at h
  · rename_i i x p
    obtain ⟨h1, h2⟩ := b2 h
    exact ⟨s_name o h1 h2, fun j hj => by simp only [List.mem_singleton] at hj; subst hj; exact slot_lt h1⟩
  · obtain ⟨h0, h⟩ := b2 h
    obtain ⟨h1, h2⟩ := b2 h
    obtain ⟨q1, q2, q3, q4⟩ := s_names o h2
    rw [gTgt_many (of_decide_eq_true h1)]
    exact ⟨pg_tup (o.calm (nt2 h0)).1 q1 q2 q3, q4⟩
  · cases h
theorem PE.impI {e : Expr} {t t' : TE} (h : L2.PE X e t) (i : ∀ σ H Q, σ.length = X.N.length → t' σ H Q → t σ H Q) : L2.PE X e t' := ⟨fun pins s σ H Q I q => h.run pins s σ H Q I (i σ H Q I.len q)⟩
theorem PS.impI {e : Stmt} {t t' : TS} (h : L2.PS X e t) (i : ∀ D σ H, σ.length = X.N.length → t' D σ H → t D σ H) : L2.PS X e t' := ⟨fun pins s σ H D I q => h.run pins s σ H D I (i D σ H I.len q)⟩
theorem ownP_map (own : List Nat) : (ownP c own).map (·.2) = own := by
  unfold ownP
  rw [List.map_map]
  exact List.map_id own
/-- the parts of a comprehension -/
structure LcOk (cl : String → Addr) (W : WX) (X : Cx) (c : Wh) (tg own : List Nat) (it : St → R (List D)) (el : Ev) (tt : EvB) (x tgx itx : Expr) (ifsx : List Expr) (scope : Scope) : Prop where
  calm : X.calm = true
  nd : X.N.Nodup
  it : L2.PI X tgx itx (tI cl W it)
  blk : BlkOk X.N X.env.scope scope (ownP c own)
  tgt : ∀ (s : Shared) (H : Hp) (C : Addr) (ce : List (Str × Addr)) (fp : List Addr), L2.PG (X.blk s H scope (compEnvC scope ce C X.env) fp) tgx (gTgt X.K tg)
  tts : ∀ (s : Shared) (H : Hp) (C : Addr) (ce : List (Str × Addr)) (fp : List Addr), PTs (X.blk s H scope (compEnvC scope ce C X.env) fp) ifsx (tMB cl noW tt)
  elt : ∀ (s : Shared) (H : Hp) (C : Addr) (ce : List (Str × Addr)) (fp : List Addr), L2.PE (X.blk s H scope (compEnvC scope ce C X.env) fp) x (tM cl noW el)
  set : isSetE itx = false
  ond : own.Nodup
  olt : ∀ i ∈ own, i < X.N.length
  sub : ∀ i ∈ tg, i ∈ own
variable {tg own : List Nat} {it : St → R (List D)} {el : Ev} {tt : EvB} {x tgx itx : Expr} {ifsx : List Expr} {scope : Scope} {pos spos py : Pos}
theorem LcOk.pe (k : LcOk cl W X c tg own it el tt x tgx itx ifsx scope) : L2.PE X (.ListComp x [⟨tgx, itx, ifsx, 0⟩] scope pos) (tM cl W (compE tg own it el tt)) := by
  have h := pe_lc (pos := pos) k.calm k.nd k.it k.blk k.tgt k.tts k.elt (fold_of k.set)
  rw [ownP_map] at h
  exact PE.impI h fun σ H Q hl q => comp_go hl k.ond k.olt k.sub q
/-- name = [..] on the comprehension's line -/
theorem LcOk.ps {i : Nat} {y : Str} (k : LcOk cl W X c tg own it el tt x tgx itx ifsx scope) (hy : X.N[i]? = some y) (hyl : X.env.scope.names.lookup y = some .local) (hsw : swapsWith (.ListComp x [⟨tgx, itx, ifsx, 0⟩] scope pos) (some (.Name y py)) spos.line X.env = pure true) :
    ∀ (st : Stmt), st = .Assign [.Name y py] (.ListComp x [⟨tgx, itx, ifsx, 0⟩] scope pos) spos → L2.PS X st (tAsg (tM cl W (compE tg own it el tt)) (gName i)) := by
  rintro _ rfl
  have h := ps_setLc k.calm k.nd hy hyl hsw k.it k.blk k.tgt k.tts k.elt (fold_of k.set)
  rw [ownP_map] at h
  exact PS.impI h fun D σ H hl q => comp_go hl k.ond k.olt k.sub q
theorem pts_nil' : PTs X [] (tMB cl W fun s => .ok true s) := ⟨fun pins s σ H Q I h => pts_nil.run pins s σ H Q I (by
  obtain ⟨s0, m, G, T', rfl, g, q⟩ := h
  exact q m (Ext.refl _) Prot.refl g)⟩
/-! ### and, or: one part more -/
theorem evA_one {k bw : Bool} {e : E} : evA Γ k bw (.cons e .nil) = evE Γ bw e := by unfold evA; rfl
theorem evA_two {k bw : Bool} {e e' : E} {es : Es} : evA Γ k bw (.cons e (.cons e' es)) = andor k (tst (evE Γ true e)) (evA Γ k bw (.cons e' es)) := by rw [evA]
/-- range -/
theorem rngC_ok {i j c : Int} (hi : -(2 ^ 62) ≤ i) (hi' : i < 2 ^ 62) (hj : -(2 ^ 62) ≤ j) (hj' : j < 2 ^ 62) (h0 : 0 < c) (h1 : c < 1073741824) : RgC i j c ((j - i + c - 1) / c).toNat := by
  have key : Builtin.Range.rangeSize i j c = (((j - i + c - 1) / c).toNat : Int) ∧ (((j - i + c - 1) / c).toNat : Int) < 2 ^ 63 := by
    unfold Builtin.Range.rangeSize
    rw [if_pos (by omega)]
    split
    · have e : j - i + c - 1 = (j - i - 1) + 1 * c := by omega
      rw [e, Int.add_mul_ediv_right _ _ (by omega)]
      have := Int.ediv_nonneg (a := j - i - 1) (b := c) (by omega) (by omega)
      have := Int.ediv_le_self c (show (0 : Int) ≤ j - i - 1 by omega)
      omega
    · have : (j - i + c - 1) / c ≤ 0 := by
        have : (j - i + c - 1) / c < 1 := Int.ediv_lt_of_lt_mul h0 (by omega)
        omega
      omega
  refine ⟨by omega, by omega, ?_, key.1⟩
  unfold Builtin.Range.small
  rw [key.1]
  simp only [Builtin.Range.rangeFitsLong, Bool.and_eq_true, Bool.or_eq_true, decide_eq_true_eq, beq_iff_eq, show c > 0 from h0, if_true]
  have := key.2
  omega
theorem rng_ok (n : Nat) (m : Mem) (ds : List D) (vs : List V) (xs : List D) (R : L2.It → Hp → Prop) (hn : vs.length = n) (r : Reps m ds vs) (h : rngD ds = some xs) (k : ∀ J, Z.Goes J xs m → R J m.H) : rRng n vs m.H R := by
  unfold rngD at h
  split at h
  · rename_i j
    split at h
    · rename_i hj
      cases h
      obtain ⟨h1, h2⟩ := inR_ok hj
      cases r with
      | cons r1 r =>
        cases r
        cases r1
        cases hn
        exact ⟨j, rfl, h1, h2, k _ goes_rng⟩
    · cases h
  · rename_i i j
    split at h
    · rename_i hij
      obtain ⟨hi, hj⟩ := b2 hij
      cases h
      obtain ⟨h1, h2⟩ := inR_ok hi
      obtain ⟨h3, h4⟩ := inR_ok hj
      cases r with
      | cons r1 r =>
        cases r with
        | cons r2 r =>
          cases r
          cases r1
          cases r2
          cases hn
          exact ⟨i, j, rfl, ⟨h1, h2, h3, h4⟩, k _ goes_rng⟩
    · cases h
  · rename_i i j d
    cases r with
    | cons r1 r =>
      cases r with
      | cons r2 r =>
        cases r with
        | cons r3 r =>
          cases r
          cases r1
          cases r2
          cases r3
          cases hn
          split at h
          · rename_i hij
            simp only [Bool.and_eq_true, decide_eq_true_eq] at hij
            obtain ⟨⟨⟨hi, hj⟩, h5⟩, h6⟩ := hij
            cases h
            obtain ⟨h1, h2⟩ := inR_ok hi
            obtain ⟨h3, h4⟩ := inR_ok hj
            exact ⟨i, j, d, _, rfl, rngC_ok h1 h2 h3 h4 h5 h6, k _ goes_rngC⟩
          · split at h
            · rename_i hij
              simp only [Bool.and_eq_true, decide_eq_true_eq] at hij
              obtain ⟨⟨hi, hj⟩, h5⟩ := hij
              subst h5
              cases h
              obtain ⟨h1, h2⟩ := inR_ok hi
              obtain ⟨h3, h4⟩ := inR_ok hj
              exact ⟨i, j, -1, _, rfl, RgC.neg h1 h2 h3 h4, k _ goes_rngC⟩
            · cases h
  · cases h
theorem s_rng {es : Es} {xs : List Expr} {p pos : Pos} {tg : Expr} (o : COk T cl Γ L X W c) (hg : c.gl "range" = true) (hf : "range" ∈ T.frees) (hn : 0 < xs.length ∧ xs.length < 4) (ha : L2.PA X xs (tMA cl W (evEs Γ false es))) (hs : xs.all (fun e => !isStar e) = true) (hl : xs.length = es.len) :
    L2.PI X tg (.Call (.Name "range" p) xs [] pos) (tI cl W (itArgs (evEs Γ false es) rngD)) := by
  have hm := o.g.frees _ hf
  have hgl := o.gl hg
  refine fi_args (r := rRng xs.length) (n := xs.length) (by rw [hl]; exact evEs_cnt es) (fun ta ha => ?_) ha (rng_ok _)
  match xs, hn, hs, ha with
  | [a], _, hs, ha => exact pi_range1 hgl hm ha (star_head hs)
  | [a, b], _, hs, ha =>
    have h1 := star_head (env := X.env) hs
    have h2 : starEach [b] X.env = [(false, eval b X.env)] := star_head (env := X.env) (by rw [List.all_cons] at hs; exact (b2 hs).2)
    exact pi_range2 hgl hm ha (by rw [h1, h2]) h2
  | [a, b, d], _, hs, ha => exact pi_range3 hgl hm ha (star_head hs) (star_tail hs)
  | _ :: _ :: _ :: _ :: _, hn, _, _ => simp at hn; omega
  | [], hn, _, _ => simp at hn
/-! ### the theorem -/
theorem lc_ok {el : E} {tg own : List Nat} {it : Z.It} {ifs : Es} {x tgx itx : Expr} {ifsx : List Expr} {scope : Scope} (hel : SE T cl Γ L el) (hit : SIt T cl Γ L it) (hif : SEs T cl Γ L ifs) (o : COk T cl Γ L X W c) (hh : c.hot = false)
    (h : (blkC c.N c.sc scope (ownP c own) && (decide own.Nodup && (own.all (fun i => decide (i < c.N.length)) && (tg.all (fun i => own.contains i) && (tgtOk (c.inner scope) tg tgx && (!isSetE itx &&
        (chkIt T c (isTup tgx) it itx && (chkE T (c.inner scope) el x && chkTs T (c.inner scope) ifs ifsx)))))))) = true) : LcOk cl W X c tg own (evIt Γ it) (evE Γ false el) (evTs Γ ifs) x tgx itx ifsx scope := by
  obtain ⟨h1, h⟩ := b2 h
  obtain ⟨h2, h⟩ := b2 h
  obtain ⟨h3, h⟩ := b2 h
  obtain ⟨h4, h⟩ := b2 h
  obtain ⟨h5, h⟩ := b2 h
  obtain ⟨h6, h⟩ := b2 h
  obtain ⟨h7, h⟩ := b2 h
  obtain ⟨h8, h9⟩ := b2 h
  have bk : BlkOk X.N X.env.scope scope (ownP c own) := by rw [o.N, o.sc]; exact blkOk_by h1
  have inn := fun s H C ce fp => o.inner (own := own) bk.kind s H C ce fp
  rw [List.all_eq_true] at h3 h4
  exact ⟨(o.calm hh).1, by rw [o.N]; exact o.nd, hit o h7, bk, fun s H C ce fp => (s_tgt (inn s H C ce fp) h5).1, fun s H C ce fp => (hif (inn s H C ce fp)).2.2.1 h9, fun s H C ce fp => (hel (inn s H C ce fp) h8).1 false, nt2 h6, of_decide_eq_true h2,
    fun i hi => by rw [o.N]; exact of_decide_eq_true (h3 i hi), fun i hi => by simpa using h4 i hi⟩
theorem s_enu {e : E} {a : Expr} {tg : Expr} (he : SE T cl Γ L e) (o : COk T cl Γ L X W c) (h : chkIt T c (isTup tg) (.enu e) a = true) : L2.PI X tg a (tI cl W (evIt Γ (.enu e))) := by
  unfold chkIt at h
  obtain ⟨ht, hq⟩ := b2 h
  clear h
  obtain ⟨els, k, tp, rfl⟩ := isTup_of ht
  split at hq
  · obtain ⟨h1, h⟩ := b2 hq
    obtain ⟨h2, h⟩ := b2 h
    obtain ⟨h3, h⟩ := b2 h
    obtain ⟨h4, h5⟩ := b2 h
    have hx := of_decide_eq_true h1
    subst hx
    have hs := nt2 h4
    have ha : L2.PA X [_] (tMA cl W (consL (evE Γ false e) nilL)) := fa_cons ((he o h5).1 false) fa_nil (star_cons hs)
    exact fi_args (n := 1) (evEs_cnt (Γ := Γ) (bw := false) (.cons e .nil)) (fun ta ha => pi_enumS (o.gl h2) (o.g.frees _ (by simpa using h3)) ha (star_cons hs) rfl) ha enum_ok
  · cases hq
theorem s_zip {l r : E} {a : Expr} {tg : Expr} (hl : SE T cl Γ L l) (hr : SE T cl Γ L r) (o : COk T cl Γ L X W c) (h : chkIt T c (isTup tg) (.zip l r) a = true) : L2.PI X tg a (tI cl W (evIt Γ (.zip l r))) := by
  unfold chkIt at h
  obtain ⟨ht, hq⟩ := b2 h
  clear h
  obtain ⟨els, k, tp, rfl⟩ := isTup_of ht
  split at hq
  · obtain ⟨h1, h⟩ := b2 hq
    obtain ⟨h2, h⟩ := b2 h
    obtain ⟨h3, h⟩ := b2 h
    obtain ⟨h4, h⟩ := b2 h
    obtain ⟨h5, h⟩ := b2 h
    obtain ⟨h6, h7⟩ := b2 h
    have hx := of_decide_eq_true h1
    subst hx
    have hs := nt2 h4
    have hs2 := nt2 h5
    have ha : L2.PA X [_, _] (tMA cl W (consL (evE Γ false l) (consL (evE Γ false r) nilL))) := fa_cons ((hl o h6).1 false) (fa_cons ((hr o h7).1 false) fa_nil (star_cons hs2)) (star_cons hs)
    exact fi_args (n := 2) (evEs_cnt (Γ := Γ) (bw := false) (.cons l (.cons r .nil))) (fun ta ha => pi_zipS (o.gl h2) (o.g.frees _ (by simpa using h3)) ha (star_cons hs) (by rw [star_cons hs2]; rfl)) ha zip_ok
  · cases hq
theorem s_rev {e : E} {a : Expr} {tg : Expr} (he : SE T cl Γ L e) (o : COk T cl Γ L X W c) (h : chkIt T c (isTup tg) (.rev e) a = true) : L2.PI X tg a (tI cl W (evIt Γ (.rev e))) := by
  unfold chkIt at h
  split at h
  · obtain ⟨h1, h⟩ := b2 h
    obtain ⟨h2, h⟩ := b2 h
    obtain ⟨h3, h⟩ := b2 h
    obtain ⟨h4, h5⟩ := b2 h
    have hx := of_decide_eq_true h1
    subst hx
    exact fi_rev (fun te h => RT.pi_revA (o.gl h2) (o.g.frees _ (by simpa using h3)) h (star_cons (nt2 h4))) ((he o h5).1 false)
  · cases h
end
end Z

set_option Elab.async false
set_option linter.all false
set_option maxRecDepth 100000
set_option maxHeartbeats 8000000
namespace Z
open PySem PySem.Spec PyProof.Rows L2

section
variable {T : Tab} {cl : String → Addr} {Γ : Gam} {L : Nat}
theorem s_var {i : Nat} : SE T cl Γ L (.var i) := fun {X W c a} o h => by
  unfold chkE at h
  split at h
  · obtain ⟨h1, h⟩ := b2 h
    obtain ⟨h2, h3⟩ := b2 h
    exact fin_val (fun bw => fe_var (pe_var (o.slot h1) (o.vis h2) (dbg_of h3).1 (dbg_of h3).2)) rfl
  · cases h
theorem s_cst {d : D} : SE T cl Γ L (.cst d) := fun {X W c a} o h => by
  unfold chkE at h
  split at h
  · obtain ⟨v, hp, hr⟩ := cst_rep h
    exact fin_val (fun bw => fe_cst hp hr) rfl
  · cases h
theorem s_glb {g : String} : SE T cl Γ L (.glb g) := fun {X W c a} o h => by
  unfold chkE at h
  split at h
  · obtain ⟨h1, h⟩ := b2 h
    obtain ⟨h2, h⟩ := b2 h
    obtain ⟨h3, h4⟩ := b2 h
    have hx := of_decide_eq_true h1
    subst hx
    obtain ⟨u, v, d, hm, rv, hgc, hr⟩ := o.g.glbs g (by simpa using h4)
    refine fin_val (fun bw => ?_) rfl
    have e : (evE Γ bw (.glb g)) = fun s => .ok (.val d) s := by
      funext s
      show O ((Γ.gc g).map .val) s = _
      rw [hgc]
      rfl
    rw [e]
    exact fe_cst (pe_glob (o.gl h2) hm rv (dbg_of h3).1) hr
  · cases h
theorem s_bin {op : Operator} {l r : E} (hl : SE T cl Γ L l) (hr : SE T cl Γ L r) : SE T cl Γ L (.bin op l r) := fun {X W c a} o h => by
  unfold chkE at h
  split at h
  · obtain ⟨h1, h⟩ := b2 h
    obtain ⟨h2, h3⟩ := b2 h
    have hx := of_decide_eq_true h1
    subst hx
    obtain ⟨r', hr', ho⟩ := bin_sound (X := X) (cl := cl) op
    exact fin_val (fun bw => fe_bin hr' ho ((hl o h2).1 true) ((hr o h3).1 true)) rfl
  · cases h
theorem s_neg {e : E} (he : SE T cl Γ L e) : SE T cl Γ L (.neg e) := fun {X W c a} o h => by
  unfold chkE at h
  split at h
  · exact fin_val (fun bw => fe_neg ((he o h).1 true)) rfl
  · cases h
theorem s_not {e : E} (he : SE T cl Γ L e) : SE T cl Γ L (.nt e) := fun {X W c a} o h => by
  unfold chkE at h
  split at h
  · refine ⟨fun bw => fe_not ((he o h).1 true), ?_⟩
    intro bw
    show L2.PT X _ (tMB cl W (tst (ofB (ntB (tst (evE Γ true e))))))
    rw [tst_ofB]
    exact ft_not ((he o h).2 true)
  · cases h
theorem s_cmp {op : CmpOp} {l r : E} (hl : SE T cl Γ L l) (hr : SE T cl Γ L r) : SE T cl Γ L (.cmp op l r) := fun {X W c a} o h => by
  unfold chkE at h
  obtain ⟨hh, hq⟩ := b2 h
  clear h
  split at hq
  · obtain ⟨h1, h⟩ := b2 hq
    obtain ⟨h2, h⟩ := b2 h
    obtain ⟨h3, h4⟩ := b2 h
    have hx := of_decide_eq_true h1
    subst hx
    obtain ⟨r', hr', ho⟩ := cmp_sound (X := X) (cl := cl) (o.units (nt2 hh)) op
    refine ⟨fun bw => fe_cmp hr' ho ((hl o h3).1 true) ((hr o h4).1 true) (nt2 h2), ?_⟩
    intro bw
    show L2.PT X _ (tMB cl W (tst (ofB (cmp2 op (evE Γ true l) (evE Γ true r)))))
    rw [tst_ofB]
    exact ft_cmp hr' ho ((hl o h3).1 true) ((hr o h4).1 true) (nt2 h2)
  · cases hq
theorem s_chain {o1 o2 : CmpOp} {l m r : E} (hl : SE T cl Γ L l) (hm : SE T cl Γ L m) (hr : SE T cl Γ L r) : SE T cl Γ L (.chain o1 o2 l m r) := fun {X W c a} o h => by
  unfold chkE at h
  obtain ⟨hh, hq⟩ := b2 h
  clear h
  split at hq
  · obtain ⟨h1, h⟩ := b2 hq
    obtain ⟨h2, h⟩ := b2 h
    obtain ⟨h3, h⟩ := b2 h
    obtain ⟨h4, h⟩ := b2 h
    obtain ⟨h5, h6⟩ := b2 h
    have hx := of_decide_eq_true h1
    subst hx
    have hx := of_decide_eq_true h2
    subst hx
    obtain ⟨r1, hr1, ho1⟩ := cmp_sound (X := X) (cl := cl) (o.units (nt2 hh)) o1
    obtain ⟨r2, hr2, ho2⟩ := cmp_sound (X := X) (cl := cl) (o.units (nt2 hh)) o2
    refine ⟨fun bw => fe_chain hr1 hr2 ho1 ho2 ((hl o h4).1 true) ((hm o h5).1 true) ((hr o h6).1 true) (nt2 h3), ?_⟩
    intro bw
    show L2.PT X _ (tMB cl W (tst (ofB (chn o1 o2 (evE Γ true l) (evE Γ true m) (evE Γ true r)))))
    rw [tst_ofB]
    exact ft_chain hr1 hr2 ho1 ho2 ((hl o h4).1 true) ((hm o h5).1 true) ((hr o h6).1 true) (nt2 h3)
  · cases hq
theorem s_and {es : Es} (he : SEs T cl Γ L es) : SE T cl Γ L (.and es) := fun {X W c a} o h => by
  unfold chkE at h
  split at h
  · obtain ⟨⟨h1, h2⟩, _⟩ := (he o).2.1 h
    exact ⟨h1, fun bw => (h2 bw).pt⟩
  · cases h
theorem s_or {es : Es} (he : SEs T cl Γ L es) : SE T cl Γ L (.or es) := fun {X W c a} o h => by
  unfold chkE at h
  split at h
  · obtain ⟨_, h1, h2⟩ := (he o).2.1 h
    exact ⟨h1, fun bw => (h2 bw).pt⟩
  · cases h
theorem s_ife {t l r : E} (ht : SE T cl Γ L t) (hl : SE T cl Γ L l) (hr : SE T cl Γ L r) : SE T cl Γ L (.ife t l r) := fun {X W c a} o h => by
  unfold chkE at h
  split at h
  · obtain ⟨h1, h⟩ := b2 h
    obtain ⟨h2, h3⟩ := b2 h
    exact ⟨fun bw => fe_if ((ht o h1).2 true) ((hl o h2).1 false) ((hr o h3).1 false), fun bw => ft_if ((ht o h1).2 true) ((hl o h2).2 false) ((hr o h3).2 false)⟩
  · cases h
theorem s_tup {es : Es} (he : SEs T cl Γ L es) : SE T cl Γ L (.tup es) := fun {X W c a} o h => by
  unfold chkE at h
  split at h
  · exact fin_val (fun bw => fe_tup (((he o).1 h).1 false)) rfl
  · cases h
theorem s_lst {es : Es} (he : SEs T cl Γ L es) : SE T cl Γ L (.lst es) := fun {X W c a} o h => by
  unfold chkE at h
  split at h
  · exact fin_val (fun bw => fe_lst (((he o).1 h).1 false)) rfl
  · cases h
theorem s_idx {l r : E} (hl : SE T cl Γ L l) (hr : SE T cl Γ L r) : SE T cl Γ L (.idx l r) := fun {X W c a} o h => by
  unfold chkE at h
  obtain ⟨hh, hq⟩ := b2 h
  clear h
  split at hq
  · obtain ⟨h1, h⟩ := b2 hq
    obtain ⟨h2, h3⟩ := b2 h
    have hu := o.units (nt2 hh)
    exact fin_val (fun bw => fe_ix (ix_list.or (ix_tup.or (ix_str.or (ix_dict (by omega))))) idx_ok ((hl o h2).1 true) ((hr o h3).1 true) (ix_of h1)) rfl
  · cases hq
theorem s_slc {l : E} {lo hi : Eo} (hl : SE T cl Γ L l) (h1 : SEo T cl Γ L lo) (h2 : SEo T cl Γ L hi) : SE T cl Γ L (.slc l lo hi) := fun {X W c a} o h => by
  unfold chkE at h
  split at h
  · obtain ⟨h3, h⟩ := b2 h
    obtain ⟨h4, h5⟩ := b2 h
    obtain ⟨r, hr, ho⟩ := slc_ok (X := X)
    exact fin_val (fun bw => fe_slc hr ho ((hl o h3).1 true) (h1 o h4) (h2 o h5)) rfl
  · cases h
theorem s_revE {l : E} (hl : SE T cl Γ L l) : SE T cl Γ L (.rev l) := fun {X W c a} o h => by
  unfold chkE at h
  split at h
  · exact fin_val (fun bw => PE.imp (pe_rev ((hl o h).1 true)) fun σ H Q q => tUn_of (f := fun _ d => revD d) rev_ok q) rfl
  · cases h
theorem s_callE {f : String} {es ks : Es} {kw : List String} {dfl : List D} (h1 : SEs T cl Γ L es) (h2 : SEs T cl Γ L ks) : SE T cl Γ L (.call f es kw ks dfl) := fun {X W c a} o h => by
  unfold chkE at h
  obtain ⟨hh, hq⟩ := b2 h
  clear h
  split at hq
  · obtain ⟨q1, h⟩ := b2 hq
    obtain ⟨q2, h⟩ := b2 h
    obtain ⟨q3, h⟩ := b2 h
    obtain ⟨q4, h⟩ := b2 h
    obtain ⟨q5, q6⟩ := b2 h
    exact fin_val (fun bw => s_call o (nt2 hh) (of_decide_eq_true q1) q2 q3 q4 ((h1 o).1 q5) ((h2 o).2.2.2 q6)) rfl
  · cases hq
theorem s_mkE {k : String} {es ks : Es} {kw : List String} {dfl : List D} (h1 : SEs T cl Γ L es) (h2 : SEs T cl Γ L ks) : SE T cl Γ L (.mk k es kw ks dfl) := fun {X W c a} o h => by
  unfold chkE at h
  obtain ⟨hh, hq⟩ := b2 h
  clear h
  split at hq
  · obtain ⟨q1, h⟩ := b2 hq
    obtain ⟨q2, h⟩ := b2 h
    obtain ⟨q3, h⟩ := b2 h
    obtain ⟨q7, h⟩ := b2 h
    obtain ⟨q8, h⟩ := b2 h
    obtain ⟨q4, h⟩ := b2 h
    obtain ⟨q5, q6⟩ := b2 h
    exact fin_val (fun bw => s_mk o (nt2 hh) (of_decide_eq_true q1) q2 q3 (by simpa using q7) (by simpa using q8) q4 ((h1 o).1 q5) ((h2 o).2.2.2 q6)) rfl
  · cases hq
theorem s_methE {e : E} {k m : String} {es ks : Es} {kw : List String} {dfl : List D} (h0 : SE T cl Γ L e) (h1 : SEs T cl Γ L es) (h2 : SEs T cl Γ L ks) : SE T cl Γ L (.meth e k m es kw ks dfl) := fun {X W c a} o h => by
  unfold chkE at h
  obtain ⟨hh, hq⟩ := b2 h
  clear h
  split at hq
  · obtain ⟨q1, h⟩ := b2 hq
    obtain ⟨q2, h⟩ := b2 h
    obtain ⟨q3, h⟩ := b2 h
    obtain ⟨q7, h⟩ := b2 h
    obtain ⟨q8, h⟩ := b2 h
    obtain ⟨q4, h⟩ := b2 h
    obtain ⟨q9, h⟩ := b2 h
    obtain ⟨q10, h⟩ := b2 h
    obtain ⟨q5, q6⟩ := b2 h
    have hx := of_decide_eq_true q1
    subst hx
    exact fin_val (fun bw => s_meth o (nt2 hh) q2 q3 (by simpa using q7) (by simpa using q8) q4 (of_decide_eq_true q9) ((h0 o q10).1 true) ((h1 o).1 q5) ((h2 o).2.2.2 q6)) rfl
  · cases hq
theorem s_biE {f : String} {es : Es} (h1 : SEs T cl Γ L es) : SE T cl Γ L (.bi f es) := fun {X W c a} o h => by
  unfold chkE at h
  obtain ⟨hh, hq⟩ := b2 h
  clear h
  split at hq
  · obtain ⟨q1, h⟩ := b2 hq
    obtain ⟨q2, h⟩ := b2 h
    obtain ⟨q3, h⟩ := b2 h
    obtain ⟨q4, q5⟩ := b2 h
    exact fin_val (fun bw => s_bi o (nt2 hh) (of_decide_eq_true q1) q2 q3 (by simpa using q4) ((h1 o).1 q5)) rfl
  · cases hq
theorem s_bmE {e : E} {t m : String} {es : Es} (h0 : SE T cl Γ L e) (h1 : SEs T cl Γ L es) : SE T cl Γ L (.bm e t m es) := fun {X W c a} o h => by
  unfold chkE at h
  obtain ⟨hh, h⟩ := b2 h
  split at h
  · obtain ⟨q1, h⟩ := b2 h
    obtain ⟨q2, h⟩ := b2 h
    obtain ⟨q3, h⟩ := b2 h
    obtain ⟨q4, h⟩ := b2 h
    obtain ⟨q5, h⟩ := b2 h
    obtain ⟨q6, q7⟩ := b2 h
    have hx := of_decide_eq_true q1
    subst hx
    exact fin_val (fun bw => s_bm o (nt2 hh) q2 q3 q4 (of_decide_eq_true q5) ((h0 o q6).1 true) ((h1 o).1 q7)) rfl
  · cases h
theorem s_isiE {e : E} {t : String} (h0 : SE T cl Γ L e) : SE T cl Γ L (.isi e t) := fun {X W c a} o h => by
  unfold chkE at h
  split at h
  · obtain ⟨q1, h⟩ := b2 h
    obtain ⟨q2, h⟩ := b2 h
    obtain ⟨q3, h⟩ := b2 h
    obtain ⟨q4, h⟩ := b2 h
    obtain ⟨q5, h⟩ := b2 h
    obtain ⟨q6, h⟩ := b2 h
    obtain ⟨q7, h⟩ := b2 h
    obtain ⟨q8, q9⟩ := b2 h
    exact fin_val (fun bw => s_isi o (of_decide_eq_true q1) q2 (by simpa using q3) (of_decide_eq_true q4) q5 q6 q7 (nt2 q8) ((h0 o q9).1 true)) rfl
  · cases h
theorem s_mutE {e : E} {t m : String} {es : Es} (h0 : SE T cl Γ L e) (h1 : SEs T cl Γ L es) : SE T cl Γ L (.mut e t m es) := fun {X W c a} o h => by
  unfold chkE at h
  obtain ⟨hh, hq⟩ := b2 h
  clear h
  split at hq
  · obtain ⟨q1, h⟩ := b2 hq
    obtain ⟨q2, h⟩ := b2 h
    obtain ⟨q3, h⟩ := b2 h
    obtain ⟨q4, h⟩ := b2 h
    obtain ⟨q5, h⟩ := b2 h
    obtain ⟨q6, q7⟩ := b2 h
    have hx := of_decide_eq_true q1
    subst hx
    exact fin_val (fun bw => s_mut hh q2 q3 (of_decide_eq_true q4) q5 ((h0 o q6).1 true) ((h1 o).1 q7) bw) rfl
  · cases hq
theorem s_fldE {e : E} {f : String} (h0 : SE T cl Γ L e) : SE T cl Γ L (.fld e f) := fun {X W c a} o h => by
  unfold chkE at h
  split at h
  · obtain ⟨q1, h⟩ := b2 h
    obtain ⟨q2, q3⟩ := b2 h
    have hx := of_decide_eq_true q1
    subst hx
    exact fin_val (fun bw => fe_fld o.g.fld ((h0 o q3).1 true) (base_of q2)) rfl
  · cases h
theorem s_compE {el : E} {tg own : List Nat} {it : Z.It} {ifs : Es} (h1 : SE T cl Γ L el) (h2 : SIt T cl Γ L it) (h3 : SEs T cl Γ L ifs) : SE T cl Γ L (.comp el tg it ifs own) := fun {X W c a} o h => by
  unfold chkE at h
  obtain ⟨hh, hq⟩ := b2 h
  clear h
  split at hq
  · obtain ⟨q1, h⟩ := b2 hq
    have hx := of_decide_eq_true q1
    subst hx
    exact fin_val (fun bw => (lc_ok h1 h2 h3 o (nt2 hh) h).pe) rfl
  · cases hq
theorem and2 {a b : Bool} (h : a = true) (k : b = true) : (a && b) = true := by rw [h, k]; rfl
theorem s_dcompE {ek ev : E} {tg own : List Nat} {it : Z.It} {ifs : Es} (h0 : SE T cl Γ L ek) (h1 : SE T cl Γ L ev) (h2 : SIt T cl Γ L it) (h3 : SEs T cl Γ L ifs) : SE T cl Γ L (.dcomp ek ev tg it ifs own) := fun {X W c a} o h => by
  unfold chkE at h
  obtain ⟨hh, hq⟩ := b2 h
  clear h
  split at hq
  · obtain ⟨q1, h⟩ := b2 hq
    have hx := of_decide_eq_true q1
    subst hx
    obtain ⟨a1, h⟩ := b2 h
    obtain ⟨a2, h⟩ := b2 h
    obtain ⟨a3, h⟩ := b2 h
    obtain ⟨a4, h⟩ := b2 h
    obtain ⟨a5, h⟩ := b2 h
    obtain ⟨a6, h⟩ := b2 h
    obtain ⟨a7, h⟩ := b2 h
    obtain ⟨a8, h⟩ := b2 h
    obtain ⟨a9, a10⟩ := b2 h
    have k1 := lc_ok h0 h2 h3 o (nt2 hh) (and2 a1 (and2 a2 (and2 a3 (and2 a4 (and2 a5 (and2 a6 (and2 a7 (and2 a8 a10))))))))
    have k2 := lc_ok h1 h2 h3 o (nt2 hh) (and2 a1 (and2 a2 (and2 a3 (and2 a4 (and2 a5 (and2 a6 (and2 a7 (and2 a9 a10))))))))
    refine fin_val (fun bw => ?_) rfl
    refine PE.impI (t := tDc (tI cl W (evIt Γ it)) (gTgt X.K tg) (tMB cl noW (evTs Γ ifs)) (tM cl noW (evE Γ false ek)) (tM cl noW (evE Γ false ev)) own) ?_ fun σ H Q hl q => dcomp_go hl k1.ond k1.olt k1.sub q
    rw [← congrArg (tDc (tI cl W (evIt Γ it)) (gTgt X.K tg) (tMB cl noW (evTs Γ ifs)) (tM cl noW (evE Γ false ek)) (tM cl noW (evE Γ false ev))) (ownP_map (c := c) own)]
    exact pe_dc k1.calm k1.nd k1.it k1.blk k1.tgt k1.tts k1.elt k2.elt (fold_of k1.set)
  · cases hq
theorem s_lenO {e : E} {k : String} (h1 : SE T cl Γ L e) : SE T cl Γ L (.lenO e k) := fun {X W c a} o h => by
  unfold chkE at h
  obtain ⟨hh, hq⟩ := b2 h
  clear h
  split at hq
  · obtain ⟨a1, h⟩ := b2 hq
    obtain ⟨a2, h⟩ := b2 h
    obtain ⟨a3, h⟩ := b2 h
    obtain ⟨a4, h⟩ := b2 h
    obtain ⟨a5, h⟩ := b2 h
    obtain ⟨a6, a7⟩ := b2 h
    have hx := of_decide_eq_true a1
    subst hx
    have hk0 : k ≠ "" := by simpa using a4
    obtain ⟨a, fd, ps, dvs, F, rd, hlen, kb, _, _, hM⟩ := o.g.fns _ _ _ _ _ (Tab.has_mem a5)
    obtain ⟨hC, hMe⟩ := hM hk0 (by decide)
    rw [if_neg hk0] at hlen kb
    have hd : dvs = [] := by
      cases rd (Mem.mk (fun _ => none) (fun _ => False) [])
      rfl
    subst hd
    have hp : ps.length = 1 := by simpa using hlen.symm
    rw [hp] at F
    exact fin_val (fun bw => PE.imp (pe_lenO hMe F (o.calm (nt2 hh)).2 kb (fun σ => passAt o.tk σ) (o.gl a2) (o.g.frees _ (by simpa using a3)) ((h1 o a7).1 true) (star_cons (nt2 a6))) fun σ H Q q => tLenO_of q) rfl
  · cases hq
theorem s_bstE {f : String} {e : E} (h1 : SE T cl Γ L e) : SE T cl Γ L (.bst f e) := fun {X W c a} o h => by
  unfold chkE at h
  obtain ⟨hh, hq⟩ := b2 h
  clear h
  split at hq
  · obtain ⟨a1, h⟩ := b2 hq
    obtain ⟨a2, h⟩ := b2 h
    obtain ⟨a3, h⟩ := b2 h
    obtain ⟨a4, h⟩ := b2 h
    obtain ⟨a5, h⟩ := b2 h
    obtain ⟨a6, h⟩ := b2 h
    obtain ⟨a7, h⟩ := b2 h
    obtain ⟨a8, a9⟩ := b2 h
    have hx := of_decide_eq_true a1
    subst hx
    have hz := of_decide_eq_true a5
    subst hz
    exact fin_val (fun bw => fe_bst a3 (o.calm (nt2 hh)).1 (o.gl a2) (o.g.frees _ (by simpa using a4)) (o.gl a6) (o.g.frees _ (by simpa using a7)) ((h1 o a9).1 true) (star_cons (nt2 a8)) (star_cons rfl)) rfl
  · cases hq
theorem s_brg1E {f : String} {e : E} (h1 : SE T cl Γ L e) : SE T cl Γ L (.brg1 f e) := fun {X W c a} o h => by
  unfold chkE at h
  obtain ⟨hh, hq⟩ := b2 h
  clear h
  split at hq
  · obtain ⟨a1, h⟩ := b2 hq
    obtain ⟨a2, h⟩ := b2 h
    obtain ⟨a3, h⟩ := b2 h
    obtain ⟨a4, h⟩ := b2 h
    obtain ⟨a5, h⟩ := b2 h
    obtain ⟨a6, h⟩ := b2 h
    obtain ⟨a7, h⟩ := b2 h
    obtain ⟨a8, a9⟩ := b2 h
    have hx := of_decide_eq_true a1
    subst hx
    have hz := of_decide_eq_true a5
    subst hz
    exact fin_val (fun bw => fe_brg1 a3 (o.calm (nt2 hh)).1 (o.gl a2) (o.g.frees _ (by simpa using a4)) (o.gl a6) (o.g.frees _ (by simpa using a7)) ((h1 o a9).1 true) (star_cons (nt2 a8)) (star_cons rfl)) rfl
  · cases hq
theorem s_brg2E {f : String} {e e2 : E} (h1 : SE T cl Γ L e) (h2 : SE T cl Γ L e2) : SE T cl Γ L (.brg2 f e e2) := fun {X W c a} o h => by
  unfold chkE at h
  obtain ⟨hh, hq⟩ := b2 h
  clear h
  split at hq
  · obtain ⟨a1, h⟩ := b2 hq
    obtain ⟨a2, h⟩ := b2 h
    obtain ⟨a3, h⟩ := b2 h
    obtain ⟨a4, h⟩ := b2 h
    obtain ⟨a5, h⟩ := b2 h
    obtain ⟨a6, h⟩ := b2 h
    obtain ⟨a7, h⟩ := b2 h
    obtain ⟨a8, h⟩ := b2 h
    obtain ⟨a9, h⟩ := b2 h
    obtain ⟨a10, a11⟩ := b2 h
    have hx := of_decide_eq_true a1
    subst hx
    have hz := of_decide_eq_true a5
    subst hz
    exact fin_val (fun bw => fe_brg2 a3 (o.calm (nt2 hh)).1 (o.gl a2) (o.g.frees _ (by simpa using a4)) (o.gl a6) (o.g.frees _ (by simpa using a7)) ((h1 o a10).1 true) ((h2 o a11).1 true) (star_cons (nt2 a8)) (star_cons (nt2 a9)) (by rw [star_cons (nt2 a9)]; rfl) (star_cons rfl)) rfl
  · cases hq
theorem s_dsp {a b : Es} : SE T cl Γ L (.dsp a b) := fun {X W c a} o h => by
  unfold chkE at h
  cases h
theorem names_ok {X : Cx} {W : WX} {c : Wh} (o : COk T cl Γ L X W c) (hh : c.hot = false) {n : Nat} : ∀ {fs : List String} {ns : List Expr}, chkNs T c n fs ns = true → ∃ rs : List Addr, fs.length = rs.length ∧ L2.PA X ns (tVals (rs.map V.ref)) ∧
    ∀ (j : Nat) f a, fs[j]? = some f → rs[j]? = some a → Runs X (.ref a) [] n [] (fun σ vs zs H Q => spOf cl (Γ.cf "" f) n ([] ++ (vs ++ (zs ++ []))) H Q (WE W σ)) ∧ PySem.W.keepIn X.K (.ref a) = true
  | [], [], _ => ⟨[], rfl, pa_vals0, fun j f a h => by simp at h⟩
  | f :: fs, .Name x p :: es, h => by
    unfold chkNs at h
    obtain ⟨h1, h⟩ := b2 h
    obtain ⟨h2, h⟩ := b2 h
    obtain ⟨h3, h⟩ := b2 h
    obtain ⟨h4, h5⟩ := b2 h
    have hx := of_decide_eq_true h1
    subst hx
    obtain ⟨rs, e1, e2, e3⟩ := names_ok o hh h5
    obtain ⟨a, fd, ps, dvs, F, rd, hlen, kb, hf, _, _⟩ := o.g.fns _ _ _ _ _ (Tab.has_mem h4)
    obtain ⟨hm, hk⟩ := hf rfl
    have hd : dvs = [] := by
      have := rd ⟨fun _ => none, fun _ => False, []⟩
      cases this
      rfl
    subst hd
    have hn : n = ps.length := by simpa using hlen
    have hR := runs_fn (W := W) (fv := []) (fu := []) F (o.room hh) (n := n) (ks := []) (by simpa using kb) (fun σ => passAt o.tk σ) .nil
    refine ⟨a :: rs, by simp [e1], pa_vals1 (pe_glob (o.gl h2) hm rfl (dbg_of h3).1) e2 (star_cons rfl), fun j g b hj hb => ?_⟩
    cases j with
    | zero =>
      simp at hj hb
      subst hj hb
      rw [← hn] at hR
      exact ⟨hR, hk⟩
    | succ j => exact e3 j g b (by simpa using hj) (by simpa using hb)
  | [], _ :: _, h => by simp [chkNs] at h
  | _ :: _, [], h => by simp [chkNs] at h
theorem s_sel {fs : List String} {i : E} {es : Es} (h1 : SE T cl Γ L i) (h2 : SEs T cl Γ L es) : SE T cl Γ L (.sel fs i es) := fun {X W c a} o h => by
  unfold chkE at h
  obtain ⟨hh, hq⟩ := b2 h
  clear h
  split at hq
  · rename_i ns p1 ix p2 y ys pos
    obtain ⟨a1, q⟩ := b2 hq
    obtain ⟨a2, q⟩ := b2 q
    obtain ⟨a3, q⟩ := b2 q
    obtain ⟨a4, a5⟩ := b2 q
    obtain ⟨rs, e1, e2, e3⟩ := names_ok o (nt2 hh) a3
    obtain ⟨ha, hst, _⟩ := (h2 o).1 a5
    have hrs : rs.length ≤ sizeLine := by
      have := of_decide_eq_true a2
      rw [sizeLine_eq]
      omega
    exact fin_val (fun bw => fe_sel e2 hrs e1 ((h1 o a4).1 true) (ix_of a1) e3 (evEs_cnt es) (ha false) fk_nil ⟨rfl, rfl⟩ (star_head hst) (star_plain hst).1) rfl
  · cases hq
theorem chkA_ne {c : Wh} {es : Es} {xs : List Expr} (h : chkA T c es xs = true) : ∃ e' es' x' xs', es = .cons e' es' ∧ xs = x' :: xs' := by
  cases es with
  | nil => unfold chkA at h; cases h
  | cons e es =>
    cases xs with
    | nil => unfold chkA at h; cases h
    | cons x xs => exact ⟨e, es, x, xs, rfl, rfl⟩
theorem s_nil : SEs T cl Γ L .nil := by
  intro X W c o
  refine ⟨fun {xs} h => ?_, fun {xs pos} h => ?_, fun {xs} h => ?_, fun {kw kws} h => ?_⟩
  · unfold chkEs at h
    split at h
    · exact ⟨fun bw => fa_nil, rfl, rfl⟩
    · cases h
  · unfold chkA at h; cases h
  · unfold chkTs at h
    split at h
    · exact pts_nil'
    · cases h
  · unfold chkKw at h
    split at h
    · exact ⟨fk_nil, fun pos => ⟨rfl, rfl⟩, rfl, rfl⟩
    · cases h
theorem s_cons {e : E} {es : Es} (he : SE T cl Γ L e) (hs : SEs T cl Γ L es) : SEs T cl Γ L (.cons e es) := by
  intro X W c o
  refine ⟨fun {xs} h => ?_, fun {xs pos} h => ?_, fun {xs} h => ?_, fun {kw kws} h => ?_⟩
  · unfold chkEs at h
    split at h
    · obtain ⟨h1, h⟩ := b2 h
      obtain ⟨h2, h3⟩ := b2 h
      obtain ⟨q1, q2, q3⟩ := (hs o).1 h3
      exact ⟨fun bw => fa_cons ((he o h2).1 bw) (q1 bw) (star_cons (nt2 h1)), by rw [List.all_cons, h1, q2]; rfl, congrArg Nat.succ q3⟩
    · cases h
  · unfold chkA at h
    split at h
    · obtain ⟨h1, h⟩ := b2 h
      split at h
      · refine ⟨⟨fun bw => ?_, fun bw => ?_⟩, fun bw => ?_, fun bw => ?_⟩
        · rw [evA_one]; exact pe_one ((he o h1).1 bw)
        · rw [evA_one]; exact fw_and1 ((he o h1).2 bw)
        · rw [evA_one]; exact pe_one ((he o h1).1 bw)
        · rw [evA_one]; exact fw_or1 ((he o h1).2 bw)
      · cases h
      · obtain ⟨e', es', x', xs', rfl, rfl⟩ := chkA_ne h
        obtain ⟨⟨q1, q2⟩, q3, q4⟩ := (hs o).2.1 (pos := pos) h
        refine ⟨⟨fun bw => ?_, fun bw => ?_⟩, fun bw => ?_, fun bw => ?_⟩
        · rw [evA_two]; exact fe_and ((he o h1).1 true) (q1 bw)
        · rw [evA_two, tst_andor]; exact fw_and ((he o h1).2 true) (q2 bw)
        · rw [evA_two]; exact fe_or ((he o h1).1 true) (q3 bw)
        · rw [evA_two, tst_andor]; exact fw_or ((he o h1).2 true) (q4 bw)
    · cases h
  · unfold chkTs at h
    split at h
    · exact pts_one ((he o h).2 true)
    · cases h
  · unfold chkKw at h
    split at h
    · obtain ⟨h1, h⟩ := b2 h
      obtain ⟨h2, h3⟩ := b2 h
      obtain ⟨q1, q2, q3, q4⟩ := (hs o).2.2.2 h3
      have hx := of_decide_eq_true h1
      subst hx
      refine ⟨fk_cons ((he o h2).1 false) q1, fun pos => ⟨?_, ?_⟩, congrArg Nat.succ q3, congrArg Nat.succ q4⟩
      · exact (q2 pos).all
      · exact congrArg _ (q2 pos).nm
    · cases h
theorem s_no : SEo T cl Γ L .no := fun {X W c x} o h => by
  unfold chkEo at h
  split at h
  · exact fo_no
  · cases h
theorem s_so {e : E} (he : SE T cl Γ L e) : SEo T cl Γ L (.so e) := fun {X W c x} o h => by
  unfold chkEo at h
  split at h
  · exact fo_so ((he o h).1 true)
  · cases h
theorem s_itseq {e : E} (he : SE T cl Γ L e) : SIt T cl Γ L (.seq e) := fun {X W c a tg} o h => by
  unfold chkIt at h
  exact fi_seq ((he o h).1 false)
theorem s_itrng {es : Es} (he : SEs T cl Γ L es) : SIt T cl Γ L (.rng es) := fun {X W c a tg} o h => by
  unfold chkIt at h
  split at h
  · obtain ⟨h1, h⟩ := b2 h
    obtain ⟨h2, h⟩ := b2 h
    obtain ⟨h3, h⟩ := b2 h
    obtain ⟨h4, h5⟩ := b2 h
    have hx := of_decide_eq_true h1
    subst hx
    obtain ⟨q1, q2, q3⟩ := (he o).1 h5
    exact s_rng o h2 (by simpa using h3) (of_decide_eq_true h4) (q1 false) q2 q3
  · cases h
mutual
theorem okE_ : ∀ e : E, SE T cl Γ L e
  | .var _ => s_var
  | .cst _ => s_cst
  | .glb _ => s_glb
  | .sel _ i es => s_sel (okE_ i) (okEs_ es)
  | .lenO e _ => s_lenO (okE_ e)
  | .bin _ l r => s_bin (okE_ l) (okE_ r)
  | .neg e => s_neg (okE_ e)
  | .nt e => s_not (okE_ e)
  | .cmp _ l r => s_cmp (okE_ l) (okE_ r)
  | .chain _ _ l m r => s_chain (okE_ l) (okE_ m) (okE_ r)
  | .and es => s_and (okEs_ es)
  | .or es => s_or (okEs_ es)
  | .ife t l r => s_ife (okE_ t) (okE_ l) (okE_ r)
  | .tup es => s_tup (okEs_ es)
  | .lst es => s_lst (okEs_ es)
  | .dsp _ _ => s_dsp
  | .idx l r => s_idx (okE_ l) (okE_ r)
  | .slc l lo hi => s_slc (okE_ l) (okEo_ lo) (okEo_ hi)
  | .rev l => s_revE (okE_ l)
  | .call _ es _ ks _ => s_callE (okEs_ es) (okEs_ ks)
  | .mk _ es _ ks _ => s_mkE (okEs_ es) (okEs_ ks)
  | .meth e _ _ es _ ks _ => s_methE (okE_ e) (okEs_ es) (okEs_ ks)
  | .bi _ es => s_biE (okEs_ es)
  | .bm e _ _ es => s_bmE (okE_ e) (okEs_ es)
  | .isi e _ => s_isiE (okE_ e)
  | .mut e _ _ es => s_mutE (okE_ e) (okEs_ es)
  | .fld e _ => s_fldE (okE_ e)
  | .comp el _ it ifs _ => s_compE (okE_ el) (okIt_ it) (okEs_ ifs)
  | .dcomp ek ev _ it ifs _ => s_dcompE (okE_ ek) (okE_ ev) (okIt_ it) (okEs_ ifs)
  | .brg1 _ e => s_brg1E (okE_ e)
  | .brg2 _ e e2 => s_brg2E (okE_ e) (okE_ e2)
  | .bst _ e => s_bstE (okE_ e)
theorem okEs_ : ∀ es : Es, SEs T cl Γ L es
  | .nil => s_nil
  | .cons e es => s_cons (okE_ e) (okEs_ es)
theorem okEo_ : ∀ e : Eo, SEo T cl Γ L e
  | .no => s_no
  | .so e => s_so (okE_ e)
theorem okIt_ : ∀ e : Z.It, SIt T cl Γ L e
  | .seq e => s_itseq (okE_ e)
  | .rng es => s_itrng (okEs_ es)
  | .enu e => fun o h => s_enu (okE_ e) o h
  | .zip l r => fun o h => s_zip (okE_ l) (okE_ r) o h
  | .rev e => fun o h => s_rev (okE_ e) o h
end
end
end Z

set_option Elab.async false
set_option linter.all false
set_option maxRecDepth 100000
set_option maxHeartbeats 8000000
namespace Z
open PySem PySem.Spec PyProof.Rows L2

/-! ### checking statements -/
def swLine (c : Wh) (x : Str) (p : Pos) (v : Expr) : Bool :=
  match v with
  | .ListComp _ _ s q => (match c.sc.names.lookup x with
    | some .local => true
    | _ => false) && (p.line == q.line && !(s.names.any fun (n, k) => n == x && (k == .local || k == .cell)))
  | _ => false
def swNames (c : Wh) (line : Nat) (ts : List Expr) : List Str := ts.filterMap fun
    | .Name id pos => if (c.sc.names.lookup id == some .local && pos.line == line) = true then some id else none
    | _ => none
/-- what swappedStores tells of tuple displays (none: not told here) -/
def swS (c : Wh) (ts vs : List Expr) : Option (Option (List Str)) :=
  if (!(ts.length == 2 || ts.length == 3) || vs.length != ts.length) = true then some none else
  if (vs.any fun | .Starred .. => true | _ => false) = true then some none else
  if ((swNames c ((ts.head?.map (·.pos.line)).getD 0) ts).length != ts.length || (swNames c ((ts.head?.map (·.pos.line)).getD 0) ts).eraseDups.length != (swNames c ((ts.head?.map (·.pos.line)).getD 0) ts).length) = true then some none else
  if vs.all (foldedForSure 8) = true then some none else
  if vs.all (constantsAlone 8) = true then none else some (some (swNames c ((ts.head?.map (·.pos.line)).getD 0) ts))
theorem sw_names {T : Tab} {cl : String → Addr} {Γ : Gam} {L : Nat} {X : Cx} {W : WX} {c : Wh} (o : COk T cl Γ L X W c) (l : Nat) (ts : List Expr) :
    (ts.filterMap fun
    | .Name id pos => if (X.env.kindOf id == some .local && pos.line == l) = true then some id else none
    | _ => none) = swNames c l ts := by
  have h : ∀ id, X.env.kindOf id = c.sc.names.lookup id := fun id => by
    show X.env.scope.names.lookup id = _
    rw [o.sc]
  unfold swNames
  congr 1
  funext e
  cases e with
  | Name id p => show (if (X.env.kindOf id == some .local && p.line == l) = true then _ else _) = _; rw [h]
  | _ => rfl
theorem sws_of {T : Tab} {cl : String → Addr} {Γ : Gam} {L : Nat} {X : Cx} {W : WX} {c : Wh} (o : COk T cl Γ L X W c) {ts vs : List Expr} {k k2 : Nat} {p p2 : Pos} {r : Option (List Str)} (h : swS c ts vs = some r) : swappedStores [.Tuple ts k p] (.Tuple vs k2 p2) X.env = pure r := by
  have hb : X.env.blockKind = .function := by
    unfold Env.blockKind
    rw [o.sc, o.kind]
    rfl
  unfold swS at h
  unfold swappedStores
  simp only [hb, bne_self_eq_false, Bool.or_false]
  rw [← sw_names o] at h
  split at h
  · cases h; rename_i hx; exact if_pos hx
  · rename_i hx
    refine (if_neg hx).trans ?_
    split at h
    · cases h; rename_i hx; exact if_pos hx
    · rename_i hx
      refine (if_neg hx).trans ?_
      split at h
      · cases h; rename_i hx; exact if_pos hx
      · rename_i hx
        refine (if_neg hx).trans ?_
        split at h
        · cases h; rename_i hx; exact if_pos hx
        · rename_i hx
          refine (if_neg hx).trans ?_
          split at h
          · cases h
          · rename_i hx
            cases h
            exact if_neg hx
def isLc : Expr → Bool
  | .ListComp .. => true
  | _ => false
/-- a, b = e stores one after another -/
def oneByOne (c : Wh) (ts : List Expr) : Expr → Bool
  | .Tuple vs _ _ => (match swS c ts vs with
    | some none => true
    | _ => false)
  | _ => true
theorem sws_none {T : Tab} {cl : String → Addr} {Γ : Gam} {L : Nat} {X : Cx} {W : WX} {c : Wh} (o : COk T cl Γ L X W c) {ts : List Expr} {v : Expr} {k : Nat} {p : Pos} (h : oneByOne c ts v = true) : swappedStores [.Tuple ts k p] v X.env = pure none := by
  cases v with
  | Tuple vs k2 p2 =>
    change (match swS c ts vs with
      | some none => true
      | _ => false) = true at h
    cases e : swS c ts vs with
    | none => rw [e] at h; cases h
    | some r =>
      rw [e] at h
      cases r with
      | some _ => cases h
      | none => exact sws_of o e
  | _ => rfl
def chkTg (T : Tab) (c : Wh) : Tg → Expr → Bool
  | .nm i, a => (match a with
    | .Name x _ => c.slot i x && c.loc x
    | _ => false)
  | .sub o k, a => (match a with
    | .Subscript y z _ => !c.hot && (plainIx z && (chkE T c o y && chkE T c k z))
    | _ => false)
  | .fld _ _, _ => false
def chkTgs (T : Tab) (c : Wh) : List Tg → List Expr → Bool
  | [], [] => true
  | t :: ts, e :: es => !isStar e && (chkTg T c t e && chkTgs T c ts es)
  | _, _ => false
def isNm : Expr → Bool
  | .Name .. => true
  | _ => false
/-- suites of an except clause: nothing is raised there -/
def coldS : S → Bool
  | .set _ (.cst _) => true
  | .ret (.cst _) => true
  | .retn => true
  | .brk => true
  | .cnt => true
  | .pas => true
  | _ => false
def coldSs : Ss → Bool
  | .nil => true
  | .cons s ss => coldS s && coldSs ss
mutual
def chkS (T : Tab) (c : Wh) : S → Stmt → Bool
  | .set i e, s => (match s with
    | .Assign [.Name x p] v pos => c.slot i x && (c.loc x && (chkE T c e v && (!isComp v || isLc v)))
    | _ => false)
  | .setc i e, s => (match s with
    | .Assign [.Name x p] v pos => c.slot i x && (c.loc x && (chkE T c e v && !isComp v))
    | _ => false)
  | .sett ts e, s => (match s with
    | .Assign [.Tuple es _ _] v _ => !c.hot && (oneByOne c es v && (!isComp v && (chkTgs T c ts es && chkE T c e v)))
    | _ => false)
  | .par is es, s => (match is, s with
    | [i, j], .Assign [.Tuple [.Name x px, .Name y py] k p] (.Tuple [a, b] k2 p2) _ => !c.hot && (decide (swS c [.Name x px, .Name y py] [a, b] = some (some [x, y])) && (c.slot i x && (c.slot j y && (decide (i ≠ j) && (decide (c.sc.names.lookup x = some .local) && (decide (c.sc.names.lookup y = some .local) && chkEs T c es [a, b]))))))
    | [i, j, l], .Assign [.Tuple [.Name x px, .Name y py, .Name z pz] k p] (.Tuple [a, b, d] k2 p2) _ => !c.hot && (decide (swS c [.Name x px, .Name y py, .Name z pz] [a, b, d] = some (some [x, y, z])) && (c.slot i x && (c.slot j y && (c.slot l z && (decide (i ≠ j ∧ i ≠ l ∧ j ≠ l) &&
        (decide (c.sc.names.lookup x = some .local) && (decide (c.sc.names.lookup y = some .local) && (decide (c.sc.names.lookup z = some .local) && chkEs T c es [a, b, d]))))))))
    | _, _ => false)
  | .setf o f e, s => (match s with
    | .Assign [.Attribute y f' _] v _ => decide (f' = Str.ofString f) && (chkE T c o y && chkE T c e v)
    | _ => false)
  | .setfc o f e, s => (match s with
    | .Assign [.Attribute y f' _] v _ => decide (f' = Str.ofString f) && (chkE T c o y && chkE T c e v)
    | _ => false)
  | .seti o k e, s => (match s with
    | .Assign [.Subscript y z _] v _ => !c.hot && (plainIx z && (!isComp v && (chkE T c o y && (chkE T c k z && chkE T c e v))))
    | _ => false)
  | .aug i op e, s => (match s with
    | .AugAssign (.Name x _) op' v _ => decide (op = op') && (c.slot i x && (c.loc x && chkE T c e v))
    | _ => false)
  | .augf o f op e, s => (match s with
    | .AugAssign (.Attribute y f' _) op' v _ => decide (op = op') && (decide (f' = Str.ofString f) && (chkE T c o y && chkE T c e v))
    | _ => false)
  | .augi o k op e, s => (match s with
    | .AugAssign (.Subscript y z _) op' v _ => !c.hot && (decide (op = op') && (plainIx z && (chkE T c o y && (chkE T c k z && chkE T c e v))))
    | _ => false)
  | .ex e, s => (match s with
    | .Expr v _ => !isComp v && chkE T c e v
    | _ => false)
  | .ret e, s => (match s with
    | .Return (some v) _ => chkE T c e v
    | _ => false)
  | .retn, s => (match s with
    | .Return none _ => true
    | _ => false)
  | .ifs t a b, s => (match s with
    | .If x ys zs _ => chkE T c t x && (chkSs T c a ys && chkSs T c b zs)
    | _ => false)
  | .for tg it b _, s => !c.hot && (match s with
    | .For tgx itx body [] _ => tgtOk c tg tgx && (!isSetE itx && (chkIt T c (isTup tgx) it itx && chkSs T c b body))
    | _ => false)
  | .whl t b _, s => (match s with
    | .While x body [] _ => chkE T c t x && chkSs T c b body
    | _ => false)
  | .brk, s => (match s with
    | .Break _ => true
    | _ => false)
  | .cnt, s => (match s with
    | .Continue _ => true
    | _ => false)
  | .pas, s => (match s with
    | .Pass _ => true
    | _ => false)
  | .rais k, s => !c.hot && (match s with
    | .Raise (some (.Call (.Name x _) [] [] _)) none _ => decide (x = Str.ofString k) && (c.gl x && (noDbg x && T.excs.contains k))
    | _ => false)
  | .tryx b k n h, s => !c.hot && (match n, s with
    | none, .Try body [.ExceptHandler (some (.Name x _)) none suite _] [] [] _ => c.blk.isNone && (!tyNames.contains k && (decide (x = Str.ofString k) && (c.gl x && (noDbg x && (T.clss.contains k && (coldSs h && (decide (suite.length ≠ 0) && (chkSs T c b body && chkSs T { c with hot := true } h suite))))))))
    | _, _ => false)
  | .nope, _ => true
  | .tryw b k n f, s => !c.hot && (match s with
    | .Try body [.ExceptHandler (some (.Name x _)) (some nm) [.Return (some (.Call (.Name g _) [.Name y yp] [] _)) _] _] [] [] _ => c.blk.isNone && (!tyNames.contains k && (decide (x = Str.ofString k) && (c.gl x && (noDbg x && (T.clss.contains k && (c.slot n nm && (decide (c.sc.names.lookup nm = some .local) &&
        (decide (y = nm) && (noDbg nm && (decide (g = Str.ofString f) && (c.gl g && (noDbg g && chkSs T c b body))))))))))))
    | _ => false)
def chkSs (T : Tab) (c : Wh) : Ss → List Stmt → Bool
  | .nil, ss => (match ss with
    | [] => true
    | _ => false)
  | .cons s ss, l => (match l with
    | x :: xs => chkS T c s x && chkSs T c ss xs
    | _ => false)
end
/-! ### .. and what it gives -/
section
variable {T : Tab} {cl : String → Addr} {Γ : Gam} {L : Nat}
def SS (T : Tab) (cl : String → Addr) (Γ : Gam) (L W0 : Nat) (s : S) : Prop := ∀ {X : Cx} {W : WX} {c : Wh} {st : Stmt}, COk T cl Γ L X W c → chkS T c s st = true → L2.PS X st (tMS cl W (evS Γ W0 s))
def SSs (T : Tab) (cl : String → Addr) (Γ : Gam) (L W0 : Nat) (s : Ss) : Prop := ∀ {X : Cx} {W : WX} {c : Wh} {st : List Stmt}, COk T cl Γ L X W c → chkSs T c s st = true → L2.PSs X st (tMS cl W (evSs Γ W0 s))
variable {X : Cx} {W : WX} {c : Wh} {W0 : Nat}
theorem COk.ln (o : COk T cl Γ L X W c) {σ : L2.St} {H : Hp} {s : Shared} {pins : List (Addr × Obj)} (I : Inv X pins σ H s) : σ.length = c.N.length := by rw [← o.N]; exact I.len
theorem COk.locF (o : COk T cl Γ L X W c) {x : Str} (h : c.loc x = true) : X.fn x = true ∨ X.env.scope.names.lookup x = some .local := by rw [o.sc]; exact o.fn x h
theorem lc_of {v : Expr} (h : isLc v = true) : ∃ x gs s p, v = .ListComp x gs s p := by
  cases v <;> first
    | exact ⟨_, _, _, _, rfl⟩
    | cases h
theorem sw_lc {elt : Expr} {gs : List Comprehension} {scope : Scope} {pos py : Pos} {y : Str} {l : Nat} {env : Env} : swapsWith (.ListComp elt gs scope pos) (some (.Name y py)) l env =
    pure (env.blockKind == .function && env.kindOf y == some .local && py.line == pos.line && !(scope.names.any fun (n, k) => n == y && (k == .local || k == .cell))) := rfl
theorem chk_lc {e : E} {x : Expr} {gs : List Comprehension} {s : Scope} {p : Pos} (h : chkE T c e (.ListComp x gs s p) = true) : ∃ el tg it ifs own, e = .comp el tg it ifs own := by
  cases e with
  | comp el tg it ifs own => exact ⟨_, _, _, _, _, rfl⟩
  | _ => exfalso; revert h; unfold chkE; simp
theorem s_set {i : Nat} {e : E} : SS T cl Γ L W0 (.set i e) := fun {X W c st} o h => by
  unfold chkS at h
  split at h
  · rename_i x p v pos
    obtain ⟨h1, h⟩ := b2 h
    obtain ⟨h2, h⟩ := b2 h
    obtain ⟨h3, h4⟩ := b2 h
    have nd : X.N.Nodup := by rw [o.N]; exact o.nd
    refine fs_set (slot_lt h1) (fun I => o.ln I) ?_
    by_cases hc : isComp v = false
    · exact ps_set nd (o.slot h1) (o.loc h2) ((okE_ e o h3).1 false) (sw_no hc) (o.locF h2)
    · have hc' : isComp v = true := by simpa using hc
      rw [hc'] at h4
      obtain ⟨lx, gs, sc, lp, rfl⟩ := lc_of (by simpa using h4)
      cases hb : (X.env.blockKind == .function && X.env.kindOf x == some .local && p.line == lp.line && !(sc.names.any fun (n, k) => n == x && (k == .local || k == .cell))) with
      | false => exact ps_set nd (o.slot h1) (o.loc h2) ((okE_ e o h3).1 false) (by rw [sw_lc, hb]) (o.locF h2)
      | true =>
        have hl : X.env.scope.names.lookup x = some .local := by
          simp only [Bool.and_eq_true, beq_iff_eq] at hb
          exact hb.1.1.2
        obtain ⟨el, tg, it, ifs, own, rfl⟩ := chk_lc h3
        unfold chkE at h3
        obtain ⟨hh, hq⟩ := b2 h3
        split at hq
        · rename_i heq
          cases heq
          obtain ⟨q1, hq⟩ := b2 hq
          have hx := of_decide_eq_true q1
          subst hx
          exact (lc_ok (okE_ el) (okIt_ it) (okEs_ ifs) o (nt2 hh) hq).ps (o.slot h1) hl (by rw [sw_lc, hb]) _ rfl
        · cases hq
  · cases h
theorem s_setc {i : Nat} {e : E} : SS T cl Γ L W0 (.setc i e) := fun {X W c st} o h => by
  unfold chkS at h
  split at h
  · obtain ⟨h1, h⟩ := b2 h
    obtain ⟨h2, h⟩ := b2 h
    obtain ⟨h3, h4⟩ := b2 h
    have nd : X.N.Nodup := by rw [o.N]; exact o.nd
    exact fs_setc (slot_lt h1) (fun te he => ps_set nd (o.slot h1) (o.loc h2) he (sw_no (nt2 h4)) (o.locF h2)) (fun I => o.ln I) ((okE_ e o h3).1 false)
  · cases h
theorem s_tg {t : Tg} {a : Expr} (o : COk T cl Γ L X W c) (h : chkTg T c t a = true) : L2.PG X a (tMG cl W (evTg Γ t)) := by
  cases t with
  | nm i =>
    change (match (generalizing := false) a with
      | .Name x _ => c.slot i x && c.loc x
      | _ => false) = true at h
    split at h
    · obtain ⟨h1, h2⟩ := b2 h
      exact fg_nm (by rw [o.N]; exact slot_lt h1) (s_name o h1 h2)
    · cases h
  | sub ob k =>
    change (match (generalizing := false) a with
      | .Subscript y z _ => !c.hot && (plainIx z && (chkE T c ob y && chkE T c k z))
      | _ => false) = true at h
    split at h
    · rename_i y z pos
      obtain ⟨h0, h⟩ := b2 h
      obtain ⟨h1, h⟩ := b2 h
      obtain ⟨h2, h3⟩ := b2 h
      have hu := o.units (nt2 h0)
      exact fg_sub (fun to ti t a b c => pg_sub a b c (by
        intro v
        cases z <;> first
          | rfl
          | cases h1)) (by omega) ((okE_ ob o h2).1 true) ((okE_ k o h3).1 true)
    · cases h
  | fld _ _ => cases h
theorem s_tgs (o : COk T cl Γ L X W c) : ∀ {ts : List Tg} {es : List Expr}, chkTgs T c ts es = true → L2.PGs X es (tMGs cl W (evTgs Γ ts)) ∧ (assignEach es X.env).length = ts.length ∧ (assignEach es X.env).findIdx? (·.1) = none
  | [], [], _ => ⟨fgs_nil, rfl, rfl⟩
  | t :: ts, e :: es, h => by
    unfold chkTgs at h
    obtain ⟨h0, h⟩ := b2 h
    obtain ⟨h1, h2⟩ := b2 h
    obtain ⟨q1, q2, q3⟩ := s_tgs o h2
    have hs : assignEach (e :: es) X.env = (false, assign e X.env) :: assignEach es X.env := by
      have h0' := nt2 h0
      cases e <;> first
        | rfl
        | cases h0'
    refine ⟨fgs_cons (s_tg o h1) q1 (by rw [hs]; rfl), by rw [hs]; exact congrArg Nat.succ q2, ?_⟩
    rw [hs, List.findIdx?_cons]
    simp [q3]
  | [], _ :: _, h => by cases h
  | _ :: _, [], h => by cases h
theorem s_sett {ts : List Tg} {e : E} : SS T cl Γ L W0 (.sett ts e) := fun {X W c st} o h => by
  unfold chkS at h
  split at h
  · obtain ⟨h0, h⟩ := b2 h
    obtain ⟨h1, h⟩ := b2 h
    obtain ⟨h2, h⟩ := b2 h
    obtain ⟨h3, h4⟩ := b2 h
    obtain ⟨q1, q2, q3⟩ := s_tgs o h3
    exact fs_sett (fun te g he hg => ps_asg he (pg_tup (o.calm (nt2 h0)).1 hg q2 q3) (sws_no (nt2 h2)) (sws_none o h1) rfl) ((okE_ e o h4).1 false) q1
  · cases h
theorem s_par {is : List Nat} {es : Es} : SS T cl Γ L W0 (.par is es) := fun {X W c st} o h => by
  unfold chkS at h
  have nd : X.N.Nodup := by rw [o.N]; exact o.nd
  split at h
  · obtain ⟨h0, h⟩ := b2 h
    obtain ⟨h1, h⟩ := b2 h
    obtain ⟨h2, h⟩ := b2 h
    obtain ⟨h3, h⟩ := b2 h
    obtain ⟨h4, h⟩ := b2 h
    obtain ⟨h5, h⟩ := b2 h
    obtain ⟨h6, h7⟩ := b2 h
    have l1 := of_decide_eq_true h5
    have l2 := of_decide_eq_true h6
    rw [← o.sc] at l1 l2
    exact fs_par (slot_lt h2) (slot_lt h3) (fun I => o.ln I) (fun ta ha => ps_par (o.calm (nt2 h0)).1 nd (o.slot h2) (o.slot h3) (of_decide_eq_true h4) l1 l2 ha (sws_of o (of_decide_eq_true h1)) rfl) (((okEs_ es o).1 h7).1 false)
  · obtain ⟨h0, h⟩ := b2 h
    obtain ⟨h1, h⟩ := b2 h
    obtain ⟨h2, h⟩ := b2 h
    obtain ⟨h3, h⟩ := b2 h
    obtain ⟨h4, h⟩ := b2 h
    obtain ⟨h5, h⟩ := b2 h
    obtain ⟨h6, h⟩ := b2 h
    obtain ⟨h7, h⟩ := b2 h
    obtain ⟨h8, h9⟩ := b2 h
    have l1 := of_decide_eq_true h6
    have l2 := of_decide_eq_true h7
    have l3 := of_decide_eq_true h8
    rw [← o.sc] at l1 l2 l3
    have ne := of_decide_eq_true h5
    exact fs_par3 (slot_lt h2) (slot_lt h3) (slot_lt h4) (fun I => o.ln I) (fun ta ha => ps_par3 (o.calm (nt2 h0)).1 nd (o.slot h2) (o.slot h3) (o.slot h4) ne.1 ne.2.1 ne.2.2 l1 l2 l3 ha (sws_of o (of_decide_eq_true h1)) rfl) (((okEs_ es o).1 h9).1 false)
  · cases h
theorem sw_attr {v o : Expr} {f : Str} {p : Pos} {l : Nat} {env : Env} : swapsWith v (some (.Attribute o f p)) l env = pure false := by
  cases v <;> rfl
theorem s_setf {ob e : E} {f : String} : SS T cl Γ L W0 (.setf ob f e) := fun {X W c st} o h => by
  unfold chkS at h
  split at h
  · obtain ⟨h1, h⟩ := b2 h
    obtain ⟨h2, h3⟩ := b2 h
    have hx := of_decide_eq_true h1
    subst hx
    exact fs_setf o.g.fld (fun ta tv a b => ps_fld a b sw_attr) ((okE_ e o h3).1 false) ((okE_ ob o h2).1 true)
  · cases h
theorem s_setfc {ob e : E} {f : String} : SS T cl Γ L W0 (.setfc ob f e) := fun {X W c st} o h => by
  unfold chkS at h
  split at h
  · obtain ⟨h1, h⟩ := b2 h
    obtain ⟨h2, h3⟩ := b2 h
    have hx := of_decide_eq_true h1
    subst hx
    exact fs_setfc o.g.fld (fun ta tv a b => ps_fld a b sw_attr) ((okE_ e o h3).1 false) ((okE_ ob o h2).1 true)
  · cases h
theorem s_seti {ob k e : E} : SS T cl Γ L W0 (.seti ob k e) := fun {X W c st} o h => by
  unfold chkS at h
  split at h
  · rename_i y z p v pos
    obtain ⟨h0, h⟩ := b2 h
    obtain ⟨h1, h⟩ := b2 h
    obtain ⟨h2, h⟩ := b2 h
    obtain ⟨h3, h⟩ := b2 h
    obtain ⟨h4, h5⟩ := b2 h
    have ht : chkTg T c (.sub ob k) (.Subscript y z p) = true := by
      show (!c.hot && (plainIx z && (chkE T c ob y && chkE T c k z))) = true
      rw [h0, h1, h3, h4]
      rfl
    exact fs_seti (fun te g a b => ps_asg a b (sws_no (nt2 h2)) rfl rfl) (s_tg o ht) ((okE_ e o h5).1 false)
  · cases h
theorem s_aug {i : Nat} {op : Operator} {e : E} : SS T cl Γ L W0 (.aug i op e) := fun {X W c st} o h => by
  unfold chkS at h
  split at h
  · obtain ⟨h1, h⟩ := b2 h
    obtain ⟨h2, h⟩ := b2 h
    obtain ⟨h3, h4⟩ := b2 h
    have hx := of_decide_eq_true h1
    subst hx
    have nd : X.N.Nodup := by rw [o.N]; exact o.nd
    exact fs_aug (slot_lt h2) (fun I => o.ln I) (fun te ti a b => ps_aug nd (o.slot h2) (o.loc h3) a b (o.locF h3)) ((okE_ e o h4).1 true)
  · cases h
theorem s_augf {ob e : E} {f : String} {op : Operator} : SS T cl Γ L W0 (.augf ob f op e) := fun {X W c st} o h => by
  unfold chkS at h
  split at h
  · obtain ⟨h1, h⟩ := b2 h
    obtain ⟨h2, h⟩ := b2 h
    obtain ⟨h3, h4⟩ := b2 h
    have hx := of_decide_eq_true h1
    subst hx
    have hx := of_decide_eq_true h2
    subst hx
    exact fs_augf o.g.fld (fun ta tv rd a b c => ps_fldaug a b c) ((okE_ e o h4).1 true) ((okE_ ob o h3).1 true)
  · cases h
theorem s_augi {ob k e : E} {op : Operator} : SS T cl Γ L W0 (.augi ob k op e) := fun {X W c st} o h => by
  unfold chkS at h
  split at h
  · rename_i y z p1 op' v p2
    obtain ⟨h0, h⟩ := b2 h
    obtain ⟨h1, h⟩ := b2 h
    obtain ⟨h2, h⟩ := b2 h
    obtain ⟨h3, h⟩ := b2 h
    obtain ⟨h4, h5⟩ := b2 h
    have hx := of_decide_eq_true h1
    subst hx
    have hu := o.units (nt2 h0)
    exact fs_augi (by omega) (fun to ti te tget tip tset a b c d e f => ps_augS a b c d e f (by
      intro ov iv new
      cases z <;> first
        | rfl
        | cases h2)) ((okE_ ob o h3).1 true) ((okE_ k o h4).1 true) ((okE_ e o h5).1 true)
  · cases h
theorem s_ex {e : E} : SS T cl Γ L W0 (.ex e) := fun {X W c st} o h => by
  unfold chkS at h
  split at h
  · obtain ⟨h1, h2⟩ := b2 h
    exact fs_ex (fun te a => ps_expr a (sw_no (nt2 h1))) ((okE_ e o h2).1 true)
  · cases h
theorem s_ret {e : E} : SS T cl Γ L W0 (.ret e) := fun {X W c st} o h => by
  unfold chkS at h
  split at h
  · exact fs_ret ((okE_ e o h).1 false)
  · cases h
theorem s_retn : SS T cl Γ L W0 .retn := fun {X W c st} o h => by
  unfold chkS at h
  split at h
  · exact fs_retN
  · cases h
theorem s_brk : SS T cl Γ L W0 .brk := fun {X W c st} o h => by
  unfold chkS at h
  split at h
  · exact fs_brk
  · cases h
theorem s_cnt : SS T cl Γ L W0 .cnt := fun {X W c st} o h => by
  unfold chkS at h
  split at h
  · exact fs_cnt
  · cases h
theorem s_pas : SS T cl Γ L W0 .pas := fun {X W c st} o h => by
  unfold chkS at h
  split at h
  · exact fs_pass
  · cases h
theorem s_ifs {t : E} {a b : Ss} (ha : SSs T cl Γ L W0 a) (hb : SSs T cl Γ L W0 b) : SS T cl Γ L W0 (.ifs t a b) := fun {X W c st} o h => by
  unfold chkS at h
  split at h
  · obtain ⟨h1, h⟩ := b2 h
    obtain ⟨h2, h3⟩ := b2 h
    exact fs_if ((okE_ t o h1).2 true) (ha o h2) (hb o h3)
  · cases h
theorem s_for {tg msk : List Nat} {it : Z.It} {b : Ss} (hb : SSs T cl Γ L W0 b) : SS T cl Γ L W0 (.for tg it b msk) := fun {X W c st} o h => by
  unfold chkS at h
  obtain ⟨hh, hq⟩ := b2 h
  clear h
  split at hq
  · obtain ⟨h1, h⟩ := b2 hq
    obtain ⟨h2, h⟩ := b2 h
    obtain ⟨h3, h4⟩ := b2 h
    obtain ⟨q1, q2⟩ := s_tgt o h1
    exact fs_for (by rw [o.N]; exact q2) (fun wi g tb a b d => ps_for o.po (o.calm (nt2 hh)).1 a b d (fold_of (nt2 h2))) (okIt_ it o h3) q1 (hb o h4)
  · cases hq
theorem s_whl {t : E} {b : Ss} {msk : List Nat} (hb : SSs T cl Γ L W0 b) : SS T cl Γ L W0 (.whl t b msk) := fun {X W c st} o h => by
  unfold chkS at h
  split at h
  · obtain ⟨h1, h2⟩ := b2 h
    exact fs_whl (fun tc tb a b => ps_while o.po a b) ((okE_ t o h1).2 true) (hb o h2)
  · cases h
theorem s_rais {k : String} : SS T cl Γ L W0 (.rais k) := fun {X W c st} o h => by
  unfold chkS at h
  obtain ⟨hh, hq⟩ := b2 h
  clear h
  split at hq
  · obtain ⟨h1, h⟩ := b2 hq
    obtain ⟨h2, h⟩ := b2 h
    obtain ⟨h3, h4⟩ := b2 h
    have hx := of_decide_eq_true h1
    subst hx
    obtain ⟨q1, q2, q3, q4, q5⟩ := o.g.excs k (by simpa using h4)
    exact fs_raise (C := cl k) rfl ⟨q1, q2, q3, raises_own q4 q5⟩ (o.calm (nt2 hh)).1 o.tk (o.gl h2) (dbg_of h3).1
  · cases hq
theorem cold_no : ∀ {s : S}, coldS s = true → ∀ st c st', evS Γ W0 s st ≠ .exc c st' := by
  intro s h st c st'
  cases s with
  | set i e =>
    cases e with
    | cst d => intro z; cases z
    | _ => cases h
  | ret e =>
    cases e with
    | cst d => intro z; cases z
    | _ => cases h
  | retn => intro z; cases z
  | brk => intro z; cases z
  | cnt => intro z; cases z
  | pas => intro z; cases z
  | _ => cases h
theorem colds_no : ∀ {s : Ss}, coldSs s = true → ∀ st c st', evSs Γ W0 s st ≠ .exc c st'
  | .nil, _, st, c, st' => by intro z; cases z
  | .cons t .nil, h, st, c, st' => by
    obtain ⟨h1, _⟩ := b2 (show (coldS t && coldSs .nil) = true from h)
    exact cold_no h1 st c st'
  | .cons t (.cons t' ts), h, st, c, st' => by
    obtain ⟨h1, h2⟩ := b2 (show (coldS t && coldSs (.cons t' ts)) = true from h)
    intro z
    change seqF (evS Γ W0 t) (evSs Γ W0 (.cons t' ts)) st = _ at z
    unfold seqF at z
    cases e : evS Γ W0 t st with
    | nx s1 => rw [e] at z; exact colds_no h2 s1 c st' z
    | exc c1 s1 => exact cold_no h1 _ _ _ e
    | rt d S => rw [e] at z; cases z
    | bk s1 => rw [e] at z; cases z
    | ct s1 => rw [e] at z; cases z
    | stk => rw [e] at z; cases z
theorem COk.tr (o : COk T cl Γ L X W c) {W' : WX} {pn : List (Addr × Obj)} {xe : Value → Shared → Prop} (tk : Takes (X.tr pn xe) W') (po : PassesOwn (model X.prog X.w) X.A X.env xe) : COk T cl Γ L (X.tr pn xe) W' c :=
  ⟨o.N, o.nd, o.sc, o.kind, o.fn, o.calm, tk, po, o.top, o.g⟩
theorem COk.suite (o : COk T cl Γ L X W c) (a : Addr) (pn : List (Addr × Obj)) : COk T cl Γ L (X.suite a pn) noW { c with hot := true } := by
  refine ⟨o.N, o.nd, o.sc, o.kind, o.fn, (fun z => nomatch z), fun u s' h => ?_, fun e s' h => h.elim, o.top, o.g⟩
  obtain ⟨a, B, sI, pins, σ, H', cls, d, _, _, _, _, _, _, _, _, z⟩ := h
  exact z.elim
theorem s_try {b h : Ss} {k : String} {n : Option Nat} (hb : SSs T cl Γ L W0 b) (hs : SSs T cl Γ L W0 h) : SS T cl Γ L W0 (.tryx b k n h) := fun {X W c st} o hc => by
  unfold chkS at hc
  obtain ⟨hh, hq⟩ := b2 hc
  clear hc
  split at hq
  · rename_i body x p1 suite p2 p3
    obtain ⟨h1, q⟩ := b2 hq
    obtain ⟨h2, q⟩ := b2 q
    obtain ⟨h3, q⟩ := b2 q
    obtain ⟨h4, q⟩ := b2 q
    obtain ⟨h5, q⟩ := b2 q
    obtain ⟨h6, q⟩ := b2 q
    obtain ⟨h7, q⟩ := b2 q
    obtain ⟨h8, q⟩ := b2 q
    obtain ⟨h9, h10⟩ := b2 q
    have hx := of_decide_eq_true h3
    subst hx
    obtain ⟨t1, t2⟩ := o.top (Option.isNone_iff_eq_none.mp h1)
    have hn : Names X (Str.ofString k) (tv cl k) := by
      have : k ∉ tyNames := by simpa using h2
      refine ⟨o.gl h4, (dbg_of h5).1, .inl ?_⟩
      unfold tv
      rw [if_neg this]
      exact o.g.clss k (by simpa using h6)
    match suite, h8, h10 with
    | b₀ :: suite, _, h10 => exact fs_try o.g.exm t1 t2 hn o.tk (fun W' pn xe tk po => hb (o.tr tk po) h9) (fun a pn => hs (o.suite a pn) h10) (fun s c' s' => colds_no h7 s c' s')
    | [], h8, _ => simp at h8
  · cases hq
theorem s_nope : SS T cl Γ L W0 .nope := fun {X W c st} o h => fs_nope
theorem s_tryw {b : Ss} {k : String} {n : Nat} {f : String} (hb : SSs T cl Γ L W0 b) : SS T cl Γ L W0 (.tryw b k n f) := fun {X W c st} o hc => by
  unfold chkS at hc
  obtain ⟨hh, hq⟩ := b2 hc
  clear hc
  split at hq
  · rename_i body x p1 nm g p2 y yp p3 p4 p5 p6
    obtain ⟨h1, q⟩ := b2 hq
    obtain ⟨h2, q⟩ := b2 q
    obtain ⟨h3, q⟩ := b2 q
    obtain ⟨h4, q⟩ := b2 q
    obtain ⟨h5, q⟩ := b2 q
    obtain ⟨h6, q⟩ := b2 q
    obtain ⟨h7, q⟩ := b2 q
    obtain ⟨h8, q⟩ := b2 q
    obtain ⟨h9, q⟩ := b2 q
    obtain ⟨h10, q⟩ := b2 q
    obtain ⟨h11, q⟩ := b2 q
    obtain ⟨h12, q⟩ := b2 q
    obtain ⟨h13, h14⟩ := b2 q
    have hx := of_decide_eq_true h3
    have hy := of_decide_eq_true h9
    have hg := of_decide_eq_true h11
    subst hx hy hg
    obtain ⟨t1, t2⟩ := o.top (Option.isNone_iff_eq_none.mp h1)
    have hn : Names X (Str.ofString k) (tv cl k) := by
      have : k ∉ tyNames := by simpa using h2
      refine ⟨o.gl h4, (dbg_of h5).1, .inl ?_⟩
      unfold tv
      rw [if_neg this]
      exact o.g.clss k (by simpa using h6)
    have hln : X.env.kindOf y = some .local := by
      show X.env.scope.names.lookup y = some .local
      rw [o.sc]
      exact of_decide_eq_true h8
    have hi : X.N[n]? = some y := by rw [o.N]; exact of_decide_eq_true h7
    refine fs_tryw (wh := Γ.wh f) (i := n) o.g.exm t1 t2 (by rw [o.N]; exact o.nd) hi hln hn o.tk (fun W' pn xe tk po => hb (o.tr tk po) h14) fun c' r hr a oe pn hz hd => ?_
    obtain ⟨fa, fdat, prm, F, e1, e2, e3, e4⟩ := o.g.wh f c' r hr
    have os := o.suite a ((a, oe) :: pn)
    have rm : L2H.RoomH 1 (X.suite a ((a, oe) :: pn)).A := by
      have r0 := (L2H.roomH_of (o.calm (nt2 hh)).2).mono (show 1 ≤ L + 1 by omega)
      exact ⟨r0.dp, r0.un⟩
    exact pe_askW (X := X.suite a ((a, oe) :: pn)) (pin := (a, oe)) (W := noW) F e1 rm List.mem_cons_self hz hd (o.gl h12) e2 e3 e4 os.tk (pe_var hi (.inl (by show X.env.scope.names.lookup y = some .local; rw [o.sc]; exact of_decide_eq_true h8)) (dbg_of h10).1 (dbg_of h10).2) (dbg_of h13).1 (star_cons rfl)
  · cases hq
theorem ss_nil : SSs T cl Γ L W0 .nil := fun {X W c st} o h => by
  unfold chkSs at h
  split at h
  · exact fs_nil
  · cases h
theorem ss_cons {s : S} {ss : Ss} (hs : SS T cl Γ L W0 s) (hr : SSs T cl Γ L W0 ss) : SSs T cl Γ L W0 (.cons s ss) := fun {X W c st} o h => by
  unfold chkSs at h
  split at h
  · obtain ⟨h1, h2⟩ := b2 h
    cases ss with
    | nil =>
      unfold chkSs at h2
      split at h2
      · exact fs_one (hs o h1)
      · cases h2
    | cons t ts => exact fs_cons (hs o h1) (hr o h2)
  · cases h
mutual
theorem okS_ : ∀ s : S, SS T cl Γ L W0 s
  | .set _ _ => s_set
  | .setc _ _ => s_setc
  | .sett _ _ => s_sett
  | .par _ _ => s_par
  | .setf _ _ _ => s_setf
  | .setfc _ _ _ => s_setfc
  | .seti _ _ _ => s_seti
  | .aug _ _ _ => s_aug
  | .augf _ _ _ _ => s_augf
  | .augi _ _ _ _ => s_augi
  | .ex _ => s_ex
  | .ret _ => s_ret
  | .retn => s_retn
  | .ifs _ a b => s_ifs (okSs_ a) (okSs_ b)
  | .for _ _ b _ => s_for (okSs_ b)
  | .whl _ b _ => s_whl (okSs_ b)
  | .brk => s_brk
  | .cnt => s_cnt
  | .pas => s_pas
  | .rais _ => s_rais
  | .tryx b _ _ h => s_try (okSs_ b) (okSs_ h)
  | .nope => s_nope
  | .tryw b _ _ _ => s_tryw (okSs_ b)
theorem okSs_ : ∀ s : Ss, SSs T cl Γ L W0 s
  | .nil => ss_nil
  | .cons s ss => ss_cons (okS_ s) (okSs_ ss)
end
end
end Z

set_option Elab.async false
set_option linter.all false
set_option maxRecDepth 100000
set_option maxHeartbeats 4000000
namespace Z
open PySem PySem.Spec PyProof.Rows L2
/-! ### which exception it is: the text of such a def -/
def chkIs (T : Tab) (c : Wh) (t : String) : Expr → Bool
  | .Call (.Name x _) [.Name y _, .Name z _] [] _ => decide (x = Str.ofString "isinstance") && (c.gl x && (T.frees.contains "isinstance" && (c.slot 0 y && (c.vis y && (noDbg y && (decide (z = Str.ofString t) && (c.gl z && (noDbg z && (if t = "ValueError" then T.frees.contains t else T.clss.contains t)))))))))
  | _ => false
def chkIsL (T : Tab) (c : Wh) : List String → List Expr → Bool
  | [], [] => true
  | t :: ts, e :: es => chkIs T c t e && chkIsL T c ts es
  | _, _ => false
def chkOwn (c : Wh) (m : String) (y m' : Str) (apos pos : Pos) : Bool := decide (m' = Str.ofString m) && (c.slot 1 y && (c.vis y && (noDbg y && (apos.endLine == pos.line))))
def chkAskR (T : Tab) (c : Wh) (x : List Nat) (last : String) : List (List String) → List Stmt → Bool
  | g :: gs, .Expr (.Call (.Attribute (.Name y _) m apos) [.List es _] [] pos) _ :: ss => chkOwn c "extend" y m apos pos && (chkIsL T c g es && chkAskR T c x last gs ss)
  | [], [.Expr (.Call (.Attribute (.Name y _) m apos) [e] [] pos) _, .If (.BoolOp .Or [.Compare (.Call (.Attribute (.Name y2 _) m2 apos2) [.Constant (.bool true) _ _] [] pos2) [.NotEq] [.Constant (.int 1) _ _] _, .UnaryOp .Not e2 _] _) [_] [] _,
      .Return (some (.Tuple [.Constant (.str z) _ _, .Call (.Attribute (.Name y3 _) m3 apos3) [.Constant (.bool true) _ _] [] pos3] _ _)) _] =>
    chkOwn c "append" y m apos pos && (chkIs T c last e && (!isStar e && (chkOwn c "count" y2 m2 apos2 pos2 && (chkIs T c "ValueError" e2 && (plainTest e2 && (decide (z = ⟨x.toArray⟩) && chkOwn c "index" y3 m3 apos3 pos3))))))
  | _, _ => false
def chkAsk (T : Tab) (c : Wh) (x : List Nat) (first : List String) (gs : List (List String)) (last : String) : List Stmt → Bool
  | .Assign [.Name y _] (.List es _) _ :: ss => c.slot 1 y && (c.loc y && (chkIsL T c first es && chkAskR T c x last gs ss))
  | _ => false
/-- where it runs -/
structure AskX (T : Tab) (cl : String → Addr) (X : Cx) (c : Wh) (pin : Addr × Obj) (C : String) (bt : String → Bool) : Prop where
  N : X.N = c.N
  nd : c.N.Nodup
  sc : X.env.scope = c.sc
  fn : ∀ x, c.loc x = true → X.fn x = true ∨ c.sc.names.lookup x = some .local
  free : ∀ x ∈ T.frees, X.mg (Str.ofString x) = none
  clss : ∀ k ∈ T.clss, X.mg (Str.ofString k) = some (.ref (cl k))
  exc : ExcC X.K (cl C)
  pn : pin ∈ X.pn
  zc : Zc (.ref (cl C)) none pin.2
  fd : ∃ vs, pin.2.data = .fields vs
  hu : X.A.units + 64 < cLine
def tvE (cl : String → Addr) (t : String) : Value := if t = "ValueError" then .type "ValueError" else .ref (cl t)
section
variable {T : Tab} {cl : String → Addr} {X : Cx} {c : Wh} {pin : Addr × Obj} {C : String} {bt : String → Bool}
theorem AskX.gl (o : AskX T cl X c pin C bt) {x : Str} (h : c.gl x = true) : Gl X x := by
  have e : X.env.scope.names.lookup x = c.sc.names.lookup x := by rw [o.sc]
  refine Eq.trans e ?_
  unfold Wh.gl at h
  split at h
  · assumption
  · cases h
theorem AskX.vis (o : AskX T cl X c pin C bt) {x : Str} (h : c.vis x = true) : Vis X.env.scope x := by
  have e : X.env.scope.names.lookup x = c.sc.names.lookup x := by rw [o.sc]
  unfold Wh.vis at h
  split at h
  · rename_i q; exact .inl (e.trans q)
  · rename_i q; exact .inr (.inl (e.trans q))
  · rename_i q; exact .inr (.inr (e.trans q))
  · cases h
theorem AskX.slot (o : AskX T cl X c pin C bt) {x : Str} {i : Nat} (h : c.slot i x = true) : X.N[i]? = some x := by rw [o.N]; exact of_decide_eq_true h
theorem ask_call (o : AskX T cl X c pin C bt) : CallR X (.builtin "isinstance") (rIsE X.K (cl C) pin.1) := by
  intro pins s σ H xs us Q I r ⟨cv, u0, b, hxs, huniq, hkit, hq⟩
  subst hxs
  obtain ⟨vs, hvs⟩ := o.fd
  have hg := (I.pin pin (List.mem_append_left _ o.pn)).1
  have J : PySem.W.InstAt s.heap pin.1 pin.2 (cl C) none := by
    obtain ⟨a, oc, od, odt, osl⟩ := pin
    obtain ⟨z1, z2⟩ := o.zc
    dsimp only at z1 z2 hvs hg ⊢
    subst z1 z2 hvs
    exact ⟨hg, rfl, rfl, trivial⟩
  have kx := PySem.W.handS_kitx_exc (x := pin.1) (ox := pin.2) o.exc.hg o.exc.hk o.exc.hs o.exc.hd o.exc.ha o.exc.hn o.exc.ht o.exc.hm
  match r with
  | .cons rx (.cons rt .nil) =>
    cases rx
    obtain rfl := huniq _ rt
    exact PySem.W.kia_one kx I.kIn J hkit (fun z => nomatch z) fun tk => ⟨V.bl b, H, I.kept (t' := tk) (fun _ _ z => z), rfl, hq⟩
theorem ask_is (o : AskX T cl X c pin C bt) {t : String} {e : Expr} (h : chkIs T c t e = true) (hk : PySem.W.kitOne X.K (.ref (cl C)) (tvE cl t) = some (bt t)) :
    L2.PE X e (fun σ H Q => σ[0]? = some (some (.ref pin.1)) ∧ Q (.bl (bt t)) H) ∧ isStar e = false := by
  unfold chkIs at h
  split at h
  · rename_i x p y p2 z p3 pos
    obtain ⟨h1, h⟩ := b2 h
    obtain ⟨h2, h⟩ := b2 h
    obtain ⟨h3, h⟩ := b2 h
    obtain ⟨h4, h⟩ := b2 h
    obtain ⟨h5, h⟩ := b2 h
    obtain ⟨h6, h⟩ := b2 h
    obtain ⟨h7, h⟩ := b2 h
    obtain ⟨h8, h⟩ := b2 h
    obtain ⟨h9, h10⟩ := b2 h
    have hx := of_decide_eq_true h1
    have hz := of_decide_eq_true h7
    subst hx hz
    have key : ∃ cv, L2.PE X (.Name (Str.ofString t) p3) (tC cv) ∧ ∀ u, RelV cv u → u = tvE cl t := by
      unfold tvE
      by_cases ht : t = "ValueError"
      · subst ht
        rw [if_pos rfl] at h10 ⊢
        exact ⟨.ty "ValueError", pe_bltn (o.gl h8) (o.free _ (by simpa using h10)) (by decide +kernel) rfl (by decide) (dbg_of h9).1, fun u r => r⟩
      · rw [if_neg ht] at h10 ⊢
        exact ⟨.ref (cl t), pe_glob (o.gl h8) (o.clss _ (by simpa using h10)) rfl (dbg_of h9).1, fun u r => r⟩
    obtain ⟨cv, hcv, hu⟩ := key
    have args := pa_cons (pe_var (pos := p2) (o.slot h4) (o.vis h5) (dbg_of h6).1 (dbg_of h6).2) (pa_cons hcv pa_nil (star_cons rfl)) (star_cons rfl)
    refine ⟨PE.imp (pe_callB (ask_call o) (o.gl h2) (o.free _ (by simpa using h3)) (by decide +kernel) args (by decide) (by decide) (star_cons rfl) rfl) fun σ H Q q => ?_, rfl⟩
    exact ⟨_, q.1, _, _, bt t, rfl, hu, hk, q.2⟩
  · cases h
theorem ask_isL (o : AskX T cl X c pin C bt) : ∀ {ts : List String} {es : List Expr}, chkIsL T c ts es = true → (∀ t ∈ ts, PySem.W.kitOne X.K (.ref (cl C)) (tvE cl t) = some (bt t)) →
    L2.PA X es (fun σ H Q => σ[0]? = some (some (.ref pin.1)) ∧ Q ((ts.map bt).map V.bl) H)
  | [], [], _, _ => PA.imp pa_nil fun σ H Q q => q.2
  | t :: ts, e :: es, h, hk => by
    unfold chkIsL at h
    obtain ⟨h1, h2⟩ := b2 h
    obtain ⟨q1, q2⟩ := ask_is o h1 (hk t List.mem_cons_self)
    exact PA.imp (pa_cons q1 (ask_isL o h2 fun t ht => hk t (List.mem_cons_of_mem _ ht)) (star_cons q2)) fun σ H Q q => ⟨q.1, q.1, q.2⟩
  | [], _ :: _, h, _ => by simp [chkIsL] at h
  | _ :: _, [], h, _ => by simp [chkIsL] at h
theorem chkOwn_of {m : String} {y m' : Str} {apos pos : Pos} (h : chkOwn c m y m' apos pos = true) : m' = Str.ofString m ∧ c.slot 1 y = true ∧ c.vis y = true ∧ noDbg y = true ∧ (apos.endLine == pos.line) = true := by
  unfold chkOwn at h
  obtain ⟨h1, h⟩ := b2 h
  obtain ⟨h2, h⟩ := b2 h
  obtain ⟨h3, h⟩ := b2 h
  obtain ⟨h4, h5⟩ := b2 h
  exact ⟨of_decide_eq_true h1, h2, h3, h4, h5⟩
/-- the things of H' that stood in H are the same, but for l -/
def Kept (l : Option Addr) (H H' : Hp) : Prop := ∀ b, some b ≠ l → H b ≠ none → H' b = H b
def tAsk (pin : Addr) (x : List Nat) (k : Int) (bs : List Bool) : TS := fun D σ H => ∃ l, σ[0]? = some (some (.ref pin)) ∧ σ[1]? = some (some (.ref l)) ∧ H l = some (.lst (bs.map V.bl)) ∧
  ∀ H' t, Kept (some l) H H' → H t = none → H' t = some (.tup [sV x, .int k]) → D.rt (.ref t) H'
theorem reps_bl {m : Mem} : ∀ bs : List Bool, Reps m (bs.map D.bl) (bs.map V.bl)
  | [] => .nil
  | b :: bs => .cons (.bl b) (reps_bl bs)
theorem bare_ok (H : Hp) : MOk ⟨H, fun _ => False, []⟩ := ⟨fun a f => f.elim, List.nodup_nil, fun a h => by cases h⟩
theorem ask_end (o : AskX T cl X c pin C bt) {x : List Nat} {k : Int} {last : String} (hl : PySem.W.kitOne X.K (.ref (cl C)) (tvE cl last) = some (bt last)) (hv : PySem.W.kitOne X.K (.ref (cl C)) (tvE cl "ValueError") = some (bt "ValueError")) (hv2 : bt "ValueError" = true) :
    ∀ {gs : List (List String)} {ss : List Stmt} {bs : List Bool}, chkAskR T c x last gs ss = true → (∀ g ∈ gs, ∀ t ∈ g, PySem.W.kitOne X.K (.ref (cl C)) (tvE cl t) = some (bt t)) →
    lcountF (.lst ((bs ++ (gs.flatten.map bt ++ [bt last])).map D.bl)) [.bl true] = some (.val (.int 1)) → lindexF (.lst ((bs ++ (gs.flatten.map bt ++ [bt last])).map D.bl)) [.bl true] = some (.val (.int k)) → (bs ++ (gs.flatten.map bt ++ [bt last])).length ≤ 1000 →
    L2.PSs X ss (tAsk pin.1 x k bs) := by
  intro gs
  induction gs with
  | nil =>
    intro ss bs h hk hc hi hn
    unfold chkAskR at h
    split at h
    · contradiction
    · rename_i y yp m apos e pos p y2 yp2 m2 apos2 k1 k2 pos2 k3 k4 k5 e2 k6 k7 bad k8 z k9 ka y3 yp3 m3 apos3 kb kc pos3 kd ke kf _
      obtain ⟨h1, h⟩ := b2 h
      obtain ⟨h2, h⟩ := b2 h
      obtain ⟨h3, h⟩ := b2 h
      obtain ⟨h4, h⟩ := b2 h
      obtain ⟨h5, h⟩ := b2 h
      obtain ⟨h6, h⟩ := b2 h
      obtain ⟨h7, h8⟩ := b2 h
      obtain ⟨rfl, s1, s2, s3, s4⟩ := chkOwn_of h1
      obtain ⟨rfl, t1, t2, t3, t4⟩ := chkOwn_of h4
      obtain ⟨rfl, u1, u2, u3, u4⟩ := chkOwn_of h8
      have hz := of_decide_eq_true h7
      subst hz
      obtain ⟨is1, st1⟩ := ask_is o h2 hl
      obtain ⟨is2, st2⟩ := ask_is o h5 hv
      have sh1 := shape_of (X := X) (y := .Name y yp) (z := e) (zs := []) (m := Str.ofString "append") (apos := apos) (pos := pos) rfl s4 (by simp [st1]) (by decide)
      have sh2 := shape_of (X := X) (y := .Name y2 yp2) (z := .Constant (.bool true) k1 k2) (zs := []) (m := Str.ofString "count") (apos := apos2) (pos := pos2) rfl t4 rfl (by decide)
      have sh3 := shape_of (X := X) (y := .Name y3 yp3) (z := .Constant (.bool true) kb kc) (zs := []) (m := Str.ofString "index") (apos := apos3) (pos := pos3) rfl u4 rfl (by decide)
      have c1 := pe_bm PySem.F.plainAttrs_list PySem.F.slot_list_append PySem.F.type_list_append mt_append (pe_var (pos := yp) (o.slot s1) (o.vis s2) (dbg_of s3).1 (dbg_of s3).2) (pa_cons is1 pa_nil (star_cons st1)) sh1.base sh1.few sh1.line sh1.star sh1.plain
      have c2 := pe_bm PySem.F.plainAttrs_list PySem.F.slot_list_count PySem.F.type_list_count (mt_cntD o.hu) (pe_var (pos := yp2) (o.slot t1) (o.vis t2) (dbg_of t3).1 (dbg_of t3).2) (pa_cons (pe_bl (b := true) (j := k1) (pos := k2)) pa_nil (star_cons rfl)) sh2.base sh2.few sh2.line sh2.star sh2.plain
      have c3 := pe_bm PySem.F.plainAttrs_list PySem.F.slot_list_index PySem.F.type_list_index (mt_idxD o.hu) (pe_var (pos := yp3) (o.slot u1) (o.vis u2) (dbg_of u3).1 (dbg_of u3).2) (pa_cons (pe_bl (b := true) (j := kb) (pos := kc)) pa_nil (star_cons rfl)) sh3.base sh3.few sh3.line sh3.star sh3.plain
      have tst : L2.PT X _ _ := (pw_or (pos := k7) (pt_cmpR (pos := k5) op_ne c2 (pe_int (i := 1) (j := k3) (pos := k4)) (nomark _)) (pw_or1 (pt_not (pos := k6) (pt_val is2 (test_of h6))))).pt
      have no1 : L2.PSs X [bad] (fun _ _ _ => False) := ⟨fun pins s σ H D I q => q.elim⟩
      have ret := ps_ret (pos := kf) (pe_tup (x1 := kd) (pos := ke) (pa_cons (pe_str (x := ⟨x.toArray⟩) (j := k9) (pos := ka)) (pa_cons c3 pa_nil (star_cons rfl)) (star_cons rfl)))
      refine PSs.imp (pss_cons (ps_expr (pos := p) c1 (sw_no rfl)) (pss_cons (ps_if (pos := k8) tst no1 pss_nil) (pss_one ret))) fun E0 σ H q => ?_
      obtain ⟨l, q0, q1, q2, q3⟩ := q
      simp only [List.flatten_nil, List.map_nil, List.nil_append] at hc hi hn
      have n0 : bs.length < sizeLine := by
        rw [sizeLine_eq]
        simp only [List.length_append, List.length_cons, List.length_nil] at hn
        omega
      refine ⟨_, q1, .inl ⟨rfl, _, SqL.of q2⟩, q0, l, bs.map V.bl, .bl (bt last), rfl, rfl, q2, by simpa using n0, ?_⟩
      have e1 : bs.map V.bl ++ [V.bl (bt last)] = (bs ++ [bt last]).map V.bl := by simp
      rw [e1]
      obtain ⟨H1, hH1⟩ : ∃ H1, H1 = upd H l (.lst ((bs ++ [bt last]).map V.bl)) := ⟨_, rfl⟩
      have hl1 : H1 l = some (.lst ((bs ++ [bt last]).map V.bl)) := by rw [hH1]; exact upd_same
      have hk1 : Kept (some l) H H1 := fun b hb _ => by rw [hH1]; exact upd_ne fun e => hb (by rw [e])
      rw [← hH1]
      have cnt := lcount_ok (X := X) ⟨H1, fun _ => False, []⟩ (.lst ((bs ++ [bt last]).map D.bl)) [.bl true] (.ref l) [.bl true]
      refine ⟨_, q1, .inl ⟨rfl, _, SqL.of hl1⟩, ?_⟩
      dsimp only [tCons, tC, tNil]
      refine cnt (.val (.int 1)) _ (bare_ok H1) ⟨l, _, rfl, hl1, reps_bl _⟩ ⟨.bl true, trivial⟩ hc fun v m' gr nw => ?_
      have ev : v = .int 1 := by cases nw; rfl
      subst ev
      have hl2 : m'.H l = some (.lst ((bs ++ [bt last]).map V.bl)) := ((gr.st l (by show H1 l ≠ none; rw [hl1]; simp)).1).trans hl1
      have hk2 : Kept (some l) H m'.H := fun b hb hb2 => ((gr.st b (by show H1 b ≠ none; rw [hk1 b hb hb2]; exact hb2)).1).trans (hk1 b hb hb2)
      have hd : (!decide (V.int 1 = V.int 1)) = false := by simp
      refine ⟨rfl, _, rfl, ?_⟩
      rw [hd]
      refine iteF ?_
      refine ⟨q0, _, rfl, ?_⟩
      rw [hv2]
      refine iteF ?_
      show (tRet (tTup (tCons (tC (V.str { cps := x.toArray })) (tCons (tBM X.K "list" (rIdxD X.K) (tVar 1) (tCons (tC (V.bl true)) tNil)) tNil))) E0) σ m'.H
      refine ⟨_, q1, .inl ⟨rfl, _, SqL.of hl2⟩, ?_⟩
      dsimp only [tCons, tC, tNil]
      have idx := lindex_ok (X := X) ⟨m'.H, fun _ => False, []⟩ (.lst ((bs ++ [bt last]).map D.bl)) [.bl true] (.ref l) [.bl true]
      refine idx (.val (.int k)) _ (bare_ok m'.H) ⟨l, _, rfl, hl2, reps_bl _⟩ ⟨.bl true, trivial⟩ hi fun v m2 gr2 nw2 => ?_
      have ev : v = .int k := by cases nw2; rfl
      subst ev
      refine ⟨by show 2 ≤ sizeLine; decide, fun t ht => ?_⟩
      have hk3 : Kept (some l) H m2.H := fun b hb hb2 => ((gr2.st b (by show m'.H b ≠ none; rw [hk2 b hb hb2]; exact hb2)).1).trans (hk2 b hb hb2)
      have ht0 : H t = none := by
        by_cases e : t = l
        · subst e
          have : m2.H t = some (.lst ((bs ++ [bt last]).map V.bl)) := ((gr2.st t (by show m'.H t ≠ none; rw [hl2]; simp)).1).trans hl2
          rw [this] at ht
          cases ht
        · cases h0 : H t with
          | none => rfl
          | some u =>
            have := hk3 t (fun z => e (Option.some.inj z)) (by rw [h0]; simp)
            rw [this, h0] at ht
            cases ht
      refine q3 _ t (fun b hb hb2 => ?_) ht0 upd_same
      have nb : b ≠ t := fun e => hb2 (e ▸ ht0)
      rw [upd_ne nb]
      exact hk3 b hb hb2
    · cases h
  | cons g gs ih =>
    intro ss bs h hk hc hi hn
    unfold chkAskR at h
    split at h
    · rename_i y yp m apos es lp pos p ss heq
      cases heq
      obtain ⟨h1, h⟩ := b2 h
      obtain ⟨h2, h3⟩ := b2 h
      obtain ⟨rfl, s1, s2, s3, s4⟩ := chkOwn_of h1
      have e1 : bs ++ (((g :: gs).flatten).map bt ++ [bt last]) = (bs ++ g.map bt) ++ (gs.flatten.map bt ++ [bt last]) := by simp
      rw [e1] at hc hi hn
      have rest := ih (bs := bs ++ g.map bt) h3 (fun g' hg' => hk g' (List.mem_cons_of_mem _ hg')) hc hi hn
      have lst := pe_lst (pos := lp) (ask_isL o h2 (hk g List.mem_cons_self))
      have sh := shape_of (X := X) (y := .Name y yp) (z := .List es lp) (zs := []) (m := Str.ofString "extend") (apos := apos) (pos := pos) rfl s4 rfl (by decide)
      have call := pe_bm PySem.F.plainAttrs_list PySem.F.slot_list_extend PySem.F.type_list_extend mt_extend (pe_var (pos := yp) (o.slot s1) (o.vis s2) (dbg_of s3).1 (dbg_of s3).2) (pa_cons lst pa_nil (star_cons rfl)) sh.base sh.few sh.line sh.star sh.plain
      refine PSs.imp (pss_cons (ps_expr call (sw_no rfl)) rest) fun D σ H q => ?_
      obtain ⟨l, q0, q1, q2, q3⟩ := q
      have n1 : (bs ++ g.map bt).length ≤ 1000 := by
        have := hn
        simp only [List.length_append] at this ⊢
        omega
      have n2 : bs.length + (g.map bt).length ≤ sizeLine := by
        rw [sizeLine_eq, ← List.length_append]
        omega
      refine ⟨_, q1, .inl ⟨rfl, _, SqL.of q2⟩, q0, ?_, fun p hp => ?_⟩
      · rw [List.length_map]
        omega
      · have npl : l ≠ p := fun e => by rw [e, hp] at q2; cases q2
        refine ⟨l, p, bs.map V.bl, (g.map bt).map V.bl, rfl, rfl, (upd_ne npl).trans q2, upd_same, by simpa using n2, l, q0, q1, ?_, fun H' t k1 k2 k3 => ?_⟩
        · rw [← List.map_append]
          exact upd_same
        · refine q3 H' t (fun b hb hb2 => ?_) ?_ k3
          · have nb : b ≠ p := fun e => hb2 (e ▸ hp)
            have nl : b ≠ l := fun e => hb (by rw [e])
            rw [k1 b hb (by rw [upd_ne nl, upd_ne nb]; exact hb2), upd_ne nl, upd_ne nb]
          · have nl : t ≠ l := fun e => by rw [e, upd_same] at k2; cases k2
            rw [upd_ne nl] at k2
            by_cases e : t = p
            · rw [e]; exact hp
            · rwa [upd_ne e] at k2
    · contradiction
    · cases h
theorem ask_body (o : AskX T cl X c pin C bt) {x : List Nat} {k : Int} {first : List String} {last : String} {gs : List (List String)} {ss : List Stmt} (h : chkAsk T c x first gs last ss = true) (hl : PySem.W.kitOne X.K (.ref (cl C)) (tvE cl last) = some (bt last)) (hv : PySem.W.kitOne X.K (.ref (cl C)) (tvE cl "ValueError") = some (bt "ValueError")) (hv2 : bt "ValueError" = true)
    (hk : ∀ g ∈ first :: gs, ∀ t ∈ g, PySem.W.kitOne X.K (.ref (cl C)) (tvE cl t) = some (bt t)) (hc : lcountF (.lst ((first.map bt ++ (gs.flatten.map bt ++ [bt last])).map D.bl)) [.bl true] = some (.val (.int 1))) (hi : lindexF (.lst ((first.map bt ++ (gs.flatten.map bt ++ [bt last])).map D.bl)) [.bl true] = some (.val (.int k)))
    (hn : (first.map bt ++ (gs.flatten.map bt ++ [bt last])).length ≤ 1000) :
    L2.PSs X ss (fun E0 σ H => 1 < σ.length ∧ σ[0]? = some (some (.ref pin.1)) ∧ ∀ H' t, Kept none H H' → H t = none → H' t = some (.tup [sV x, .int k]) → E0.rt (.ref t) H') := by
  unfold chkAsk at h
  split at h
  · rename_i y yp es lp pos ss
    obtain ⟨h1, h⟩ := b2 h
    obtain ⟨h2, h⟩ := b2 h
    obtain ⟨h3, h4⟩ := b2 h
    have rest := ask_end o hl hv hv2 h4 (fun g hg => hk g (List.mem_cons_of_mem _ hg)) hc hi hn
    have lst := pe_lst (pos := lp) (ask_isL o h3 (hk first List.mem_cons_self))
    have nd : X.N.Nodup := by rw [o.N]; exact o.nd
    have loc : Loc X.env.scope y := by
      have e : X.env.scope.names.lookup y = c.sc.names.lookup y := by rw [o.sc]
      unfold Wh.loc at h2
      split at h2
      · rename_i q; exact .inl (e.trans q)
      · rename_i q; exact .inr (e.trans q)
      · cases h2
    have fn : X.fn y = true ∨ X.env.scope.names.lookup y = some .local := by
      have e : X.env.scope.names.lookup y = c.sc.names.lookup y := by rw [o.sc]
      rw [e]
      exact o.fn y h2
    refine PSs.imp (pss_cons (ps_set (i := 1) (pos := pos) (pos' := yp) nd (o.slot h1) loc lst (sw_no rfl) fn) rest) fun E0 σ H q => ?_
    obtain ⟨q0, q1, q2⟩ := q
    have n1 : ((first.map bt).map V.bl).length ≤ sizeLine := by
      rw [sizeLine_eq, List.length_map]
      simp only [List.length_append] at hn
      omega
    refine ⟨q1, n1, fun p hp => ⟨p, ?_, List.getElem?_set_self q0, upd_same, fun H' t k1 k2 k3 => q2 H' t (fun b _ hb => ?_) ?_ k3⟩⟩
    · rw [List.getElem?_set_ne (by decide)]
      exact q1
    · have nb : b ≠ p := fun e => hb (e ▸ hp)
      rw [k1 b (fun e => nb (Option.some.inj e)) (by rw [upd_ne nb]; exact hb), upd_ne nb]
    · by_cases e : t = p
      · rw [e]; exact hp
      · rwa [upd_ne e] at k2
  · cases h
end
/-- THE RULE for such a def -/
theorem askW_of {P : Program} {w : World} {K : PySem.W.Frag} {mg : Str → Option Value} {base : Heap} {nm qual : Str} {params : Arguments} {body : List Stmt} {scope : Scope} {dvs : List V} {kws : List (Str × V)} {fa C : Addr} {fdat : FuncData} {N ps : List Str} {x : List Nat} {k : Int} (F : FunD K nm qual params body scope dvs kws fa fdat) (S : FnScope N ps scope)
    (hp : ps.length = 1) (hN : N.length = 2) (hb : ∀ (cdv : Value) (A : Around) (out : List Env) (s0 : Shared) (H : Hp) (E : XK) (pin : Addr × Obj), L2H.RoomH 0 (A.deeper (envOfC qual scope s0.heap.objs.size fa cdv)) → Zc (.ref C) none pin.2 → (∃ vs, pin.2.data = .fields vs) →
      L2.PSs (L2H.cxH (L2.CX P w) P w K mg base N qual scope fa cdv A out s0 H E pin) body (fun E0 σ H => 1 < σ.length ∧ σ[0]? = some (some (.ref pin.1)) ∧ ∀ H' t, Kept none H H' → H t = none → H' t = some (.tup [sV x, .int k]) → E0.rt (.ref t) H')) :
    AskW P w K mg base 1 fa fdat ps C x k := by
  intro A out s0 H ars us Q E pin hr hpin hz hd e0 bnd rv hq
  obtain ⟨oc, od, dV, kV, doc, pm, an, cdv, ct, osl, e1, lk, hcd, _, _⟩ := F.ex
  subst e1
  have kin : K.In s0.heap := e0.mod.kin.keeps (fun b o e => (e0.bs b o e).1)
  have nolim : s0.heap.NoLimit := e0.mod.nolimit.keeps (fun b o e => (e0.bs b o e).1)
  have kinds : ∀ y ∈ ps.zip us, scope.names.lookup y.1 = some .local ∨ (scope.names.lookup y.1 = some .cell ∧ ((cellsFrom (s0.heap.objs.size + 1) scope.names []).lookup y.1).isSome = true) := by
    intro ⟨a, b⟩ hy
    refine (S.par a (List.of_mem_zip hy).1).imp id fun q => ⟨q, ?_⟩
    exact PySem.W.cellsFrom_some _ _ _ (.inl q)
  refine codeAny_call_function hr.depth (kin _ _ lk) rfl S.co S.gen rfl (PySem.W.codeRec_of kin hcd) (bnd _ _ _ _ (wpAny_newFunctionEnv_cells S.kind kinds fun env he s1 xx => ?_))
  subst he
  refine ⟨nolim.keeps xx.toInCall.keep, codeAny_func ?_⟩
  have I := L2H.inv_startH (CX := L2.CX P w) (N := N) (E := E) S hpin e0 (by rw [hp]; rfl) rv xx
  have go := (hb cdv A out s0 H E pin (L2H.RoomH.deeper hr _) hz hd).run [] s1 (L2.start N [.ref pin.1]) H { nx := fun _ H' => False, rt := Q } I ⟨by
    show 1 < ([V.ref pin.1].map some ++ List.replicate (N.length - 1) none).length
    rw [hN]
    simp, rfl, fun H' t k1 k2 k3 => hq H' t (fun b hb => k1 b (fun z => nomatch z) hb) k2 k3⟩
  refine wpAny_mono go (fun fl s2 hs => ?_) (fun _ _ z => z)
  cases fl with
  | ret u =>
    obtain ⟨v, σ2, H2, J, r2, q2⟩ := hs
    exact ⟨v, H2, J.os, J.bare, J.base, J.hok, r2, q2⟩
  | next =>
    obtain ⟨_, _, _, z⟩ := hs
    exact z.elim
  | brk =>
    obtain ⟨_, _, _, z⟩ := hs
    exact False.elim z
  | cont =>
    obtain ⟨_, _, _, z⟩ := hs
    exact False.elim z
end Z

set_option Elab.async false
set_option linter.all false
set_option maxRecDepth 100000
set_option maxHeartbeats 8000000
namespace Z
open PySem PySem.Spec PyProof.Rows L2

/-! ### a def keeps the evaluator's promise -/
theorem owns_none : ∀ (es : List EV), (∀ p ∈ es, ∀ d, p.1 ≠ .own d) → owns es = []
  | [], _ => rfl
  | (e, v) :: es, h => by
    show ownA (e, v) ++ owns es = []
    rw [owns_none es fun p hp => h p (List.mem_cons_of_mem _ hp)]
    cases e with
    | own d => exact absurd rfl (h (.own d, v) List.mem_cons_self d)
    | _ => rfl
def NotOwn (e : Ent) : Prop := ∀ d, e ≠ .own d
theorem start_ok {m : Mem} {σ0 : L2.St} : ∀ {ds : List D} {vs : List V}, Reps m ds vs → ∀ (k j : Nat), ∀ p ∈ (ds.map Ent.val ++ List.replicate k Ent.un).zip (vs.map some ++ List.replicate j (none : Option V)), EntOk m σ0 p.1 p.2 ∧ NotOwn p.1
  | _, _, .nil, k, j, p, hp => by
    have hp' : (p.1, p.2) ∈ (List.replicate k Ent.un).zip (List.replicate j (none : Option V)) := hp
    have := List.eq_of_mem_replicate (List.of_mem_zip hp').1
    rw [this]
    exact ⟨trivial, fun d z => by cases z⟩
  | _, _, .cons r rs, k, j, p, hp => by
    rcases List.mem_cons.mp (show p ∈ _ :: _ from hp) with rfl | hp
    · exact ⟨⟨_, rfl, r⟩, fun d z => by cases z⟩
    · exact start_ok rs k j p hp
theorem good_start {cl : String → Addr} {m : Mem} {G : Addr → Prop} {S : Store} {ds : List D} {vs : List V} {N : List Str} (mo : MOk m) (st : StoOk cl m S) (gd : GdOk G m) (r : Reps m ds vs) (hl : vs.length ≤ N.length) :
    Good cl m G (start N vs) ⟨ds.map .val ++ List.replicate (N.length - ds.length) .un, S⟩ [] := by
  have h := fun k j => start_ok (σ0 := start N vs) r k j
  refine ⟨mo, ?_, ?_, st, gd, fun i z => ?_⟩
  · show SR m G _ (((ds.map Ent.val ++ List.replicate (N.length - ds.length) Ent.un).zip (vs.map some ++ List.replicate (N.length - vs.length) none)) ++ [])
    rw [List.append_nil]
    have e := owns_none _ fun p hp => (h (N.length - ds.length) (N.length - vs.length) p hp).2
    exact ⟨fun p hp => (h _ _ p hp).1, by rw [e]; exact List.nodup_nil, fun a ha => by rw [e] at ha; cases ha⟩
  · show (ds.map Ent.val ++ List.replicate (N.length - ds.length) Ent.un).length = (vs.map some ++ List.replicate (N.length - vs.length) none).length
    simp [r.len]
  · rcases List.mem_append.mp z with z | z
    · obtain ⟨d, _, e⟩ := List.mem_map.mp z
      cases e
    · cases List.eq_of_mem_replicate z
section
variable {P : Program} {w : World} {K : PySem.W.Frag} {mg : Str → Option Value} {base : Heap} {T : Tab} {cl : String → Addr} {Γ : Gam} {L W0 : Nat}
theorem fn_level {x qual : Str} {params : Arguments} {body : List Stmt} {scope : Scope} {dvs : List V} {kws : List (Str × V)} {fa : Addr} {fd : FuncData} {N ps : List Str} {f : Fdef} (F : FunD K x qual params body scope dvs kws fa fd) (S : FnScope N ps scope) (hk : scope.kind = .function)
    (hc : chkSs T ⟨N, scope, none, false⟩ f.body body = true) (ha : f.ar = ps.length) (hn : f.n = N.length) (hpn : ps.length ≤ N.length) (g : GamOk P w K mg base T cl Γ L) : FnOk P w K mg base (L2.CX P w) (L + 2) fa fd ps (spOf cl (runF Γ W0 f) ps.length) := by
  refine F.ok S (fun vs H Q E h => h.1) fun cdv A outer s H vs Q E hr h => ?_
  have o : COk T cl Γ L (cxOf (L2.CX P w) P w K mg base N qual scope fa cdv A outer s H E) (fun cls d _ H => E cls d H) ⟨N, scope, none, false⟩ :=
    ⟨rfl, S.nd, rfl, hk, fun _ _ => .inl rfl, fun _ => ⟨rfl, hr⟩, takes_of rfl rfl rfl rfl, passes_of rfl, fun _ => ⟨rfl, rfl⟩, g⟩
  refine ⟨_, okSs_ (W0 := W0) f.body o hc, ?_⟩
  obtain ⟨hl, ds, S0, m, G, rfl, mo, st, gd, r, q⟩ := h
  have hdl : ds.length = f.ar := by rw [ha, ← hl]; exact r.len
  unfold runF at q
  rw [if_pos hdl, hn, ← hdl] at q
  refine ⟨_, m, G, rfl, good_start mo st gd r (by rw [hl]; exact hpn), ?_⟩
  cases hx : evSs Γ W0 f.body ⟨ds.map .val ++ List.replicate (N.length - ds.length) .un, S0⟩ with
  | nx s1 => rw [hx] at q; exact fun σ' m' x' p' g' => q .non m' x' p' g'.mo g'.st g'.gd .non
  | rt d S1 => rw [hx] at q; exact q
  | bk s1 => rw [hx] at q; exact q.elim
  | ct s1 => rw [hx] at q; exact q.elim
  | exc c s1 => rw [hx] at q; exact fun σ' m' x' p' g' => q m' x' p' g'.mo g'.st g'.gd
  | stk => rw [hx] at q; exact q.elim
/-- what the text and the written part tell of one entry of the table -/
structure EntF (K : PySem.W.Frag) (mg : Str → Option Value) (T : Tab) (cl : String → Addr) (Pr : Prg) (c f : String) (n : Nat) (ks : List String) (dfl : List D) : Prop where
  it : ∃ (df : Fdef) (x qual : Str) (params : Arguments) (body : List Stmt) (scope : Scope) (dv dvs : List V) (kws : List (Str × V)) (a : Addr) (fd : FuncData) (N ps : List Str),
    Pr.fn c f = some df ∧ FunD K x qual params body scope dv kws a fd ∧ FnScope N ps scope ∧ chkSs T ⟨N, scope, none, false⟩ df.body body = true ∧ df.ar = ps.length ∧ df.n = N.length ∧ ps.length ≤ N.length ∧ (∀ m, Reps m dfl dvs) ∧
    (if c = "" then 0 else 1) + (n + (ks.length + dvs.length)) = ps.length ∧ KB K fd ps ((if c = "" then 0 else 1) + n) (ks.map Str.ofString) dvs ∧
    (c = "" → mg (Str.ofString f) = some (.ref a) ∧ PySem.W.keepIn K (.ref a) = true) ∧ (c ≠ "" → f = "__init__" → Mk K (cl c) a) ∧ (c ≠ "" → f ≠ "__init__" → Cls K (cl c) ∧ Meth K (cl c) (Str.ofString f) a)
structure PrgF (K : PySem.W.Frag) (mg : Str → Option Value) (T : Tab) (cl : String → Addr) (Pr : Prg) : Prop where
  fld : FldF K cl Pr.fld
  sub : SubF K cl Pr.sub
  exm : ExmF K cl Pr.exm
  frees : ∀ x ∈ T.frees, mg (Str.ofString x) = none
  glbs : ∀ x ∈ T.glbs, ∃ u v d, mg (Str.ofString x) = some u ∧ RelV v u ∧ Pr.gc x = some d ∧ ∀ m, Rep m d v
  clss : ∀ c ∈ T.clss, mg (Str.ofString c) = some (.ref (cl c))
  excs : ∀ c ∈ T.excs, (∃ B initId newId bmB, ExcBaseFacts B newId initId bmB ∧ PySem.W.excIn K (cl c) bmB newId = true) ∧ mg (Str.ofString c) = some (.ref (cl c)) ∧ PySem.W.keepIn K (.ref (cl c)) = true ∧
    PySem.W.subIn K (.ref (cl c)) (.type "BaseException") = some true ∧ PySem.W.typeIn K (.ref (cl c)) = some (.type "type")
  fns : ∀ c f n ks dfl, (c, f, n, ks, dfl) ∈ T.calls → EntF K mg T cl Pr c f n ks dfl
  wh : ∀ f c r, Pr.wh f c = some r → ∃ (fa : Addr) (fdat : FuncData) (prm : List Str), (∀ (P : Program) (w : World) (base : Heap), AskW P w K mg base 1 fa fdat prm (cl c) r.1 r.2) ∧ prm.length = 1 ∧ mg (Str.ofString f) = some (.ref fa) ∧ PySem.W.keepIn K (.ref fa) = true ∧ Binds K fdat prm []
theorem prg_ok {Pr : Prg} (F : PrgF K mg T cl Pr) : ∀ n : Nat, GamOk P w K mg base T cl (Pr.at W0 n) (2 * n)
  | 0 => ⟨F.fld, F.sub, F.exm, F.frees, F.glbs, F.clss, F.excs, fun c f n ks dfl h => by
      obtain ⟨df, x, qual, params, body, scope, dv, dvs, kws, a, fd, N, ps, e1, e2, e3, e4, e5, e6, e7, e8, e9, e10, e11, e12, e13⟩ := (F.fns c f n ks dfl h).it
      refine ⟨a, fd, ps, dvs, ⟨fun vs H Q E h => h.1, fun A outer s H args us vs Q E _ _ _ _ h => ?_⟩, e8, e9, e10, e11, e12, e13⟩
      obtain ⟨_, ds, S, m, G, _, _, _, _, _, q⟩ := h
      exact q.elim, fun f c r h => by
      obtain ⟨fa, fdat, prm, z1, z⟩ := F.wh f c r h
      exact ⟨fa, fdat, prm, z1 P w base, z⟩⟩
  | n + 1 => ⟨F.fld, F.sub, F.exm, F.frees, F.glbs, F.clss, F.excs, fun c f k ks dfl h => by
      obtain ⟨df, x, qual, params, body, scope, dv, dvs, kws, a, fd, N, ps, e1, e2, e3, e4, e5, e6, e7, e8, e9, e10, e11, e12, e13⟩ := (F.fns c f k ks dfl h).it
      refine ⟨a, fd, ps, dvs, ?_, e8, e9, e10, e11, e12, e13⟩
      have hcf : (Pr.at W0 (n + 1)).cf c f = runF (Pr.at W0 n) W0 df := by
        funext args S
        show (match Pr.fn c f with
          | some d => runF (Pr.at W0 n) W0 d args S
          | none => .stk) = _
        rw [e1]
      rw [hcf]
      exact fn_level e2 e3 e3.kind e4 e5 e6 e7 (prg_ok F n), fun f c r h => by
      obtain ⟨fa, fdat, prm, z1, z⟩ := F.wh f c r h
      exact ⟨fa, fdat, prm, z1 P w base, z⟩⟩
/-- the law's own promise -/
def spLaw (Γ : Gam) (cl : String → Addr) : Sp := spOf cl (Γ.cf "" "law") 1
/-- at the law's entry -/
theorem law_sp {Γ : Gam} {cl : String → Addr} {H : Hp} {a : Addr} {ns : List Int} {S : Store} (hO : Rd H a (.lst (ns.map V.int))) (h : Γ.cf "" "law" [.scr ns] [] = .ok (.bl true) S) : spLaw Γ cl [.ref a] H (fun v _ => v = .bl true) fun _ _ _ => False := by
  have hH : H a ≠ none := by
    rcases hO with e | ⟨o, e⟩
    · rw [e]; simp
    · rw [e]; simp
  refine ⟨rfl, [.scr ns], [], ⟨H, fun b => b = a, []⟩, fun _ => False, rfl, ⟨fun b e => ⟨by subst e; exact hH, by simp⟩, List.nodup_nil, fun b hb => by cases hb⟩, ⟨rfl, fun n c b e _ => by simp at e⟩, fun b hb => hb.elim, .cons (.scr hO rfl) .nil, ?_⟩
  rw [h]
  intro v m' _ _ _ _ _ r
  cases r
  rfl
end
/-! ### the head's Hook, lists left out -/
def noL (g : Addr → Option Obj) (a : Addr) : Option Obj := match g a with
  | some o => if (o.cls == .type "list") = true then none else some o
  | none => none
theorem noL_of {g : Addr → Option Obj} {a : Addr} {o : Obj} (h : noL g a = some o) : g a = some o ∧ o.cls ≠ .type "list" := by
  unfold noL at h
  split at h
  · split at h
    · cases h
    · rename_i hc
      cases h
      exact ⟨by assumption, fun e => hc (by rw [e]; rfl)⟩
  · cases h
def NoLst (K : PySem.W.Frag) : Prop := ∀ a o, K.lookup a = some o → o.cls ≠ .type "list"
abbrev AlZ : Type := He.AlD × Bool
def obsZ (n : Nat) (fa : List He.Fa) (fn : List He.DefD) (ow : PySem.W.Frag → Bool) (g : Addr → Option Obj) : AlZ := (He.obsD fa fn (He.frG (noL g) (He.asD (noL g) n)), ow (He.frG (noL g) (He.asD (noL g) n)))
def hookZ (n : Nat) (fa : List He.Fa) (fn : List He.DefD) (ow : PySem.W.Frag → Bool) : PySem.W.Hook where
  α := AlZ
  obs := fun s => obsZ n fa fn ow s.heap.get?
  val := fun _ => (He.valD fn, true)
  says := fun _ h => ∃ K : PySem.W.Frag, K.In h ∧ He.SaysD fa fn K ∧ ow K = true ∧ NoLst K
  of := fun _ _ e => ⟨_, fun a o q => (noL_of (He.frG_at _ q)).1, congrArg (fun z : AlZ => z.1) e, congrArg (fun z : AlZ => z.2) e, fun a o q => (noL_of (He.frG_at _ q)).2⟩
  keeps := fun _ _ _ ⟨K, hK, c⟩ k => ⟨K, PySem.W.Frag.In.keeps hK k, c⟩
theorem obsZ_eq {n : Nat} {fa : List He.Fa} {fn : List He.DefD} {ow : PySem.W.Frag → Bool} {g : Addr → Option Obj} {s : Shared} (h : ∀ a, g a = s.heap.get? a) : obsZ n fa fn ow g = (hookZ n fa fn ow).obs s := by
  have e : g = s.heap.get? := funext h
  rw [e] <;> rfl
theorem rd_of {K : PySem.W.Frag} {H : Hp} {a : Addr} {xs : List V} (n : NoLst K) (h : SqL K H a xs) : Rd H a (.lst xs) := by
  rcases h with h | ⟨o, its, k, e, c, _⟩
  · exact h
  · exact absurd c (n a o e)
/-! ### calls' shapes -/
theorem kb_all {K : PySem.W.Frag} {x qual : Str} {params : Arguments} {body : List Stmt} {scope : Scope} {kws : List (Str × V)} {f : Addr} {fd : FuncData} {ps : List Str} {n : Nat} {ks : List Str} (F : FunD K x qual params body scope [] kws f fd)
    (h : ∀ (kV doc pm : Value) (an : Option Addr) (cdv ct : Value) (us ws : List Value), us.length = n → ws.length = ks.length → bindArgs (PySem.W.fnOf x qual params body scope .none kV doc pm an cdv ct) ⟨us, ks.zip ws⟩ = pure (ps.zip (us ++ (ws ++ [])))) : KB K fd ps n ks [] := by
  obtain ⟨oc, od, dV, kV, doc, pm, an, cdv, ct, osl, rfl, lk, hcd, hD, hK⟩ := F.ex
  rcases hD with ⟨_, rfl⟩ | ⟨e, _⟩
  · exact ⟨[], .nil, fun s us ws X l1 l2 => .of_eq (h kV doc pm an cdv ct us ws l1 l2)⟩
  · exact absurd rfl e
theorem kb_lack {K : PySem.W.Frag} {x qual : Str} {params : Arguments} {body : List Stmt} {scope : Scope} {kws : List (Str × V)} {f : Addr} {fd : FuncData} {ps : List Str} {n : Nat} {ks : List Str} (F : FunD K x qual params body scope [] kws f fd) (ms : List (Str × V)) (hk : kws ≠ []) (hms : ∀ q ∈ ms, q ∈ kws)
    (h : ∀ (D : Addr) (doc pm : Value) (an : Option Addr) (cdv ct : Value) (us mv ws : List Value), us.length = n → mv.length = ms.length → ws.length = ks.length →
      KwChain D ((ms.map (·.1)).zip mv) (bindArgs (PySem.W.fnOf x qual params body scope .none (.ref D) doc pm an cdv ct) ⟨us, ks.zip ws⟩) (ps.zip (us ++ (ws ++ mv)))) : KB K fd ps n ks (ms.map (·.2)) := by
  obtain ⟨oc, od, dV, kV, doc, pm, an, cdv, ct, osl, rfl, lk, hcd, hD, hK⟩ := F.ex
  rcases hD with ⟨_, rfl⟩ | ⟨e, _⟩
  · rcases hK with e | ⟨D, rfl, hq⟩
    · exact absurd e hk
    · obtain ⟨mv, hl, rk, hks⟩ := kwd_vals (ms := ms) fun q hm => hq q (hms q hm)
      exact ⟨mv, rk, fun s us ws X l1 l2 => BindsTo.of_looks fun M => KwChain.looks X hks (h D doc pm an cdv ct us mv ws l1 hl l2)⟩
  · exact absurd rfl e
end Z

set_option Elab.async false
set_option linter.all false
set_option maxRecDepth 100000
set_option maxHeartbeats 8000000
namespace Z
open PySem PySem.Spec PyProof.Rows L2

/-! ### facts of the written part, by one Bool -/
abbrev S_ (x : String) : Str := Str.ofString x
/-- classes' addresses -/
def clK (K : PySem.W.Frag) (c : String) : Addr := He.ga K (S_ c)
/-- a def that is asked which exception it is: its name, what it tells, the classes it asks for; the classes that come -/
structure AskD where
  f : String
  x : List Nat
  first : List String
  gs : List (List String)
  last : String
  excs : List String
structure Fx where
  flds : List (String × String)
  subs : List (String × String × Bool)
  exms : List (String × String × Bool)
  cints : List (String × Int)
  cstrs : List (String × List Nat)
  asks : Option AskD
def btE (c t : String) : Bool := t == "ValueError" || t == c
def AskD.bs (A : AskD) (c : String) : List D := (A.first.map (btE c) ++ (A.gs.flatten.map (btE c) ++ [btE c A.last])).map D.bl
def whD (fx : Fx) (f c : String) : Option (List Nat × Int) := match fx.asks with
  | none => none
  | some A => if A.f = f ∧ c ∈ A.excs ∧ (A.bs c).length ≤ 1000 then
      (match lcountF (.lst (A.bs c)) [.bl true], lindexF (.lst (A.bs c)) [.bl true] with
        | some (.val (.int i)), some (.val (.int k)) => if i = 1 then some (A.x, k) else none
        | _, _ => none)
    else none
def excCB (K : PySem.W.Frag) (C : Addr) : Bool := (He.eqO (PySem.W.findIn K (.ref C) "__getattribute__") (some (some (.builtin "BaseException.__getattribute__"))) && (He.eqO (PySem.W.findIn K (.ref C) "__getattr__") (some none) && (decide (PySem.W.subIn K (.ref C) (.type "BaseException") = some true) &&
  (PySem.W.hasDictIn K C && (He.eqO (PySem.W.findIn K (.ref C) "__class__") (some (some (.builtin "object.__class__"))) && (He.eqO (PySem.W.specialIn K (.builtin "object.__class__") "__get__") (some (some (.builtin "getset_descriptor.__get__"))) &&
    (decide (PySem.W.takesIn K (.builtin "object.__class__") = some true) && decide (PySem.W.mroIn K C (.type "object") = some true))))))))
theorem excCB_ok {K : PySem.W.Frag} {C : Addr} (h : excCB K C = true) : ExcC K C := by
  obtain ⟨h1, h⟩ := b2 h
  obtain ⟨h2, h⟩ := b2 h
  obtain ⟨h3, h⟩ := b2 h
  obtain ⟨h4, h⟩ := b2 h
  obtain ⟨h5, h⟩ := b2 h
  obtain ⟨h6, h⟩ := b2 h
  obtain ⟨h7, h8⟩ := b2 h
  exact ⟨He.eqO_ok h1, He.eqO_ok h2, of_decide_eq_true h3, h4, He.eqO_ok h5, He.eqO_ok h6, of_decide_eq_true h7, of_decide_eq_true h8⟩
def insB (K : PySem.W.Frag) (C : Addr) : Bool := (PySem.W.plainGet K C Str.empty && (PySem.W.hasDictIn K C && (PySem.W.plainOver K C && He.eqO (PySem.W.findIn K (.ref C) "__setattr__") (some (some (.builtin "object.__setattr__")))))) &&
  (He.eqO (PySem.W.findIn K (.ref C) "__class__") (some (some (.builtin "object.__class__"))) && (He.eqO (PySem.W.specialIn K (.builtin "object.__class__") "__get__") (some (some (.builtin "getset_descriptor.__get__"))) &&
    (decide (PySem.W.takesIn K (.builtin "object.__class__") = some true) && decide (PySem.W.mroIn K C (.type "object") = some true))))
theorem insB_ok {K : PySem.W.Frag} {C : Addr} (h : insB K C = true) : InsTy K C := by
  obtain ⟨h0, h⟩ := b2 h
  obtain ⟨c1, h0⟩ := b2 h0
  obtain ⟨c2, h0⟩ := b2 h0
  obtain ⟨c3, c4⟩ := b2 h0
  obtain ⟨h1, h⟩ := b2 h
  obtain ⟨h2, h⟩ := b2 h
  obtain ⟨h3, h4⟩ := b2 h
  exact ⟨⟨c1, c2, c3, He.eqO_ok c4⟩, He.eqO_ok h1, He.eqO_ok h2, of_decide_eq_true h3, of_decide_eq_true h4⟩
def callB (K : PySem.W.Frag) (c f : String) : Bool := if c = "" then (He.Fa.glo (S_ f)).ok K && (He.Fa.keep (S_ f)).ok K else if f = "__init__" then (He.Fa.mkr (S_ c)).ok K else (He.Fa.cls (S_ c)).ok K && (He.Fa.meth (S_ c) (S_ f)).ok K
def askB (K : PySem.W.Frag) : Option AskD → Bool
  | none => true
  | some A => callB K "" A.f && A.excs.all fun c => excCB K (clK K c) && (("ValueError" :: A.last :: (A.first ++ A.gs.flatten)).all fun t => decide (PySem.W.kitOne K (.ref (clK K c)) (tvE (clK K) t) = some (btE c t)))
def owB (fx : Fx) (T : Tab) (K : PySem.W.Frag) : Bool :=
  (fx.flds.all fun p => (He.Fa.cls (S_ p.1)).ok K && (He.Fa.noat (S_ p.1) (S_ p.2)).ok K) && ((fx.subs.all fun p => decide (PySem.W.kitOne K (tv (clK K) p.1) (tv (clK K) p.2.1) = some p.2.2) && (tyNames.contains p.1 || insB K (clK K p.1))) &&
  ((fx.exms.all fun p => decide (PySem.W.exmOne K (.ref (clK K p.1)) (tv (clK K) p.2.1) = some p.2.2)) && ((T.frees.all fun x => (He.Fa.free (S_ x)).ok K) && ((fx.cints.all fun p => (He.Fa.int (S_ p.1) p.2).ok K) && ((fx.cstrs.all fun p => (He.Fa.str (S_ p.1) ⟨p.2.toArray⟩).ok K) &&
  ((T.clss.all fun x => (He.Fa.glo (S_ x)).ok K) && ((T.excs.all fun x => (He.Fa.glo (S_ x)).ok K && (He.Fa.exc (S_ x)).ok K) && (askB K fx.asks && T.calls.all fun q => callB K q.1 q.2.1))))))))
def subD (fx : Fx) (c t : String) : Option Bool := (fx.subs.find? fun p => p.1 == c && p.2.1 == t).map (·.2.2)
def exmD (fx : Fx) (c t : String) : Option Bool := (fx.exms.find? fun p => p.1 == c && p.2.1 == t).map (·.2.2)
def gcD (fx : Fx) (x : String) : Option D := match fx.cints.find? fun p => p.1 == x with
  | some p => some (.int p.2)
  | none => (fx.cstrs.find? fun p => p.1 == x).map fun p => .str p.2
/-- the program as the evaluator has it -/
def prgOf (fx : Fx) (fns : List ((String × String) × Fdef)) : Prg := ⟨fun c f => fns.lookup (c, f), gcD fx, subD fx, exmD fx, fun c f => fx.flds.contains (c, f), whD fx⟩
theorem find_sub {l : List (String × String × Bool)} {c t : String} {b : Bool} (h : (l.find? fun p => p.1 == c && p.2.1 == t).map (·.2.2) = some b) : (c, t, b) ∈ l := by
  obtain ⟨p, hp, rfl⟩ := Option.map_eq_some_iff.mp h
  have hm := List.mem_of_find?_eq_some hp
  have hq := List.find?_some hp
  simp only [Bool.and_eq_true, beq_iff_eq] at hq
  obtain ⟨rfl, rfl⟩ := hq
  exact hm
/-- what the text and the written part tell of the def that is asked -/
structure AskE (K : PySem.W.Frag) (mg : Str → Option Value) (T : Tab) (A : AskD) : Prop where
  it : ∃ (nm qual : Str) (params : Arguments) (body : List Stmt) (scope : Scope) (dvs : List V) (kws : List (Str × V)) (fa : Addr) (fdat : FuncData) (N ps : List Str), FunD K nm qual params body scope dvs kws fa fdat ∧ FnScope N ps scope ∧
    chkAsk T ⟨N, scope, none, true⟩ A.x A.first A.gs A.last body = true ∧ ps.length = 1 ∧ N.length = 2 ∧ mg (S_ A.f) = some (.ref fa) ∧ PySem.W.keepIn K (.ref fa) = true ∧ Binds K fdat ps []
theorem prgF_of {K : PySem.W.Frag} {h : Heap} {mg : Str → Option Value} {fx : Fx} {T : Tab} {fns : List ((String × String) × Fdef)} (X : K.In h) (Gm : h.Ns mainGlobals mg) (ow : owB fx T K = true) (hg : (T.glbs.all fun x => (gcD fx x).isSome) = true)
    (hf : ∀ c f n ks dfl, (c, f, n, ks, dfl) ∈ T.calls → (callB K c f = true) → EntF K mg T (clK K) (prgOf fx fns) c f n ks dfl) (hw : ∀ A, fx.asks = some A → callB K "" A.f = true → AskE K mg T A) : PrgF K mg T (clK K) (prgOf fx fns) := by
  unfold owB at ow
  obtain ⟨q1, ow⟩ := b2 ow
  obtain ⟨q2, ow⟩ := b2 ow
  obtain ⟨q3, ow⟩ := b2 ow
  obtain ⟨q4, ow⟩ := b2 ow
  obtain ⟨q5, ow⟩ := b2 ow
  obtain ⟨q6, ow⟩ := b2 ow
  obtain ⟨q7, ow⟩ := b2 ow
  obtain ⟨q8, ow⟩ := b2 ow
  obtain ⟨qa, q9⟩ := b2 ow
  rw [List.all_eq_true] at q1 q2 q3 q4 q5 q6 q7 q8 q9 hg
  refine ⟨fun c f e => ?_, fun c t b e => ?_, fun c t b e => ?_, fun x hx => He.free_ok X Gm (q4 x hx), fun x hx => ?_, fun x hx => He.glo_ok X Gm (q7 x hx), fun x hx => ?_, fun c f n ks dfl hm => hf c f n ks dfl hm (q9 _ hm), fun f c r e => ?_⟩
  · have hm : (c, f) ∈ fx.flds := by
      have e' : fx.flds.contains (c, f) = true := e
      simpa using e'
    obtain ⟨a, b⟩ := b2 (q1 _ hm)
    exact ⟨He.cls_ok a, He.noat_ok b⟩
  · obtain ⟨a, b'⟩ := b2 (q2 _ (find_sub e))
    refine ⟨of_decide_eq_true a, fun hn => insB_ok ?_⟩
    rw [Bool.or_eq_true] at b'
    rcases b' with z | z
    · exact absurd (by simpa using z) hn
    · exact z
  · exact of_decide_eq_true (q3 _ (find_sub e))
  · have hs := hg x hx
    show ∃ u v d, mg (S_ x) = some u ∧ RelV v u ∧ gcD fx x = some d ∧ ∀ m, Rep m d v
    unfold gcD at hs ⊢
    cases e : fx.cints.find? fun p => p.1 == x with
    | some p =>
      have hm := List.mem_of_find?_eq_some e
      have hq : p.1 = x := by simpa using List.find?_some e
      obtain ⟨t, ht⟩ := He.int_ok X Gm (q5 _ hm)
      rw [hq] at ht
      exact ⟨_, .int p.2, _, ht, ⟨t, rfl⟩, rfl, fun m => .int _⟩
    | none =>
      rw [e] at hs
      cases e2 : fx.cstrs.find? fun p => p.1 == x with
      | none => rw [e2] at hs; cases hs
      | some p =>
        have hm := List.mem_of_find?_eq_some e2
        have hq : p.1 = x := by simpa using List.find?_some e2
        obtain ⟨t, ht⟩ := He.str_ok X Gm (q6 _ hm)
        rw [hq] at ht
        exact ⟨_, sV p.2, _, ht, ⟨t, rfl⟩, rfl, fun m => .str _⟩
  · obtain ⟨a, b⟩ := b2 (q8 _ hx)
    obtain ⟨e1, e2, e3, e4⟩ := He.exc_ok b
    exact ⟨⟨_, _, _, _, PySem.F.excBase_ValueError, e1⟩, He.glo_ok X Gm a, e2, e3, e4⟩
  · have e5 : whD fx f c = some r := e
    clear e
    unfold whD at e5
    split at e5
    · cases e5
    · rename_i A hA
      split at e5
      · rename_i hcnd
        obtain ⟨rfl, hce, hln⟩ := hcnd
        split at e5
        · rename_i i k hc hi
          split at e5
          · rename_i hi1
            subst hi1
            cases e5
            obtain ⟨nm, qual, params, body, scope, dvs, kws, fa, fdat, N, ps, w1, w2, w3, w4, w5, w6, w7, w8⟩ := (hw A hA (by rw [hA] at qa; exact (b2 qa).1)).it
            rw [hA] at qa
            have qa2 : (A.excs.all fun c => excCB K (clK K c) && (("ValueError" :: A.last :: (A.first ++ A.gs.flatten)).all fun t => decide (PySem.W.kitOne K (.ref (clK K c)) (tvE (clK K) t) = some (btE c t)))) = true := (b2 qa).2
            rw [List.all_eq_true] at qa2
            obtain ⟨x1, x2⟩ := b2 (qa2 c hce)
            rw [List.all_eq_true] at x2
            have kit : ∀ t ∈ "ValueError" :: A.last :: (A.first ++ A.gs.flatten), PySem.W.kitOne K (.ref (clK K c)) (tvE (clK K) t) = some (btE c t) := fun t ht => of_decide_eq_true (x2 t ht)
            refine ⟨fa, fdat, ps, fun P w base => askW_of w1 w2 w4 w5 fun cdv A' out s0 H E pin hr hz hd => ?_, w4, w6, w7, w8⟩
            refine ask_body (T := T) (cl := clK K) (C := c) (bt := btE c) (c := ⟨N, scope, none, true⟩) ⟨rfl, w2.nd, rfl, fun _ _ => .inl rfl, fun x hx => He.free_ok X Gm (q4 x hx), fun x hx => He.glo_ok X Gm (q7 x hx), excCB_ok x1, List.mem_cons_self, hz, hd, ?_⟩ w3 (kit _ (by simp)) (kit _ (by simp)) rfl (fun g hg t ht => kit t ?_) hc hi ?_
            · have := hr.un
              show (A'.deeper (envOfC qual scope s0.heap.objs.size fa cdv)).units + 64 < cLine
              omega
            · rcases List.mem_cons.mp hg with rfl | hg
              · simp [ht]
              · have : t ∈ A.gs.flatten := List.mem_flatten.mpr ⟨g, hg, ht⟩
                simp [this]
            · unfold AskD.bs at hln
              rw [List.length_map] at hln
              exact hln
          · cases e5
        · cases e5
      · cases e5
/-- one def's own data -/
structure DD where
  d : He.DefD
  ir : Fdef
  N : List Str
  ps : List Str
def DD.scope (D : DD) : Prop := FnScope D.N D.ps D.d.scope
structure DDok (T : Tab) (D : DD) : Prop where
  sc : FnScope D.N D.ps D.d.scope
  chk : chkSs T ⟨D.N, D.d.scope, none, false⟩ D.ir.body D.d.body = true
  ar : D.ir.ar = D.ps.length
  n : D.ir.n = D.N.length
  le : D.ps.length ≤ D.N.length
theorem ent_of {K : PySem.W.Frag} {h : Heap} {mg : Str → Option Value} {T : Tab} {Pr : Prg} {c f : String} {n : Nat} {ks : List String} {dfl : List D} {D : DD} {dvs : List V} {fd : FuncData} (X : K.In h) (Gm : h.Ns mainGlobals mg) (cb : callB K c f = true) (o : DDok T D)
    (hat : D.d.at_ = if c = "" then (S_ f, none) else (S_ c, some (S_ f))) (hfn : Pr.fn c f = some D.ir) (F : FunD K D.d.name D.d.qual D.d.params D.d.body D.d.scope (D.d.dvs K) (D.d.kws K) (He.fAd K D.d.at_) fd)
    (rd : ∀ m, Reps m dfl dvs) (hl : (if c = "" then 0 else 1) + (n + (ks.length + dvs.length)) = D.ps.length) (kb : KB K fd D.ps ((if c = "" then 0 else 1) + n) (ks.map Str.ofString) dvs) : EntF K mg T (clK K) Pr c f n ks dfl := by
  refine ⟨D.ir, _, _, _, _, _, _, dvs, _, _, fd, D.N, D.ps, hfn, F, o.sc, o.chk, o.ar, o.n, o.le, rd, hl, kb, fun e => ?_, fun e e2 => ?_, fun e e2 => ?_⟩
  · unfold callB at cb
    rw [if_pos e] at cb hat
    obtain ⟨a, b⟩ := b2 cb
    rw [hat]
    exact ⟨He.glo_ok X Gm a, He.keep_ok b⟩
  · unfold callB at cb
    rw [if_neg e, if_pos e2] at cb
    rw [if_neg e, e2] at hat
    rw [hat]
    exact He.mkr_ok cb
  · unfold callB at cb
    rw [if_neg e, if_neg e2] at cb
    obtain ⟨a, b⟩ := b2 cb
    rw [if_neg e] at hat
    rw [hat]
    exact ⟨He.cls_ok a, He.meth_ok b⟩
theorem all_nil {α : Type} {p : α → Prop} : ∀ q ∈ ([] : List α), p q := fun q h => by cases h
theorem all_cons {α : Type} {p : α → Prop} {a : α} {l : List α} (h : p a) (t : ∀ q ∈ l, p q) : ∀ q ∈ a :: l, p q := fun q hq => (List.mem_cons.mp hq).elim (fun e => e ▸ h) (t q)
/-- the law's def -/
theorem law_fn {P : Program} {w : World} {K : PySem.W.Frag} {base h : Heap} {mg : Str → Option Value} {fx : Fx} {T : Tab} {fns : List ((String × String) × Fdef)} {D : DD} {fd : FuncData} {fa : Addr} {x : Str} {dvs : List V} {kws : List (Str × V)} (X : K.In h) (Gm : h.Ns mainGlobals mg) (F : PrgF K mg T (clK K) (prgOf fx fns))
    (Fd : FunD K D.d.name D.d.qual D.d.params D.d.body D.d.scope dvs kws fa fd) (o : DDok T D) (hfn : (prgOf fx fns).fn "" "law" = some D.ir) (hps : D.ps = [x]) {n : Nat} (hn : 0 < n) (W0 : Nat) : FnOk P w K mg base (L2.CX P w) (2 * n) fa fd [x] (spLaw ((prgOf fx fns).at W0 n) (clK K)) := by
  cases n with
  | zero => exact absurd hn (Nat.lt_irrefl 0)
  | succ n =>
    have hcf : ((prgOf fx fns).at W0 (n + 1)).cf "" "law" = runF ((prgOf fx fns).at W0 n) W0 D.ir := by
      funext args S
      show (match (prgOf fx fns).fn "" "law" with
        | some d => runF ((prgOf fx fns).at W0 n) W0 d args S
        | none => .stk) = _
      rw [hfn]
    have key := fn_level (P := P) (w := w) (base := base) (W0 := W0) Fd o.sc o.sc.kind o.chk o.ar o.n o.le (prg_ok (P := P) (w := w) (base := base) (W0 := W0) F n)
    rw [hps] at key
    have e : [x].length = 1 := rfl
    rw [e, ← hcf] at key
    exact key
theorem cx_no {P : Program} {w : World} {H : Hp} {s : Shared} {e : Value} {s' : Shared} (h : L2.CX P w [] H s (fun _ _ _ => False) e s') : False := by
  obtain ⟨a, B, H', cls, d, _, _, _, _, _, _, _, z⟩ := h
  exact z
/-- the walk, an exception told by the world -/
theorem walkZ {l : PySem.W.OpenLaw} {n k : Nat} {q : Program} {loose : List Str} {XP : (Str → Option Value) → Heap → Prop} {YP : World → Heap → Prop} {d : DefRec} {x : Str} (hn : l.most = some n) (hn2 : n ≤ sizeLine) (hdf : d.params.defaults = []) (hr : Room k callerA)
    (F : ∀ (w : World) (mg : Str → Option Value) (fa : Addr) (h : Heap), YP w h → h.Ns mainGlobals mg → mg d.name = some (.ref fa) → ∃ (K : PySem.W.Frag) (fd : FuncData) (sp : Sp), K.In h ∧ (∀ (s : Shared) (u : Value), BindsTo s fd ⟨[u], []⟩ [(x, u)]) ∧
        (∀ (H : Hp) (a : Addr) (ns : List Int), ns.length ≤ n → Only H → SqL K H a (ns.map V.int) → sp [.ref a] H (fun v _ => v = .bl true) fun _ _ _ => False) ∧ ∀ base : Heap, K.In base → base.Ns mainGlobals mg → FnOk l.prog w K mg base (L2.CX l.prog w) k fa fd [x] sp) :
    PySem.W.WalkO q loose XP YP l.row.toRowW d [] (fun f vs => PySem.call f vs) := by
  refine Att.attach_call hn hdf ?_
  intro w s0 s1 mg mb fa o pm cd doc a vs ns G Y ho hd hcd hmg hobj hints hlen hgen
  obtain ⟨K, fd, sp, KX, hb, hsp, hF⟩ := F w mg fa _ Y G.T.g hmg
  have ln := Nat.le_trans hlen hn2
  exact law_call KX G.T.g G.T.b G.T.builtins G.T.nolimit hgen hobj hints ln hr hF hb (fun H => hsp H a ns hlen) (fun _ _ _ => cx_no)
end Z

set_option Elab.async false
set_option linter.all false
set_option maxRecDepth 100000
set_option maxHeartbeats 4000000
namespace Z
/-! ### running the evaluator by hand -/
theorem at_cf {P : Prg} {W n : Nat} {c f : String} {d : Fdef} (h : P.fn c f = some d) (args : List D) (S : Store) : (P.at W (n + 1)).cf c f args S = runF (P.at W n) W d args S := by
  show (match P.fn c f with
    | some d => runF (P.at W n) W d args S
    | none => .stk) = _
  rw [h]
section
variable {α β : Type}
@[simp] theorem rb_ok (a : α) (s : St) (f : α → St → R β) : (R.ok a s).bind f = f a s := (rfl)
@[simp] theorem bind_exc (c : String) (s : St) (f : α → St → R β) : (R.exc c s : R α).bind f = .exc c s := (rfl)
@[simp] theorem fl_ok (a : α) (s : St) (f : α → St → Fl) : (R.ok a s).fl f = f a s := (rfl)
@[simp] theorem fl_exc (c : String) (s : St) (f : α → St → Fl) : (R.exc c s : R α).fl f = .exc c s := (rfl)
@[simp] theorem opt_some (a : α) (f : α → R β) : opt (some a) f = f a := (rfl)
@[simp] theorem of_some (a : α) (f : α → Fl) : optF (some a) f = f a := (rfl)
@[simp] theorem O_some (e : Ent) (s : St) : O (some e) s = .ok e s := (rfl)
@[simp] theorem rc_ok (d : D) (S : Store) (s : St) : (RC.ok d S).r s = .ok (.val d) { s with sto := S } := (rfl)
@[simp] theorem rc_exc (c : String) (S : Store) (s : St) : (RC.exc c S).r s = .exc c { s with sto := S } := (rfl)
@[simp] theorem toBe_bl (b : Bool) (s : St) : toBe (.val (.bl b)) s = .ok b s := (rfl)
@[simp] theorem res_val (s : St) (d : D) : res s (.val d) = some d := (rfl)
@[simp] theorem res_own (s : St) (d : D) : res s (.own d) = some d := (rfl)
@[simp] theorem frz_val (d : D) : frz (.val d) = some d := (rfl)
@[simp] theorem frz_own (d : D) : frz (.own d) = some d := (rfl)
@[simp] theorem frzL_nil : frzL [] = some [] := (rfl)
@[simp] theorem frzL_val (d : D) (es : List Ent) : frzL (.val d :: es) = (frzL es).map (d :: ·) := (rfl)
@[simp] theorem frzL_own (d : D) (es : List Ent) : frzL (.own d :: es) = (frzL es).map (d :: ·) := (rfl)
@[simp] theorem resL_nil (s : St) : resL s [] = some [] := (rfl)
@[simp] theorem resL_val (s : St) (d : D) (es : List Ent) : resL s (.val d :: es) = (resL s es).map (d :: ·) := (rfl)
@[simp] theorem resL_own (s : St) (d : D) (es : List Ent) : resL s (.own d :: es) = (resL s es).map (d :: ·) := (rfl)
end
/-- comprehensions whose turns change nothing -/
theorem compL_map {tg own : List Nat} {el : Ev} {tt : EvB} {f : D → D} {s : St} : ∀ {ds : List D}, (∀ d ∈ ds, ∃ s1 r s2, bindT tg d s = some s1 ∧ tt s1 = .ok true s1 ∧ el s1 = .ok r s2 ∧ frz r = some (f d) ∧ unset s2.env own = s.env ∧ s2.sto = s.sto) → compL tg own el tt ds s = .ok (ds.map f) s
  | [], _ => rfl
  | d :: ds, h => by
    obtain ⟨s1, r, s2, e1, e2, e3, e4, e5, e6⟩ := h d List.mem_cons_self
    unfold compL
    rw [e1]
    dsimp only
    rw [e2]
    dsimp only
    rw [e3]
    dsimp only
    rw [e4]
    have e7 : ({ env := unset s2.env own, sto := s2.sto } : St) = s := by rw [e5, e6]
    dsimp only
    rw [e7, compL_map fun x hx => h x (List.mem_cons_of_mem _ hx)]
    rfl
/-- .. whose turns change the store within I -/
theorem compL_inv {tg own : List Nat} {el : Ev} {tt : EvB} {I : Store → Prop} {p : D → Prop} {env : List Ent} : ∀ {ds : List D}, (∀ d ∈ ds, ∀ S, I S → ∃ s1 r s2 v, bindT tg d ⟨env, S⟩ = some s1 ∧ tt s1 = .ok true s1 ∧ el s1 = .ok r s2 ∧ frz r = some v ∧ unset s2.env own = env ∧ I s2.sto ∧ p v) →
    ∀ S, I S → ∃ vs S', compL tg own el tt ds ⟨env, S⟩ = .ok vs ⟨env, S'⟩ ∧ I S' ∧ vs.length = ds.length ∧ ∀ v ∈ vs, p v
  | [], _, S, hS => ⟨[], S, rfl, hS, rfl, fun v hv => by cases hv⟩
  | d :: ds, h, S, hS => by
    obtain ⟨s1, r, s2, v, e1, e2, e3, e4, e5, e6, e7⟩ := h d List.mem_cons_self S hS
    obtain ⟨vs, S', q1, q2, q3, q4⟩ := compL_inv (fun x hx => h x (List.mem_cons_of_mem _ hx)) s2.sto e6
    refine ⟨v :: vs, S', ?_, q2, congrArg Nat.succ q3, fun u hu => (List.mem_cons.mp hu).elim (fun e => e ▸ e7) (q4 u)⟩
    unfold compL
    rw [e1]
    dsimp only
    rw [e2]
    dsimp only
    rw [e3]
    dsimp only
    rw [e4]
    dsimp only
    rw [e5, q1]
/-- the town: two cells, not below nought -/
def Town (t : Nat) (S : Store) : Prop := ∃ a b : Int, S[t]? = some (.lst [.int a, .int b]) ∧ 0 ≤ a ∧ 0 ≤ b
end Z

set_option Elab.async false
set_option linter.all false
set_option maxRecDepth 100000
set_option maxHeartbeats 4000000
namespace Z
open PySem (Operator CmpOp)
section
variable {Γ : Gam} {W : Nat} {bw : Bool} {s : St}
@[simp] theorem x_var (i : Nat) : evE Γ bw (.var i) s = rd s bw i := (rfl)
@[simp] theorem x_cst (d : D) : evE Γ bw (.cst d) s = .ok (.val d) s := (rfl)
@[simp] theorem x_glb (x : String) : evE Γ bw (.glb x) s = O ((Γ.gc x).map .val) s := (rfl)
@[simp] theorem x_bin (op : Operator) (a b : E) : evE Γ bw (.bin op a b) s = ((evE Γ true a s).bind fun x s1 => (evE Γ true b s1).bind fun y s2 => opt (res s2 x) fun dx => opt (res s2 y) fun dy => O (binD op dx dy) s2) := (rfl)
theorem x_neg (a : E) : evE Γ bw (.neg a) s = ((evE Γ true a s).bind fun x s1 => opt (res s1 x) fun d => O (match d with | .int i => some (.val (.int (-i))) | _ => none) s1) := (rfl)
@[simp] theorem x_nt (a : E) : evE Γ bw (.nt a) s = (((evE Γ true a s).bind toBe).bind fun b s1 => .ok (.val (.bl !b)) s1) := by
  show ((((evE Γ true a s).bind toBe).bind fun b s1 => (.ok (!b) s1 : R Bool)).bind fun b s1 => (.ok (.val (.bl b)) s1 : R Ent)) = _
  cases (evE Γ true a s).bind toBe <;> rfl
@[simp] theorem x_cmp (op : CmpOp) (a b : E) : evE Γ bw (.cmp op a b) s = ((evE Γ true a s).bind fun x s1 => (evE Γ true b s1).bind fun y s2 => opt (res s2 x) fun dx => opt (res s2 y) fun dy => opt (cmpD s2.sto op dx dy) fun k => .ok (.val (.bl k)) s2) := by
  show ((((evE Γ true a s).bind fun x s1 => (evE Γ true b s1).bind fun y s2 => opt (res s2 x) fun dx => opt (res s2 y) fun dy => opt (cmpD s2.sto op dx dy) fun k => (.ok k s2 : R Bool))).bind fun b s1 => (.ok (.val (.bl b)) s1 : R Ent)) = _
  cases evE Γ true a s with
  | ok x s1 =>
    show (((evE Γ true b s1).bind fun y s2 => opt (res s2 x) fun dx => opt (res s2 y) fun dy => opt (cmpD s2.sto op dx dy) fun k => (.ok k s2 : R Bool)).bind fun b s1 => (.ok (.val (.bl b)) s1 : R Ent)) = ((evE Γ true b s1).bind fun y s2 => opt (res s2 x) fun dx => opt (res s2 y) fun dy => opt (cmpD s2.sto op dx dy) fun k => .ok (.val (.bl k)) s2)
    cases evE Γ true b s1 with
    | ok y s2 =>
      show ((opt (res s2 x) fun dx => opt (res s2 y) fun dy => opt (cmpD s2.sto op dx dy) fun k => (.ok k s2 : R Bool)).bind fun b s1 => (.ok (.val (.bl b)) s1 : R Ent)) = (opt (res s2 x) fun dx => opt (res s2 y) fun dy => opt (cmpD s2.sto op dx dy) fun k => .ok (.val (.bl k)) s2)
      cases res s2 x with
      | none => rfl
      | some dx => 
        cases res s2 y with
        | none => rfl
        | some dy =>
          show ((opt (cmpD s2.sto op dx dy) fun k => (.ok k s2 : R Bool)).bind fun b s1 => (.ok (.val (.bl b)) s1 : R Ent)) = opt (cmpD s2.sto op dx dy) fun k => .ok (.val (.bl k)) s2
          cases cmpD s2.sto op dx dy <;> rfl
    | exc c s2 => rfl
    | stk => rfl
  | exc c s1 => rfl
  | stk => rfl
@[simp] theorem x_and1 (k : Bool) (e : E) : evA Γ k bw (.cons e .nil) s = evE Γ bw e s := (rfl)
@[simp] theorem x_and2 (k : Bool) (e e' : E) (es : Es) : evA Γ k bw (.cons e (.cons e' es)) s = (((evE Γ true e s).bind toBe).bind fun b s1 => if b = k then evA Γ k bw (.cons e' es) s1 else .ok (.val (.bl b)) s1) := (rfl)
@[simp] theorem x_and (es : Es) : evE Γ bw (.and es) s = evA Γ true bw es s := (rfl)
@[simp] theorem x_or (es : Es) : evE Γ bw (.or es) s = evA Γ false bw es s := (rfl)
@[simp] theorem x_ife (c a b : E) : evE Γ bw (.ife c a b) s = (((evE Γ true c s).bind toBe).bind fun k s1 => if k = true then evE Γ false a s1 else evE Γ false b s1) := (rfl)
@[simp] theorem x_tup (es : Es) : evE Γ bw (.tup es) s = ((evEs Γ false es s).bind fun rs s1 => opt (frzL rs) fun ds => if ds.length ≤ 16777216 then .ok (.val (.tup ds)) s1 else .stk) := (rfl)
@[simp] theorem x_lst (es : Es) : evE Γ bw (.lst es) s = ((evEs Γ false es s).bind fun rs s1 => opt (frzL rs) fun ds => if ds.length ≤ 16777216 then .ok (.own (.lst ds)) s1 else .stk) := (rfl)
@[simp] theorem x_idx (a b : E) : evE Γ bw (.idx a b) s = ((evE Γ true a s).bind fun x s1 => (evE Γ true b s1).bind fun y s2 => opt (res s2 x) fun dx => opt (res s2 y) fun dy => O ((idxD s2.sto dx dy).map .val) s2) := (rfl)
@[simp] theorem x_slc (a : E) (lo hi : Eo) : evE Γ bw (.slc a lo hi) s = ((evE Γ true a s).bind fun x s1 => (evEo Γ lo s1).bind fun l s2 => (evEo Γ hi s2).bind fun h s3 => opt (res s3 x) fun dx => O (slcD dx l h) s3) := (rfl)
@[simp] theorem x_rev (a : E) : evE Γ bw (.rev a) s = ((evE Γ true a s).bind fun x s1 => opt (res s1 x) fun d => O (revD d) s1) := (rfl)
@[simp] theorem x_call (f : String) (es : Es) (kw : List String) (ks : Es) (dfl : List D) : evE Γ bw (.call f es kw ks dfl) s = ((evEs Γ false es s).bind fun xs s1 => (evEs Γ false ks s1).bind fun ys s2 => opt (frzL xs) fun ds => opt (frzL ys) fun zs => (Γ.cf "" f (ds ++ (zs ++ dfl)) s2.sto).r s2) := (rfl)
@[simp] theorem x_mk (c : String) (es : Es) (kw : List String) (ks : Es) (dfl : List D) : evE Γ bw (.mk c es kw ks dfl) s = mkE c (Γ.cf c "__init__") (evEs Γ false es) (evEs Γ false ks) dfl s := (rfl)
@[simp] theorem x_meth (o : E) (c m : String) (es : Es) (kw : List String) (ks : Es) (dfl : List D) : evE Γ bw (.meth o c m es kw ks dfl) s = methE c m (Γ.cf c m) (evE Γ true o) (evEs Γ false es) (evEs Γ false ks) dfl s := (rfl)
@[simp] theorem x_bi (f : String) (es : Es) : evE Γ bw (.bi f es) s = ((evEs Γ true es s).bind fun xs s1 => opt (resL s1 xs) fun ds => O (biD f ds) s1) := (rfl)
@[simp] theorem x_bm (o : E) (t m : String) (es : Es) : evE Γ bw (.bm o t m es) s = ((evE Γ true o s).bind fun x s1 => opt (tyOf s1 t x) fun _ => (evEs Γ true es s1).bind fun ys s2 => opt (res s2 x) fun d => opt (resL s2 ys) fun ds => O (bmD t m d ds) s2) := (rfl)
@[simp] theorem x_isi (a : E) (t : String) : evE Γ bw (.isi a t) s = ((evE Γ true a s).bind fun x s1 => opt (res s1 x) fun d => O ((isiD Γ.sub s1.sto t d).map fun b => .val (.bl b)) s1) := (rfl)
@[simp] theorem x_app (o : E) (t : String) (es : Es) : evE Γ bw (.mut o t "append" es) s = ((evE Γ true o s).bind fun x s1 => opt (tyOf s1 t x) fun _ => (evEs Γ false es s1).bind fun ys s2 => opt (frzL ys) fun ds => upd1 s2 x fun d => appendF d ds) := (rfl)
@[simp] theorem x_ext (o : E) (t : String) (es : Es) : evE Γ bw (.mut o t "extend" es) s = ((evE Γ true o s).bind fun x s1 => opt (tyOf s1 t x) fun _ => (evEs Γ true es s1).bind fun ys s2 => opt (resL s2 ys) fun ds => upd1 s2 x fun d => extendF d ds) := (rfl)
@[simp] theorem x_pop (o : E) (t : String) (es : Es) : evE Γ bw (.mut o t "pop" es) s = ((evE Γ true o s).bind fun x s1 => opt (tyOf s1 t x) fun _ => (evEs Γ false es s1).bind fun ys s2 => opt (frzL ys) fun ds => upd1 s2 x fun d => popF d ds) := (rfl)
@[simp] theorem x_popAt (o : E) (t : String) (es : Es) : evE Γ bw (.mut o t "popAt" es) s = ((evE Γ true o s).bind fun x s1 => opt (tyOf s1 t x) fun _ => (evEs Γ false es s1).bind fun ys s2 => opt (frzL ys) fun ds => upd1 s2 x fun d => popAtF d ds) := (rfl)
@[simp] theorem x_fld (o : E) (f : String) : evE Γ bw (.fld o f) s = ((evE Γ true o s).bind fun x s1 => opt (res s1 x) fun d => O ((fldD Γ.fld f s1.sto d).map .val) s1) := (rfl)
@[simp] theorem x_nil : evEs Γ bw .nil s = .ok [] s := (rfl)
@[simp] theorem x_cons (e : E) (es : Es) : evEs Γ bw (.cons e es) s = ((evE Γ bw e s).bind fun x s1 => (evEs Γ bw es s1).bind fun xs s2 => .ok (x :: xs) s2) := (rfl)
@[simp] theorem x_eon : evEo Γ .no s = .ok none s := (rfl)
def eoK (x : Ent) (s1 : St) : R (Option Int) := match x with
  | .val (.int i) => .ok (some i) s1
  | _ => .stk
@[simp] theorem x_eos (e : E) : evEo Γ (.so e) s = ((evE Γ true e s).bind fun x s1 => eoK x s1) := (rfl)
@[simp] theorem x_chain (o1 o2 : CmpOp) (a b c : E) : evE Γ bw (.chain o1 o2 a b c) s = (((evE Γ true a s).bind fun x s1 => (evE Γ true b s1).bind fun y s2 => opt (res s2 x) fun dx => opt (res s2 y) fun dy =>
  opt (cmpD s2.sto o1 dx dy) fun k => if k = true then (evE Γ true c s2).bind fun z s3 => opt (res s3 y) fun dy => opt (res s3 z) fun dz => opt (cmpD s3.sto o2 dy dz) fun k => (.ok k s3 : R Bool) else .ok false s2).bind fun b s1 => .ok (.val (.bl b)) s1) := rfl
/-! statements -/
@[simp] theorem y_nil : evSs Γ W .nil s = .nx s := (rfl)
@[simp] theorem y_one (t : S) : evSs Γ W (.cons t .nil) s = evS Γ W t s := (rfl)
@[simp] theorem y_two (t t' : S) (ts : Ss) : evSs Γ W (.cons t (.cons t' ts)) s = (match evS Γ W t s with
  | .nx s1 => evSs Γ W (.cons t' ts) s1
  | r => r) := rfl
@[simp] theorem y_set (i : Nat) (e : E) : evS Γ W (.set i e) s = ((evE Γ false e s).fl fun r s1 => stor i r s1) := (rfl)
@[simp] theorem y_setc (i : Nat) (e : E) : evS Γ W (.setc i e) s = ((evE Γ false e s).fl fun r s1 => optF (cellOf r) fun c => .nx (put { s1 with sto := s1.sto ++ [c] } i (.val (.obj s1.sto.length)))) := (rfl)
@[simp] theorem y_sett (ts : List Tg) (e : E) : evS Γ W (.sett ts e) s = ((evE Γ false e s).fl fun r s1 => optF ((frz r).bind tupOf) fun ds => if ds.length = ts.length then evTgs Γ ts ds s1 else .stk) := (rfl)
@[simp] theorem y_par (is : List Nat) (es : Es) : evS Γ W (.par is es) s = ((evEs Γ false es s).fl fun rs s1 => storL is rs s1) := (rfl)
@[simp] theorem y_seti (o k e : E) : evS Γ W (.seti o k e) s = ((evE Γ false e s).fl fun r s1 => optF (frz r) fun d => (evE Γ true o s1).fl fun x s2 => (evE Γ true k s2).fl fun y s3 => optF (res s3 y) fun dk => putI s3 x dk d) := (rfl)
@[simp] theorem y_aug (i : Nat) (op : Operator) (e : E) : evS Γ W (.aug i op e) s = (optF (valOf s.env[i]?) fun dx => (evE Γ true e s).fl fun y s1 => optF (res s1 y) fun dy => optF (augOp op dx dy) fun d => .nx (put s1 i (.val d))) := (rfl)
@[simp] theorem y_augi (o k : E) (op : Operator) (e : E) : evS Γ W (.augi o k op e) s = ((evE Γ true o s).fl fun x s1 => (evE Γ true k s1).fl fun y s2 => optF (res s2 x) fun dx => optF (res s2 y) fun dk => optF ((lstOf s2.sto dx).bind fun xs => idxL xs dk) fun dv =>
  (evE Γ true e s2).fl fun z s3 => optF (res s3 z) fun de => optF (augOp op dv de) fun d => putI s3 x dk d) := rfl
@[simp] theorem y_ex (e : E) : evS Γ W (.ex e) s = ((evE Γ true e s).fl fun _ s1 => .nx s1) := (rfl)
@[simp] theorem y_ret (e : E) : evS Γ W (.ret e) s = ((evE Γ false e s).fl fun r s1 => optF (frz r) fun d => .rt d s1.sto) := (rfl)
@[simp] theorem y_retn : evS Γ W .retn s = .rt .non s.sto := (rfl)
@[simp] theorem y_ifs (c : E) (a b : Ss) : evS Γ W (.ifs c a b) s = (((evE Γ true c s).bind toBe).fl fun k s1 => if k = true then evSs Γ W a s1 else evSs Γ W b s1) := (rfl)
@[simp] theorem y_brk : evS Γ W .brk s = .bk s := (rfl)
@[simp] theorem y_cnt : evS Γ W .cnt s = .ct s := (rfl)
@[simp] theorem y_pas : evS Γ W .pas s = .nx s := (rfl)
@[simp] theorem y_rais (c : String) : evS Γ W (.rais c) s = .exc c s := (rfl)
theorem y_for {tg msk : List Nat} {it : It} {b : Ss} {ds : List D} {s1 : St} (h : evIt Γ it s = .ok ds s1) : evS Γ W (.for tg it b msk) s = forL tg msk (evSs Γ W b) ds s1 := by
  show (evIt Γ it s).fl _ = _
  rw [h]
  rfl
@[simp] theorem i_seq (e : E) : evIt Γ (.seq e) s = ((evE Γ false e s).bind fun x s1 => opt (frz x) fun d => opt (seqD d) fun ds => .ok ds s1) := by
  show ((evE Γ false e s).bind fun x s1 => opt ((frz x).bind seqD) fun ds => .ok ds s1) = _
  congr; funext x s1
  cases frz x <;> rfl
@[simp] theorem i_rng (es : Es) : evIt Γ (.rng es) s = ((evEs Γ false es s).bind fun xs s1 => opt (frzL xs) fun l => opt (rngD l) fun ds => .ok ds s1) := by
  show ((evEs Γ false es s).bind fun xs s1 => opt ((frzL xs).bind rngD) fun ds => .ok ds s1) = _
  congr; funext x s1
  cases frzL x <;> rfl
@[simp] theorem i_enu (e : E) : evIt Γ (.enu e) s = ((evE Γ false e s).bind fun x s1 => opt (frz x) fun d => opt (seqD d) fun ds => .ok (enuL 0 ds) s1) := by
  show ((consL (evE Γ false e) nilL s).bind fun xs s1 => opt ((frzL xs).bind enuD) fun ds => (.ok ds s1 : R (List D))) = _
  unfold consL
  cases evE Γ false e s with
  | ok x s1 =>
    show opt ((frzL [x]).bind enuD) _ = opt (frz x) _
    cases h : frz x with
    | none => simp [frzL, h, opt]
    | some d =>
      simp only [frzL, h, Option.map_some, Option.bind_some, enuD]
      cases h2 : seqD d <;> simp [opt, h2]
  | exc c s1 => rfl
  | stk => rfl
@[simp] theorem i_zip (a b : E) : evIt Γ (.zip a b) s = ((evE Γ false a s).bind fun x s1 => (evE Γ false b s1).bind fun y s2 => opt (frz x) fun dx => opt (frz y) fun dy => opt (seqD dx) fun xs => opt (seqD dy) fun ys => .ok (zipL xs ys) s2) := by
  show ((consL (evE Γ false a) (consL (evE Γ false b) nilL) s).bind fun xs s1 => opt ((frzL xs).bind zipD) fun ds => (.ok ds s1 : R (List D))) = _
  unfold consL
  cases evE Γ false a s with
  | ok x s1 =>
    show (((consL (evE Γ false b) nilL s1).bind fun xs s2 => (.ok (x :: xs) s2 : R (List Ent))).bind _) = ((evE Γ false b s1).bind _)
    unfold consL
    cases evE Γ false b s1 with
    | ok y s2 =>
      show opt ((frzL [x, y]).bind zipD) _ = opt (frz x) _
      cases h : frz x with
      | none => simp [frzL, h, opt]
      | some d => cases h2 : frz y with
        | none => simp [frzL, h, h2, opt]
        | some d2 =>
          simp only [frzL, h, h2, Option.map_some, Option.bind_some, zipD]
          cases e1 : seqD d with
          | none => simp [opt, e1]
          | some xs => cases e2 : seqD d2 <;> simp [opt, e1, e2]
    | exc c s1 => rfl
    | stk => rfl
  | exc c s1 => rfl
  | stk => rfl
@[simp] theorem i_rev (e : E) : evIt Γ (.rev e) s = ((evE Γ false e s).bind fun x s1 => opt (frz x) fun d => opt (revS d) fun ds => .ok ds s1) := by
  show ((evE Γ false e s).bind fun x s1 => opt ((frz x).bind revS) fun ds => .ok ds s1) = _
  congr; funext x s1
  cases frz x <;> rfl
theorem x_comp {el : E} {tg own : List Nat} {it : It} {ifs : Es} {ds vs : List D} {s1 s2 : St} (h1 : evIt Γ it s = .ok ds s1) (hl : ds.length ≤ 16777216) (h2 : compL tg own (evE Γ false el) (evTs Γ ifs) ds { s1 with env := unset s1.env own } = .ok vs s2) :
    evE Γ bw (.comp el tg it ifs own) s = .ok (.own (.lst vs)) { s2 with env := back s1.env s2.env own } := by
  show (evIt Γ it s).bind _ = _
  rw [h1]
  show (if ds.length ≤ 16777216 then _ else _) = _
  rw [if_pos hl]
  rw [h2]
theorem compL_pure {tg own : List Nat} {el : Ev} {f : D → D} {s : St} {ds : List D} (h : ∀ d ∈ ds, ∃ s1 r, bindT tg d s = some s1 ∧ el s1 = .ok r s1 ∧ frz r = some (f d) ∧ unset s1.env own = s.env ∧ s1.sto = s.sto) : compL tg own el (evTs Γ .nil) ds s = .ok (ds.map f) s :=
  compL_map fun d hd => by
    obtain ⟨s1, r, e1, e2, e3, e4, e5⟩ := h d hd
    exact ⟨s1, r, s1, e1, rfl, e2, e3, e4, e5⟩
@[simp] theorem stor_val (i : Nat) (d : D) : stor i (.val d) s = .nx (put s i (.val d)) := (rfl)
@[simp] theorem stor_own (i : Nat) (d : D) : stor i (.own d) s = .nx (put s i (.own d)) := (rfl)
theorem runF_of {f : Fdef} {args : List D} {S : Store} (h : args.length = f.ar) {r : RC} (e : (match evSs Γ W f.body ⟨args.map .val ++ List.replicate (f.n - f.ar) .un, S⟩ with
    | .nx s => .ok .non s.sto
    | .rt d S => .ok d S
    | .exc c s => .exc c s.sto
    | _ => .stk) = r) : runF Γ W f args S = r := by
  unfold runF
  rw [if_pos h]
  exact e
variable {P : Prg} {n : Nat}
@[simp] theorem at_gc : (P.at W n).gc = P.gc := by cases n <;> rfl
@[simp] theorem at_sub : (P.at W n).sub = P.sub := by cases n <;> rfl
@[simp] theorem at_exm : (P.at W n).exm = P.exm := by cases n <;> rfl
@[simp] theorem at_fld : (P.at W n).fld = P.fld := by cases n <;> rfl
theorem boolsOf_map {α : Type} (f : α → Bool) (l : List α) : boolsOf (l.map fun x => D.bl (f x)) = some (l.map f) := by
  induction l with
  | nil => rfl
  | cons a l ih => simp [boolsOf, ih]
theorem strsOf_map {α : Type} (f : α → List Nat) (l : List α) : strsOf (l.map fun x => D.str (f x)) = some (l.map f) := by
  induction l with
  | nil => rfl
  | cons a l ih => simp [strsOf, ih]
@[simp] theorem bi_len (ds : List D) : biD "len" ds = lenF ds := (rfl)
@[simp] theorem bi_all (ds : List D) : biD "all" ds = allF ds := (rfl)
@[simp] theorem bi_any (ds : List D) : biD "any" ds = anyF ds := (rfl)
@[simp] theorem bi_str (ds : List D) : biD "str" ds = strF ds := (rfl)
@[simp] theorem bi_int (ds : List D) : biD "int" ds = intF ds := (rfl)
@[simp] theorem bi_tuple (ds : List D) : biD "tuple" ds = tupleF ds := (rfl)
@[simp] theorem bi_list (ds : List D) : biD "list" ds = listF ds := (rfl)
@[simp] theorem bi_max (ds : List D) : biD "max" ds = maxF ds := (rfl)
@[simp] theorem bi_min (ds : List D) : biD "min" ds = minF ds := (rfl)
@[simp] theorem bm_join (x : D) (ds : List D) : bmD "str" "join" x ds = joinF x ds := (rfl)
@[simp] theorem bm_count (x : D) (ds : List D) : bmD "str" "count" x ds = countF x ds := (rfl)
@[simp] theorem put_mk (env : List Ent) (S : Store) (i : Nat) (e : Ent) : put ⟨env, S⟩ i e = ⟨env.set i e, S⟩ := (rfl)
@[simp] theorem unset_nil (env : List Ent) : unset env [] = env := (rfl)
@[simp] theorem unset_cons (env : List Ent) (i : Nat) (is : List Nat) : unset env (i :: is) = (unset env is).set i .un := (rfl)
@[simp] theorem back_nil (env0 env : List Ent) : back env0 env [] = env := (rfl)
@[simp] theorem back_cons (env0 env : List Ent) (i : Nat) (is : List Nat) : back env0 env (i :: is) = (back env0 env is).set i (env0.getD i .un) := (rfl)
@[simp] theorem rd_val {env : List Ent} {S : Store} {i : Nat} {d : D} (h : env[i]? = some (.val d)) : rd ⟨env, S⟩ bw i = .ok (.val d) ⟨env, S⟩ := by
  unfold rd
  simp only [h]
@[simp] theorem rd_ownt {env : List Ent} {S : Store} {i : Nat} {d : D} (h : env[i]? = some (.own d)) : rd ⟨env, S⟩ true i = .ok (.al i) ⟨env, S⟩ := by
  unfold rd
  simp only [h]
  rfl
@[simp] theorem rd_ownf {env : List Ent} {S : Store} {i : Nat} {d : D} (h : env[i]? = some (.own d)) : rd ⟨env, S⟩ false i = .ok (.val d) ⟨env.set i (.val d), S⟩ := by
  unfold rd
  simp only [h]
  rfl
@[simp] theorem res_al {env : List Ent} {S : Store} {i : Nat} {d : D} (h : env[i]? = some (.own d)) : res ⟨env, S⟩ (.al i) = some d := by
  unfold res
  simp only [h]
@[simp] theorem eqD_str (a b : List Nat) : eqD (.str a) (.str b) = some (a == b) := (rfl)
@[simp] theorem cmp_lt (S : Store) (x y : D) : cmpD S .Lt x y = ltD x y := (rfl)
@[simp] theorem cmp_le (S : Store) (x y : D) : cmpD S .LtE x y = leD x y := (rfl)
@[simp] theorem cmp_gt (S : Store) (x y : D) : cmpD S .Gt x y = ltD y x := (rfl)
@[simp] theorem cmp_ge (S : Store) (x y : D) : cmpD S .GtE x y = leD y x := (rfl)
@[simp] theorem cmp_eq (S : Store) (x y : D) : cmpD S .Eq x y = eqD x y := (rfl)
@[simp] theorem cmp_ne (S : Store) (x y : D) : cmpD S .NotEq x y = (eqD x y).map (!·) := (rfl)
@[simp] theorem cmp_isnt (S : Store) (x y : D) : cmpD S .IsNot x y = (isOp x y).map (!·) := (rfl)
@[simp] theorem cmp_is (S : Store) (x y : D) : cmpD S .Is x y = isOp x y := (rfl)
@[simp] theorem isOp_bl (b c : Bool) : isOp (.bl c) (.bl b) = some (decide (c = b)) := (rfl)
@[simp] theorem ltD_int (i j : Int) : ltD (.int i) (.int j) = some (decide (i < j)) := (rfl)
@[simp] theorem leD_int (i j : Int) : leD (.int i) (.int j) = some (decide (i ≤ j)) := (rfl)
theorem plain_str {k : Nat} {a : List Nat} : D.plain k (.str a) = a.all fun c => decide (c < 1114112) := by cases k <;> rfl
theorem plain_int {k : Nat} {i : Int} : D.plain k (.int i) = true := by cases k <;> rfl
@[simp] theorem eqD_int (i j : Int) : eqD (.int i) (.int j) = some (i == j) := by
  unfold eqD
  simp [plain_int, D.eqv]
@[simp] theorem bin_add (i j : Int) : binD .Add (.int i) (.int j) = some (.val (.int (i + j))) := (rfl)
@[simp] theorem bin_sub (i j : Int) : binD .Sub (.int i) (.int j) = some (.val (.int (i - j))) := (rfl)
@[simp] theorem bin_sadd (a b : List Nat) : binD .Add (.str a) (.str b) = if a.length + b.length ≤ 16777216 then some (.val (.str (a ++ b))) else none := (rfl)
@[simp] theorem bin_ladd (a b : List D) : binD .Add (.lst a) (.lst b) = if a.length + b.length ≤ 16777216 then some (.own (.lst (a ++ b))) else none := (rfl)
@[simp] theorem bin_tadd (a b : List D) : binD .Add (.tup a) (.tup b) = if a.length + b.length ≤ 16777216 then some (.val (.tup (a ++ b))) else none := (rfl)
@[simp] theorem idx_lst (S : Store) (xs : List D) (k : D) : idxD S (.lst xs) k = idxL xs k := (rfl)
@[simp] theorem idx_tup (S : Store) (xs : List D) (k : D) : idxD S (.tup xs) k = idxL xs k := (rfl)
theorem idx_scr (S : Store) (xs : List Int) (k : D) : idxD S (.scr xs) k = (idxL xs k).map .int := (rfl)
@[simp] theorem idx_str (S : Store) (xs : List Nat) (k : D) : idxD S (.str xs) k = if xs.length ≤ 16777216 then (idxL xs k).map fun c => .str [c] else none := (rfl)
@[simp] theorem idx_obj {S : Store} {n : Nat} {xs : List D} (h : S[n]? = some (.lst xs)) (k : D) : idxD S (.obj n) k = idxL xs k := by
  unfold idxD
  simp only [h]
theorem len_str (x : List Nat) : lenF [.str x] = if x.length ≤ 16777216 then some (.val (.int x.length)) else none := (rfl)
theorem len_lst (x : List D) : lenF [.lst x] = some (.val (.int x.length)) := (rfl)
theorem len_scr (x : List Int) : lenF [.scr x] = some (.val (.int x.length)) := (rfl)
theorem len_tup (x : List D) : lenF [.tup x] = some (.val (.int x.length)) := (rfl)
theorem idxL_0 {α : Type} (x : α) (xs : List α) : idxL (x :: xs) (.int 0) = some x := by
  show (ixN (xs.length + 1) 0).bind _ = _
  have e : ixN (xs.length + 1) 0 = some 0 := by unfold ixN; rw [if_pos (by decide), if_pos (by omega)]; rfl
  rw [e]
  rfl
theorem idxL_1 {α : Type} (x y : α) (xs : List α) : idxL (x :: y :: xs) (.int 1) = some y := by
  show (ixN (xs.length + 1 + 1) 1).bind _ = _
  have e : ixN (xs.length + 1 + 1) 1 = some 1 := by unfold ixN; rw [if_pos (by decide), if_pos (by omega)]; rfl
  rw [e]
  rfl
theorem idxL_2 {α : Type} (x y z : α) (xs : List α) : idxL (x :: y :: z :: xs) (.int 2) = some z := by
  show (ixN (xs.length + 1 + 1 + 1) 2).bind _ = _
  have e : ixN (xs.length + 1 + 1 + 1) 2 = some 2 := by unfold ixN; rw [if_pos (by decide), if_pos (by omega)]; rfl
  rw [e]
  rfl
@[simp] theorem eqD_scr (xs : List Int) : eqD (.scr xs) (.lst []) = some xs.isEmpty := (rfl)
@[simp] theorem aug_add (i j : Int) : augOp .Add (.int i) (.int j) = some (.int (i + j)) := (rfl)
@[simp] theorem aug_sub (i j : Int) : augOp .Sub (.int i) (.int j) = some (.int (i - j)) := (rfl)
@[simp] theorem lstOf_lst (S : Store) (xs : List D) : lstOf S (.lst xs) = some xs := (rfl)
@[simp] theorem lstOf_obj {S : Store} {n : Nat} {xs : List D} (h : S[n]? = some (.lst xs)) : lstOf S (.obj n) = some xs := by
  unfold lstOf
  simp only [h]
@[simp] theorem tyOf_str (x : List Nat) : tyOf s "str" (.val (.str x)) = some () := (rfl)
@[simp] theorem tyOf_list (x : List D) : tyOf s "list" (.val (.lst x)) = some () := (rfl)
@[simp] theorem tyOf_listo (x : List D) : tyOf s "list" (.own (.lst x)) = some () := (rfl)
end
end Z

set_option Elab.async false
set_option linter.all false
set_option maxRecDepth 100000
set_option maxHeartbeats 4000000
set_option exponentiation.threshold 1000
namespace Z
open PySem (Operator CmpOp)
/-! ### numbers -/
def nat (n : Nat) : D := .int n
@[simp] theorem int_lit (n : Nat) : D.int (no_index (OfNat.ofNat n)) = nat (OfNat.ofNat n) := rfl
theorem int_cast (n : Nat) : D.int (n : Int) = nat n := rfl
theorem int_nn {i : Int} (h : 0 ≤ i) : D.int i = nat i.toNat := by
  show D.int i = D.int (i.toNat : Int)
  rw [Int.toNat_of_nonneg h]
@[simp] theorem nat_inj (a b : Nat) : (nat a = nat b) = (a = b) := by
  unfold nat
  simp only [D.int.injEq, eq_iff_iff]
  omega
section
variable {a b : Nat}
@[simp] theorem bin_addN : binD .Add (nat a) (nat b) = some (.val (nat (a + b))) := (rfl)
theorem bin_subN (h : b ≤ a) : binD .Sub (nat a) (nat b) = some (.val (nat (a - b))) := by
  show some (Ent.val (D.int ((a : Int) - (b : Int)))) = some (Ent.val (D.int ((a - b : Nat) : Int)))
  rw [Int.ofNat_sub h]
theorem bin_subZ : binD .Sub (nat a) (nat b) = some (.val (.int ((a : Int) - b))) := (rfl)
theorem bin_mulN (h : a < 18446744073709551616 ∨ b < 18446744073709551616) : binD .Mult (nat a) (nat b) = some (.val (nat (a * b))) := by
  show (if mulOk (a : Int) (b : Int) = true then some (Ent.val (.int ((a : Int) * b))) else none) = _
  have e : mulOk (a : Int) (b : Int) = true := by
    unfold mulOk
    rcases h with h | h
    · rw [show Nat.blt (a : Int).natAbs 18446744073709551616 = true from blt_iff.mpr h]
      rfl
    · rw [show Nat.blt (b : Int).natAbs 18446744073709551616 = true from blt_iff.mpr h, Bool.or_true]
      rfl
  rw [if_pos e]
  rfl
@[simp] theorem bin_mulN1 (h : a < 18446744073709551616) : binD .Mult (nat a) (nat b) = some (.val (nat (a * b))) := bin_mulN (.inl h)
@[simp] theorem bin_mulN2 (h : b < 18446744073709551616) : binD .Mult (nat a) (nat b) = some (.val (nat (a * b))) := bin_mulN (.inr h)
@[simp] theorem bin_modN (h : b ≠ 0) : binD .Mod (nat a) (nat b) = some (.val (nat (a % b))) := by
  show (if (b : Int) = 0 then none else some (Ent.val (.int ((a : Int).fmod b)))) = _
  rw [if_neg (by omega), Int.fmod_eq_emod_of_nonneg _ (by omega)]
  rfl
@[simp] theorem bin_fdvN (h : b ≠ 0) (h2 : b < 1073741824) : binD .FloorDiv (nat a) (nat b) = some (.val (nat (a / b))) := by
  show (if (b : Int) ≠ 0 ∧ Nat.blt (b : Int).natAbs 1073741824 = true then some (Ent.val (.int ((a : Int).fdiv b))) else none) = _
  rw [if_pos ⟨by omega, blt_iff.mpr h2⟩]
  rw [Int.fdiv_eq_ediv_of_nonneg _ (by omega)]
  rfl
@[simp] theorem bin_powN (h : b ≤ 1000000) (h2 : a < 18446744073709551616) : binD .Pow (nat a) (nat b) = some (.val (nat (a ^ b))) := by
  show (if nn (b : Int) = true ∧ Nat.ble (b : Int).natAbs 1000000 = true ∧ Nat.blt (a : Int).natAbs 18446744073709551616 = true then some (Ent.val (.int ((a : Int) ^ (b : Int).toNat))) else none) = _
  rw [if_pos ⟨rfl, Nat.ble_eq.mpr h, blt_iff.mpr h2⟩, Int.toNat_natCast]
  unfold nat
  rw [Int.natCast_pow]
@[simp] theorem bin_shlN (h : b ≤ 1000000) (h2 : a < 18446744073709551616) : binD .LShift (nat a) (nat b) = some (.val (nat (a * 2 ^ b))) := by
  show (if nn (b : Int) = true ∧ Nat.ble (b : Int).natAbs 1000000 = true ∧ Nat.blt (a : Int).natAbs 18446744073709551616 = true then some (Ent.val (.int ((a : Int) * 2 ^ (b : Int).toNat))) else none) = _
  rw [if_pos ⟨rfl, Nat.ble_eq.mpr h, blt_iff.mpr h2⟩, Int.toNat_natCast]
  unfold nat
  rw [Int.natCast_mul, Int.natCast_pow]
  rfl
@[simp] theorem bin_shrN : binD .RShift (nat a) (nat b) = some (.val (nat (a / 2 ^ b))) := by
  show (if nn (b : Int) = true then some (Ent.val (.int ((a : Int) / 2 ^ (b : Int).toNat))) else none) = _
  rw [if_pos (show nn (b : Int) = true from rfl), Int.toNat_natCast]
  unfold nat
  rw [Int.natCast_ediv, Int.natCast_pow]
  rfl
@[simp] theorem bin_andN : binD .BitAnd (nat a) (nat b) = some (.val (nat (a &&& b))) := by
  show (if nn (a : Int) = true ∧ nn (b : Int) = true then some (Ent.val (.int (((a : Int).toNat &&& (b : Int).toNat : Nat) : Int))) else none) = _
  rw [if_pos ⟨rfl, rfl⟩]
  rfl
@[simp] theorem bin_xorN : binD .BitXor (nat a) (nat b) = some (.val (nat (a ^^^ b))) := by
  show (if nn (a : Int) = true ∧ nn (b : Int) = true then some (Ent.val (.int (((a : Int).toNat ^^^ (b : Int).toNat : Nat) : Int))) else none) = _
  rw [if_pos ⟨rfl, rfl⟩]
  rfl
@[simp] theorem bin_orN : binD .BitOr (nat a) (nat b) = some (.val (nat (a ||| b))) := by
  show (if nn (a : Int) = true ∧ nn (b : Int) = true then some (Ent.val (.int (((a : Int).toNat ||| (b : Int).toNat : Nat) : Int))) else none) = _
  rw [if_pos ⟨rfl, rfl⟩]
  rfl
@[simp] theorem ltN : ltD (nat a) (nat b) = some (decide (a < b)) := by
  show some (decide ((a : Int) < b)) = _
  simp
@[simp] theorem leN : leD (nat a) (nat b) = some (decide (a ≤ b)) := by
  show some (decide ((a : Int) ≤ b)) = _
  simp
theorem eqN : eqD (nat a) (nat b) = some (decide (a = b)) := by
  unfold nat
  rw [eqD_int]
  congr 1
  rw [Bool.eq_iff_iff]
  simp only [beq_iff_eq, decide_eq_true_eq]
  omega
@[simp] theorem augAddN : augOp .Add (nat a) (nat b) = some (nat (a + b)) := (rfl)
theorem augSubN (h : b ≤ a) : augOp .Sub (nat a) (nat b) = some (nat (a - b)) := by
  show some (D.int ((a : Int) - (b : Int))) = some (D.int ((a - b : Nat) : Int))
  rw [Int.ofNat_sub h]
@[simp] theorem augXorN : augOp .BitXor (nat a) (nat b) = some (nat (a ^^^ b)) := by
  show (if nn (a : Int) = true ∧ nn (b : Int) = true then some (D.int (((a : Int).toNat ^^^ (b : Int).toNat : Nat) : Int)) else none) = _
  rw [if_pos ⟨rfl, rfl⟩]
  rfl
@[simp] theorem len_strN (x : List Nat) (h : x.length ≤ 16777216) : lenF [.str x] = some (.val (nat x.length)) := by
  rw [len_str, if_pos h]
  rfl
@[simp] theorem len_lstN (x : List D) : lenF [.lst x] = some (.val (nat x.length)) := (rfl)
@[simp] theorem len_scrN (x : List Int) : lenF [.scr x] = some (.val (nat x.length)) := (rfl)
@[simp] theorem len_tupN (x : List D) : lenF [.tup x] = some (.val (nat x.length)) := (rfl)
@[simp] theorem int_nat : intF [nat a] = some (.val (nat a)) := (rfl)
@[simp] theorem max_nat : maxF [nat a, nat b] = some (.val (nat (max a b))) := by
  show some (Ent.val (D.int (if (b : Int) > a then (b : Int) else a))) = some (.val (.int ((max a b : Nat) : Int)))
  congr 3
  split <;> omega
@[simp] theorem min_nat : minF [nat a, nat b] = some (.val (nat (min a b))) := by
  show some (Ent.val (D.int (if (b : Int) < a then (b : Int) else a))) = some (.val (.int ((min a b : Nat) : Int)))
  congr 3
  split <;> omega
end
/-- a bound of a slice -/
def ix (n : Nat) : Int := n
@[simp] theorem eoK_nat (n : Nat) (s : St) : eoK (.val (nat n)) s = .ok (some (ix n)) s := (rfl)
@[simp] theorem eoK_int (n : Int) (s : St) : eoK (.val (.int n)) s = .ok (some n) s := (rfl)
@[simp] theorem cut_lo {α : Type} (l : List α) (a : Nat) : cut l (some (ix a)) none = l.drop a := by
  unfold ix
  unfold cut
  have e : sIx l.length 0 (some (a : Int)) = min a l.length := by
    show (if (a : Int) < 0 then ((a : Int) + (l.length : Int)).toNat else min (a : Int).toNat l.length) = _
    rw [if_neg (by omega), Int.toNat_natCast]
  rw [e]
  show (l.drop (min a l.length)).take (l.length - min a l.length) = _
  rw [List.take_of_length_le (by simp)]
  by_cases h : a ≤ l.length
  · rw [Nat.min_eq_left h]
  · rw [Nat.min_eq_right (by omega), List.drop_length, List.drop_of_length_le (by omega)]
@[simp] theorem cut_hi {α : Type} (l : List α) (b : Nat) : cut l none (some (ix b)) = l.take b := by
  unfold ix
  unfold cut
  have e : sIx l.length l.length (some (b : Int)) = min b l.length := by
    show (if (b : Int) < 0 then ((b : Int) + (l.length : Int)).toNat else min (b : Int).toNat l.length) = _
    rw [if_neg (by omega), Int.toNat_natCast]
  rw [e]
  show (l.drop 0).take (min b l.length - 0) = _
  rw [List.drop_zero, Nat.sub_zero]
  by_cases h : b ≤ l.length
  · rw [Nat.min_eq_left h]
  · rw [Nat.min_eq_right (by omega), List.take_length, List.take_of_length_le (by omega)]
@[simp] theorem cut_both {α : Type} (l : List α) (a b : Nat) : cut l (some (ix a)) (some (ix b)) = (l.take b).drop a := by
  unfold ix
  unfold cut
  have e : sIx l.length 0 (some (a : Int)) = min a l.length := by
    show (if (a : Int) < 0 then ((a : Int) + (l.length : Int)).toNat else min (a : Int).toNat l.length) = _
    rw [if_neg (by omega), Int.toNat_natCast]
  have e2 : sIx l.length l.length (some (b : Int)) = min b l.length := by
    show (if (b : Int) < 0 then ((b : Int) + (l.length : Int)).toNat else min (b : Int).toNat l.length) = _
    rw [if_neg (by omega), Int.toNat_natCast]
  rw [e, e2, ← List.drop_take]
  apply List.ext_getElem?
  intro i
  simp only [List.getElem?_drop, List.getElem?_take]
  by_cases h : a ≤ l.length
  · rw [Nat.min_eq_left h]
    by_cases h2 : b ≤ l.length
    · rw [Nat.min_eq_left h2]
    · rw [Nat.min_eq_right (by omega)]
      by_cases h3 : a + i < l.length
      · rw [if_pos h3, if_pos (by omega)]
      · rw [if_neg h3]
        split
        · rw [List.getElem?_eq_none (by omega)]
        · rfl
  · rw [Nat.min_eq_right (by omega)]
    rw [if_neg (by omega)]
    split
    · rw [List.getElem?_eq_none (by omega)]
    · rfl
@[simp] theorem slc_lst (l : List D) (lo hi : Option Int) : slcD (.lst l) lo hi = some (.own (.lst (cut l lo hi))) := (rfl)
@[simp] theorem slc_tup (l : List D) (lo hi : Option Int) : slcD (.tup l) lo hi = some (.val (.tup (cut l lo hi))) := (rfl)
/-! the places of lists -/
theorem ixN_nat {n a : Nat} (h : a < n) : ixN n (a : Int) = some a := by
  unfold ixN
  rw [if_pos (by omega), if_pos (by omega)]
  simp
@[simp] theorem idxL_nat {α : Type} {xs : List α} {a : Nat} (h : a < xs.length) : idxL xs (nat a) = some xs[a] := by
  show (ixN xs.length (a : Int)).bind _ = _
  rw [ixN_nat h]
  show xs[a]? = _
  exact List.getElem?_eq_getElem h
theorem idxL_nat? {α : Type} {xs : List α} {a : Nat} {x : α} (h : xs[a]? = some x) : idxL xs (nat a) = some x := by
  obtain ⟨h1, h2⟩ := List.getElem?_eq_some_iff.mp h
  rw [idxL_nat h1, h2]
@[simp] theorem idxL_n0 {α : Type} (x : α) (xs : List α) : idxL (x :: xs) (nat 0) = some x := idxL_0 x xs
@[simp] theorem idxL_n1 {α : Type} (x y : α) (xs : List α) : idxL (x :: y :: xs) (nat 1) = some y := idxL_1 x y xs
@[simp] theorem idxL_n2 {α : Type} (x y z : α) (xs : List α) : idxL (x :: y :: z :: xs) (nat 2) = some z := idxL_2 x y z xs
@[simp] theorem idxL_n3 {α : Type} (x y z u : α) (xs : List α) : idxL (x :: y :: z :: u :: xs) (nat 3) = some u := idxL_nat? rfl
@[simp] theorem idxL_n4 {α : Type} (x y z u v : α) (xs : List α) : idxL (x :: y :: z :: u :: v :: xs) (nat 4) = some v := idxL_nat? rfl
/-! ### bits -/
def bit (b : Bool) : Nat := if b then 49 else 48
def bits (l : List Bool) : D := .str (l.map bit)
@[simp] theorem s_0 : D.str [48] = bits [false] := (rfl)
@[simp] theorem s_1 : D.str [49] = bits [true] := (rfl)
@[simp] theorem s_bit (b : Bool) : D.str [bit b] = bits [b] := (rfl)
theorem bit_inj {a b : Bool} : bit a = bit b ↔ a = b := by cases a <;> cases b <;> decide
theorem map_bit_inj {l m : List Bool} : l.map bit = m.map bit ↔ l = m := by
  constructor
  · intro h
    induction l generalizing m with
    | nil => cases m with
      | nil => rfl
      | cons _ _ => cases h
    | cons x l ih => cases m with
      | nil => cases h
      | cons y m =>
        simp only [List.map_cons, List.cons.injEq] at h
        rw [bit_inj.mp h.1, ih h.2]
  · rintro rfl; rfl
theorem bits_inj {l m : List Bool} : bits l = bits m ↔ l = m := by
  unfold bits
  rw [D.str.injEq]
  exact map_bit_inj
@[simp] theorem eq_bits (l m : List Bool) : eqD (bits l) (bits m) = some (decide (l = m)) := by
  show some (l.map bit == m.map bit) = _
  congr 1
  rw [Bool.eq_iff_iff]
  simp [map_bit_inj]
theorem eq_bits_nil (l : List Bool) : eqD (bits l) (.str []) = some (decide (l = [])) := eq_bits l []
@[simp] theorem len_bits (l : List Bool) (h : l.length ≤ 16777216) : lenF [bits l] = some (.val (nat l.length)) := by
  unfold bits
  rw [len_strN _ (by simpa using h)]
  simp
@[simp] theorem add_bits (l m : List Bool) (h : l.length + m.length ≤ 16777216) : binD .Add (bits l) (bits m) = some (.val (bits (l ++ m))) := by
  unfold bits
  rw [bin_sadd, if_pos (by simpa using h), List.map_append]
@[simp] theorem seq_bits (l : List Bool) : seqD (bits l) = some (l.map fun b => bits [b]) := by
  show some ((l.map bit).map fun c => D.str [c]) = _
  rw [List.map_map]
  rfl
@[simp] theorem int_bit (b : Bool) : intF [bits [b]] = some (.val (nat b.toNat)) := by cases b <;> rfl
theorem cut_map {α β : Type} (f : α → β) (l : List α) (lo hi : Option Int) : cut (l.map f) lo hi = (cut l lo hi).map f := by
  unfold cut
  simp [List.map_drop, List.map_take]
@[simp] theorem slc_bits (l : List Bool) (lo hi : Option Int) (h : l.length ≤ 16777216) : slcD (bits l) lo hi = some (.val (bits (cut l lo hi))) := by
  show (if (l.map bit).length ≤ 16777216 then _ else _) = _
  rw [if_pos (by simpa using h), cut_map]
  rfl
@[simp] theorem rev_bits (l : List Bool) (h : l.length ≤ 16777216) : revD (bits l) = some (.val (bits l.reverse)) := by
  show (if (l.map bit).length ≤ 16777216 then _ else _) = _
  rw [if_pos (by simpa using h), ← List.map_reverse]
  rfl
theorem idx_bits (S : Store) (l : List Bool) {a : Nat} (h : a < l.length) (hl : l.length ≤ 16777216) : idxD S (bits l) (nat a) = some (bits [l[a]]) := by
  show (if (l.map bit).length ≤ 16777216 then (idxL (l.map bit) (nat a)).map fun c => D.str [c] else none) = _
  rw [if_pos (by simpa using hl), idxL_nat (by simpa using h)]
  simp
@[simp] theorem ty_bits (s : St) (l : List Bool) : tyOf s "str" (.val (bits l)) = some () := (rfl)
@[simp] theorem count_1 (l : List Bool) : countF (bits l) [bits [true]] = some (.val (nat (l.count true))) := by
  show some (Ent.val (D.int ((l.map bit).count 49))) = _
  have : (l.map bit).count 49 = l.count true := by
    induction l with
    | nil => rfl
    | cons b l ih => cases b <;> simp [ih, bit]
  rw [this]
  rfl
theorem strsOf_bits {α : Type} (f : α → List Bool) (l : List α) : strsOf (l.map fun x => bits (f x)) = some (l.map fun x => (f x).map bit) := strsOf_map _ l
theorem joinS_nil (l : List (List Nat)) : joinS [] l = l.flatten := by
  induction l with
  | nil => rfl
  | cons a l ih => cases l with
    | nil => simp [joinS]
    | cons b l => simp only [joinS, List.flatten_cons] at ih ⊢; rw [ih]; simp
theorem sumLen_nil (l : List (List Nat)) : sumLen 0 l = l.flatten.length := by
  induction l with
  | nil => rfl
  | cons a l ih => simp [sumLen, ih]
theorem join_bits {α : Type} (f : α → List Bool) (l : List α) (h : (l.flatMap f).length ≤ 16777216) : joinF (.str []) [.lst (l.map fun x => bits (f x))] = some (.val (bits (l.flatMap f))) := by
  show (strsOf _).bind _ = _
  rw [strsOf_bits]
  have e : (l.map fun x => (f x).map bit).flatten = (l.flatMap f).map bit := by rw [List.flatMap_def, List.map_flatten, List.map_map]; rfl
  show (if sumLen 0 _ ≤ 16777216 then some (Ent.val (.str (joinS [] _))) else none) = _
  rw [sumLen_nil, joinS_nil, e, if_pos (by simpa using h)]
  rfl
theorem join_ones {α : Type} (f : α → Bool) (l : List α) (h : l.length ≤ 16777216) : joinF (.str []) [.lst (l.map fun x => bits [f x])] = some (.val (bits (l.map f))) := by
  have e : l.flatMap (fun x => [f x]) = l.map f := by
    clear h
    induction l with
    | nil => rfl
    | cons a l ih => simp [ih]
  rw [join_bits (fun x => [f x]) l (by rw [e]; simpa using h), e]
theorem all_map {α : Type} (f : α → Bool) (l : List α) : allF [.lst (l.map fun x => D.bl (f x))] = some (.val (.bl (l.all f))) := by
  show (boolsOf _).map _ = _
  rw [boolsOf_map f]
  simp [Function.comp_def]
theorem any_map {α : Type} (f : α → Bool) (l : List α) : anyF [.lst (l.map fun x => D.bl (f x))] = some (.val (.bl (l.any f))) := by
  show (boolsOf _).map _ = _
  rw [boolsOf_map f]
  simp [Function.comp_def]
@[simp] theorem seq_lst (l : List D) : seqD (.lst l) = some l := (rfl)
@[simp] theorem seq_tup (l : List D) : seqD (.tup l) = some l := (rfl)
/-! ### what is walked -/
theorem rngL_nat (lo k : Nat) : rngL lo k = (List.range k).map fun i => nat (lo + i) := by
  induction k generalizing lo with
  | zero => rfl
  | succ k ih =>
    rw [List.range_succ_eq_map]
    have := ih (lo + 1)
    simp only [rngL, List.map_cons, List.map_map]
    congr 1
    rw [show ((lo : Int) + 1) = ((lo + 1 : Nat) : Int) from rfl, this]
    apply List.map_congr_left
    intro i _
    simp only [Function.comp_apply]
    congr 1
    omega
theorem inR_N {k : Nat} (h : k < 4611686018427387904) : inR (k : Int) = true := blt_iff.mpr h
@[simp] theorem rng_1 {k : Nat} (h : k < 4611686018427387904) : rngD [nat k] = some ((List.range k).map nat) := by
  show (if inR (k : Int) = true then some (rngL 0 (k : Int).toNat) else none) = _
  rw [if_pos (inR_N h)]
  have := rngL_nat 0 k
  simp only [Nat.zero_add] at this
  exact congrArg some this
/-- the whole numbers from lo to below hi -/
def upto (lo hi : Nat) : List Nat := (List.range (hi - lo)).map (lo + ·)
theorem mem_upto {lo hi x : Nat} : x ∈ upto lo hi ↔ lo ≤ x ∧ x < hi := by
  unfold upto
  simp only [List.mem_map, List.mem_range]
  constructor
  · rintro ⟨a, h, rfl⟩; omega
  · intro h; exact ⟨x - lo, by omega, by omega⟩
theorem len_upto (lo hi : Nat) : (upto lo hi).length = hi - lo := by simp [upto]
@[simp] theorem rng_2 {i k : Nat} (h : i < 4611686018427387904) (h2 : k < 4611686018427387904) : rngD [nat i, nat k] = some ((upto i k).map nat) := by
  show (if (inR (i : Int) && inR (k : Int)) = true then some (rngL i ((k : Int) - i).toNat) else none) = _
  rw [if_pos (by rw [inR_N h, inR_N h2]; rfl)]
  have e : ((k : Int) - i).toNat = k - i := by omega
  rw [e, rngL_nat, upto, List.map_map]
  rfl
@[simp] theorem enuL_map {α : Type} (g : α → D) (l : List α) (i : Nat) : enuL i (l.map g) = (l.zipIdx i).map fun p => D.tup [nat p.2, g p.1] := by
  induction l generalizing i with
  | nil => rfl
  | cons x l ih => simp only [List.map_cons, enuL, List.zipIdx_cons]; rw [ih]; rfl
@[simp] theorem zipL_map2 {α β : Type} (f : α → D) (g : β → D) (l : List α) (m : List β) : zipL (l.map f) (m.map g) = (l.zip m).map fun p => D.tup [f p.1, g p.2] := by
  induction l generalizing m with
  | nil => rfl
  | cons x l ih => cases m with
    | nil => rfl
    | cons y m => simp [zipL, ih]
@[simp] theorem storL_nil {s : St} : storL [] [] s = .nx s := (rfl)
@[simp] theorem storL_val {i : Nat} {is : List Nat} {d : D} {rs : List Ent} {s : St} : storL (i :: is) (.val d :: rs) s = storL is rs (put s i (.val d)) := (rfl)
@[simp] theorem storL_own {i : Nat} {is : List Nat} {d : D} {rs : List Ent} {s : St} : storL (i :: is) (.own d :: rs) s = storL is rs (put s i (.own d)) := (rfl)
@[simp] theorem tgs_nil {Γ : Gam} {s : St} : evTgs Γ [] [] s = .nx s := (rfl)
@[simp] theorem tgs_nm {Γ : Gam} {s : St} (i : Nat) (ts : List Tg) (d : D) (ds : List D) : evTgs Γ (.nm i :: ts) (d :: ds) s = evTgs Γ ts ds (put s i (.val d)) := (rfl)
@[simp] theorem tupOf_t (ds : List D) : tupOf (.tup ds) = some ds := (rfl)
/-! ### comprehensions -/
inductive Tn where
  | yes (d : D) | no | imp
open Classical in
/-- a turn that leaves all as it was -/
noncomputable def turn (tg own : List Nat) (el : Ev) (tt : EvB) (d : D) (s : St) : Tn :=
  match bindT tg d s with
  | none => .imp
  | some s1 => match tt s1 with
    | .ok true s2 => match el s2 with
      | .ok r s3 => match frz r with
        | some v => if unset s3.env own = s.env ∧ s3.sto = s.sto then .yes v else .imp
        | none => .imp
      | _ => .imp
    | .ok false s2 => if unset s2.env own = s.env ∧ s2.sto = s.sto then .no else .imp
    | _ => .imp
def Tn.of : Option D → Tn
  | some d => .yes d
  | none => .no
theorem compL_fm {α : Type} {tg own : List Nat} {el : Ev} {tt : EvB} {g : α → D} (f : α → Option D) {s : St} {xs : List α} (h : ∀ x ∈ xs, turn tg own el tt (g x) s = .of (f x)) : compL tg own el tt (xs.map g) s = .ok (xs.filterMap f) s := by
  induction xs with
  | nil => rfl
  | cons x xs ih =>
    have h1 := h x List.mem_cons_self
    have h2 := ih fun y hy => h y (List.mem_cons_of_mem _ hy)
    rw [List.map_cons, List.filterMap_cons]
    unfold compL
    unfold turn at h1
    cases e1 : bindT tg (g x) s with
    | none => rw [e1] at h1; cases e : f x <;> (rw [e] at h1; cases h1)
    | some s1 =>
      rw [e1] at h1
      dsimp only at h1 ⊢
      cases e2 : tt s1 with
      | ok b s2 =>
        rw [e2] at h1
        cases b with
        | false =>
          dsimp only at h1 ⊢
          split at h1
          · rename_i hh
            have e5 : ({ env := unset s2.env own, sto := s2.sto } : St) = s := by rw [hh.1, hh.2]
            cases e : f x with
            | none => rw [e5, h2]
            | some d => rw [e] at h1; cases h1
          · cases e : f x <;> (rw [e] at h1; cases h1)
        | true =>
          dsimp only at h1 ⊢
          cases e3 : el s2 with
          | ok r s3 =>
            rw [e3] at h1
            dsimp only at h1 ⊢
            cases e4 : frz r with
            | some v =>
              rw [e4] at h1
              dsimp only at h1 ⊢
              split at h1
              · rename_i hh
                have e5 : ({ env := unset s3.env own, sto := s3.sto } : St) = s := by rw [hh.1, hh.2]
                cases e : f x with
                | none => rw [e] at h1; cases h1
                | some d => rw [e] at h1; cases h1; rw [e5, h2]
              · cases e : f x <;> (rw [e] at h1; cases h1)
            | none => rw [e4] at h1; cases e : f x <;> (rw [e] at h1; cases h1)
          | exc c s3 => rw [e3] at h1; cases e : f x <;> (rw [e] at h1; cases h1)
          | stk => rw [e3] at h1; cases e : f x <;> (rw [e] at h1; cases h1)
      | exc c s2 => rw [e2] at h1; cases e : f x <;> (rw [e] at h1; cases h1)
      | stk => rw [e2] at h1; cases e : f x <;> (rw [e] at h1; cases h1)
/-- the comprehension behind what it walks -/
def compK (Γ : Gam) (el : E) (tg own : List Nat) (ifs : Es) (ds : List D) (s1 : St) : R Ent := if ds.length ≤ 16777216 then
      match compL tg own (evE Γ false el) (evTs Γ ifs) ds { s1 with env := unset s1.env own } with
      | .ok vs s2 => .ok (.own (.lst vs)) { s2 with env := back s1.env s2.env own }
      | _ => .stk
    else .stk
@[simp] theorem x_compK {Γ : Gam} {bw : Bool} {s : St} (el : E) (tg : List Nat) (it : It) (ifs : Es) (own : List Nat) : evE Γ bw (.comp el tg it ifs own) s = (evIt Γ it s).bind fun ds s1 => compK Γ el tg own ifs ds s1 := (rfl)
theorem compK_fm {Γ : Gam} {el : E} {tg own : List Nat} {ifs : Es} {α : Type} {g : α → D} {env : List Ent} {S : Store} {xs : List α} (f : α → Option D) (hl : xs.length ≤ 16777216)
    (h : ∀ x ∈ xs, turn tg own (evE Γ false el) (evTs Γ ifs) (g x) ⟨unset env own, S⟩ = .of (f x)) : compK Γ el tg own ifs (xs.map g) ⟨env, S⟩ = .ok (.own (.lst (xs.filterMap f))) ⟨back env (unset env own) own, S⟩ := by
  unfold compK
  rw [if_pos (by simpa using hl), compL_fm f h]
theorem compK_map {Γ : Gam} {el : E} {tg own : List Nat} {ifs : Es} {α : Type} {g : α → D} {env : List Ent} {S : Store} {xs : List α} (f : α → D) (hl : xs.length ≤ 16777216)
    (h : ∀ x ∈ xs, turn tg own (evE Γ false el) (evTs Γ ifs) (g x) ⟨unset env own, S⟩ = .yes (f x)) : compK Γ el tg own ifs (xs.map g) ⟨env, S⟩ = .ok (.own (.lst (xs.map f))) ⟨back env (unset env own) own, S⟩ := by
  rw [compK_fm (fun x => some (f x)) hl h]
  congr 3
  induction xs with
  | nil => rfl
  | cons x xs ih => simp
theorem compK_lst {Γ : Gam} {el : E} {tg own : List Nat} {ifs : Es} {env : List Ent} {S : Store} {ds : List D} (f : D → D) (hl : ds.length ≤ 16777216)
    (h : ∀ x ∈ ds, turn tg own (evE Γ false el) (evTs Γ ifs) x ⟨unset env own, S⟩ = .yes (f x)) : compK Γ el tg own ifs ds ⟨env, S⟩ = .ok (.own (.lst (ds.map f))) ⟨back env (unset env own) own, S⟩ := by
  have := compK_map (g := id) (xs := ds) f hl h
  rwa [List.map_id] at this
theorem compK_filter {Γ : Gam} {el : E} {tg own : List Nat} {ifs : Es} {α : Type} {g : α → D} {env : List Ent} {S : Store} {xs : List α} (p : α → Bool) (f : α → D) (hl : xs.length ≤ 16777216)
    (h : ∀ x ∈ xs, turn tg own (evE Γ false el) (evTs Γ ifs) (g x) ⟨unset env own, S⟩ = if p x = true then .yes (f x) else .no) : compK Γ el tg own ifs (xs.map g) ⟨env, S⟩ = .ok (.own (.lst ((xs.filter p).map f))) ⟨back env (unset env own) own, S⟩ := by
  rw [compK_fm (fun x => if p x = true then some (f x) else none) hl fun x hx => by rw [h x hx]; split <;> rfl]
  congr 3
  clear h hl
  induction xs with
  | nil => rfl
  | cons x xs ih =>
    rw [List.filterMap_cons, List.filter_cons]
    by_cases hp : p x = true
    · simp [hp, ih]
    · simp [hp, ih]
@[simp] theorem ts_nil {Γ : Gam} {s : St} : evTs Γ .nil s = .ok true s := (rfl)
@[simp] theorem ts_one {Γ : Gam} {s : St} (e : E) : evTs Γ (.cons e .nil) s = (evE Γ true e s).bind toBe := (rfl)
theorem tst_eq (a : Ev) (s : St) : tst a s = (a s).bind toBe := (rfl)
@[simp] theorem bindT_1 (i : Nat) (d : D) (s : St) : bindT [i] d s = some (put s i (.val d)) := (rfl)
@[simp] theorem bindT_2 (i j : Nat) (d : D) (s : St) : bindT (i :: j :: is) d s = bindTup (i :: j :: is) d s := (rfl)
@[simp] theorem bindTup_t (is : List Nat) (ds : List D) (s : St) : bindTup is (.tup ds) s = putL is ds s := (rfl)
@[simp] theorem putL_nil (s : St) : putL [] [] s = some s := (rfl)
@[simp] theorem putL_cons (i : Nat) (is : List Nat) (d : D) (ds : List D) (s : St) : putL (i :: is) (d :: ds) s = putL is ds (put s i (.val d)) := (rfl)
/-! lists with which something is done -/
@[simp] theorem cmp_in (S : Store) (x y : D) : cmpD S .In x y = inD S x y := (rfl)
@[simp] theorem cmp_ni (S : Store) (x y : D) : cmpD S .NotIn x y = (inD S x y).map (!·) := (rfl)
@[simp] theorem eq_bl (a b : Bool) : eqD (.bl a) (.bl b) = some (decide (a = b)) := by cases a <;> cases b <;> rfl
@[simp] theorem upd_own {env : List Ent} {S : Store} {i : Nat} {d : D} (h : env[i]? = some (.own d)) (f : D → Option (D × D)) : upd1 ⟨env, S⟩ (.al i) f = opt (f d) fun p => .ok (.val p.2) ⟨env.set i (.own p.1), S⟩ := by
  show opt (ownOf ⟨env, S⟩ i) _ = _
  unfold ownOf
  simp only [h]
  rfl
@[simp] theorem resL_al {env : List Ent} {S : Store} {i : Nat} {d : D} (h : env[i]? = some (.own d)) (es : List Ent) : resL ⟨env, S⟩ (.al i :: es) = (resL ⟨env, S⟩ es).map (d :: ·) := by
  show (match res ⟨env, S⟩ (.al i) with | some d => (resL ⟨env, S⟩ es).map (d :: ·) | none => none) = _
  rw [res_al h]
@[simp] theorem tyOf_own {env : List Ent} {S : Store} {i : Nat} {xs : List D} (h : env[i]? = some (.own (.lst xs))) : tyOf ⟨env, S⟩ "list" (.al i) = some () := by
  unfold tyOf
  rw [res_al h]
  rfl
@[simp] theorem appF_ok {xs : List D} (d : D) (h : xs.length < 16777216) : appendF (.lst xs) [d] = some (.lst (xs ++ [d]), .non) := by
  show (if _ then _ else _) = _
  rw [if_pos h]
theorem inSeq_nat (x : Nat) (l : List Nat) : inSeq (nat x) (l.map nat) = some (decide (x ∈ l)) := by
  have h1 : (D.flat (nat x) && (l.map nat).all D.flat) = true := by
    rw [Bool.and_eq_true]
    refine ⟨rfl, ?_⟩
    rw [List.all_eq_true]
    intro y hy
    obtain ⟨z, _, rfl⟩ := List.mem_map.mp hy
    rfl
  unfold inSeq
  rw [if_pos h1]
  congr 1
  clear h1
  induction l with
  | nil => rfl
  | cons a l ih =>
    rw [List.map_cons]
    unfold inL
    rw [ih, Bool.eq_iff_iff]
    have : D.eqv (nat x) (nat a) = decide (x = a) := by
      show ((x : Int) == (a : Int)) = _
      rw [Bool.eq_iff_iff]
      simp only [beq_iff_eq, decide_eq_true_eq]
      omega
    rw [this]
    simp
@[simp] theorem in_nats (S : Store) (x : Nat) (l : List Nat) : inD S (nat x) (.lst (l.map nat)) = some (decide (x ∈ l)) := inSeq_nat x l
@[simp] theorem in_natsT (S : Store) (x : Nat) (l : List Nat) : inD S (nat x) (.tup (l.map nat)) = some (decide (x ∈ l)) := inSeq_nat x l
theorem plains_nat (k : Nat) (l : List Nat) : D.plains k (l.map nat) = true := by
  induction l with
  | nil => cases k <;> rfl
  | cons a l ih =>
    show (D.plain k (nat a) && D.plains k (l.map nat)) = true
    rw [ih, show D.plain k (nat a) = true from plain_int]
    rfl
theorem eqvs_nat (l m : List Nat) : D.eqvs (l.map nat) (m.map nat) = decide (l = m) := by
  induction l generalizing m with
  | nil => cases m <;> rfl
  | cons a l ih =>
    cases m with
    | nil => rfl
    | cons b m =>
      show (D.eqv (nat a) (nat b) && D.eqvs (l.map nat) (m.map nat)) = _
      rw [ih]
      have : D.eqv (nat a) (nat b) = decide (a = b) := by
        show ((a : Int) == (b : Int)) = _
        rw [Bool.eq_iff_iff]
        simp only [beq_iff_eq, decide_eq_true_eq]
        omega
      rw [this, Bool.eq_iff_iff]
      simp
@[simp] theorem eq_nats (l m : List Nat) : eqD (.lst (l.map nat)) (.lst (m.map nat)) = some (decide (l = m)) := by
  show (if (D.plain DEEP (.lst (l.map nat)) && D.plain DEEP (.lst (m.map nat))) = true then some (D.eqvs (l.map nat) (m.map nat)) else none) = _
  rw [show D.plain DEEP (.lst (l.map nat)) = true from plains_nat 7 l, show D.plain DEEP (.lst (m.map nat)) = true from plains_nat 7 m, eqvs_nat]
  rfl
@[simp] theorem eq_natsT (l m : List Nat) : eqD (.tup (l.map nat)) (.tup (m.map nat)) = some (decide (l = m)) := by
  show (if (D.plain DEEP (.tup (l.map nat)) && D.plain DEEP (.tup (m.map nat))) = true then some (D.eqvs (l.map nat) (m.map nat)) else none) = _
  rw [show D.plain DEEP (.tup (l.map nat)) = true from plains_nat 7 l, show D.plain DEEP (.tup (m.map nat)) = true from plains_nat 7 m, eqvs_nat]
  rfl
/-! ### loops -/
@[simp] theorem y_forU {Γ : Gam} {W : Nat} {s : St} (tg : List Nat) (it : It) (b : Ss) (msk : List Nat) : evS Γ W (.for tg it b msk) s = (evIt Γ it s).fl fun ds s1 => forL tg msk (evSs Γ W b) ds s1 := (rfl)
@[simp] theorem y_whl {Γ : Gam} {W : Nat} {s : St} (c : E) (b : Ss) (msk : List Nat) : evS Γ W (.whl c b msk) s = whlF (tst (evE Γ true c)) (evSs Γ W b) msk W s := (rfl)
@[simp] theorem forL_nil (tg msk : List Nat) (body : EvS) (s : St) : forL tg msk body [] s = .nx s := (rfl)
def loop1 (tg msk : List Nat) (body : EvS) (d : D) (s : St) : Fl :=
  match bindT tg d s with
  | none => .stk
  | some s1 => match body s1 with
    | .nx s2 => .nx (mask msk s2)
    | .ct s2 => .nx (mask msk s2)
    | r => r
theorem forL_cons (tg msk : List Nat) (body : EvS) (d : D) (ds : List D) (s : St) : forL tg msk body (d :: ds) s = match loop1 tg msk body d s with
    | .nx s2 => forL tg msk body ds s2
    | .bk s2 => .nx s2
    | .rt d S => .rt d S
    | .exc c s2 => .exc c s2
    | _ => .stk := by
  conv => lhs; unfold forL
  unfold loop1
  cases bindT tg d s with
  | none => rfl
  | some s1 =>
    dsimp only
    cases body s1 <;> rfl
@[simp] theorem mask_mk (msk : List Nat) (env : List Ent) (S : Store) : mask msk ⟨env, S⟩ = ⟨unset env msk, S⟩ := (rfl)
/-- by what stands after each front -/
theorem forL_pre {α : Type} {tg msk : List Nat} {body : EvS} {g : α → D} {S : Store} {xs : List α} {env : List Ent} (mk : List α → List Ent) (h0 : env = mk []) (h : ∀ p x q, xs = p ++ x :: q → loop1 tg msk body (g x) ⟨mk p, S⟩ = .nx ⟨mk (p ++ [x]), S⟩) : forL tg msk body (xs.map g) ⟨env, S⟩ = .nx ⟨mk xs, S⟩ := by
  subst h0
  have key : ∀ q p, xs = p ++ q → forL tg msk body (q.map g) ⟨mk p, S⟩ = .nx ⟨mk xs, S⟩ := by
    intro q
    induction q with
    | nil => intro p e; rw [e, List.append_nil]; rfl
    | cons x q ih =>
      intro p e
      rw [List.map_cons, forL_cons, h p x q e]
      exact ih (p ++ [x]) (by rw [e]; simp)
  exact key xs [] rfl
/-- .. with an invariant -/
theorem forL_inv {α β : Type} {tg msk : List Nat} {body : EvS} {g : α → D} {S : Store} {xs : List α} {env : List Ent} (mk : β → List Ent) (step : β → α → β) (I : List α → β → Prop) (b : β) (h0 : env = mk b) (hb : I [] b)
    (h : ∀ p x q b, xs = p ++ x :: q → I p b → loop1 tg msk body (g x) ⟨mk b, S⟩ = .nx ⟨mk (step b x), S⟩ ∧ I (p ++ [x]) (step b x)) : forL tg msk body (xs.map g) ⟨env, S⟩ = .nx ⟨mk (xs.foldl step b), S⟩ ∧ I xs (xs.foldl step b) := by
  subst h0
  have key : ∀ q p b, xs = p ++ q → I p b → forL tg msk body (q.map g) ⟨mk b, S⟩ = .nx ⟨mk (q.foldl step b), S⟩ ∧ I xs (q.foldl step b) := by
    intro q
    induction q with
    | nil => intro p b e hi; rw [List.append_nil] at e; subst e; exact ⟨rfl, hi⟩
    | cons x q ih =>
      intro p b e hi
      obtain ⟨h1, h2⟩ := h p x q b e hi
      rw [List.map_cons, forL_cons, h1]
      exact ih (p ++ [x]) _ (by rw [e]; simp) h2
  exact key xs [] b rfl hb
theorem forL_fold {α β : Type} {tg msk : List Nat} {body : EvS} {g : α → D} {S : Store} {xs : List α} {env : List Ent} (mk : β → List Ent) (step : β → α → β) (b : β) (h0 : env = mk b)
    (h : ∀ b, ∀ x ∈ xs, loop1 tg msk body (g x) ⟨mk b, S⟩ = .nx ⟨mk (step b x), S⟩) : forL tg msk body (xs.map g) ⟨env, S⟩ = .nx ⟨mk (xs.foldl step b), S⟩ :=
  (forL_inv mk step (fun _ _ => True) b h0 trivial fun p x q b e _ => ⟨h b x (by rw [e]; simp), trivial⟩).1
/-- a loop whose turns lengthen a list -/
theorem forL_ext {α : Type} {tg msk : List Nat} {body : EvS} {g : α → D} {S : Store} {xs : List α} {env : List Ent} (mk : List D → List Ent) (F : α → List D) (base : List D) (h0 : env = mk base) (hl : base.length + (xs.flatMap F).length ≤ 16777216)
    (h : ∀ base, ∀ x ∈ xs, base.length + (F x).length ≤ 16777216 → loop1 tg msk body (g x) ⟨mk base, S⟩ = .nx ⟨mk (base ++ F x), S⟩) : forL tg msk body (xs.map g) ⟨env, S⟩ = .nx ⟨mk (base ++ xs.flatMap F), S⟩ := by
  subst h0
  induction xs generalizing base with
  | nil => simp
  | cons x xs ih =>
    simp only [List.flatMap_cons, List.length_append] at hl
    rw [List.map_cons, forL_cons, h base x List.mem_cons_self (by omega)]
    dsimp only
    rw [ih (base ++ F x) (by simp only [List.length_append]; omega) fun b y hy => h b y (List.mem_cons_of_mem _ hy)]
    simp [List.append_assoc]
theorem flatMap_single {α β : Type} (f : α → β) (l : List α) : l.flatMap (fun x => [f x]) = l.map f := by
  induction l with
  | nil => rfl
  | cons a l ih => simp [ih]
theorem forL_app {α : Type} {tg msk : List Nat} {body : EvS} {g : α → D} {S : Store} {xs : List α} {env : List Ent} (mk : List D → List Ent) (f : α → D) (base : List D) (h0 : env = mk base) (hl : base.length + xs.length ≤ 16777216)
    (h : ∀ base, ∀ x ∈ xs, base.length < 16777216 → loop1 tg msk body (g x) ⟨mk base, S⟩ = .nx ⟨mk (base ++ [f x]), S⟩) : forL tg msk body (xs.map g) ⟨env, S⟩ = .nx ⟨mk (base ++ xs.map f), S⟩ := by
  rw [forL_ext mk (fun x => [f x]) base h0 (by rw [flatMap_single, List.length_map]; exact hl) (fun b x hx hb => h b x hx (by simp at hb; omega)), flatMap_single]
/-- a loop that hands back at the first of some -/
theorem forL_find {α : Type} {tg msk : List Nat} {body : EvS} {g : α → D} {s : St} {xs : List α} (p : α → Bool) (r : α → D) (h : ∀ x ∈ xs, loop1 tg msk body (g x) s = if p x = true then .rt (r x) s.sto else .nx s) : forL tg msk body (xs.map g) s = match xs.find? p with
    | some x => .rt (r x) s.sto
    | none => .nx s := by
  induction xs with
  | nil => rfl
  | cons x xs ih =>
    rw [List.map_cons, forL_cons, h x List.mem_cons_self, List.find?_cons]
    by_cases hp : p x = true
    · simp [hp]
    · simp only [hp]
      exact ih fun y hy => h y (List.mem_cons_of_mem _ hy)
/-- a while loop, by a measure -/
theorem whl_run {c : St → R Bool} {body : EvS} {msk : List Nat} {S : Store} {β : Type} (mk : β → List Ent) (go : β → Bool) (I : β → Prop) (μ : β → Nat)
    (hc : ∀ b, I b → c ⟨mk b, S⟩ = .ok (go b) ⟨mk b, S⟩)
    (hs : ∀ b, I b → go b = true → ∃ s2 b', body ⟨mk b, S⟩ = .nx s2 ∧ mask msk s2 = ⟨mk b', S⟩ ∧ I b' ∧ μ b' < μ b) :
    ∀ W b, I b → μ b < W → ∃ b', whlF c body msk W ⟨mk b, S⟩ = .nx ⟨mk b', S⟩ ∧ I b' ∧ go b' = false := by
  intro W
  induction W with
  | zero => intro b _ h; omega
  | succ W ih =>
    intro b hb hm
    unfold whlF
    rw [hc b hb]
    cases hg : go b with
    | false => exact ⟨b, rfl, hb, hg⟩
    | true =>
      obtain ⟨s2, b', e1, e2, e3, e4⟩ := hs b hb hg
      dsimp only
      rw [e1]
      dsimp only
      rw [e2]
      exact ih b' e3 (by omega)
theorem whl_rw {c : St → R Bool} {body : EvS} {msk : List Nat} {S : Store} {β : Type} {W : Nat} {env : List Ent} (mk : β → List Ent) (envE : List Ent) (b : β) (go : β → Bool) (I : β → Prop) (μ : β → Nat)
    (h0 : env = mk b) (hb : I b) (hm : μ b < W) (he : ∀ b, I b → go b = false → mk b = envE)
    (hc : ∀ b, I b → c ⟨mk b, S⟩ = .ok (go b) ⟨mk b, S⟩)
    (hs : ∀ b, I b → go b = true → ∃ s2 b', body ⟨mk b, S⟩ = .nx s2 ∧ mask msk s2 = ⟨mk b', S⟩ ∧ I b' ∧ μ b' < μ b) : whlF c body msk W ⟨env, S⟩ = .nx ⟨envE, S⟩ := by
  obtain ⟨b', e1, e2, e3⟩ := whl_run mk go I μ hc hs W b hb hm
  rw [h0, e1, he b' e2 e3]
end Z

set_option maxHeartbeats 0
namespace Z.L
open PySem PySem.Spec PyProof.Rows L2
def top (i : Nat) : Stmt := PySem.Challenge.pw_bitmend_k08_polys_refused.main.body.getD i (.Pass ⟨0, 0, 0, 0⟩)
def sub (st : Stmt) (j : Nat) : Stmt := match st with
  | .ClassDef _ _ _ b _ _ _ _ _ _ _ => b.getD j (.Pass ⟨0, 0, 0, 0⟩)
  | _ => .Pass ⟨0, 0, 0, 0⟩
def T : Tab := ⟨[("Field", "has", 1, [], []),
  ("", "is_poly", 2, [], []),
  ("", "cut", 1, [], []),
  ("Field", "mul", 2, [], []),
  ("Field", "undone", 1, [], []),
  ("", "need_poly", 2, [], []),
  ("", "sum_poly", 2, [], []),
  ("", "product_poly", 3, [], []),
  ("", "both_parts", 3, [], []),
  ("Field", "need", 1, [], []),
  ("", "at_element", 3, [], []),
  ("", "are_points", 2, [], []),
  ("", "degree", 1, [], []),
  ("", "rest_plain", 2, [], []),
  ("", "is_whole", 3, [], []),
  ("", "need_width", 1, [], []),
  ("", "is_rule_of", 2, [], []),
  ("", "is_rule", 2, [], []),
  ("Field", "powers_of", 1, [], []),
  ("", "times_plain", 2, [], []),
  ("Field", "raised", 2, [], []),
  ("", "_law_draw", 3, [], []),
  ("Field", "__init__", 2, [], []),
  ("", "plus_poly", 3, [], []),
  ("", "times_poly", 3, [], []),
  ("", "parted", 3, [], []),
  ("", "common_poly", 3, [], []),
  ("", "value_at", 3, [], []),
  ("", "roots", 2, [], []),
  ("", "through", 2, [], []),
  ("", "_law_pick", 3, [], []),
  ("", "_law_ask", 3, [], []),
  ("", "_law_once", 2, [], []),
  ("", "law", 1, [], [])],
  ["LONGEST"], ["ValueError", "all", "bool", "enumerate", "int", "isinstance", "len", "list", "max", "range", "reversed", "set", "tuple", "zip"], ["BitError", "Field", "Lost", "NoBits", "NoEditions", "NoElement", "NoFigures", "NoLayout", "NoLengths", "NoLine", "NoMender", "NoNumber", "NoOrder", "NoPoints", "NoPoly", "NoRecord", "NoRoad", "NoRows", "NoRule", "NoTaps", "NoWeights", "NoWord", "TooLong"], ["NoElement", "NoNumber", "NoPoints", "NoPoly", "NoRule", "TooLong"]⟩
def fx : Fx := ⟨[("Field", "base"), ("Field", "logs"), ("Field", "powers"), ("Field", "ruled"), ("Field", "size"), ("Field", "wide")], [("Field", "bool", false), ("Field", "int", false), ("Field", "list", false), ("Field", "tuple", false), ("NoneType", "bool", false), ("NoneType", "int", false), ("NoneType", "list", false), ("NoneType", "tuple", false), ("bool", "bool", true), ("bool", "int", true), ("bool", "list", false), ("bool", "tuple", false), ("dict", "bool", false), ("dict", "int", false), ("dict", "list", false), ("dict", "tuple", false), ("int", "bool", false), ("int", "int", true), ("int", "list", false), ("int", "tuple", false), ("list", "bool", false), ("list", "int", false), ("list", "list", true), ("list", "tuple", false), ("str", "bool", false), ("str", "int", false), ("str", "list", false), ("str", "tuple", false), ("tuple", "bool", false), ("tuple", "int", false), ("tuple", "list", false), ("tuple", "tuple", true)], [("BitError", "BitError", true), ("Lost", "BitError", true), ("NoBits", "BitError", true), ("NoEditions", "BitError", true), ("NoElement", "BitError", true), ("NoFigures", "BitError", true), ("NoLayout", "BitError", true), ("NoLengths", "BitError", true), ("NoLine", "BitError", true), ("NoMender", "BitError", true), ("NoNumber", "BitError", true), ("NoOrder", "BitError", true), ("NoPoints", "BitError", true), ("NoPoly", "BitError", true), ("NoRecord", "BitError", true), ("NoRoad", "BitError", true), ("NoRows", "BitError", true), ("NoRule", "BitError", true), ("NoTaps", "BitError", true), ("NoWeights", "BitError", true), ("NoWord", "BitError", true), ("TooLong", "BitError", true)], [("LONGEST", 64)], [], some ⟨"_law_which", [114, 101, 102, 117, 115, 101, 100], ["NoBits", "NoNumber", "NoRule"], [["NoElement"], ["NoPoly", "NoPoints", "NoFigures"], ["NoRows"], ["NoMender", "NoWord", "NoTaps"], ["NoWeights"], ["NoLengths", "NoOrder", "NoLayout"], ["NoRecord"], ["NoEditions", "NoLine", "NoRoad"], ["TooLong"]], "Lost", ["NoElement", "NoNumber", "NoPoints", "NoPoly", "NoRule", "TooLong"]⟩⟩
def ir_Field_has : Fdef := ⟨2, 2, (.cons (.ret (.call "is_whole" (.cons (.var 1) (.cons (.cst (.int 0)) (.cons (.bin .Sub (.fld (.var 0) "size") (.cst (.int 1))) .nil))) [] .nil [])) .nil)⟩
def ir_is_poly : Fdef := ⟨2, 3, (.cons (.ifs (.or (.cons (.nt (.isi (.var 0) "tuple")) (.cons (.cmp .Gt (.bi "len" (.cons (.var 0) .nil)) (.glb "LONGEST")) (.cons (.nt (.bi "all" (.cons (.comp (.meth (.var 1) "Field" "has" (.cons (.var 2) .nil) [] .nil []) [2] (.seq (.var 0)) .nil [2]) .nil))) .nil)))) (.cons (.ret (.cst (.bl false))) .nil) .nil) (.cons (.ret (.or (.cons (.cmp .Eq (.var 0) (.tup .nil)) (.cons (.cmp .NotEq (.idx (.var 0) (.neg (.cst (.int 1)))) (.cst (.int 0))) .nil)))) .nil))⟩
def ir_cut : Fdef := ⟨1, 2, (.cons (.set 1 (.bi "len" (.cons (.var 0) .nil))) (.cons (.whl (.and (.cons (.cmp .Gt (.var 1) (.cst (.int 0))) (.cons (.cmp .Eq (.idx (.var 0) (.bin .Sub (.var 1) (.cst (.int 1)))) (.cst (.int 0))) .nil))) (.cons (.aug 1 .Sub (.cst (.int 1))) .nil) []) (.cons (.ret (.bi "tuple" (.cons (.slc (.var 0) .no (.so (.var 1))) .nil))) .nil)))⟩
def ir_Field_mul : Fdef := ⟨3, 3, (.cons (.ifs (.or (.cons (.cmp .Eq (.var 1) (.cst (.int 0))) (.cons (.cmp .Eq (.var 2) (.cst (.int 0))) .nil))) (.cons (.ret (.cst (.int 0))) .nil) .nil) (.cons (.ret (.idx (.fld (.var 0) "powers") (.bin .Mod (.bin .Add (.idx (.fld (.var 0) "logs") (.var 1)) (.idx (.fld (.var 0) "logs") (.var 2))) (.bin .Sub (.fld (.var 0) "size") (.cst (.int 1)))))) .nil))⟩
def ir_Field_undone : Fdef := ⟨2, 2, (.cons (.ret (.idx (.fld (.var 0) "powers") (.bin .Mod (.bin .Sub (.cst (.int 0)) (.idx (.fld (.var 0) "logs") (.var 1))) (.bin .Sub (.fld (.var 0) "size") (.cst (.int 1)))))) .nil)⟩
def ir_need_poly : Fdef := ⟨2, 2, (.cons (.ifs (.nt (.call "is_poly" (.cons (.var 0) (.cons (.var 1) .nil)) [] .nil [])) (.cons (.rais "NoPoly") .nil) .nil) .nil)⟩
def ir_sum_poly : Fdef := ⟨2, 7, (.cons (.set 2 (.bi "max" (.cons (.bi "len" (.cons (.var 0) .nil)) (.cons (.bi "len" (.cons (.var 1) .nil)) .nil)))) (.cons (.par [3, 4] (.cons (.bin .Add (.var 0) (.bin .Mult (.tup (.cons (.cst (.int 0)) .nil)) (.bin .Sub (.var 2) (.bi "len" (.cons (.var 0) .nil))))) (.cons (.bin .Add (.var 1) (.bin .Mult (.tup (.cons (.cst (.int 0)) .nil)) (.bin .Sub (.var 2) (.bi "len" (.cons (.var 1) .nil))))) .nil))) (.cons (.ret (.call "cut" (.cons (.comp (.bin .BitXor (.var 5) (.var 6)) [5, 6] (.zip (.var 3) (.var 4)) .nil [5, 6]) .nil) [] .nil [])) .nil)))⟩
def ir_product_poly : Fdef := ⟨3, 8, (.cons (.set 3 (.bin .Mult (.lst (.cons (.cst (.int 0)) .nil)) (.bin .Add (.bi "len" (.cons (.var 0) .nil)) (.bi "len" (.cons (.var 1) .nil))))) (.cons (.for [4, 5] (.enu (.var 0)) (.cons (.for [6, 7] (.enu (.var 1)) (.cons (.augi (.var 3) (.bin .Add (.var 4) (.var 6)) .BitXor (.meth (.var 2) "Field" "mul" (.cons (.var 5) (.cons (.var 7) .nil)) [] .nil [])) .nil) [6, 7]) .nil) [4, 5, 6, 7]) (.cons (.ret (.call "cut" (.cons (.var 3) .nil) [] .nil [])) .nil)))⟩
def ir_both_parts : Fdef := ⟨3, 10, (.cons (.par [3, 4] (.cons (.bi "list" (.cons (.var 0) .nil)) (.cons (.bin .Mult (.lst (.cons (.cst (.int 0)) .nil)) (.bi "max" (.cons (.bin .Add (.bin .Sub (.bi "len" (.cons (.var 0) .nil)) (.bi "len" (.cons (.var 1) .nil))) (.cst (.int 1))) (.cons (.cst (.int 0)) .nil)))) .nil))) (.cons (.set 5 (.meth (.var 2) "Field" "undone" (.cons (.idx (.var 1) (.neg (.cst (.int 1)))) .nil) [] .nil [])) (.cons (.for [6] (.rng (.cons (.bin .Sub (.bi "len" (.cons (.var 4) .nil)) (.cst (.int 1))) (.cons (.bin .Sub (.cst (.int 0)) (.cst (.int 1))) (.cons (.bin .Sub (.cst (.int 0)) (.cst (.int 1))) .nil)))) (.cons (.set 7 (.meth (.var 2) "Field" "mul" (.cons (.idx (.var 3) (.bin .Sub (.bin .Add (.var 6) (.bi "len" (.cons (.var 1) .nil))) (.cst (.int 1)))) (.cons (.var 5) .nil)) [] .nil [])) (.cons (.seti (.var 4) (.var 6) (.var 7)) (.cons (.for [8, 9] (.enu (.var 1)) (.cons (.augi (.var 3) (.bin .Add (.var 6) (.var 8)) .BitXor (.meth (.var 2) "Field" "mul" (.cons (.var 7) (.cons (.var 9) .nil)) [] .nil [])) .nil) [8, 9]) .nil))) [6, 7, 8, 9]) (.cons (.ret (.tup (.cons (.call "cut" (.cons (.var 4) .nil) [] .nil []) (.cons (.call "cut" (.cons (.var 3) .nil) [] .nil []) .nil)))) .nil))))⟩
def ir_Field_need : Fdef := ⟨2, 2, (.cons (.ifs (.nt (.meth (.var 0) "Field" "has" (.cons (.var 1) .nil) [] .nil [])) (.cons (.rais "NoElement") .nil) .nil) .nil)⟩
def ir_at_element : Fdef := ⟨3, 5, (.cons (.set 3 (.cst (.int 0))) (.cons (.for [4] (.rev (.var 0)) (.cons (.set 3 (.bin .BitXor (.meth (.var 2) "Field" "mul" (.cons (.var 3) (.cons (.var 1) .nil)) [] .nil []) (.var 4))) .nil) [4]) (.cons (.ret (.var 3)) .nil)))⟩
def ir_are_points : Fdef := ⟨2, 4, (.cons (.ifs (.or (.cons (.nt (.isi (.var 0) "list")) (.cons (.nt (.chain .LtE .LtE (.cst (.int 1)) (.bi "len" (.cons (.var 0) .nil)) (.cst (.int 20)))) .nil))) (.cons (.ret (.cst (.bl false))) .nil) .nil) (.cons (.for [2] (.seq (.var 0)) (.cons (.ifs (.or (.cons (.nt (.isi (.var 2) "tuple")) (.cons (.cmp .NotEq (.bi "len" (.cons (.var 2) .nil)) (.cst (.int 2))) (.cons (.nt (.bi "all" (.cons (.comp (.meth (.var 1) "Field" "has" (.cons (.var 3) .nil) [] .nil []) [3] (.seq (.var 2)) .nil [3]) .nil))) .nil)))) (.cons (.ret (.cst (.bl false))) .nil) .nil) .nil) [2, 3]) (.cons (.ret (.cmp .Eq (.bst "len" (.comp (.idx (.var 2) (.cst (.int 0))) [2] (.seq (.var 0)) .nil [2])) (.bi "len" (.cons (.var 0) .nil)))) .nil)))⟩
def ir_degree : Fdef := ⟨1, 2, (.cons (.set 1 (.bin .Sub (.cst (.int 0)) (.cst (.int 1)))) (.cons (.whl (.cmp .Gt (.var 0) (.cst (.int 0))) (.cons (.par [0, 1] (.cons (.bin .RShift (.var 0) (.cst (.int 1))) (.cons (.bin .Add (.var 1) (.cst (.int 1))) .nil))) .nil) []) (.cons (.ret (.var 1)) .nil)))⟩
def ir_rest_plain : Fdef := ⟨2, 3, (.cons (.set 2 (.call "degree" (.cons (.var 1) .nil) [] .nil [])) (.cons (.whl (.cmp .GtE (.call "degree" (.cons (.var 0) .nil) [] .nil []) (.var 2)) (.cons (.aug 0 .BitXor (.bin .LShift (.var 1) (.bin .Sub (.call "degree" (.cons (.var 0) .nil) [] .nil []) (.var 2)))) .nil) []) (.cons (.ret (.var 0)) .nil)))⟩
def ir_is_whole : Fdef := ⟨3, 3, (.cons (.ret (.and (.cons (.isi (.var 0) "int") (.cons (.nt (.isi (.var 0) "bool")) (.cons (.chain .LtE .LtE (.var 1) (.var 0) (.var 2)) .nil))))) .nil)⟩
def ir_need_width : Fdef := ⟨1, 1, (.cons (.ifs (.nt (.call "is_whole" (.cons (.var 0) (.cons (.cst (.int 2)) (.cons (.cst (.int 8)) .nil))) [] .nil [])) (.cons (.rais "NoNumber") .nil) .nil) .nil)⟩
def ir_is_rule_of : Fdef := ⟨2, 3, (.cons (.ret (.bi "all" (.cons (.comp (.cmp .NotEq (.call "rest_plain" (.cons (.var 0) (.cons (.var 2) .nil)) [] .nil []) (.cst (.int 0))) [2] (.rng (.cons (.cst (.int 2)) (.cons (.bin .LShift (.cst (.int 1)) (.bin .Add (.bin .FloorDiv (.var 1) (.cst (.int 2))) (.cst (.int 1)))) .nil))) .nil [2]) .nil))) .nil)⟩
def ir_is_rule : Fdef := ⟨2, 2, (.cons (.ex (.call "need_width" (.cons (.var 1) .nil) [] .nil [])) (.cons (.ret (.and (.cons (.call "is_whole" (.cons (.var 0) (.cons (.bin .LShift (.cst (.int 1)) (.var 1)) (.cons (.bin .Sub (.bin .LShift (.cst (.int 1)) (.bin .Add (.var 1) (.cst (.int 1)))) (.cst (.int 1))) .nil))) [] .nil []) (.cons (.call "is_rule_of" (.cons (.var 0) (.cons (.var 1) .nil)) [] .nil []) .nil)))) .nil))⟩
def ir_Field_powers_of : Fdef := ⟨2, 4, (.cons (.par [2, 3] (.cons (.lst (.cons (.cst (.int 1)) .nil)) (.cons (.var 1) .nil))) (.cons (.whl (.cmp .NotEq (.var 3) (.cst (.int 1))) (.cons (.ex (.mut (.var 2) "list" "append" (.cons (.var 3) .nil))) (.cons (.set 3 (.call "rest_plain" (.cons (.call "times_plain" (.cons (.var 3) (.cons (.var 1) .nil)) [] .nil []) (.cons (.fld (.var 0) "ruled") .nil)) [] .nil [])) .nil)) []) (.cons (.ret (.var 2)) .nil)))⟩
def ir_times_plain : Fdef := ⟨2, 3, (.cons (.set 2 (.cst (.int 0))) (.cons (.whl (.cmp .Gt (.var 1) (.cst (.int 0))) (.cons (.ifs (.cmp .Eq (.bin .BitAnd (.var 1) (.cst (.int 1))) (.cst (.int 1))) (.cons (.aug 2 .BitXor (.var 0)) .nil) .nil) (.cons (.par [0, 1] (.cons (.bin .LShift (.var 0) (.cst (.int 1))) (.cons (.bin .RShift (.var 1) (.cst (.int 1))) .nil))) .nil)) []) (.cons (.ret (.var 2)) .nil)))⟩
def ir_Field_raised : Fdef := ⟨3, 3, (.cons (.ifs (.cmp .Eq (.var 1) (.cst (.int 0))) (.cons (.ret (.ife (.cmp .Eq (.var 2) (.cst (.int 0))) (.cst (.int 1)) (.cst (.int 0)))) .nil) .nil) (.cons (.ret (.idx (.fld (.var 0) "powers") (.bin .Mod (.bin .Mult (.idx (.fld (.var 0) "logs") (.var 1)) (.var 2)) (.bin .Sub (.fld (.var 0) "size") (.cst (.int 1)))))) .nil))⟩
def ir_L_draw : Fdef := ⟨3, 6, (.cons (.ifs (.cmp .Gt (.idx (.var 1) (.cst (.int 1))) (.cst (.int 0))) (.cons (.set 3 (.bin .Mod (.idx (.var 1) (.cst (.int 1))) (.var 2))) (.cons (.seti (.var 1) (.cst (.int 1)) (.bin .FloorDiv (.idx (.var 1) (.cst (.int 1))) (.var 2))) (.cons (.ret (.var 3)) .nil))) .nil) (.cons (.set 4 (.idx (.var 1) (.cst (.int 0)))) (.cons (.augi (.var 1) (.cst (.int 0)) .Add (.cst (.int 1))) (.cons (.ifs (.cmp .Eq (.var 0) (.lst .nil)) (.cons (.ret (.bin .Mod (.var 4) (.var 2))) .nil) .nil) (.cons (.ifs (.and (.cons (.cmp .Lt (.var 4) (.bi "len" (.cons (.var 0) .nil))) (.cons (.cmp .GtE (.idx (.var 0) (.var 4)) (.bin .Pow (.cst (.int 10)) (.cst (.int 18)))) .nil))) (.cons (.seti (.var 1) (.cst (.int 1)) (.bin .Mod (.bin .FloorDiv (.idx (.var 0) (.var 4)) (.var 2)) (.bin .Mult (.bin .Pow (.cst (.int 10)) (.cst (.int 60))) (.bin .Pow (.cst (.int 10)) (.cst (.int 60)))))) (.cons (.ret (.bin .Mod (.idx (.var 0) (.var 4)) (.var 2))) .nil)) .nil) (.cons (.set 5 (.bin .Mod (.bin .Add (.bin .Add (.bin .Mult (.idx (.var 0) (.bin .Mod (.var 4) (.bi "len" (.cons (.var 0) .nil)))) (.cst (.int 1103515245))) (.bin .Mult (.cst (.int 7919)) (.var 4))) (.cst (.int 12345))) (.cst (.int 2147483647)))) (.cons (.ret (.bin .Mod (.bin .Mod (.bin .Mod (.bin .Pow (.var 5) (.cst (.int 5))) (.cst (.int 2147483647))) (.cst (.int 999983))) (.var 2))) .nil)))))))⟩
def ir_Field_init : Fdef := ⟨3, 5, (.cons (.ifs (.nt (.call "is_rule" (.cons (.var 2) (.cons (.var 1) .nil)) [] .nil [])) (.cons (.rais "NoRule") .nil) .nil) (.cons (.setf (.var 0) "wide" (.var 1)) (.cons (.setf (.var 0) "ruled" (.var 2)) (.cons (.setf (.var 0) "size" (.bin .LShift (.cst (.int 1)) (.var 1))) (.cons (.setf (.var 0) "base" (.cst (.int 1))) (.cons (.setf (.var 0) "powers" (.lst (.cons (.cst (.int 1)) .nil))) (.cons (.whl (.cmp .Lt (.bi "len" (.cons (.fld (.var 0) "powers") .nil)) (.bin .Sub (.fld (.var 0) "size") (.cst (.int 1)))) (.cons (.augf (.var 0) "base" .Add (.cst (.int 1))) (.cons (.setf (.var 0) "powers" (.meth (.var 0) "Field" "powers_of" (.cons (.fld (.var 0) "base") .nil) [] .nil [])) .nil)) []) (.cons (.setf (.var 0) "logs" (.dcomp (.var 4) (.var 3) [3, 4] (.enu (.fld (.var 0) "powers")) .nil [3, 4])) .nil))))))))⟩
def ir_plus_poly : Fdef := ⟨3, 3, (.cons (.ex (.call "need_poly" (.cons (.var 0) (.cons (.var 2) .nil)) [] .nil [])) (.cons (.ex (.call "need_poly" (.cons (.var 1) (.cons (.var 2) .nil)) [] .nil [])) (.cons (.ret (.call "sum_poly" (.cons (.var 0) (.cons (.var 1) .nil)) [] .nil [])) .nil)))⟩
def ir_times_poly : Fdef := ⟨3, 4, (.cons (.ex (.call "need_poly" (.cons (.var 0) (.cons (.var 2) .nil)) [] .nil [])) (.cons (.ex (.call "need_poly" (.cons (.var 1) (.cons (.var 2) .nil)) [] .nil [])) (.cons (.set 3 (.call "product_poly" (.cons (.var 0) (.cons (.var 1) (.cons (.var 2) .nil))) [] .nil [])) (.cons (.ifs (.cmp .Gt (.bi "len" (.cons (.var 3) .nil)) (.glb "LONGEST")) (.cons (.rais "TooLong") .nil) .nil) (.cons (.ret (.var 3)) .nil)))))⟩
def ir_parted : Fdef := ⟨3, 3, (.cons (.ex (.call "need_poly" (.cons (.var 0) (.cons (.var 2) .nil)) [] .nil [])) (.cons (.ex (.call "need_poly" (.cons (.var 1) (.cons (.var 2) .nil)) [] .nil [])) (.cons (.ifs (.cmp .Eq (.var 1) (.tup .nil)) (.cons (.rais "NoPoly") .nil) .nil) (.cons (.ret (.call "both_parts" (.cons (.var 0) (.cons (.var 1) (.cons (.var 2) .nil))) [] .nil [])) .nil))))⟩
def ir_common_poly : Fdef := ⟨3, 3, (.cons (.ex (.call "need_poly" (.cons (.var 0) (.cons (.var 2) .nil)) [] .nil [])) (.cons (.ex (.call "need_poly" (.cons (.var 1) (.cons (.var 2) .nil)) [] .nil [])) (.cons (.ifs (.and (.cons (.cmp .Eq (.var 0) (.tup .nil)) (.cons (.cmp .Eq (.var 1) (.tup .nil)) .nil))) (.cons (.rais "NoPoly") .nil) .nil) (.cons (.whl (.cmp .NotEq (.var 1) (.tup .nil)) (.cons (.par [0, 1] (.cons (.var 1) (.cons (.idx (.call "both_parts" (.cons (.var 0) (.cons (.var 1) (.cons (.var 2) .nil))) [] .nil []) (.cst (.int 1))) .nil))) .nil) []) (.cons (.ret (.call "product_poly" (.cons (.var 0) (.cons (.tup (.cons (.meth (.var 2) "Field" "undone" (.cons (.idx (.var 0) (.neg (.cst (.int 1)))) .nil) [] .nil []) .nil)) (.cons (.var 2) .nil))) [] .nil [])) .nil)))))⟩
def ir_value_at : Fdef := ⟨3, 3, (.cons (.ex (.call "need_poly" (.cons (.var 0) (.cons (.var 2) .nil)) [] .nil [])) (.cons (.ex (.meth (.var 2) "Field" "need" (.cons (.var 1) .nil) [] .nil [])) (.cons (.ret (.call "at_element" (.cons (.var 0) (.cons (.var 1) (.cons (.var 2) .nil))) [] .nil [])) .nil)))⟩
def ir_roots : Fdef := ⟨2, 3, (.cons (.ex (.call "need_poly" (.cons (.var 0) (.cons (.var 1) .nil)) [] .nil [])) (.cons (.ifs (.cmp .Eq (.var 0) (.tup .nil)) (.cons (.rais "NoPoly") .nil) .nil) (.cons (.ret (.comp (.var 2) [2] (.rng (.cons (.fld (.var 1) "size") .nil)) (.cons (.cmp .Eq (.call "at_element" (.cons (.var 0) (.cons (.var 2) (.cons (.var 1) .nil))) [] .nil []) (.cst (.int 0))) .nil) [2])) .nil)))⟩
def ir_through : Fdef := ⟨2, 8, (.cons (.ifs (.nt (.call "are_points" (.cons (.var 0) (.cons (.var 1) .nil)) [] .nil [])) (.cons (.rais "NoPoints") .nil) .nil) (.cons (.sett [(.nm 2), (.nm 3)] (.tup (.cons (.tup .nil) (.cons (.tup (.cons (.cst (.int 1)) .nil)) .nil)))) (.cons (.for [4, 5] (.seq (.var 0)) (.cons (.set 6 (.call "at_element" (.cons (.var 3) (.cons (.var 4) (.cons (.var 1) .nil))) [] .nil [])) (.cons (.set 7 (.meth (.var 1) "Field" "mul" (.cons (.bin .BitXor (.var 5) (.call "at_element" (.cons (.var 2) (.cons (.var 4) (.cons (.var 1) .nil))) [] .nil [])) (.cons (.meth (.var 1) "Field" "undone" (.cons (.var 6) .nil) [] .nil []) .nil)) [] .nil [])) (.cons (.set 2 (.call "sum_poly" (.cons (.var 2) (.cons (.call "product_poly" (.cons (.var 3) (.cons (.call "cut" (.cons (.tup (.cons (.var 7) .nil)) .nil) [] .nil []) (.cons (.var 1) .nil))) [] .nil []) .nil)) [] .nil [])) (.cons (.set 3 (.call "product_poly" (.cons (.var 3) (.cons (.tup (.cons (.var 4) (.cons (.cst (.int 1)) .nil))) (.cons (.var 1) .nil))) [] .nil [])) .nil)))) [4, 5, 6, 7]) (.cons (.ret (.var 2)) .nil))))⟩
def ir_L_pick : Fdef := ⟨3, 3, (.cons (.ret (.idx (.var 2) (.call "_law_draw" (.cons (.var 0) (.cons (.var 1) (.cons (.bi "len" (.cons (.var 2) .nil)) .nil))) [] .nil []))) .nil)⟩
def ir_L_ask : Fdef := ⟨3, 5, (.cons (.set 3 (.mk "Field" (.cons (.cst (.int 3)) (.cons (.cst (.int 11)) .nil)) [] .nil [])) (.cons (.tryw (.cons (.ifs (.cmp .Lt (.var 0) (.cst (.int 4))) (.cons (.ret (.sel ["plus_poly", "times_poly", "parted", "common_poly"] (.var 0) (.cons (.var 1) (.cons (.var 2) (.cons (.var 3) .nil))))) .nil) .nil) (.cons (.ifs (.cmp .Eq (.var 0) (.cst (.int 4))) (.cons (.ret (.call "value_at" (.cons (.var 1) (.cons (.var 2) (.cons (.var 3) .nil))) [] .nil [])) .nil) .nil) (.cons (.ret (.ife (.cmp .Eq (.var 0) (.cst (.int 5))) (.call "roots" (.cons (.var 1) (.cons (.var 3) .nil)) [] .nil []) (.call "through" (.cons (.var 1) (.cons (.var 3) .nil)) [] .nil []))) .nil))) "BitError" 4 "_law_which") .nil))⟩
def ir_L_once : Fdef := ⟨2, 7, (.cons (.set 2 (.call "_law_pick" (.cons (.var 0) (.cons (.var 1) (.cons (.lst (.cons (.cst .non) (.cons (.lst (.cons (.cst (.int 1)) .nil)) (.cons (.tup (.cons (.cst (.int 0)) .nil)) (.cons (.tup (.cons (.cst (.int 1)) (.cons (.cst (.int 0)) .nil))) (.cons (.tup (.cons (.cst (.int 8)) .nil)) (.cons (.tup (.cons (.cst (.bl true)) .nil)) (.cons (.tup (.cons (.cst (.str [49])) .nil)) (.cons (.bin .Mult (.tup (.cons (.cst (.int 1)) .nil)) (.cst (.int 65))) (.cons (.cst (.int 5)) (.cons (.tup (.cons (.cst (.int 1)) (.cons (.cst .non) (.cons (.cst (.int 1)) .nil)))) .nil))))))))))) .nil))) [] .nil [])) (.cons (.ifs (.or (.cons (.cmp .IsNot (.call "is_poly" (.cons (.var 2) (.cons (.mk "Field" (.cons (.cst (.int 3)) (.cons (.cst (.int 11)) .nil)) [] .nil []) .nil)) [] .nil []) (.cst (.bl false))) (.cons (.cmp .IsNot (.call "is_poly" (.cons (.bin .Mult (.tup (.cons (.cst (.int 1)) .nil)) (.cst (.int 64))) (.cons (.mk "Field" (.cons (.cst (.int 3)) (.cons (.cst (.int 11)) .nil)) [] .nil []) .nil)) [] .nil []) (.cst (.bl true))) .nil))) (.cons (.ret (.cst (.bl false))) .nil) .nil) (.cons (.ifs (.cmp .NotEq (.comp (.call "_law_ask" (.cons (.var 3) (.cons (.var 2) (.cons (.tup (.cons (.cst (.int 1)) .nil)) .nil))) [] .nil []) [3] (.rng (.cons (.cst (.int 6)) .nil)) .nil [3]) (.bin .Mult (.lst (.cons (.tup (.cons (.cst (.str [114, 101, 102, 117, 115, 101, 100])) (.cons (.cst (.int 4)) .nil))) .nil)) (.cst (.int 6)))) (.cons (.ret (.cst (.bl false))) .nil) .nil) (.cons (.ifs (.cmp .NotEq (.comp (.call "_law_ask" (.cons (.var 3) (.cons (.tup (.cons (.cst (.int 1)) .nil)) (.cons (.var 2) .nil))) [] .nil []) [3] (.rng (.cons (.cst (.int 4)) .nil)) .nil [3]) (.bin .Mult (.lst (.cons (.tup (.cons (.cst (.str [114, 101, 102, 117, 115, 101, 100])) (.cons (.cst (.int 4)) .nil))) .nil)) (.cst (.int 4)))) (.cons (.ret (.cst (.bl false))) .nil) .nil) (.cons (.ifs (.cmp .NotEq (.comp (.call "_law_ask" (.cons (.var 3) (.cons (.var 4) (.cons (.tup .nil) .nil))) [] .nil []) [3, 4] (.seq (.tup (.cons (.tup (.cons (.cst (.int 2)) (.cons (.tup (.cons (.cst (.int 1)) (.cons (.cst (.int 1)) .nil))) .nil))) (.cons (.tup (.cons (.cst (.int 3)) (.cons (.tup .nil) .nil))) (.cons (.tup (.cons (.cst (.int 5)) (.cons (.tup .nil) .nil))) .nil))))) .nil [3, 4]) (.bin .Mult (.lst (.cons (.tup (.cons (.cst (.str [114, 101, 102, 117, 115, 101, 100])) (.cons (.cst (.int 4)) .nil))) .nil)) (.cst (.int 3)))) (.cons (.ret (.cst (.bl false))) .nil) .nil) (.cons (.ifs (.cmp .NotEq (.call "_law_ask" (.cons (.cst (.int 4)) (.cons (.tup (.cons (.cst (.int 1)) .nil)) (.cons (.call "_law_pick" (.cons (.var 0) (.cons (.var 1) (.cons (.lst (.cons (.cst .non) (.cons (.neg (.cst (.int 1))) (.cons (.cst (.int 8)) (.cons (.cst (.bl true)) (.cons (.tup (.cons (.cst (.int 1)) .nil)) .nil)))))) .nil))) [] .nil []) .nil))) [] .nil []) (.tup (.cons (.cst (.str [114, 101, 102, 117, 115, 101, 100])) (.cons (.cst (.int 3)) .nil)))) (.cons (.ret (.cst (.bl false))) .nil) .nil) (.cons (.set 5 (.lst (.cons (.cst .non) (.cons (.lst .nil) (.cons (.lst (.cons (.tup (.cons (.cst (.int 1)) (.cons (.cst (.int 2)) .nil))) (.cons (.tup (.cons (.cst (.int 1)) (.cons (.cst (.int 3)) .nil))) .nil))) (.cons (.lst (.cons (.tup (.cons (.cst (.int 8)) (.cons (.cst (.int 1)) .nil))) .nil)) (.cons (.lst (.cons (.tup (.cons (.cst (.int 1)) .nil)) .nil)) (.cons (.lst (.cons (.lst (.cons (.cst (.int 1)) (.cons (.cst (.int 2)) .nil))) .nil)) (.cons (.tup (.cons (.tup (.cons (.cst (.int 1)) (.cons (.cst (.int 2)) .nil))) .nil)) (.cons (.lst (.cons (.tup (.cons (.cst (.int 1)) (.cons (.cst (.int 2)) (.cons (.cst (.int 3)) .nil)))) .nil)) (.cons (.lst (.cons (.tup (.cons (.cst (.int 1)) (.cons (.cst (.int 9)) .nil))) .nil)) .nil))))))))))) (.cons (.ex (.mut (.var 5) "list" "extend" (.cons (.lst (.cons (.lst (.cons (.tup (.cons (.cst (.bl true)) (.cons (.cst (.int 1)) .nil))) .nil)) .nil)) .nil))) (.cons (.ifs (.cmp .NotEq (.call "_law_ask" (.cons (.cst (.int 6)) (.cons (.call "_law_pick" (.cons (.var 0) (.cons (.var 1) (.cons (.var 5) .nil))) [] .nil []) (.cons (.cst .non) .nil))) [] .nil []) (.tup (.cons (.cst (.str [114, 101, 102, 117, 115, 101, 100])) (.cons (.cst (.int 5)) .nil)))) (.cons (.ret (.cst (.bl false))) .nil) .nil) (.cons (.set 6 (.bin .Mult (.tup (.cons (.cst (.int 1)) .nil)) (.bin .Add (.cst (.int 33)) (.call "_law_draw" (.cons (.var 0) (.cons (.var 1) (.cons (.cst (.int 9)) .nil))) [] .nil [])))) (.cons (.ifs (.cmp .NotEq (.call "_law_ask" (.cons (.cst (.int 1)) (.cons (.var 6) (.cons (.bin .Mult (.tup (.cons (.cst (.int 1)) .nil)) (.cst (.int 33))) .nil))) [] .nil []) (.tup (.cons (.cst (.str [114, 101, 102, 117, 115, 101, 100])) (.cons (.cst (.int 19)) .nil)))) (.cons (.ret (.cst (.bl false))) .nil) .nil) (.cons (.ret (.and (.cons (.cmp .Eq (.bi "len" (.cons (.call "_law_ask" (.cons (.cst (.int 1)) (.cons (.bin .Mult (.tup (.cons (.cst (.int 1)) .nil)) (.cst (.int 32))) (.cons (.bin .Mult (.tup (.cons (.cst (.int 1)) .nil)) (.cst (.int 33))) .nil))) [] .nil []) .nil)) (.cst (.int 64))) (.cons (.cmp .Eq (.call "_law_ask" (.cons (.cst (.int 3)) (.cons (.tup .nil) (.cons (.tup (.cons (.cst (.int 2)) (.cons (.cst (.int 2)) .nil))) .nil))) [] .nil []) (.tup (.cons (.cst (.int 1)) (.cons (.cst (.int 1)) .nil)))) .nil)))) .nil))))))))))))⟩
def ir_law : Fdef := ⟨1, 3, (.cons (.setc 1 (.lst (.cons (.cst (.int 0)) (.cons (.cst (.int 0)) .nil)))) (.cons (.ret (.bi "all" (.cons (.comp (.call "_law_once" (.cons (.var 0) (.cons (.var 1) .nil)) [] .nil []) [2] (.rng (.cons (.cst (.int 6)) .nil)) .nil [2]) .nil))) .nil))⟩
def ir_L_which : Fdef := ⟨1, 2, .nil⟩
def ir_are_bits : Fdef := ⟨2, 3, (.cons (.ret (.and (.cons (.isi (.var 0) "str") (.cons (.cmp .LtE (.bi "len" (.cons (.var 0) .nil)) (.var 1)) (.cons (.bi "all" (.cons (.comp (.cmp .In (.var 2) (.cst (.str [48, 49]))) [2] (.seq (.var 0)) .nil [2]) .nil)) .nil))))) .nil)⟩
def ir_is_bits : Fdef := ⟨1, 1, (.cons (.ret (.call "are_bits" (.cons (.var 0) (.cons (.glb "MOST") .nil)) [] .nil [])) .nil)⟩
def ir_need_bits : Fdef := ⟨1, 1, (.cons (.ifs (.nt (.call "is_bits" (.cons (.var 0) .nil) [] .nil [])) (.cons (.rais "NoBits") .nil) .nil) .nil)⟩
def ir_both : Fdef := ⟨2, 4, (.cons (.ret (.bm (.cst (.str [])) "str" "join" (.cons (.comp (.ife (.cmp .Eq (.var 2) (.var 3)) (.cst (.str [48])) (.cst (.str [49]))) [2, 3] (.zip (.var 0) (.var 1)) .nil [2, 3]) .nil))) .nil)⟩
def ir_L_both : Fdef := ⟨2, 4, (.cons (.ret (.bm (.cst (.str [])) "str" "join" (.cons (.comp (.ife (.cmp .Eq (.var 2) (.var 3)) (.cst (.str [48])) (.cst (.str [49]))) [2, 3] (.zip (.var 0) (.var 1)) .nil [2, 3]) .nil))) .nil)⟩
def ir_as_bits : Fdef := ⟨2, 3, (.cons (.ret (.bm (.cst (.str [])) "str" "join" (.cons (.comp (.bi "str" (.cons (.bin .BitAnd (.bin .RShift (.var 0) (.bin .Sub (.bin .Sub (.var 1) (.cst (.int 1))) (.var 2))) (.cst (.int 1))) .nil)) [2] (.rng (.cons (.var 1) .nil)) .nil [2]) .nil))) .nil)⟩
def ir_as_number : Fdef := ⟨1, 3, (.cons (.set 1 (.cst (.int 0))) (.cons (.for [2] (.seq (.var 0)) (.cons (.set 1 (.bin .Add (.bin .Mult (.cst (.int 2)) (.var 1)) (.bi "int" (.cons (.var 2) .nil)))) .nil) [2]) (.cons (.ret (.var 1)) .nil)))⟩
def ir_L_number : Fdef := ⟨1, 3, (.cons (.set 1 (.cst (.int 0))) (.cons (.for [2] (.seq (.var 0)) (.cons (.set 1 (.bin .Add (.bin .Mult (.cst (.int 2)) (.var 1)) (.ife (.cmp .Eq (.var 2) (.cst (.str [49]))) (.cst (.int 1)) (.cst (.int 0))))) .nil) [2]) (.cons (.ret (.var 1)) .nil)))⟩
def ir_L_as : Fdef := ⟨2, 4, (.cons (.set 2 (.cst (.str []))) (.cons (.for [3] (.rng (.cons (.var 1) .nil)) (.cons (.par [2, 0] (.cons (.bin .Add (.idx (.cst (.str [48, 49])) (.bin .Mod (.var 0) (.cst (.int 2)))) (.var 2)) (.cons (.bin .FloorDiv (.var 0) (.cst (.int 2))) .nil))) .nil) [3]) (.cons (.ret (.var 2)) .nil)))⟩
def ir_L_so_many : Fdef := ⟨3, 4, (.cons (.ret (.bm (.cst (.str [])) "str" "join" (.cons (.comp (.idx (.cst (.str [48, 49])) (.call "_law_draw" (.cons (.var 0) (.cons (.var 1) (.cons (.cst (.int 2)) .nil))) [] .nil [])) [3] (.rng (.cons (.var 2) .nil)) .nil [3]) .nil))) .nil)⟩
def ir_L_bits : Fdef := ⟨3, 4, (.cons (.ret (.bm (.cst (.str [])) "str" "join" (.cons (.comp (.idx (.cst (.str [48, 49])) (.call "_law_draw" (.cons (.var 0) (.cons (.var 1) (.cons (.cst (.int 2)) .nil))) [] .nil [])) [3] (.rng (.cons (.call "_law_draw" (.cons (.var 0) (.cons (.var 1) (.cons (.bin .Add (.var 2) (.cst (.int 1))) .nil))) [] .nil []) .nil)) .nil [3]) .nil))) .nil)⟩
def ir_rules : Fdef := ⟨1, 2, (.cons (.ex (.call "need_width" (.cons (.var 0) .nil) [] .nil [])) (.cons (.ret (.comp (.var 1) [1] (.rng (.cons (.bin .LShift (.cst (.int 1)) (.var 0)) (.cons (.bin .LShift (.cst (.int 1)) (.bin .Add (.var 0) (.cst (.int 1)))) .nil))) (.cons (.call "is_rule_of" (.cons (.var 1) (.cons (.var 0) .nil)) [] .nil []) .nil) [1])) .nil))⟩
def ir_L_plain : Fdef := ⟨1, 2, (.cons (.set 1 (.cst (.str []))) (.cons (.whl (.cmp .Gt (.var 0) (.cst (.int 0))) (.cons (.par [1, 0] (.cons (.bin .Add (.idx (.cst (.str [48, 49])) (.bin .Mod (.var 0) (.cst (.int 2)))) (.var 1)) (.cons (.bin .FloorDiv (.var 0) (.cst (.int 2))) .nil))) .nil) []) (.cons (.ret (.var 1)) .nil)))⟩
def ir_L_rest : Fdef := ⟨2, 2, (.cons (.whl (.cmp .GtE (.bi "len" (.cons (.call "_law_plain" (.cons (.var 0) .nil) [] .nil []) .nil)) (.bi "len" (.cons (.call "_law_plain" (.cons (.var 1) .nil) [] .nil []) .nil))) (.cons (.set 0 (.bin .BitXor (.var 0) (.bin .LShift (.var 1) (.bin .Sub (.bi "len" (.cons (.call "_law_plain" (.cons (.var 0) .nil) [] .nil []) .nil)) (.bi "len" (.cons (.call "_law_plain" (.cons (.var 1) .nil) [] .nil []) .nil)))))) .nil) []) (.cons (.ret (.var 0)) .nil))⟩
def ir_L_times : Fdef := ⟨3, 6, (.cons (.set 3 (.cst (.int 0))) (.cons (.for [4, 5] (.enu (.rev (.call "_law_plain" (.cons (.var 1) .nil) [] .nil []))) (.cons (.ifs (.cmp .Eq (.var 5) (.cst (.str [49]))) (.cons (.set 3 (.bin .BitXor (.var 3) (.bin .LShift (.var 0) (.var 4)))) .nil) .nil) .nil) [4, 5]) (.cons (.ret (.ife (.cmp .Gt (.var 2) (.cst (.int 0))) (.call "_law_rest" (.cons (.var 3) (.cons (.var 2) .nil)) [] .nil []) (.var 3))) .nil)))⟩
def ir_odd_of : Fdef := ⟨2, 4, (.cons (.ret (.bi "str" (.cons (.bin .Mod (.bm (.comp (.bin .Add (.var 2) (.var 3)) [2, 3] (.zip (.var 0) (.var 1)) .nil [2, 3]) "list" "count" (.cons (.cst (.str [49, 49])) .nil)) (.cst (.int 2))) .nil))) .nil)⟩
def ir_Mixer_mix : Fdef := ⟨2, 5, (.cons (.ex (.call "need_bits" (.cons (.var 1) .nil) [] .nil [])) (.cons (.set 2 (.lst .nil)) (.cons (.for [3] (.seq (.var 1)) (.cons (.set 4 (.ife (.cmp .Eq (.var 3) (.call "odd_of" (.cons (.fld (.var 0) "taps") (.cons (.fld (.var 0) "going") .nil)) [] .nil [])) (.cst (.str [48])) (.cst (.str [49])))) (.cons (.setf (.var 0) "going" (.bin .Add (.var 4) (.slc (.fld (.var 0) "going") .no (.so (.neg (.cst (.int 1))))))) (.cons (.ex (.mut (.var 2) "list" "append" (.cons (.var 4) .nil))) .nil))) [3, 4]) (.cons (.ret (.bm (.cst (.str [])) "str" "join" (.cons (.var 2) .nil))) .nil))))⟩
def ir_Mixer_unmix : Fdef := ⟨2, 4, (.cons (.ex (.call "need_bits" (.cons (.var 1) .nil) [] .nil [])) (.cons (.set 2 (.lst .nil)) (.cons (.for [3] (.seq (.var 1)) (.cons (.ex (.mut (.var 2) "list" "append" (.cons (.ife (.cmp .Eq (.var 3) (.call "odd_of" (.cons (.fld (.var 0) "taps") (.cons (.fld (.var 0) "coming") .nil)) [] .nil [])) (.cst (.str [48])) (.cst (.str [49]))) .nil))) (.cons (.setf (.var 0) "coming" (.bin .Add (.var 3) (.slc (.fld (.var 0) "coming") .no (.so (.neg (.cst (.int 1))))))) .nil)) [3]) (.cons (.ret (.bm (.cst (.str [])) "str" "join" (.cons (.var 2) .nil))) .nil))))⟩
def ir_Mixer_init : Fdef := ⟨3, 3, (.cons (.ifs (.or (.cons (.nt (.call "are_bits" (.cons (.var 1) (.cons (.cst (.int 8)) .nil)) [] .nil [])) (.cons (.cmp .Lt (.bi "len" (.cons (.var 1) .nil)) (.cst (.int 2))) (.cons (.cmp .NotEq (.idx (.var 1) (.neg (.cst (.int 1)))) (.cst (.str [49]))) .nil)))) (.cons (.rais "NoTaps") .nil) .nil) (.cons (.ifs (.or (.cons (.nt (.call "are_bits" (.cons (.var 2) (.cons (.cst (.int 8)) .nil)) [] .nil [])) (.cons (.cmp .NotEq (.bi "len" (.cons (.var 2) .nil)) (.bi "len" (.cons (.var 1) .nil))) .nil))) (.cons (.rais "NoTaps") .nil) .nil) (.cons (.setf (.var 0) "taps" (.var 1)) (.cons (.setf (.var 0) "start" (.var 2)) (.cons (.setf (.var 0) "going" (.var 2)) (.cons (.setf (.var 0) "coming" (.var 2)) .nil))))))⟩
def ir_Mixer_twin : Fdef := ⟨1, 1, (.cons (.ret (.mk "Mixer" (.cons (.fld (.var 0) "taps") (.cons (.fld (.var 0) "start") .nil)) [] .nil [])) .nil)⟩
def ir_L_mixed : Fdef := ⟨3, 9, (.cons (.par [3, 4] (.cons (.cst (.str [])) (.cons (.var 1) .nil))) (.cons (.for [5] (.seq (.var 2)) (.cons (.set 6 (.bin .Mod (.bm (.comp (.bin .Add (.var 7) (.var 8)) [7, 8] (.zip (.var 0) (.var 4)) .nil [7, 8]) "list" "count" (.cons (.cst (.str [49, 49])) .nil)) (.cst (.int 2)))) (.cons (.set 7 (.ife (.cmp .Eq (.var 5) (.cst (.str [48]))) (.idx (.cst (.str [48, 49])) (.var 6)) (.idx (.cst (.str [49, 48])) (.var 6)))) (.cons (.par [3, 4] (.cons (.bin .Add (.var 3) (.var 7)) (.cons (.bin .Add (.var 7) (.slc (.var 4) .no (.so (.neg (.cst (.int 1)))))) .nil))) .nil))) [5, 6, 7, 8]) (.cons (.ret (.var 3)) .nil)))⟩
def ir_Field_plus : Fdef := ⟨3, 3, (.cons (.ex (.meth (.var 0) "Field" "need" (.cons (.var 1) .nil) [] .nil [])) (.cons (.ex (.meth (.var 0) "Field" "need" (.cons (.var 2) .nil) [] .nil [])) (.cons (.ret (.bin .BitXor (.var 1) (.var 2))) .nil)))⟩
def ir_Field_times : Fdef := ⟨3, 3, (.cons (.ex (.meth (.var 0) "Field" "need" (.cons (.var 1) .nil) [] .nil [])) (.cons (.ex (.meth (.var 0) "Field" "need" (.cons (.var 2) .nil) [] .nil [])) (.cons (.ret (.meth (.var 0) "Field" "mul" (.cons (.var 1) (.cons (.var 2) .nil)) [] .nil [])) .nil)))⟩
def ir_Field_over : Fdef := ⟨3, 3, (.cons (.ex (.meth (.var 0) "Field" "need" (.cons (.var 1) .nil) [] .nil [])) (.cons (.ex (.meth (.var 0) "Field" "need" (.cons (.var 2) .nil) [] .nil [])) (.cons (.ifs (.cmp .Eq (.var 2) (.cst (.int 0))) (.cons (.rais "NoElement") .nil) .nil) (.cons (.ret (.meth (.var 0) "Field" "mul" (.cons (.var 1) (.cons (.meth (.var 0) "Field" "undone" (.cons (.var 2) .nil) [] .nil []) .nil)) [] .nil [])) .nil))))⟩
def ir_Field_power : Fdef := ⟨3, 3, (.cons (.ex (.meth (.var 0) "Field" "need" (.cons (.var 1) .nil) [] .nil [])) (.cons (.ifs (.nt (.call "is_whole" (.cons (.var 2) (.cons (.cst (.int 0)) (.cons (.cst (.int 100000)) .nil))) [] .nil [])) (.cons (.rais "NoNumber") .nil) .nil) (.cons (.ret (.meth (.var 0) "Field" "raised" (.cons (.var 1) (.cons (.var 2) .nil)) [] .nil [])) .nil)))⟩
def ir_Field_width : Fdef := ⟨1, 1, (.cons (.ret (.fld (.var 0) "wide")) .nil)⟩
def ir_Field_rule : Fdef := ⟨1, 1, (.cons (.ret (.fld (.var 0) "ruled")) .nil)⟩
def ir_Field_root : Fdef := ⟨1, 1, (.cons (.ret (.fld (.var 0) "base")) .nil)⟩
def ir_Field_len : Fdef := ⟨1, 1, (.cons (.ret (.brg1 "len" (.fld (.var 0) "size"))) .nil)⟩
def ir_Field_order : Fdef := ⟨2, 2, (.cons (.ex (.meth (.var 0) "Field" "need" (.cons (.var 1) .nil) [] .nil [])) (.cons (.ifs (.cmp .Eq (.var 1) (.cst (.int 0))) (.cons (.rais "NoElement") .nil) .nil) (.cons (.ret (.bi "len" (.cons (.meth (.var 0) "Field" "powers_of" (.cons (.var 1) .nil) [] .nil []) .nil))) .nil)))⟩
def fns : List ((String × String) × Fdef) := [(("Field", "has"), ir_Field_has), (("", "is_poly"), ir_is_poly), (("", "cut"), ir_cut), (("Field", "mul"), ir_Field_mul), (("Field", "undone"), ir_Field_undone), (("", "need_poly"), ir_need_poly), (("", "sum_poly"), ir_sum_poly), (("", "product_poly"), ir_product_poly), (("", "both_parts"), ir_both_parts), (("Field", "need"), ir_Field_need), (("", "at_element"), ir_at_element), (("", "are_points"), ir_are_points), (("", "degree"), ir_degree), (("", "rest_plain"), ir_rest_plain), (("", "is_whole"), ir_is_whole), (("", "need_width"), ir_need_width), (("", "is_rule_of"), ir_is_rule_of), (("", "is_rule"), ir_is_rule), (("Field", "powers_of"), ir_Field_powers_of), (("", "times_plain"), ir_times_plain), (("Field", "raised"), ir_Field_raised), (("", "_law_draw"), ir_L_draw), (("Field", "__init__"), ir_Field_init), (("", "plus_poly"), ir_plus_poly), (("", "times_poly"), ir_times_poly), (("", "parted"), ir_parted), (("", "common_poly"), ir_common_poly), (("", "value_at"), ir_value_at), (("", "roots"), ir_roots), (("", "through"), ir_through), (("", "_law_pick"), ir_L_pick), (("", "_law_ask"), ir_L_ask), (("", "_law_once"), ir_L_once), (("", "law"), ir_law), (("", "are_bits"), ir_are_bits), (("", "is_bits"), ir_is_bits), (("", "need_bits"), ir_need_bits), (("", "both"), ir_both), (("", "_law_both"), ir_L_both), (("", "as_bits"), ir_as_bits), (("", "as_number"), ir_as_number), (("", "_law_number"), ir_L_number), (("", "_law_as"), ir_L_as), (("", "_law_so_many"), ir_L_so_many), (("", "_law_bits"), ir_L_bits), (("", "rules"), ir_rules), (("", "_law_plain"), ir_L_plain), (("", "_law_rest"), ir_L_rest), (("", "_law_times"), ir_L_times), (("", "odd_of"), ir_odd_of), (("Mixer", "mix"), ir_Mixer_mix), (("Mixer", "unmix"), ir_Mixer_unmix), (("Mixer", "__init__"), ir_Mixer_init), (("Mixer", "twin"), ir_Mixer_twin), (("", "_law_mixed"), ir_L_mixed), (("Field", "plus"), ir_Field_plus), (("Field", "times"), ir_Field_times), (("Field", "over"), ir_Field_over), (("Field", "power"), ir_Field_power), (("Field", "width"), ir_Field_width), (("Field", "rule"), ir_Field_rule), (("Field", "root"), ir_Field_root), (("Field", "__len__"), ir_Field_len), (("Field", "order"), ir_Field_order)]
abbrev Pr : Prg := prgOf fx fns
def D_Field_has : DD := ⟨⟨(S_ "Field", some (S_ "has")), S_ "has", S_ "Field.has", defArgs (sub (top 50) 2), defBody (sub (top 50) 2), defScope (sub (top 50) 2), [], []⟩, ir_Field_has, [S_ "self", S_ "thing"], [S_ "self", S_ "thing"]⟩
theorem o_Field_has : DDok T D_Field_has := ⟨⟨rfl, rfl, rfl, by decide +kernel, rfl, by decide +kernel, by decide +kernel⟩, by kernel_rfl, rfl, rfl, by decide⟩
def D_is_poly : DD := ⟨⟨(S_ "is_poly", none), S_ "is_poly", S_ "is_poly", defArgs (top 27), defBody (top 27), defScope (top 27), [], []⟩, ir_is_poly, [S_ "thing", S_ "field", S_ "one"], [S_ "thing", S_ "field"]⟩
theorem o_is_poly : DDok T D_is_poly := ⟨⟨rfl, rfl, rfl, by decide +kernel, rfl, by decide +kernel, by decide +kernel⟩, by kernel_rfl, rfl, rfl, by decide⟩
def D_cut : DD := ⟨⟨(S_ "cut", none), S_ "cut", S_ "cut", defArgs (top 26), defBody (top 26), defScope (top 26), [], []⟩, ir_cut, [S_ "some", S_ "many"], [S_ "some"]⟩
theorem o_cut : DDok T D_cut := ⟨⟨rfl, rfl, rfl, by decide +kernel, rfl, by decide +kernel, by decide +kernel⟩, by kernel_rfl, rfl, rfl, by decide⟩
def D_Field_mul : DD := ⟨⟨(S_ "Field", some (S_ "mul")), S_ "mul", S_ "Field.mul", defArgs (sub (top 50) 4), defBody (sub (top 50) 4), defScope (sub (top 50) 4), [], []⟩, ir_Field_mul, [S_ "self", S_ "one", S_ "other"], [S_ "self", S_ "one", S_ "other"]⟩
theorem o_Field_mul : DDok T D_Field_mul := ⟨⟨rfl, rfl, rfl, by decide +kernel, rfl, by decide +kernel, by decide +kernel⟩, by kernel_rfl, rfl, rfl, by decide⟩
def D_Field_undone : DD := ⟨⟨(S_ "Field", some (S_ "undone")), S_ "undone", S_ "Field.undone", defArgs (sub (top 50) 5), defBody (sub (top 50) 5), defScope (sub (top 50) 5), [], []⟩, ir_Field_undone, [S_ "self", S_ "one"], [S_ "self", S_ "one"]⟩
theorem o_Field_undone : DDok T D_Field_undone := ⟨⟨rfl, rfl, rfl, by decide +kernel, rfl, by decide +kernel, by decide +kernel⟩, by kernel_rfl, rfl, rfl, by decide⟩
def D_need_poly : DD := ⟨⟨(S_ "need_poly", none), S_ "need_poly", S_ "need_poly", defArgs (top 28), defBody (top 28), defScope (top 28), [], []⟩, ir_need_poly, [S_ "thing", S_ "field"], [S_ "thing", S_ "field"]⟩
theorem o_need_poly : DDok T D_need_poly := ⟨⟨rfl, rfl, rfl, by decide +kernel, rfl, by decide +kernel, by decide +kernel⟩, by kernel_rfl, rfl, rfl, by decide⟩
def D_sum_poly : DD := ⟨⟨(S_ "sum_poly", none), S_ "sum_poly", S_ "sum_poly", defArgs (top 29), defBody (top 29), defScope (top 29), [], []⟩, ir_sum_poly, [S_ "one", S_ "other", S_ "long", S_ "first", S_ "second", S_ "mine", S_ "yours"], [S_ "one", S_ "other"]⟩
theorem o_sum_poly : DDok T D_sum_poly := ⟨⟨rfl, rfl, rfl, by decide +kernel, rfl, by decide +kernel, by decide +kernel⟩, by kernel_rfl, rfl, rfl, by decide⟩
def D_product_poly : DD := ⟨⟨(S_ "product_poly", none), S_ "product_poly", S_ "product_poly", defArgs (top 30), defBody (top 30), defScope (top 30), [], []⟩, ir_product_poly, [S_ "one", S_ "other", S_ "field", S_ "made", S_ "at", S_ "mine", S_ "spot", S_ "yours"], [S_ "one", S_ "other", S_ "field"]⟩
theorem o_product_poly : DDok T D_product_poly := ⟨⟨rfl, rfl, rfl, by decide +kernel, rfl, by decide +kernel, by decide +kernel⟩, by kernel_rfl, rfl, rfl, by decide⟩
def D_both_parts : DD := ⟨⟨(S_ "both_parts", none), S_ "both_parts", S_ "both_parts", defArgs (top 31), defBody (top 31), defScope (top 31), [], []⟩, ir_both_parts, [S_ "one", S_ "other", S_ "field", S_ "rest", S_ "parts", S_ "top", S_ "at", S_ "much", S_ "spot", S_ "yours"], [S_ "one", S_ "other", S_ "field"]⟩
theorem o_both_parts : DDok T D_both_parts := ⟨⟨rfl, rfl, rfl, by decide +kernel, rfl, by decide +kernel, by decide +kernel⟩, by kernel_rfl, rfl, rfl, by decide⟩
def D_Field_need : DD := ⟨⟨(S_ "Field", some (S_ "need")), S_ "need", S_ "Field.need", defArgs (sub (top 50) 3), defBody (sub (top 50) 3), defScope (sub (top 50) 3), [], []⟩, ir_Field_need, [S_ "self", S_ "thing"], [S_ "self", S_ "thing"]⟩
theorem o_Field_need : DDok T D_Field_need := ⟨⟨rfl, rfl, rfl, by decide +kernel, rfl, by decide +kernel, by decide +kernel⟩, by kernel_rfl, rfl, rfl, by decide⟩
def D_at_element : DD := ⟨⟨(S_ "at_element", none), S_ "at_element", S_ "at_element", defArgs (top 32), defBody (top 32), defScope (top 32), [], []⟩, ir_at_element, [S_ "poly", S_ "element", S_ "field", S_ "made", S_ "one"], [S_ "poly", S_ "element", S_ "field"]⟩
theorem o_at_element : DDok T D_at_element := ⟨⟨rfl, rfl, rfl, by decide +kernel, rfl, by decide +kernel, by decide +kernel⟩, by kernel_rfl, rfl, rfl, by decide⟩
def D_are_points : DD := ⟨⟨(S_ "are_points", none), S_ "are_points", S_ "are_points", defArgs (top 38), defBody (top 38), defScope (top 38), [], []⟩, ir_are_points, [S_ "thing", S_ "field", S_ "one", S_ "part"], [S_ "thing", S_ "field"]⟩
theorem o_are_points : DDok T D_are_points := ⟨⟨rfl, rfl, rfl, by decide +kernel, rfl, by decide +kernel, by decide +kernel⟩, by kernel_rfl, rfl, rfl, by decide⟩
def D_degree : DD := ⟨⟨(S_ "degree", none), S_ "degree", S_ "degree", defArgs (top 45), defBody (top 45), defScope (top 45), [], []⟩, ir_degree, [S_ "number", S_ "many"], [S_ "number"]⟩
theorem o_degree : DDok T D_degree := ⟨⟨rfl, rfl, rfl, by decide +kernel, rfl, by decide +kernel, by decide +kernel⟩, by kernel_rfl, rfl, rfl, by decide⟩
def D_rest_plain : DD := ⟨⟨(S_ "rest_plain", none), S_ "rest_plain", S_ "rest_plain", defArgs (top 46), defBody (top 46), defScope (top 46), [], []⟩, ir_rest_plain, [S_ "one", S_ "other", S_ "far"], [S_ "one", S_ "other"]⟩
theorem o_rest_plain : DDok T D_rest_plain := ⟨⟨rfl, rfl, rfl, by decide +kernel, rfl, by decide +kernel, by decide +kernel⟩, by kernel_rfl, rfl, rfl, by decide⟩
def D_is_whole : DD := ⟨⟨(S_ "is_whole", none), S_ "is_whole", S_ "is_whole", defArgs (top 42), defBody (top 42), defScope (top 42), [], []⟩, ir_is_whole, [S_ "thing", S_ "least", S_ "most"], [S_ "thing", S_ "least", S_ "most"]⟩
theorem o_is_whole : DDok T D_is_whole := ⟨⟨rfl, rfl, rfl, by decide +kernel, rfl, by decide +kernel, by decide +kernel⟩, by kernel_rfl, rfl, rfl, by decide⟩
def D_need_width : DD := ⟨⟨(S_ "need_width", none), S_ "need_width", S_ "need_width", defArgs (top 48), defBody (top 48), defScope (top 48), [], []⟩, ir_need_width, [S_ "width"], [S_ "width"]⟩
theorem o_need_width : DDok T D_need_width := ⟨⟨rfl, rfl, rfl, by decide +kernel, rfl, by decide +kernel, by decide +kernel⟩, by kernel_rfl, rfl, rfl, by decide⟩
def D_is_rule_of : DD := ⟨⟨(S_ "is_rule_of", none), S_ "is_rule_of", S_ "is_rule_of", defArgs (top 47), defBody (top 47), defScope (top 47), [], []⟩, ir_is_rule_of, [S_ "rule", S_ "width", S_ "other"], [S_ "rule", S_ "width"]⟩
theorem o_is_rule_of : DDok T D_is_rule_of := ⟨⟨rfl, rfl, rfl, by decide +kernel, rfl, by decide +kernel, by decide +kernel⟩, by kernel_rfl, rfl, rfl, by decide⟩
def D_is_rule : DD := ⟨⟨(S_ "is_rule", none), S_ "is_rule", S_ "is_rule", defArgs (top 49), defBody (top 49), defScope (top 49), [], []⟩, ir_is_rule, [S_ "rule", S_ "width"], [S_ "rule", S_ "width"]⟩
theorem o_is_rule : DDok T D_is_rule := ⟨⟨rfl, rfl, rfl, by decide +kernel, rfl, by decide +kernel, by decide +kernel⟩, by kernel_rfl, rfl, rfl, by decide⟩
def D_Field_powers_of : DD := ⟨⟨(S_ "Field", some (S_ "powers_of")), S_ "powers_of", S_ "Field.powers_of", defArgs (sub (top 50) 1), defBody (sub (top 50) 1), defScope (sub (top 50) 1), [], []⟩, ir_Field_powers_of, [S_ "self", S_ "one", S_ "made", S_ "now"], [S_ "self", S_ "one"]⟩
theorem o_Field_powers_of : DDok T D_Field_powers_of := ⟨⟨rfl, rfl, rfl, by decide +kernel, rfl, by decide +kernel, by decide +kernel⟩, by kernel_rfl, rfl, rfl, by decide⟩
def D_times_plain : DD := ⟨⟨(S_ "times_plain", none), S_ "times_plain", S_ "times_plain", defArgs (top 44), defBody (top 44), defScope (top 44), [], []⟩, ir_times_plain, [S_ "one", S_ "other", S_ "made"], [S_ "one", S_ "other"]⟩
theorem o_times_plain : DDok T D_times_plain := ⟨⟨rfl, rfl, rfl, by decide +kernel, rfl, by decide +kernel, by decide +kernel⟩, by kernel_rfl, rfl, rfl, by decide⟩
def D_Field_raised : DD := ⟨⟨(S_ "Field", some (S_ "raised")), S_ "raised", S_ "Field.raised", defArgs (sub (top 50) 6), defBody (sub (top 50) 6), defScope (sub (top 50) 6), [], []⟩, ir_Field_raised, [S_ "self", S_ "one", S_ "many"], [S_ "self", S_ "one", S_ "many"]⟩
theorem o_Field_raised : DDok T D_Field_raised := ⟨⟨rfl, rfl, rfl, by decide +kernel, rfl, by decide +kernel, by decide +kernel⟩, by kernel_rfl, rfl, rfl, by decide⟩
def D_L_draw : DD := ⟨⟨(S_ "_law_draw", none), S_ "_law_draw", S_ "_law_draw", defArgs (top 52), defBody (top 52), defScope (top 52), [], []⟩, ir_L_draw, [S_ "_law_script", S_ "_law_town", S_ "_law_many", S_ "_law_one", S_ "_law_at", S_ "_law_mixed"], [S_ "_law_script", S_ "_law_town", S_ "_law_many"]⟩
theorem o_L_draw : DDok T D_L_draw := ⟨⟨rfl, rfl, rfl, by decide +kernel, rfl, by decide +kernel, by decide +kernel⟩, by kernel_rfl, rfl, rfl, by decide⟩
def D_Field_init : DD := ⟨⟨(S_ "Field", some (S_ "__init__")), S_ "__init__", S_ "Field.__init__", defArgs (sub (top 50) 0), defBody (sub (top 50) 0), defScope (sub (top 50) 0), [], []⟩, ir_Field_init, [S_ "self", S_ "width", S_ "rule", S_ "at", S_ "one"], [S_ "self", S_ "width", S_ "rule"]⟩
theorem o_Field_init : DDok T D_Field_init := ⟨⟨rfl, rfl, rfl, by decide +kernel, rfl, by decide +kernel, by decide +kernel⟩, by kernel_rfl, rfl, rfl, by decide⟩
def D_plus_poly : DD := ⟨⟨(S_ "plus_poly", none), S_ "plus_poly", S_ "plus_poly", defArgs (top 33), defBody (top 33), defScope (top 33), [], []⟩, ir_plus_poly, [S_ "one", S_ "other", S_ "field"], [S_ "one", S_ "other", S_ "field"]⟩
theorem o_plus_poly : DDok T D_plus_poly := ⟨⟨rfl, rfl, rfl, by decide +kernel, rfl, by decide +kernel, by decide +kernel⟩, by kernel_rfl, rfl, rfl, by decide⟩
def D_times_poly : DD := ⟨⟨(S_ "times_poly", none), S_ "times_poly", S_ "times_poly", defArgs (top 34), defBody (top 34), defScope (top 34), [], []⟩, ir_times_poly, [S_ "one", S_ "other", S_ "field", S_ "made"], [S_ "one", S_ "other", S_ "field"]⟩
theorem o_times_poly : DDok T D_times_poly := ⟨⟨rfl, rfl, rfl, by decide +kernel, rfl, by decide +kernel, by decide +kernel⟩, by kernel_rfl, rfl, rfl, by decide⟩
def D_parted : DD := ⟨⟨(S_ "parted", none), S_ "parted", S_ "parted", defArgs (top 35), defBody (top 35), defScope (top 35), [], []⟩, ir_parted, [S_ "one", S_ "other", S_ "field"], [S_ "one", S_ "other", S_ "field"]⟩
theorem o_parted : DDok T D_parted := ⟨⟨rfl, rfl, rfl, by decide +kernel, rfl, by decide +kernel, by decide +kernel⟩, by kernel_rfl, rfl, rfl, by decide⟩
def D_common_poly : DD := ⟨⟨(S_ "common_poly", none), S_ "common_poly", S_ "common_poly", defArgs (top 36), defBody (top 36), defScope (top 36), [], []⟩, ir_common_poly, [S_ "one", S_ "other", S_ "field"], [S_ "one", S_ "other", S_ "field"]⟩
theorem o_common_poly : DDok T D_common_poly := ⟨⟨rfl, rfl, rfl, by decide +kernel, rfl, by decide +kernel, by decide +kernel⟩, by kernel_rfl, rfl, rfl, by decide⟩
def D_value_at : DD := ⟨⟨(S_ "value_at", none), S_ "value_at", S_ "value_at", defArgs (top 37), defBody (top 37), defScope (top 37), [], []⟩, ir_value_at, [S_ "poly", S_ "element", S_ "field"], [S_ "poly", S_ "element", S_ "field"]⟩
theorem o_value_at : DDok T D_value_at := ⟨⟨rfl, rfl, rfl, by decide +kernel, rfl, by decide +kernel, by decide +kernel⟩, by kernel_rfl, rfl, rfl, by decide⟩
def D_roots : DD := ⟨⟨(S_ "roots", none), S_ "roots", S_ "roots", defArgs (top 40), defBody (top 40), defScope (top 40), [], []⟩, ir_roots, [S_ "poly", S_ "field", S_ "one"], [S_ "poly", S_ "field"]⟩
theorem o_roots : DDok T D_roots := ⟨⟨rfl, rfl, rfl, by decide +kernel, rfl, by decide +kernel, by decide +kernel⟩, by kernel_rfl, rfl, rfl, by decide⟩
def D_through : DD := ⟨⟨(S_ "through", none), S_ "through", S_ "through", defArgs (top 39), defBody (top 39), defScope (top 39), [], []⟩, ir_through, [S_ "points", S_ "field", S_ "made", S_ "ahead", S_ "first", S_ "second", S_ "far", S_ "much"], [S_ "points", S_ "field"]⟩
theorem o_through : DDok T D_through := ⟨⟨rfl, rfl, rfl, by decide +kernel, rfl, by decide +kernel, by decide +kernel⟩, by kernel_rfl, rfl, rfl, by decide⟩
def D_L_pick : DD := ⟨⟨(S_ "_law_pick", none), S_ "_law_pick", S_ "_law_pick", defArgs (top 53), defBody (top 53), defScope (top 53), [], []⟩, ir_L_pick, [S_ "_law_script", S_ "_law_town", S_ "_law_some"], [S_ "_law_script", S_ "_law_town", S_ "_law_some"]⟩
theorem o_L_pick : DDok T D_L_pick := ⟨⟨rfl, rfl, rfl, by decide +kernel, rfl, by decide +kernel, by decide +kernel⟩, by kernel_rfl, rfl, rfl, by decide⟩
def D_L_ask : DD := ⟨⟨(S_ "_law_ask", none), S_ "_law_ask", S_ "_law_ask", defArgs (top 60), defBody (top 60), defScope (top 60), [], []⟩, ir_L_ask, [S_ "_law_what", S_ "_law_one", S_ "_law_other", S_ "_law_field", S_ "_law_e"], [S_ "_law_what", S_ "_law_one", S_ "_law_other"]⟩
theorem o_L_ask : DDok T D_L_ask := ⟨⟨rfl, rfl, rfl, by decide +kernel, rfl, by decide +kernel, by decide +kernel⟩, by kernel_rfl, rfl, rfl, by decide⟩
def D_L_once : DD := ⟨⟨(S_ "_law_once", none), S_ "_law_once", S_ "_law_once", defArgs (top 61), defBody (top 61), defScope (top 61), [], []⟩, ir_L_once, [S_ "_law_script", S_ "_law_town", S_ "_law_bad", S_ "_law_what", S_ "_law_one", S_ "_law_odd", S_ "_law_long"], [S_ "_law_script", S_ "_law_town"]⟩
theorem o_L_once : DDok T D_L_once := ⟨⟨rfl, rfl, rfl, by decide +kernel, rfl, by decide +kernel, by decide +kernel⟩, by kernel_rfl, rfl, rfl, by decide⟩
def D_law : DD := ⟨⟨(S_ "law", none), S_ "law", S_ "law", defArgs (top 62), defBody (top 62), defScope (top 62), [], []⟩, ir_law, [S_ "_law_script", S_ "_law_town", S_ "_law_k"], [S_ "_law_script"]⟩
theorem o_law : DDok T D_law := ⟨⟨rfl, rfl, rfl, by decide +kernel, rfl, by decide +kernel, by decide +kernel⟩, by kernel_rfl, rfl, rfl, by decide⟩
def D_L_which : DD := ⟨⟨(S_ "_law_which", none), S_ "_law_which", S_ "_law_which", defArgs (top 59), defBody (top 59), defScope (top 59), [], []⟩, ir_L_which, [S_ "_law_e", S_ "_law_own"], [S_ "_law_e"]⟩
def fn : List He.DefD := [D_Field_has.d, D_is_poly.d, D_cut.d, D_Field_mul.d, D_Field_undone.d, D_need_poly.d, D_sum_poly.d, D_product_poly.d, D_both_parts.d, D_Field_need.d, D_at_element.d, D_are_points.d, D_degree.d, D_rest_plain.d, D_is_whole.d, D_need_width.d, D_is_rule_of.d, D_is_rule.d, D_Field_powers_of.d, D_times_plain.d, D_Field_raised.d, D_L_draw.d, D_Field_init.d, D_plus_poly.d, D_times_poly.d, D_parted.d, D_common_poly.d, D_value_at.d, D_roots.d, D_through.d, D_L_pick.d, D_L_ask.d, D_L_once.d, D_law.d, D_L_which.d]
def fa : List He.Fa := [.glo (S_ "law")]
abbrev R : PySem.W.OpenRow := PySem.W.OpenLaw.row PySem.Challenge.rw_bitmend_k08_polys_refused
def hk : PySem.W.Hook := hookZ 5 fa fn (owB fx T)
def ob (s : PySem.W.SharedT) : AlZ := obsZ 5 fa fn (owB fx T) (HandSHeadRun.getT s)
theorem ob_eq (s : PySem.W.SharedT) : ob s = hk.obs s.abs := obsZ_eq (HandSHeadRun.getT_eq s)
def nm0 : List PySem.Str := [S_ "_wall", S_ "BitError", S_ "NoBits", S_ "NoNumber", S_ "NoRule", S_ "NoElement", S_ "NoPoly", S_ "NoPoints", S_ "NoFigures", S_ "NoRows", S_ "NoMender", S_ "NoWord", S_ "NoTaps", S_ "NoWeights", S_ "NoLengths", S_ "NoOrder", S_ "NoLayout", S_ "NoRecord", S_ "NoEditions", S_ "NoLine", S_ "NoRoad", S_ "TooLong", S_ "Lost", S_ "LONGEST", S_ "cut", S_ "is_poly", S_ "need_poly", S_ "sum_poly", S_ "product_poly", S_ "both_parts", S_ "at_element", S_ "plus_poly", S_ "times_poly", S_ "parted", S_ "common_poly", S_ "value_at", S_ "are_points", S_ "through", S_ "roots", S_ "is_whole"]
def nm1 : List PySem.Str := [S_ "times_plain", S_ "degree", S_ "rest_plain", S_ "is_rule_of", S_ "need_width", S_ "is_rule", S_ "Field", S_ "_law_draw", S_ "_law_pick", S_ "_law_bits", S_ "_law_so_many", S_ "_law_both", S_ "_law_number", S_ "_law_as", S_ "_law_which", S_ "_law_ask", S_ "_law_once"]
abbrev nms : List PySem.Str := nm0 ++ nm1
theorem run (w : World) : HandSHeadRun.RunEq R (PySem.W.view R.prog [62]) hk ob 12000 nms w := by
  intro os
  kernel_rfl
theorem fnsF {K : PySem.W.Frag} {h : Heap} {mg : Str → Option Value} (X : K.In h) (G : h.Ns mainGlobals mg) (c : He.SaysD fa fn K) : ∀ q ∈ T.calls, callB K q.1 q.2.1 = true → EntF K mg T (clK K) Pr q.1 q.2.1 q.2.2.1 q.2.2.2.1 q.2.2.2.2 := by
  have e0 : callB K "Field" "has" = true → EntF K mg T (clK K) Pr "Field" "has" 1 [] [] := fun cb => by
    obtain ⟨fd, F⟩ := c.def_ 0 (d := D_Field_has.d) rfl
    exact ent_of (D := D_Field_has) X G cb o_Field_has rfl rfl F (fun m => .nil) rfl (kb_all F fun _ _ _ _ _ _ us ws h1 h2 => match us, ws, h1, h2 with | [_, _], [], _, _ => rfl)
  have e1 : callB K "" "is_poly" = true → EntF K mg T (clK K) Pr "" "is_poly" 2 [] [] := fun cb => by
    obtain ⟨fd, F⟩ := c.def_ 1 (d := D_is_poly.d) rfl
    exact ent_of (D := D_is_poly) X G cb o_is_poly rfl rfl F (fun m => .nil) rfl (kb_all F fun _ _ _ _ _ _ us ws h1 h2 => match us, ws, h1, h2 with | [_, _], [], _, _ => rfl)
  have e2 : callB K "" "cut" = true → EntF K mg T (clK K) Pr "" "cut" 1 [] [] := fun cb => by
    obtain ⟨fd, F⟩ := c.def_ 2 (d := D_cut.d) rfl
    exact ent_of (D := D_cut) X G cb o_cut rfl rfl F (fun m => .nil) rfl (kb_all F fun _ _ _ _ _ _ us ws h1 h2 => match us, ws, h1, h2 with | [_], [], _, _ => rfl)
  have e3 : callB K "Field" "mul" = true → EntF K mg T (clK K) Pr "Field" "mul" 2 [] [] := fun cb => by
    obtain ⟨fd, F⟩ := c.def_ 3 (d := D_Field_mul.d) rfl
    exact ent_of (D := D_Field_mul) X G cb o_Field_mul rfl rfl F (fun m => .nil) rfl (kb_all F fun _ _ _ _ _ _ us ws h1 h2 => match us, ws, h1, h2 with | [_, _, _], [], _, _ => rfl)
  have e4 : callB K "Field" "undone" = true → EntF K mg T (clK K) Pr "Field" "undone" 1 [] [] := fun cb => by
    obtain ⟨fd, F⟩ := c.def_ 4 (d := D_Field_undone.d) rfl
    exact ent_of (D := D_Field_undone) X G cb o_Field_undone rfl rfl F (fun m => .nil) rfl (kb_all F fun _ _ _ _ _ _ us ws h1 h2 => match us, ws, h1, h2 with | [_, _], [], _, _ => rfl)
  have e5 : callB K "" "need_poly" = true → EntF K mg T (clK K) Pr "" "need_poly" 2 [] [] := fun cb => by
    obtain ⟨fd, F⟩ := c.def_ 5 (d := D_need_poly.d) rfl
    exact ent_of (D := D_need_poly) X G cb o_need_poly rfl rfl F (fun m => .nil) rfl (kb_all F fun _ _ _ _ _ _ us ws h1 h2 => match us, ws, h1, h2 with | [_, _], [], _, _ => rfl)
  have e6 : callB K "" "sum_poly" = true → EntF K mg T (clK K) Pr "" "sum_poly" 2 [] [] := fun cb => by
    obtain ⟨fd, F⟩ := c.def_ 6 (d := D_sum_poly.d) rfl
    exact ent_of (D := D_sum_poly) X G cb o_sum_poly rfl rfl F (fun m => .nil) rfl (kb_all F fun _ _ _ _ _ _ us ws h1 h2 => match us, ws, h1, h2 with | [_, _], [], _, _ => rfl)
  have e7 : callB K "" "product_poly" = true → EntF K mg T (clK K) Pr "" "product_poly" 3 [] [] := fun cb => by
    obtain ⟨fd, F⟩ := c.def_ 7 (d := D_product_poly.d) rfl
    exact ent_of (D := D_product_poly) X G cb o_product_poly rfl rfl F (fun m => .nil) rfl (kb_all F fun _ _ _ _ _ _ us ws h1 h2 => match us, ws, h1, h2 with | [_, _, _], [], _, _ => rfl)
  have e8 : callB K "" "both_parts" = true → EntF K mg T (clK K) Pr "" "both_parts" 3 [] [] := fun cb => by
    obtain ⟨fd, F⟩ := c.def_ 8 (d := D_both_parts.d) rfl
    exact ent_of (D := D_both_parts) X G cb o_both_parts rfl rfl F (fun m => .nil) rfl (kb_all F fun _ _ _ _ _ _ us ws h1 h2 => match us, ws, h1, h2 with | [_, _, _], [], _, _ => rfl)
  have e9 : callB K "Field" "need" = true → EntF K mg T (clK K) Pr "Field" "need" 1 [] [] := fun cb => by
    obtain ⟨fd, F⟩ := c.def_ 9 (d := D_Field_need.d) rfl
    exact ent_of (D := D_Field_need) X G cb o_Field_need rfl rfl F (fun m => .nil) rfl (kb_all F fun _ _ _ _ _ _ us ws h1 h2 => match us, ws, h1, h2 with | [_, _], [], _, _ => rfl)
  have e10 : callB K "" "at_element" = true → EntF K mg T (clK K) Pr "" "at_element" 3 [] [] := fun cb => by
    obtain ⟨fd, F⟩ := c.def_ 10 (d := D_at_element.d) rfl
    exact ent_of (D := D_at_element) X G cb o_at_element rfl rfl F (fun m => .nil) rfl (kb_all F fun _ _ _ _ _ _ us ws h1 h2 => match us, ws, h1, h2 with | [_, _, _], [], _, _ => rfl)
  have e11 : callB K "" "are_points" = true → EntF K mg T (clK K) Pr "" "are_points" 2 [] [] := fun cb => by
    obtain ⟨fd, F⟩ := c.def_ 11 (d := D_are_points.d) rfl
    exact ent_of (D := D_are_points) X G cb o_are_points rfl rfl F (fun m => .nil) rfl (kb_all F fun _ _ _ _ _ _ us ws h1 h2 => match us, ws, h1, h2 with | [_, _], [], _, _ => rfl)
  have e12 : callB K "" "degree" = true → EntF K mg T (clK K) Pr "" "degree" 1 [] [] := fun cb => by
    obtain ⟨fd, F⟩ := c.def_ 12 (d := D_degree.d) rfl
    exact ent_of (D := D_degree) X G cb o_degree rfl rfl F (fun m => .nil) rfl (kb_all F fun _ _ _ _ _ _ us ws h1 h2 => match us, ws, h1, h2 with | [_], [], _, _ => rfl)
  have e13 : callB K "" "rest_plain" = true → EntF K mg T (clK K) Pr "" "rest_plain" 2 [] [] := fun cb => by
    obtain ⟨fd, F⟩ := c.def_ 13 (d := D_rest_plain.d) rfl
    exact ent_of (D := D_rest_plain) X G cb o_rest_plain rfl rfl F (fun m => .nil) rfl (kb_all F fun _ _ _ _ _ _ us ws h1 h2 => match us, ws, h1, h2 with | [_, _], [], _, _ => rfl)
  have e14 : callB K "" "is_whole" = true → EntF K mg T (clK K) Pr "" "is_whole" 3 [] [] := fun cb => by
    obtain ⟨fd, F⟩ := c.def_ 14 (d := D_is_whole.d) rfl
    exact ent_of (D := D_is_whole) X G cb o_is_whole rfl rfl F (fun m => .nil) rfl (kb_all F fun _ _ _ _ _ _ us ws h1 h2 => match us, ws, h1, h2 with | [_, _, _], [], _, _ => rfl)
  have e15 : callB K "" "need_width" = true → EntF K mg T (clK K) Pr "" "need_width" 1 [] [] := fun cb => by
    obtain ⟨fd, F⟩ := c.def_ 15 (d := D_need_width.d) rfl
    exact ent_of (D := D_need_width) X G cb o_need_width rfl rfl F (fun m => .nil) rfl (kb_all F fun _ _ _ _ _ _ us ws h1 h2 => match us, ws, h1, h2 with | [_], [], _, _ => rfl)
  have e16 : callB K "" "is_rule_of" = true → EntF K mg T (clK K) Pr "" "is_rule_of" 2 [] [] := fun cb => by
    obtain ⟨fd, F⟩ := c.def_ 16 (d := D_is_rule_of.d) rfl
    exact ent_of (D := D_is_rule_of) X G cb o_is_rule_of rfl rfl F (fun m => .nil) rfl (kb_all F fun _ _ _ _ _ _ us ws h1 h2 => match us, ws, h1, h2 with | [_, _], [], _, _ => rfl)
  have e17 : callB K "" "is_rule" = true → EntF K mg T (clK K) Pr "" "is_rule" 2 [] [] := fun cb => by
    obtain ⟨fd, F⟩ := c.def_ 17 (d := D_is_rule.d) rfl
    exact ent_of (D := D_is_rule) X G cb o_is_rule rfl rfl F (fun m => .nil) rfl (kb_all F fun _ _ _ _ _ _ us ws h1 h2 => match us, ws, h1, h2 with | [_, _], [], _, _ => rfl)
  have e18 : callB K "Field" "powers_of" = true → EntF K mg T (clK K) Pr "Field" "powers_of" 1 [] [] := fun cb => by
    obtain ⟨fd, F⟩ := c.def_ 18 (d := D_Field_powers_of.d) rfl
    exact ent_of (D := D_Field_powers_of) X G cb o_Field_powers_of rfl rfl F (fun m => .nil) rfl (kb_all F fun _ _ _ _ _ _ us ws h1 h2 => match us, ws, h1, h2 with | [_, _], [], _, _ => rfl)
  have e19 : callB K "" "times_plain" = true → EntF K mg T (clK K) Pr "" "times_plain" 2 [] [] := fun cb => by
    obtain ⟨fd, F⟩ := c.def_ 19 (d := D_times_plain.d) rfl
    exact ent_of (D := D_times_plain) X G cb o_times_plain rfl rfl F (fun m => .nil) rfl (kb_all F fun _ _ _ _ _ _ us ws h1 h2 => match us, ws, h1, h2 with | [_, _], [], _, _ => rfl)
  have e20 : callB K "Field" "raised" = true → EntF K mg T (clK K) Pr "Field" "raised" 2 [] [] := fun cb => by
    obtain ⟨fd, F⟩ := c.def_ 20 (d := D_Field_raised.d) rfl
    exact ent_of (D := D_Field_raised) X G cb o_Field_raised rfl rfl F (fun m => .nil) rfl (kb_all F fun _ _ _ _ _ _ us ws h1 h2 => match us, ws, h1, h2 with | [_, _, _], [], _, _ => rfl)
  have e21 : callB K "" "_law_draw" = true → EntF K mg T (clK K) Pr "" "_law_draw" 3 [] [] := fun cb => by
    obtain ⟨fd, F⟩ := c.def_ 21 (d := D_L_draw.d) rfl
    exact ent_of (D := D_L_draw) X G cb o_L_draw rfl rfl F (fun m => .nil) rfl (kb_all F fun _ _ _ _ _ _ us ws h1 h2 => match us, ws, h1, h2 with | [_, _, _], [], _, _ => rfl)
  have e22 : callB K "Field" "__init__" = true → EntF K mg T (clK K) Pr "Field" "__init__" 2 [] [] := fun cb => by
    obtain ⟨fd, F⟩ := c.def_ 22 (d := D_Field_init.d) rfl
    exact ent_of (D := D_Field_init) X G cb o_Field_init rfl rfl F (fun m => .nil) rfl (kb_all F fun _ _ _ _ _ _ us ws h1 h2 => match us, ws, h1, h2 with | [_, _, _], [], _, _ => rfl)
  have e23 : callB K "" "plus_poly" = true → EntF K mg T (clK K) Pr "" "plus_poly" 3 [] [] := fun cb => by
    obtain ⟨fd, F⟩ := c.def_ 23 (d := D_plus_poly.d) rfl
    exact ent_of (D := D_plus_poly) X G cb o_plus_poly rfl rfl F (fun m => .nil) rfl (kb_all F fun _ _ _ _ _ _ us ws h1 h2 => match us, ws, h1, h2 with | [_, _, _], [], _, _ => rfl)
  have e24 : callB K "" "times_poly" = true → EntF K mg T (clK K) Pr "" "times_poly" 3 [] [] := fun cb => by
    obtain ⟨fd, F⟩ := c.def_ 24 (d := D_times_poly.d) rfl
    exact ent_of (D := D_times_poly) X G cb o_times_poly rfl rfl F (fun m => .nil) rfl (kb_all F fun _ _ _ _ _ _ us ws h1 h2 => match us, ws, h1, h2 with | [_, _, _], [], _, _ => rfl)
  have e25 : callB K "" "parted" = true → EntF K mg T (clK K) Pr "" "parted" 3 [] [] := fun cb => by
    obtain ⟨fd, F⟩ := c.def_ 25 (d := D_parted.d) rfl
    exact ent_of (D := D_parted) X G cb o_parted rfl rfl F (fun m => .nil) rfl (kb_all F fun _ _ _ _ _ _ us ws h1 h2 => match us, ws, h1, h2 with | [_, _, _], [], _, _ => rfl)
  have e26 : callB K "" "common_poly" = true → EntF K mg T (clK K) Pr "" "common_poly" 3 [] [] := fun cb => by
    obtain ⟨fd, F⟩ := c.def_ 26 (d := D_common_poly.d) rfl
    exact ent_of (D := D_common_poly) X G cb o_common_poly rfl rfl F (fun m => .nil) rfl (kb_all F fun _ _ _ _ _ _ us ws h1 h2 => match us, ws, h1, h2 with | [_, _, _], [], _, _ => rfl)
  have e27 : callB K "" "value_at" = true → EntF K mg T (clK K) Pr "" "value_at" 3 [] [] := fun cb => by
    obtain ⟨fd, F⟩ := c.def_ 27 (d := D_value_at.d) rfl
    exact ent_of (D := D_value_at) X G cb o_value_at rfl rfl F (fun m => .nil) rfl (kb_all F fun _ _ _ _ _ _ us ws h1 h2 => match us, ws, h1, h2 with | [_, _, _], [], _, _ => rfl)
  have e28 : callB K "" "roots" = true → EntF K mg T (clK K) Pr "" "roots" 2 [] [] := fun cb => by
    obtain ⟨fd, F⟩ := c.def_ 28 (d := D_roots.d) rfl
    exact ent_of (D := D_roots) X G cb o_roots rfl rfl F (fun m => .nil) rfl (kb_all F fun _ _ _ _ _ _ us ws h1 h2 => match us, ws, h1, h2 with | [_, _], [], _, _ => rfl)
  have e29 : callB K "" "through" = true → EntF K mg T (clK K) Pr "" "through" 2 [] [] := fun cb => by
    obtain ⟨fd, F⟩ := c.def_ 29 (d := D_through.d) rfl
    exact ent_of (D := D_through) X G cb o_through rfl rfl F (fun m => .nil) rfl (kb_all F fun _ _ _ _ _ _ us ws h1 h2 => match us, ws, h1, h2 with | [_, _], [], _, _ => rfl)
  have e30 : callB K "" "_law_pick" = true → EntF K mg T (clK K) Pr "" "_law_pick" 3 [] [] := fun cb => by
    obtain ⟨fd, F⟩ := c.def_ 30 (d := D_L_pick.d) rfl
    exact ent_of (D := D_L_pick) X G cb o_L_pick rfl rfl F (fun m => .nil) rfl (kb_all F fun _ _ _ _ _ _ us ws h1 h2 => match us, ws, h1, h2 with | [_, _, _], [], _, _ => rfl)
  have e31 : callB K "" "_law_ask" = true → EntF K mg T (clK K) Pr "" "_law_ask" 3 [] [] := fun cb => by
    obtain ⟨fd, F⟩ := c.def_ 31 (d := D_L_ask.d) rfl
    exact ent_of (D := D_L_ask) X G cb o_L_ask rfl rfl F (fun m => .nil) rfl (kb_all F fun _ _ _ _ _ _ us ws h1 h2 => match us, ws, h1, h2 with | [_, _, _], [], _, _ => rfl)
  have e32 : callB K "" "_law_once" = true → EntF K mg T (clK K) Pr "" "_law_once" 2 [] [] := fun cb => by
    obtain ⟨fd, F⟩ := c.def_ 32 (d := D_L_once.d) rfl
    exact ent_of (D := D_L_once) X G cb o_L_once rfl rfl F (fun m => .nil) rfl (kb_all F fun _ _ _ _ _ _ us ws h1 h2 => match us, ws, h1, h2 with | [_, _], [], _, _ => rfl)
  have e33 : callB K "" "law" = true → EntF K mg T (clK K) Pr "" "law" 1 [] [] := fun cb => by
    obtain ⟨fd, F⟩ := c.def_ 33 (d := D_law.d) rfl
    exact ent_of (D := D_law) X G cb o_law rfl rfl F (fun m => .nil) rfl (kb_all F fun _ _ _ _ _ _ us ws h1 h2 => match us, ws, h1, h2 with | [_], [], _, _ => rfl)
  exact all_cons e0 (all_cons e1 (all_cons e2 (all_cons e3 (all_cons e4 (all_cons e5 (all_cons e6 (all_cons e7 (all_cons e8 (all_cons e9 (all_cons e10 (all_cons e11 (all_cons e12 (all_cons e13 (all_cons e14 (all_cons e15 (all_cons e16 (all_cons e17 (all_cons e18 (all_cons e19 (all_cons e20 (all_cons e21 (all_cons e22 (all_cons e23 (all_cons e24 (all_cons e25 (all_cons e26 (all_cons e27 (all_cons e28 (all_cons e29 (all_cons e30 (all_cons e31 (all_cons e32 (all_cons e33 (all_nil))))))))))))))))))))))))))))))))))
theorem asksF {K : PySem.W.Frag} {h : Heap} {mg : Str → Option Value} (X : K.In h) (G : h.Ns mainGlobals mg) (c : He.SaysD fa fn K) : ∀ A, fx.asks = some A → callB K "" A.f = true → AskE K mg T A := by
  intro A hA cb
  have hA2 := Option.some.inj hA
  subst hA2
  obtain ⟨fd, F⟩ := c.def_ 34 (d := D_L_which.d) rfl
  unfold callB at cb
  rw [if_pos rfl] at cb
  obtain ⟨a, b⟩ := b2 cb
  exact ⟨_, _, _, _, _, _, _, _, fd, D_L_which.N, D_L_which.ps, F, ⟨rfl, rfl, rfl, by decide +kernel, rfl, by decide +kernel, by decide +kernel⟩, by kernel_rfl, rfl, rfl, He.glo_ok X G a, He.keep_ok b, fun s us _ hl => by rw [List.append_nil] at hl ⊢; exact FunD.bindsA F (fun _ _ _ _ _ _ us hl => match us, hl with | [_], _ => rfl) s us hl⟩
theorem walk (hl : ∀ ns : List Int, ns.length ≤ 63 → ∃ S, (Pr.at 100000 30).cf "" "law" [.scr ns] [] = .ok (.bl true) S) {w : World} {mg : Str → Option Value} {f : Addr} {h : Heap} (Y : hk.says w h) (G : h.Ns mainGlobals mg) (hm : mg (S_ "law") = some (.ref f)) :
    ∃ (K : PySem.W.Frag) (fd : FuncData) (sp : Sp), K.In h ∧ (∀ (s : Shared) (u : Value), BindsTo s fd ⟨[u], []⟩ [(S_ "_law_script", u)]) ∧ (∀ (H : Hp) (a : Addr) (ns : List Int), ns.length ≤ 63 → Only H → SqL K H a (ns.map V.int) → sp [.ref a] H (fun v _ => v = .bl true) fun _ _ _ => False) ∧
      ∀ base : Heap, K.In base → base.Ns mainGlobals mg → FnOk R.prog w K mg base (L2.CX R.prog w) (2 * 30) f fd [S_ "_law_script"] sp := by
  obtain ⟨K, X, c, ow, nl⟩ := Y
  have F : PrgF K mg T (clK K) Pr := prgF_of X G ow (by decide +kernel) (fun c' f' n ks dfl hq cb => fnsF X G c _ hq cb) (asksF X G c)
  obtain ⟨fd, D⟩ := c.def_ 33 (d := D_law.d) rfl
  have e := hm.symm.trans (He.glo_ok X G (c.fact 0 (f := .glo (S_ "law")) rfl))
  cases e
  refine ⟨K, fd, spLaw (Pr.at 100000 30) (clK K), X, fun s u => FunD.bindsA (ps := [S_ "_law_script"]) D (fun _ _ _ _ _ _ us hl => match us, hl with | [_], _ => rfl) s [u] rfl, fun H a ns hn _ hS => ?_, fun base _ _ => law_fn X G F D o_law rfl rfl (by decide) 100000⟩
  obtain ⟨S, e⟩ := hl ns hn
  exact law_sp (rd_of nl hS) e
end Z.L

set_option Elab.async false
set_option linter.all false
set_option maxRecDepth 100000
set_option maxHeartbeats 4000000
set_option exponentiation.threshold 1000
namespace Z
open PySem (Operator CmpOp)
/-! ### what a program has -/
class FN (P : Prg) (c f : String) (d : outParam Fdef) : Prop where
  h : P.fn c f = some d
class GC (P : Prg) (x : String) (d : outParam D) : Prop where
  h : P.gc x = some d
/-- isinstance with a built-in type -/
class TY (P : Prg) (t : String) : Prop where
  h : ∀ x ∈ tyNames, P.sub x t = some (x == t || (x == "bool" && t == "int"))
theorem cfE {P : Prg} {c f : String} {d : Fdef} [h : FN P c f d] {W m : Nat} (args : List D) (S : Store) : (P.at W (m + 1)).cf c f args S = runF (P.at W m) W d args S := at_cf h.h args S
theorem gcE {P : Prg} {x : String} {d : D} [h : GC P x d] {W m : Nat} : (P.at W m).gc x = some d := by rw [at_gc]; exact h.h
variable {P : Prg}
/-- data, no things -/
def D.data : D → Bool
  | .obj _ => false
  | .exc _ => false
  | .scr _ => false
  | _ => true
def isT (t : String) (d : D) : Bool := tyName d == t || (tyName d == "bool" && t == "int")
theorem isi_data {t : String} [h : TY P t] {S : Store} {d : D} (hd : d.data = true) : isiD P.sub S t d = some (isT t d) := by
  cases d <;> first | (exfalso; cases hd; done) | exact h.h _ (by simp [tyName, tyNames])
@[simp] theorem isi_nat {t : String} [h : TY P t] {S : Store} {n : Nat} : isiD P.sub S t (nat n) = some (isT t (nat n)) := isi_data rfl
@[simp] theorem isi_intD {t : String} [h : TY P t] {S : Store} {n : Int} : isiD P.sub S t (.int n) = some (isT t (.int n)) := isi_data rfl
@[simp] theorem isi_bl {t : String} [h : TY P t] {S : Store} {b : Bool} : isiD P.sub S t (.bl b) = some (isT t (.bl b)) := isi_data rfl
@[simp] theorem isi_str {t : String} [h : TY P t] {S : Store} {b : List Nat} : isiD P.sub S t (.str b) = some (isT t (.str b)) := isi_data rfl
@[simp] theorem isi_bits {t : String} [h : TY P t] {S : Store} {b : List Bool} : isiD P.sub S t (bits b) = some (isT t (bits b)) := isi_data rfl
@[simp] theorem isi_tup {t : String} [h : TY P t] {S : Store} {b : List D} : isiD P.sub S t (.tup b) = some (isT t (.tup b)) := isi_data rfl
@[simp] theorem isi_lst {t : String} [h : TY P t] {S : Store} {b : List D} : isiD P.sub S t (.lst b) = some (isT t (.lst b)) := isi_data rfl
@[simp] theorem isi_dic {t : String} [h : TY P t] {S : Store} {b : List (DK × D)} : isiD P.sub S t (.dic b) = some (isT t (.dic b)) := isi_data rfl
@[simp] theorem isi_non {t : String} [h : TY P t] {S : Store} : isiD P.sub S t .non = some (isT t .non) := isi_data rfl
@[simp] theorem isT_int_nat (n : Nat) : isT "int" (nat n) = true := (rfl)
@[simp] theorem isT_bool_nat (n : Nat) : isT "bool" (nat n) = false := (rfl)
@[simp] theorem isT_int_int (n : Int) : isT "int" (.int n) = true := (rfl)
@[simp] theorem isT_bool_int (n : Int) : isT "bool" (.int n) = false := (rfl)
@[simp] theorem isT_int_bl (n : Bool) : isT "int" (.bl n) = true := (rfl)
@[simp] theorem isT_bool_bl (n : Bool) : isT "bool" (.bl n) = true := (rfl)
@[simp] theorem isT_str_str (x : List Nat) : isT "str" (.str x) = true := (rfl)
@[simp] theorem isT_str_bits (x : List Bool) : isT "str" (bits x) = true := (rfl)
@[simp] theorem isT_tup_tup (x : List D) : isT "tuple" (.tup x) = true := (rfl)
@[simp] theorem isT_lst_lst (x : List D) : isT "list" (.lst x) = true := (rfl)
/-! ### whole numbers -/
def isWhole (lo hi : Int) : D → Bool
  | .int i => decide (lo ≤ i ∧ i ≤ hi)
  | _ => false
@[simp] theorem isWhole_nat (lo hi a : Nat) : isWhole lo hi (nat a) = decide (lo ≤ a ∧ a ≤ hi) := by
  show decide _ = _
  rw [Bool.eq_iff_iff]
  simp only [decide_eq_true_eq]
  omega
section
variable [FN P "" "is_whole" L.ir_is_whole] [TY P "int"] [TY P "bool"]
theorem is_whole_D {m : Nat} (hm : 1 ≤ m) {d : D} (hd : d.data = true) (lo hi : Int) (S : Store) : (P.at 100000 m).cf "" "is_whole" [d, .int lo, .int hi] S = .ok (.bl (isWhole lo hi d)) S := by
  rcases Nat.exists_eq_add_of_le' hm with ⟨k_, hk_⟩
  subst hk_
  rw [cfE]
  refine runF_of rfl ?_
  clear hm
  have h1 : isiD P.sub S "int" d = some (isT "int" d) := isi_data hd
  have h2 : isiD P.sub S "bool" d = some (isT "bool" d) := isi_data hd
  cases d with
  | int i =>
    by_cases q1 : lo ≤ i
    · simp [L.ir_is_whole, h1, h2, isWhole, q1]
    · simp [L.ir_is_whole, h1, h2, isWhole, q1]
  | bl b => simp [L.ir_is_whole, h1, h2, isWhole]
  | non => simp [L.ir_is_whole, isWhole, isT, tyName]
  | str x => simp [L.ir_is_whole, isWhole, isT, tyName]
  | tup x => simp [L.ir_is_whole, isWhole, isT, tyName]
  | lst x => simp [L.ir_is_whole, isWhole, isT, tyName]
  | dic x => simp [L.ir_is_whole, isWhole, isT, tyName]
  | obj _ => cases hd
  | exc _ => cases hd
  | scr _ => cases hd
theorem is_whole_DN {m : Nat} (hm : 1 ≤ m) {d : D} (hd : d.data = true) (lo hi : Nat) (S : Store) : (P.at 100000 m).cf "" "is_whole" [d, nat lo, nat hi] S = .ok (.bl (isWhole lo hi d)) S := is_whole_D hm hd lo hi S
@[simp] theorem is_whole_N {m : Nat} (hm : 1 ≤ m) (a lo hi : Nat) (S : Store) : (P.at 100000 m).cf "" "is_whole" [nat a, nat lo, nat hi] S = .ok (.bl (decide (lo ≤ a ∧ a ≤ hi))) S := by
  rw [is_whole_DN hm rfl, isWhole_nat]
end
/-! ### bits -/
def isBits (most : Nat) : D → Bool
  | .str x => decide (x.length ≤ most) && x.all fun c => decide (c = 48 ∨ c = 49)
  | _ => false
@[simp] theorem isBits_bits (most : Nat) (l : List Bool) : isBits most (bits l) = decide (l.length ≤ most) := by
  show (decide ((l.map bit).length ≤ most) && (l.map bit).all fun c => decide (c = 48 ∨ c = 49)) = _
  have : ((l.map bit).all fun c => decide (c = 48 ∨ c = 49)) = true := by
    rw [List.all_eq_true]
    intro x hx
    obtain ⟨b, _, rfl⟩ := List.mem_map.mp hx
    cases b <;> rfl
  rw [this]
  simp
/-- data with no text longer than 16777216 -/
def D.lineOk : D → Bool
  | .str x => decide (x.length ≤ 16777216)
  | _ => true
section
variable [FN P "" "are_bits" L.ir_are_bits] [TY P "str"]
theorem in01 (c : Nat) : inStr [c] [48, 49] = some (decide (c = 48 ∨ c = 49)) := by
  show some (decide (c ∈ [48, 49])) = _
  congr 1
  simp
theorem are_bits_D {m : Nat} (hm : 1 ≤ m) {d : D} (hd : d.data = true) (hl : d.lineOk = true) {k : Nat} (hk : k ≤ 16777216) (S : Store) : (P.at 100000 m).cf "" "are_bits" [d, nat k] S = .ok (.bl (isBits k d)) S := by
  rcases Nat.exists_eq_add_of_le' hm with ⟨k_, hk_⟩
  subst hk_
  rw [cfE]
  refine runF_of rfl ?_
  clear hm
  cases d with
  | str x =>
    have hx : x.length ≤ 16777216 := of_decide_eq_true hl
    by_cases q : x.length ≤ k
    · simp [L.ir_are_bits, hx, q, seqD]
      rw [compK_map (fun c => .bl (decide (c = 48 ∨ c = 49))) hx]
      · simp [isBits, q]
        rw [all_map]
        simp
      · intro c _
        simp [turn, inD, inStrD, in01]
    · simp [L.ir_are_bits, hx, q, isBits]
  | non => simp [L.ir_are_bits, isBits, isT, tyName]
  | int x => simp [L.ir_are_bits, isBits, isT, tyName]
  | bl x => simp [L.ir_are_bits, isBits, isT, tyName]
  | tup x => simp [L.ir_are_bits, isBits, isT, tyName]
  | lst x => simp [L.ir_are_bits, isBits, isT, tyName]
  | dic x => simp [L.ir_are_bits, isBits, isT, tyName]
  | obj _ => cases hd
  | exc _ => cases hd
  | scr _ => cases hd
theorem line_bits {l : List Bool} (h : l.length ≤ 16777216) : (bits l).lineOk = true := by
  show decide ((l.map bit).length ≤ 16777216) = true
  simpa using h
@[simp] theorem are_bits_B {m : Nat} (hm : 1 ≤ m) {l : List Bool} (hl : l.length ≤ 16777216) {k : Nat} (hk : k ≤ 16777216) (S : Store) : (P.at 100000 m).cf "" "are_bits" [bits l, nat k] S = .ok (.bl (decide (l.length ≤ k))) S := by
  rw [are_bits_D hm rfl (line_bits hl) hk, isBits_bits]
variable [FN P "" "is_bits" L.ir_is_bits] [GC P "MOST" (.int 20000)]
theorem is_bits_D {m : Nat} (hm : 2 ≤ m) {d : D} (hd : d.data = true) (hl : d.lineOk = true) (S : Store) : (P.at 100000 m).cf "" "is_bits" [d] S = .ok (.bl (isBits 20000 d)) S := by
  rcases Nat.exists_eq_add_of_le' hm with ⟨k_, hk_⟩
  subst hk_
  rw [cfE]
  refine runF_of rfl ?_
  clear hm
  simp [L.ir_is_bits, gcE (P := P) (x := "MOST"), are_bits_D, hd, hl]
@[simp] theorem is_bits_B {m : Nat} (hm : 2 ≤ m) {l : List Bool} (hl : l.length ≤ 16777216) (S : Store) : (P.at 100000 m).cf "" "is_bits" [bits l] S = .ok (.bl (decide (l.length ≤ 20000))) S := by
  rw [is_bits_D hm rfl (line_bits hl), isBits_bits]
variable [FN P "" "need_bits" L.ir_need_bits]
theorem need_bits_D {m : Nat} (hm : 3 ≤ m) {d : D} (hd : d.data = true) (hl : d.lineOk = true) (S : Store) : (P.at 100000 m).cf "" "need_bits" [d] S = if isBits 20000 d = true then .ok .non S else .exc "NoBits" S := by
  rcases Nat.exists_eq_add_of_le' hm with ⟨k_, hk_⟩
  subst hk_
  rw [cfE]
  refine runF_of rfl ?_
  clear hm
  cases h : isBits 20000 d <;> simp [L.ir_need_bits, is_bits_D, hd, hl, h]
@[simp] theorem need_bits_B {m : Nat} (hm : 3 ≤ m) {l : List Bool} (hl : l.length ≤ 20000) (S : Store) : (P.at 100000 m).cf "" "need_bits" [bits l] S = .ok .non S := by
  rw [need_bits_D hm rfl (line_bits (Nat.le_trans hl (by decide))), isBits_bits]
  simp [hl]
end
theorem leL {k : Nat} (h : k ≤ 20000) : k ≤ 16777216 := Nat.le_trans h (by decide)
/-! ### together -/
def bxor (a b : List Bool) : List Bool := (a.zip b).map fun p => p.1 != p.2
@[simp] theorem bxor_len (a b : List Bool) : (bxor a b).length = min a.length b.length := by simp [bxor]
theorem both_run {Γ : Gam} {W : Nat} {a b : List Bool} (hl : a.length ≤ 16777216) (S : Store) : runF Γ W L.ir_both [bits a, bits b] S = .ok (.str ((bxor a b).map bit)) S := by
  refine runF_of rfl ?_
  simp [L.ir_both]
  rw [compK_map (fun p => bits [p.1 != p.2]) (by simp; omega)]
  · simp
    rw [join_ones _ _ (by simp; omega)]
    rfl
  · rintro ⟨x, y⟩ _
    cases x <;> cases y <;> simp [turn]
section
variable [FN P "" "both" L.ir_both]
@[simp] theorem both_N {m : Nat} (hm : 1 ≤ m) {a b : List Bool} (hl : a.length ≤ 16777216) (S : Store) : (P.at 100000 m).cf "" "both" [bits a, bits b] S = .ok (bits (bxor a b)) S := by
  obtain ⟨k, rfl⟩ := Nat.exists_eq_add_of_le' hm
  rw [cfE]
  exact both_run hl S
end
section
variable [FN P "" "_law_both" L.ir_L_both]
@[simp] theorem law_both_N {m : Nat} (hm : 1 ≤ m) {a b : List Bool} (hl : a.length ≤ 16777216) (S : Store) : (P.at 100000 m).cf "" "_law_both" [bits a, bits b] S = .ok (bits (bxor a b)) S := by
  obtain ⟨k, rfl⟩ := Nat.exists_eq_add_of_le' hm
  rw [cfE]
  exact both_run hl S
end
/-! ### numbers of bits -/
def numB (l : List Bool) : Nat := l.foldl (fun v b => 2 * v + b.toNat) 0
/-- the last so many bits of a number -/
def asB (n w : Nat) : List Bool := (List.range w).map fun i => n.testBit (w - 1 - i)
@[simp] theorem asB_len (n w : Nat) : (asB n w).length = w := by simp [asB]
theorem str_bit (b : Bool) : strF [nat b.toNat] = some (.val (bits [b])) := by
  have codes01 : codes (toString (0 : Int)) = [48] ∧ codes (toString (1 : Int)) = [49] := by decide +kernel
  cases b
  · show (if (0 : Nat).log2 < 1920 then some (Ent.val (.str (codes (toString (0 : Int))))) else none) = _
    rw [codes01.1, if_pos (by decide)]
    rfl
  · show (if (1 : Nat).log2 < 1920 then some (Ent.val (.str (codes (toString (1 : Int))))) else none) = _
    rw [codes01.2, if_pos (by decide)]
    rfl
theorem mod1 (n k : Nat) : n / 2 ^ k % 2 = (n.testBit k).toNat := by
  rw [Nat.testBit_eq_decide_div_mod_eq]
  have : n / 2 ^ k % 2 < 2 := Nat.mod_lt _ (by decide)
  generalize n / 2 ^ k % 2 = r at this
  rcases (by omega : r = 0 ∨ r = 1) with rfl | rfl <;> rfl
section
variable [FN P "" "as_bits" L.ir_as_bits]
@[simp] theorem as_bits_N {m : Nat} (hm : 1 ≤ m) (n : Nat) {w : Nat} (hw : w ≤ 16777216) (S : Store) : (P.at 100000 m).cf "" "as_bits" [nat n, nat w] S = .ok (bits (asB n w)) S := by
  rcases Nat.exists_eq_add_of_le' hm with ⟨k_, hk_⟩
  subst hk_
  rw [cfE]
  refine runF_of rfl ?_
  clear hm
  have hw2 : w < 4611686018427387904 := Nat.lt_of_le_of_lt hw (by decide)
  simp [L.ir_as_bits, hw2]
  rw [compK_map (fun i => bits [n.testBit (w - 1 - i)]) (by simpa using hw)]
  · simp
    rw [join_ones _ _ (by simpa using hw)]
    rfl
  · intro i hi
    have hi2 := List.mem_range.mp hi
    have h1 : 1 ≤ w := by omega
    have h2 : i ≤ w - 1 := by omega
    simp [turn, bin_subN, h1, h2, mod1, str_bit]
end
theorem numB_snoc (p : List Bool) (b : Bool) : numB (p ++ [b]) = 2 * numB p + b.toNat := by simp [numB]
section
variable [FN P "" "as_number" L.ir_as_number]
@[simp] theorem as_number_N {m : Nat} (hm : 1 ≤ m) (l : List Bool) (S : Store) : (P.at 100000 m).cf "" "as_number" [bits l] S = .ok (nat (numB l)) S := by
  rcases Nat.exists_eq_add_of_le' hm with ⟨k_, hk_⟩
  subst hk_
  rw [cfE]
  refine runF_of rfl ?_
  clear hm
  simp [L.ir_as_number]
  rw [forL_fold (fun v => [.val (bits l), .val (nat v), .un]) (fun v b => 2 * v + b.toNat) 0 rfl]
  · simp [numB]
  · intro v b _
    simp [loop1]
end
section
variable [FN P "" "_law_number" L.ir_L_number]
@[simp] theorem law_number_N {m : Nat} (hm : 1 ≤ m) (l : List Bool) (S : Store) : (P.at 100000 m).cf "" "_law_number" [bits l] S = .ok (nat (numB l)) S := by
  rcases Nat.exists_eq_add_of_le' hm with ⟨k_, hk_⟩
  subst hk_
  rw [cfE]
  refine runF_of rfl ?_
  clear hm
  simp [L.ir_L_number]
  rw [forL_fold (fun v => [.val (bits l), .val (nat v), .un]) (fun v b => 2 * v + b.toNat) 0 rfl]
  · simp [numB]
  · intro v b _
    cases b <;> simp [loop1]
end
theorem asB_zero (n : Nat) : asB n 0 = [] := rfl
theorem asB_succ (n w : Nat) : asB n (w + 1) = n.testBit w :: asB n w := by
  unfold asB
  rw [List.range_succ_eq_map]
  simp only [List.map_cons, List.map_map]
  congr 1
  apply List.map_congr_left
  intro i _
  simp only [Function.comp_apply]
  congr 1
  omega
theorem asB_half (n w : Nat) : asB n (w + 1) = asB (n / 2) w ++ [n.testBit 0] := by
  apply List.ext_getElem
  · simp
  · intro i h1 h2
    simp only [asB_len] at h1
    by_cases h : i < w
    · rw [List.getElem_append_left (by simpa using h)]
      simp only [asB, List.getElem_map, List.getElem_range]
      rw [Nat.testBit_div_two]
      congr 1
      omega
    · have : i = w := by omega
      subst this
      rw [List.getElem_append_right (by simp)]
      simp [asB]
section
variable [FN P "" "_law_as" L.ir_L_as]
theorem asB_shift (n j w : Nat) : asB (n / 2 ^ j) (w + 1) = asB (n / 2 ^ (j + 1)) w ++ [n.testBit j] := by
  rw [asB_half, Nat.div_div_eq_div_mul, ← Nat.pow_succ, Nat.testBit_div_two_pow]
  simp
@[simp] theorem law_as_N {m : Nat} (hm : 1 ≤ m) (n : Nat) {w : Nat} (hw : w ≤ 20000) (S : Store) : (P.at 100000 m).cf "" "_law_as" [nat n, nat w] S = .ok (bits (asB n w)) S := by
  rcases Nat.exists_eq_add_of_le' hm with ⟨k_, hk_⟩
  subst hk_
  rw [cfE]
  refine runF_of rfl ?_
  clear hm
  have hw2 : w < 4611686018427387904 := by omega
  simp [L.ir_L_as, hw2]
  rw [forL_pre (fun p => [.val (nat (n / 2 ^ p.length)), .val (nat w), .val (bits (asB n p.length)), .un]) (by simp; rfl)]
  · simp
  · intro p x q e
    have hp : p.length < w := by have := congrArg List.length e; simp at this; omega
    have hb : (idxL [48, 49] (nat (n / 2 ^ p.length % 2))) = some (bit (n.testBit p.length)) := by
      rw [mod1]
      cases n.testBit p.length <;> rfl
    have hll : p.length + 1 ≤ 16777216 := by omega
    have hll2 : 1 + p.length ≤ 16777216 := by omega
    simp [loop1, hb, hll, hll2, Nat.div_div_eq_div_mul, Nat.pow_succ, asB_succ]
end
end Z

set_option Elab.async false
set_option linter.all false
set_option maxRecDepth 100000
set_option maxHeartbeats 4000000
set_option exponentiation.threshold 1000
namespace Z
open PySem (Operator CmpOp)
variable {P : Prg}
/-! ### draws -/
/-- the town -/
def tw (a b : Nat) : Cell := .lst [nat a, nat b]
theorem fmodN {i : Int} {m : Nat} (h : 0 < m) : ∃ r : Nat, i.fmod m = r ∧ r < m := by
  have h1 : 0 ≤ i.fmod m := Int.fmod_nonneg_of_pos i (by omega)
  have h2 : i.fmod m < m := Int.fmod_lt_of_pos i (by omega)
  exact ⟨(i.fmod m).toNat, by omega, by omega⟩
theorem bin_modI {i : Int} {m : Nat} (h : 0 < m) : ∃ r : Nat, binD .Mod (.int i) (nat m) = some (.val (nat r)) ∧ r < m := by
  obtain ⟨r, e, hr⟩ := fmodN (i := i) h
  refine ⟨r, ?_, hr⟩
  show (if (m : Int) = 0 then none else some (Ent.val (.int (i.fmod m)))) = _
  rw [if_neg (by omega), e]
  rfl
theorem upd_obj {env : List Ent} {S : Store} {t : Nat} {xs : List D} (h : S[t]? = some (.lst xs)) (f : D → Option (D × D)) : upd1 ⟨env, S⟩ (.val (.obj t)) f = opt (f (.lst xs)) fun p => opt (dCell p.1) fun c => .ok (.val p.2) ⟨env, S.set t c⟩ := by
  show opt ((S[t]?).bind cellD) _ = _
  rw [h]
  rfl
@[simp] theorem idx_tw (S : Store) (a b : Nat) (k : D) : idxD (tw a b :: S) (.obj 0) k = idxL [nat a, nat b] k := (rfl)
@[simp] theorem lstOf_tw (S : Store) (a b : Nat) : lstOf (tw a b :: S) (.obj 0) = some [nat a, nat b] := (rfl)
@[simp] theorem upd_tw (env : List Ent) (S : Store) (a b : Nat) (f : D → Option (D × D)) : upd1 ⟨env, tw a b :: S⟩ (.val (.obj 0)) f = opt (f (.lst [nat a, nat b])) fun p => opt (dCell p.1) fun c => .ok (.val p.2) ⟨env, c :: S⟩ := by
  rw [upd_obj (xs := [nat a, nat b]) rfl]
  rfl
@[simp] theorem dCell_tw (a b : Nat) : dCell (.lst [nat a, nat b]) = some (tw a b) := (rfl)
@[simp] theorem setD_n0 (x d : D) (xs : List D) : setD (.lst (x :: xs)) (nat 0) d = some (.lst (d :: xs)) := by
  show (ixN (xs.length + 1) 0).map _ = _
  rw [show ixN (xs.length + 1) 0 = some 0 from ixN_nat (a := 0) (by omega)]
  rfl
@[simp] theorem setD_n1 (x y d : D) (xs : List D) : setD (.lst (x :: y :: xs)) (nat 1) d = some (.lst (x :: d :: xs)) := by
  show (ixN (xs.length + 1 + 1) 1).map _ = _
  rw [show ixN (xs.length + 1 + 1) 1 = some 1 from ixN_nat (a := 1) (by omega)]
  rfl
theorem idx_scrN {S : Store} {xs : List Int} {a : Nat} (h : a < xs.length) : idxD S (.scr xs) (nat a) = some (.int xs[a]) := by
  rw [idx_scr, idxL_nat h]
  rfl
theorem bin_mulI (i j : Int) : binD .Mult (.int i) (.int j) = if mulOk i j = true then some (.val (.int (i * j))) else none := (rfl)
theorem big120 : binD .Mult (nat 1000000000000000000000000000000000000000000000000000000000000) (nat 1000000000000000000000000000000000000000000000000000000000000) = some (.val (nat 1000000000000000000000000000000000000000000000000000000000000000000000000000000000000000000000000000000000000000000000000)) := by
  unfold nat
  rw [bin_mulI, if_pos (by decide +kernel), ← Int.natCast_mul]
theorem leI {k : Nat} {y : Int} : leD (nat k) (.int y) = some (decide ((k : Int) ≤ y)) := (rfl)
theorem mulI {y : Int} {k : Nat} (h : k < 18446744073709551616) : binD .Mult (.int y) (nat k) = some (.val (.int (y * k))) := by
  unfold nat
  rw [bin_mulI]
  have e : mulOk y (k : Int) = true := by
    unfold mulOk
    rw [show Nat.blt (k : Int).natAbs 18446744073709551616 = true from blt_iff.mpr h, Bool.or_true]
    rfl
  rw [if_pos e]
theorem addI {y : Int} {k : Nat} : binD .Add (.int y) (nat k) = some (.val (.int (y + k))) := (rfl)
theorem fdvI {y : Int} {k : Nat} (h : k ≠ 0) (h2 : k < 1073741824) : binD .FloorDiv (.int y) (nat k) = some (.val (.int (y.fdiv k))) := by
  show (if (k : Int) ≠ 0 ∧ Nat.blt (k : Int).natAbs 1073741824 = true then _ else _) = _
  rw [if_pos ⟨by omega, blt_iff.mpr h2⟩]
section
variable [FN P "" "_law_draw" L.ir_L_draw]
theorem draw_N {k : Nat} (hk : 1 ≤ k) {ns : List Int} {m : Nat} (hm : 0 < m) (hm2 : m < 1073741824) (a b : Nat) (S : Store) :
    ∃ r a' b', (P.at 100000 k).cf "" "_law_draw" [.scr ns, .obj 0, nat m] (tw a b :: S) = .ok (nat r) (tw a' b' :: S) ∧ r < m := by
  rcases Nat.exists_eq_add_of_le' hk with ⟨k, hk⟩; subst hk; rw [cfE]
  have hm0 : m ≠ 0 := by omega
  by_cases hb0 : 0 < b
  · refine ⟨b % m, a, b / m, runF_of rfl ?_, Nat.mod_lt _ hm⟩
    simp [L.ir_L_draw, hb0, hm0, hm2, putI]
  · have hbz : b = 0 := by omega
    subst hbz
    by_cases hn : ns = []
    · subst hn
      refine ⟨a % m, a + 1, 0, runF_of rfl ?_, Nat.mod_lt _ hm⟩
      simp [L.ir_L_draw, hm0, hm2, putI]
    · have hn2 : ns.isEmpty = false := by cases ns with | nil => exact absurd rfl hn | cons _ _ => rfl
      have hlen : 0 < ns.length := by cases ns with | nil => exact absurd rfl hn | cons _ _ => exact Nat.succ_pos _
      have hlen2 : ns.length ≠ 0 := by omega
      obtain ⟨z, hz⟩ : ∃ z, ∀ S, idxD S (.scr ns) (nat (a % ns.length)) = some (.int z) := ⟨_, fun S => idx_scrN (S := S) (Nat.mod_lt _ hlen)⟩
      obtain ⟨r, hr, hr2⟩ := bin_modI (i := z * (1103515245 : Nat) + (7919 * a : Nat) + (12345 : Nat)) (m := 2147483647) (by decide)
      have m1 := mulI (y := z) (k := 1103515245) (by decide)
      have m2 : binD .Add (.int (z * (1103515245 : Nat))) (nat (7919 * a)) = _ := addI
      have m3 : binD .Add (.int (z * (1103515245 : Nat) + (7919 * a : Nat))) (nat 12345) = _ := addI
      generalize z * ((1103515245 : Nat) : Int) + ((7919 * a : Nat) : Int) + ((12345 : Nat) : Int) = w2 at hr m3
      generalize z * ((1103515245 : Nat) : Int) + ((7919 * a : Nat) : Int) = w1 at m2 m3
      generalize z * ((1103515245 : Nat) : Int) = w0 at m1 m2
      have hr3 : r < 18446744073709551616 := by omega
      by_cases ha1 : a < ns.length
      · obtain ⟨y, hy⟩ : ∃ y, ∀ S, idxD S (.scr ns) (nat a) = some (.int y) := ⟨_, fun S => idx_scrN (S := S) ha1⟩
        have hle := leI (k := 1000000000000000000) (y := y)
        obtain ⟨q1, e1, e2⟩ := bin_modI (i := y) hm
        have f1 := fdvI (y := y) hm0 hm2
        obtain ⟨q2, e3, e4⟩ := bin_modI (i := y.fdiv m) (m := 1000000000000000000000000000000000000000000000000000000000000000000000000000000000000000000000000000000000000000000000000) (by decide)
        generalize y.fdiv m = y2 at f1 e3
        by_cases hy1 : ((1000000000000000000 : Nat) : Int) ≤ y
        · refine ⟨q1, a + 1, q2, runF_of rfl ?_, e2⟩
          rw [decide_eq_true hy1] at hle
          simp [L.ir_L_draw, putI, hn, hn2, ha1, hy, hle, big120, f1, e1, e3]
        · rw [decide_eq_false hy1] at hle
          refine ⟨r ^ 5 % 2147483647 % 999983 % m, a + 1, 0, runF_of rfl ?_, Nat.mod_lt _ hm⟩
          simp [L.ir_L_draw, hm0, putI, hn, hn2, ha1, hy, hle, hz, hlen2, hr, hr3, m1, m2, m3]
      · refine ⟨r ^ 5 % 2147483647 % 999983 % m, a + 1, 0, runF_of rfl ?_, Nat.mod_lt _ hm⟩
        simp [L.ir_L_draw, hm0, putI, hn, hn2, ha1, hz, hlen2, hr, hr3, m1, m2, m3]
variable [FN P "" "_law_pick" L.ir_L_pick]
theorem pick_N {k : Nat} (hk : 2 ≤ k) {ns : List Int} {xs : List D} (hx : 0 < xs.length) (hx2 : xs.length < 1073741824) (a b : Nat) (S : Store) :
    ∃ d a' b', (P.at 100000 k).cf "" "_law_pick" [.scr ns, .obj 0, .lst xs] (tw a b :: S) = .ok d (tw a' b' :: S) ∧ d ∈ xs := by
  rcases Nat.exists_eq_add_of_le' hk with ⟨k, hk⟩; subst hk; rw [cfE]
  obtain ⟨r, a', b', e, hr⟩ := draw_N (P := P) (k := k + 1) (by omega) (ns := ns) hx hx2 a b S
  refine ⟨xs[r], a', b', runF_of rfl ?_, List.getElem_mem hr⟩
  simp [L.ir_L_pick, e, hr]
end
/-- comprehensions whose turns draw -/
theorem compL_draw {α : Type} {tg own : List Nat} {el : Ev} {tt : EvB} {S : Store} {env : List Ent} {enc : α → D} {p : α → Prop} : ∀ {ds : List D}, (∀ d ∈ ds, ∀ a b, ∃ s1 r env2 a' b' v, bindT tg d ⟨env, tw a b :: S⟩ = some s1 ∧ tt s1 = .ok true s1 ∧ el s1 = .ok r ⟨env2, tw a' b' :: S⟩ ∧ frz r = some (enc v) ∧ unset env2 own = env ∧ p v) →
    ∀ a b, ∃ (vs : List α) (a' b' : Nat), compL tg own el tt ds ⟨env, tw a b :: S⟩ = .ok (vs.map enc) ⟨env, tw a' b' :: S⟩ ∧ vs.length = ds.length ∧ ∀ v ∈ vs, p v
  | [], _, a, b => ⟨[], a, b, rfl, rfl, fun v hv => by cases hv⟩
  | d :: ds, h, a, b => by
    obtain ⟨s1, r, env2, a1, b1, v, e1, e2, e3, e4, e5, e6⟩ := h d List.mem_cons_self a b
    obtain ⟨vs, a', b', q1, q2, q3⟩ := compL_draw (fun x hx => h x (List.mem_cons_of_mem _ hx)) a1 b1
    refine ⟨v :: vs, a', b', ?_, congrArg Nat.succ q2, fun u hu => (List.mem_cons.mp hu).elim (fun e => e ▸ e6) (q3 u)⟩
    unfold compL
    rw [e1]
    dsimp only
    rw [e2]
    dsimp only
    rw [e3]
    dsimp only
    rw [e4]
    dsimp only
    rw [e5, q1]
    rfl
theorem compK_draw {Γ : Gam} {el : E} {tg own : List Nat} {ifs : Es} {α : Type} {S : Store} {env : List Ent} {enc : α → D} {p : α → Prop} {ds : List D} (hl : ds.length ≤ 16777216)
    (h : ∀ d ∈ ds, ∀ a b, ∃ s1 r env2 a' b' v, bindT tg d ⟨unset env own, tw a b :: S⟩ = some s1 ∧ evTs Γ ifs s1 = .ok true s1 ∧ evE Γ false el s1 = .ok r ⟨env2, tw a' b' :: S⟩ ∧ frz r = some (enc v) ∧ unset env2 own = unset env own ∧ p v) (a b : Nat) :
    ∃ (vs : List α) (a' b' : Nat), compK Γ el tg own ifs ds ⟨env, tw a b :: S⟩ = .ok (.own (.lst (vs.map enc))) ⟨back env (unset env own) own, tw a' b' :: S⟩ ∧ vs.length = ds.length ∧ ∀ v ∈ vs, p v := by
  obtain ⟨vs, a', b', e, h1, h2⟩ := compL_draw (enc := enc) (p := p) h a b
  refine ⟨vs, a', b', ?_, h1, h2⟩
  unfold compK
  rw [if_pos hl]
  rw [e]
section
variable [FN P "" "_law_draw" L.ir_L_draw]
variable [FN P "" "_law_so_many" L.ir_L_so_many]
theorem idx01L {r : Nat} (h : r < 2) : idxL [48, 49] (nat r) = some (bit (r == 1)) := by
  rcases (by omega : r = 0 ∨ r = 1) with rfl | rfl <;> rfl
theorem idx01 (S : Store) {r : Nat} (h : r < 2) : idxD S (.str [48, 49]) (nat r) = some (bits [r == 1]) := by
  rcases (by omega : r = 0 ∨ r = 1) with rfl | rfl <;> rfl
theorem so_many_N {k : Nat} (hk : 2 ≤ k) {ns : List Int} {m : Nat} (hm : m ≤ 20000) (a b : Nat) (S : Store) :
    ∃ l a' b', (P.at 100000 k).cf "" "_law_so_many" [.scr ns, .obj 0, nat m] (tw a b :: S) = .ok (bits l) (tw a' b' :: S) ∧ l.length = m := by
  rcases Nat.exists_eq_add_of_le' hk with ⟨k, hk⟩; subst hk; rw [cfE]
  obtain ⟨vs, a', b', e, h1, h2⟩ := compK_draw (Γ := P.at 100000 (k + 1)) (el := .idx (.cst (.str [48, 49])) (.call "_law_draw" (.cons (.var 0) (.cons (.var 1) (.cons (.cst (nat 2)) .nil))) [] .nil [])) (tg := [3]) (own := [3]) (ifs := .nil) (env := [.val (.scr ns), .val (.obj 0), .val (nat m), .un]) (enc := fun b : Bool => bits [b]) (p := fun _ => True) (S := S) (ds := (List.range m).map nat) (by simp; omega) (by
    intro d _ a b
    obtain ⟨r, a', b', e, hr⟩ := draw_N (P := P) (k := k + 1) (by omega) (ns := ns) (m := 2) (by omega) (by omega) a b S
    refine ⟨_, .val (bits [r == 1]), [.val (.scr ns), .val (.obj 0), .val (nat m), .val d], a', b', r == 1, rfl, rfl, ?_, rfl, rfl, trivial⟩
    simp [e, idx01L hr]) a b
  simp at h1
  refine ⟨vs, a', b', runF_of rfl ?_, h1⟩
  have hm2 : m < 4611686018427387904 := by omega
  have hj := join_ones (fun b : Bool => b) vs (by omega)
  simp at hj
  simp [L.ir_L_so_many, hm2, e, hj]
variable [FN P "" "_law_bits" L.ir_L_bits]
theorem bits_N {k : Nat} (hk : 2 ≤ k) {ns : List Int} {m : Nat} (hm : m ≤ 20000) (a b : Nat) (S : Store) :
    ∃ l a' b', (P.at 100000 k).cf "" "_law_bits" [.scr ns, .obj 0, nat m] (tw a b :: S) = .ok (bits l) (tw a' b' :: S) ∧ l.length ≤ m := by
  rcases Nat.exists_eq_add_of_le' hk with ⟨k, hk⟩; subst hk; rw [cfE]
  obtain ⟨r, a0, b0, e0, hr⟩ := draw_N (P := P) (k := k + 1) (by omega) (ns := ns) (m := m + 1) (by omega) (by omega) a b S
  obtain ⟨vs, a', b', e, h1, h2⟩ := compK_draw (Γ := P.at 100000 (k + 1)) (el := .idx (.cst (.str [48, 49])) (.call "_law_draw" (.cons (.var 0) (.cons (.var 1) (.cons (.cst (nat 2)) .nil))) [] .nil [])) (tg := [3]) (own := [3]) (ifs := .nil) (env := [.val (.scr ns), .val (.obj 0), .val (nat m), .un]) (enc := fun b : Bool => bits [b]) (p := fun _ => True) (S := S) (ds := (List.range r).map nat) (by simp; omega) (by
    intro d _ a b
    obtain ⟨r, a', b', e, hr⟩ := draw_N (P := P) (k := k + 1) (by omega) (ns := ns) (m := 2) (by omega) (by omega) a b S
    refine ⟨_, .val (bits [r == 1]), [.val (.scr ns), .val (.obj 0), .val (nat m), .val d], a', b', r == 1, rfl, rfl, ?_, rfl, rfl, trivial⟩
    simp [e, idx01L hr]) a0 b0
  simp at h1
  refine ⟨vs, a', b', runF_of rfl ?_, by omega⟩
  have hm2 : r < 4611686018427387904 := by omega
  have hj := join_ones (fun b : Bool => b) vs (by omega)
  simp at hj
  simp [L.ir_L_bits, hm2, e0, e, hj]
end
end Z

set_option Elab.async false
set_option linter.all false
set_option maxRecDepth 100000
set_option maxHeartbeats 4000000
set_option exponentiation.threshold 1000
namespace Z
open PySem (Operator CmpOp)
variable {P : Prg}
/-! ### the size of a number in bits -/
def sz (x : Nat) : Nat := if x = 0 then 0 else x.log2 + 1
theorem sz_zero : sz 0 = 0 := rfl
theorem sz_le {x k : Nat} : sz x ≤ k ↔ x < 2 ^ k := by
  unfold sz
  by_cases h : x = 0
  · subst h; simp [Nat.pow_pos]
  · rw [if_neg h]
    have := Nat.log2_lt (n := x) (k := k) h
    omega
theorem lt_sz {x : Nat} : x < 2 ^ sz x := sz_le.mp (Nat.le_refl _)
theorem sz_eq_zero {x : Nat} : sz x = 0 ↔ x = 0 := by
  unfold sz
  split <;> simp_all
theorem sz_pow_le {x k : Nat} (h : k < sz x) : 2 ^ k ≤ x := by
  apply Nat.le_of_not_lt
  intro h2
  have := sz_le.mpr h2
  omega
theorem sz_div {x i : Nat} : 0 < x / 2 ^ i ↔ i < sz x := by
  constructor
  · intro h
    apply Nat.lt_of_not_le
    intro h2
    have := Nat.div_eq_of_lt (sz_le.mp h2)
    omega
  · intro h
    exact Nat.div_pos (sz_pow_le h) (Nat.pow_pos (by decide))
theorem sz_mul {x k : Nat} (h : x ≠ 0) : sz (x * 2 ^ k) = sz x + k := by
  apply Nat.le_antisymm
  · rw [sz_le, Nat.pow_add]
    exact Nat.mul_lt_mul_of_pos_right lt_sz (Nat.pow_pos (by decide))
  · apply Nat.le_of_not_lt
    intro h2
    have h3 : sz x ≠ 0 := fun e => h (sz_eq_zero.mp e)
    have h4 := sz_le.mp (Nat.le_sub_one_of_lt h2)
    have h5 : sz x + k - 1 = (sz x - 1) + k := by omega
    rw [h5, Nat.pow_add] at h4
    have h6 := Nat.lt_of_mul_lt_mul_right h4
    have h7 := sz_pow_le (x := x) (k := sz x - 1) (by omega)
    omega
theorem sz_top {x : Nat} (h : x ≠ 0) : x.testBit (sz x - 1) = true := by
  have h3 : sz x ≠ 0 := fun e => h (sz_eq_zero.mp e)
  have h1 := sz_pow_le (x := x) (k := sz x - 1) (by omega)
  have h2 := lt_sz (x := x)
  have e : 2 ^ sz x = 2 * 2 ^ (sz x - 1) := by
    have : sz x = (sz x - 1) + 1 := by omega
    rw [this, Nat.pow_succ]
    simp
    omega
  rw [Nat.testBit_eq_decide_div_mod_eq]
  have : x / 2 ^ (sz x - 1) = 1 := by
    apply Nat.div_eq_of_lt_le
    · omega
    · omega
  rw [this]
  rfl
theorem sz_xor {x y : Nat} (h : sz x = sz y) (h0 : x ≠ 0) : sz (x ^^^ y) < sz x := by
  have h3 : sz x ≠ 0 := fun e => h0 (sz_eq_zero.mp e)
  have hy : y ≠ 0 := fun e => by subst e; exact h3 h
  have : sz (x ^^^ y) ≤ sz x - 1 := by
    rw [sz_le]
    apply Nat.lt_pow_two_of_testBit
    intro i hi
    rw [Nat.testBit_xor]
    by_cases h5 : i = sz x - 1
    · rw [h5, sz_top h0]
      have := sz_top hy
      rw [← h] at this
      rw [this]
      rfl
    · have a1 : x < 2 ^ i := Nat.lt_of_lt_of_le lt_sz (Nat.pow_le_pow_right (by decide) (by omega))
      have a2 : y < 2 ^ i := Nat.lt_of_lt_of_le lt_sz (Nat.pow_le_pow_right (by decide) (by omega))
      rw [Nat.testBit_lt_two_pow a1, Nat.testBit_lt_two_pow a2]
      rfl
  omega
section
variable [FN P "" "degree" L.ir_degree]
theorem degree_N {m : Nat} (hm : 1 ≤ m) (x : Nat) (hx : sz x < 100000) (S : Store) : (P.at 100000 m).cf "" "degree" [nat x] S = .ok (.int ((sz x : Int) - 1)) S := by
  refine Exists.elim (Nat.exists_eq_add_of_le' hm) (fun k hk => ?_)
  subst hk
  rw [cfE]
  refine runF_of rfl ?_
  clear hm
  have e4 : binD .Sub (nat 0) (nat 1) = some (.val (.int (-1))) := rfl
  simp [L.ir_degree, e4]
  rw [whl_rw (fun i : Nat => [.val (nat (x / 2 ^ i)), .val (.int ((i : Int) - 1))]) [.val (nat 0), .val (.int ((sz x : Int) - 1))] 0 (fun i => decide (0 < x / 2 ^ i)) (fun i => i ≤ sz x) (fun i => sz x - i) (by simp) (Nat.zero_le _) (by omega)]
  · simp
  · intro i hi hg
    have h1 : ¬ i < sz x := fun h => by have := sz_div.mpr h; simp [this] at hg
    have : i = sz x := by omega
    subst this
    rw [Nat.div_eq_of_lt lt_sz]
  · intro i hi
    simp [tst_eq]
  · intro i hi hg
    have hg2 := sz_div.mp (of_decide_eq_true hg)
    refine ⟨⟨[.val (nat (x / 2 ^ (i + 1))), .val (.int (((i + 1 : Nat) : Int) - 1))], S⟩, i + 1, ?_, rfl, by omega, by omega⟩
    have e2 : binD .Add (.int ((i : Int) - 1)) (nat 1) = some (.val (.int (((i + 1 : Nat) : Int) - 1))) := by
      rw [addI]
      congr 3
      omega
    generalize (((i + 1 : Nat) : Int) - 1) = w at e2
    simp [e2, Nat.div_div_eq_div_mul, Nat.pow_succ]
end
/-! ### rests -/
def restF : Nat → Nat → Nat → Nat
  | 0, x, _ => x
  | n + 1, x, y => if sz y ≤ sz x then restF n (x ^^^ y * 2 ^ (sz x - sz y)) y else x
/-- the rest of a polynomial over bits by another one -/
def restP (x y : Nat) : Nat := restF (sz x + 1) x y
theorem rest_dec {x y : Nat} (hy : y ≠ 0) (h : sz y ≤ sz x) : sz (x ^^^ y * 2 ^ (sz x - sz y)) < sz x := by
  have hy2 : sz y ≠ 0 := fun e => hy (sz_eq_zero.mp e)
  apply sz_xor
  · rw [sz_mul hy]; omega
  · intro e; subst e; rw [sz_zero] at h; omega
theorem restF_more {y : Nat} (hy : y ≠ 0) : ∀ n m x, sz x < n → sz x < m → restF n x y = restF m x y := by
  intro n
  induction n with
  | zero => intro m x h; omega
  | succ n ih =>
    intro m x h1 h2
    cases m with
    | zero => omega
    | succ m =>
      unfold restF
      by_cases h : sz y ≤ sz x
      · rw [if_pos h, if_pos h]
        have := rest_dec hy h
        exact ih m _ (by omega) (by omega)
      · rw [if_neg h, if_neg h]
theorem restP_step {x y : Nat} (hy : y ≠ 0) (h : sz y ≤ sz x) : restP x y = restP (x ^^^ y * 2 ^ (sz x - sz y)) y := by
  have := rest_dec hy h
  conv => lhs; unfold restP restF
  rw [if_pos h]
  exact restF_more hy _ _ _ (by omega) (by omega)
theorem restP_end {x y : Nat} (h : sz x < sz y) : restP x y = x := by
  unfold restP restF
  rw [if_neg (by omega)]
theorem restP_lt {x y : Nat} (hy : y ≠ 0) : sz (restP x y) < sz y := by
  have key : ∀ n x, sz x < n → sz (restP x y) < sz y := by
    intro n
    induction n with
    | zero => intro x h; omega
    | succ n ih =>
      intro x hx
      by_cases h : sz y ≤ sz x
      · rw [restP_step hy h]
        have := rest_dec hy h
        exact ih _ (by omega)
      · rw [restP_end (by omega)]; omega
  exact key (sz x + 1) x (by omega)
theorem subII {i j : Int} : binD .Sub (.int i) (.int j) = some (.val (.int (i - j))) := (rfl)
theorem leII {i j : Int} : leD (.int i) (.int j) = some (decide (i ≤ j)) := (rfl)
section
variable [FN P "" "degree" L.ir_degree] [FN P "" "rest_plain" L.ir_rest_plain]
theorem rest_plain_N {m : Nat} (hm : 2 ≤ m) (x y : Nat) (hx : sz x < 99999) (hy : y < 18446744073709551616) (hy0 : y ≠ 0) (S : Store) : (P.at 100000 m).cf "" "rest_plain" [nat x, nat y] S = .ok (nat (restP x y)) S := by
  refine Exists.elim (Nat.exists_eq_add_of_le' hm) (fun k hk => ?_)
  subst hk
  rw [cfE]
  refine runF_of rfl ?_
  clear hm
  have hsy : sz y ≤ 64 := sz_le.mpr hy
  have hd : ∀ x : Nat, sz x < 99999 → (P.at 100000 (k + 1)).cf "" "degree" [nat x] S = .ok (.int ((sz x : Int) - 1)) S := fun x h => degree_N (by omega) x (by omega) S
  have h2 := hd y (by omega)
  simp [L.ir_rest_plain, h2]
  rw [whl_rw (fun x : Nat => [.val (nat x), .val (nat y), .val (.int ((sz y : Int) - 1))]) [.val (nat (restP x y)), .val (nat y), .val (.int ((sz y : Int) - 1))] x (fun x => decide (sz y ≤ sz x)) (fun z => sz z < 99999 ∧ restP z y = restP x y) (fun x => sz x) rfl ⟨hx, rfl⟩ (by omega)]
  · simp
  · intro z hz hg
    rw [← hz.2, restP_end (by simpa using hg)]
  · intro z hz
    have h1 := hd z hz.1
    have h2 : leD (.int ((sz y : Int) - 1)) (.int ((sz z : Int) - 1)) = some (decide (sz y ≤ sz z)) := by
      rw [leII]
      congr 1
      rw [Bool.eq_iff_iff]
      simp only [decide_eq_true_eq]
      omega
    generalize ((sz y : Int) - 1) = u at h2 ⊢
    generalize ((sz z : Int) - 1) = v at h1 h2
    simp [tst_eq, h1, h2, -leD_int]
  · intro z hz hg
    have hg2 := of_decide_eq_true hg
    have h1 := hd z hz.1
    have h2 : binD .Sub (.int ((sz z : Int) - 1)) (.int ((sz y : Int) - 1)) = some (.val (nat (sz z - sz y))) := by
      rw [subII, int_nn (by omega)]
      congr 3
      omega
    have h3 := rest_dec hy0 hg2
    refine ⟨⟨[.val (nat (z ^^^ y * 2 ^ (sz z - sz y))), .val (nat y), .val (.int ((sz y : Int) - 1))], S⟩, z ^^^ y * 2 ^ (sz z - sz y), ?_, rfl, ⟨by omega, ?_⟩, h3⟩
    · have h4 : sz z - sz y ≤ 1000000 := by omega
      generalize ((sz y : Int) - 1) = u at h2 ⊢
      generalize ((sz z : Int) - 1) = v at h1 h2
      simp [h1, h2, hy, h4, valOf, -bin_sub]
    · rw [← hz.2, restP_step hy0 hg2]
variable [FN P "" "is_rule_of" L.ir_is_rule_of]
/-- whether a number is a rule -/
def isRule (r w : Nat) : Bool := (upto 2 (2 ^ (w / 2 + 1))).all fun o => decide (restP r o ≠ 0)
theorem pow8 {w : Nat} (h : w ≤ 16) : 2 ^ w ≤ 65536 := Nat.pow_le_pow_right (n := 2) (j := 16) (by decide) h
theorem is_rule_of_N {m : Nat} (hm : 3 ≤ m) (r w : Nat) (hr : sz r < 99999) (hw : w ≤ 8) (S : Store) : (P.at 100000 m).cf "" "is_rule_of" [nat r, nat w] S = .ok (.bl (isRule r w)) S := by
  refine Exists.elim (Nat.exists_eq_add_of_le' hm) (fun k hk => ?_)
  subst hk
  rw [cfE]
  refine runF_of rfl ?_
  clear hm
  have h1 : w / 2 + 1 ≤ 1000000 := by omega
  have h2 := pow8 (w := w / 2 + 1) (by omega)
  have h3 : 2 ^ (w / 2 + 1) < 4611686018427387904 := by omega
  generalize hq : w / 2 + 1 = q at h1 h2 h3
  simp [L.ir_is_rule_of, hq, h1, h3]
  rw [compK_map (fun o => .bl (decide (restP r o ≠ 0))) (by rw [len_upto]; omega)]
  · simp
    rw [all_map]
    subst hq
    simp [isRule]
  · intro o ho
    obtain ⟨o1, o2⟩ := mem_upto.mp ho
    have q1 := rest_plain_N (P := P) (m := k + 2) (by omega) r o hr (by omega) (by omega) S
    simp [turn, q1, eqN]
end
section
variable [FN P "" "need_width" L.ir_need_width] [FN P "" "is_whole" L.ir_is_whole] [TY P "int"] [TY P "bool"]
theorem need_width_D {m : Nat} (hm : 2 ≤ m) {d : D} (hd : d.data = true) (S : Store) : (P.at 100000 m).cf "" "need_width" [d] S = if isWhole 2 8 d = true then .ok .non S else .exc "NoNumber" S := by
  refine Exists.elim (Nat.exists_eq_add_of_le' hm) (fun k hk => ?_)
  subst hk
  rw [cfE]
  refine runF_of rfl ?_
  clear hm
  have h := is_whole_DN (P := P) (m := k + 1) (by omega) hd 2 8 S
  cases h2 : isWhole 2 8 d <;> simp [L.ir_need_width, h, h2]
theorem need_width_N {m : Nat} (hm : 2 ≤ m) {w : Nat} (hw : 2 ≤ w ∧ w ≤ 8) (S : Store) : (P.at 100000 m).cf "" "need_width" [nat w] S = .ok .non S := by
  rw [need_width_D hm rfl]
  have : isWhole 2 8 (nat w) = true := by
    have := isWhole_nat 2 8 w
    exact this.trans (decide_eq_true hw)
  rw [if_pos this]
variable [FN P "" "degree" L.ir_degree] [FN P "" "rest_plain" L.ir_rest_plain] [FN P "" "is_rule_of" L.ir_is_rule_of] [FN P "" "is_rule" L.ir_is_rule]
theorem pow_split (w : Nat) : (2 : Nat) ^ (w + 1) = 2 * 2 ^ w := by rw [Nat.pow_succ]; omega
theorem is_rule_N {m : Nat} (hm : 4 ≤ m) (r : Nat) {w : Nat} (hw : 2 ≤ w ∧ w ≤ 8) (S : Store) : (P.at 100000 m).cf "" "is_rule" [nat r, nat w] S = .ok (.bl (decide (2 ^ w ≤ r ∧ r < 2 ^ (w + 1)) && isRule r w)) S := by
  refine Exists.elim (Nat.exists_eq_add_of_le' hm) (fun k hk => ?_)
  subst hk
  rw [cfE]
  refine runF_of rfl ?_
  clear hm
  have h1 := need_width_N (P := P) (m := k + 3) (by omega) hw S
  have h2 := pow8 (w := w + 1) (by omega)
  have h3 : w ≤ 1000000 := by omega
  have h4 : w + 1 ≤ 1000000 := by omega
  have h5 : 1 ≤ 2 ^ (w + 1) := Nat.pow_pos (by decide)
  have e : (r ≤ 2 ^ (w + 1) - 1) = (r < 2 ^ (w + 1)) := by rw [eq_iff_iff]; omega
  by_cases h : 2 ^ w ≤ r ∧ r < 2 ^ (w + 1)
  · have h6 : sz r < 99999 := by
      have := sz_le.mpr h.2
      omega
    have h7 := is_rule_of_N (P := P) (m := k + 3) (by omega) r w h6 hw.2 S
    simp [L.ir_is_rule, h1, h3, h4, bin_subN h5, e, h, h7]
  · simp [L.ir_is_rule, h1, h3, h4, bin_subN h5, e, h]
variable [FN P "" "rules" L.ir_rules]
theorem rules_N {m : Nat} (hm : 4 ≤ m) {w : Nat} (hw : 2 ≤ w ∧ w ≤ 8) (S : Store) : (P.at 100000 m).cf "" "rules" [nat w] S = .ok (.lst (((upto (2 ^ w) (2 ^ (w + 1))).filter fun r => isRule r w).map nat)) S := by
  refine Exists.elim (Nat.exists_eq_add_of_le' hm) (fun k hk => ?_)
  subst hk
  rw [cfE]
  refine runF_of rfl ?_
  clear hm
  have h1 := need_width_N (P := P) (m := k + 3) (by omega) hw S
  have h2 := pow8 (w := w + 1) (by omega)
  have h2' := pow8 (w := w) (by omega)
  have h3 : w ≤ 1000000 := by omega
  have h4 : w + 1 ≤ 1000000 := by omega
  have h5 : 2 ^ w < 4611686018427387904 := by omega
  have h6 : 2 ^ (w + 1) < 4611686018427387904 := by omega
  simp [L.ir_rules, h1, h3, h4, h5, h6]
  rw [compK_filter (fun r => isRule r w) nat (by rw [len_upto]; omega)]
  · simp
  · intro r hr
    obtain ⟨o1, o2⟩ := mem_upto.mp hr
    have h7 := is_rule_of_N (P := P) (m := k + 3) (by omega) r w (by have := sz_le.mpr o2; omega) hw.2 S
    cases h8 : isRule r w <;> simp [turn, h7, h8]
end
end Z

set_option Elab.async false
set_option linter.all false
set_option maxRecDepth 100000
set_option maxHeartbeats 4000000
set_option exponentiation.threshold 1000
namespace Z
open PySem (Operator CmpOp)
variable {P : Prg}
/-! ### the law's own polynomials over bits -/
/-- the bits of a number, without 0 ahead -/
def plainB (n : Nat) : List Bool := asB n (sz n)
@[simp] theorem plainB_len (n : Nat) : (plainB n).length = sz n := asB_len _ _
theorem sz_half (n i : Nat) (h : i ≤ sz n) : sz (n / 2 ^ i) = sz n - i := by
  by_cases h0 : i = sz n
  · subst h0
    rw [Nat.div_eq_of_lt lt_sz]
    simp [sz_zero]
  · have h1 : n / 2 ^ i ≠ 0 := by have := (sz_div (x := n) (i := i)).mpr (by omega); omega
    apply Nat.le_antisymm
    · rw [sz_le]
      apply Nat.div_lt_of_lt_mul
      rw [← Nat.pow_add]
      have : i + (sz n - i) = sz n := by omega
      rw [this]
      exact lt_sz
    · apply Nat.le_of_not_lt
      intro h2
      have h3 := sz_le.mp (Nat.le_sub_one_of_lt h2)
      rw [Nat.div_lt_iff_lt_mul (Nat.pow_pos (by decide)), ← Nat.pow_add] at h3
      have := sz_le.mpr h3
      omega
section
variable [FN P "" "_law_plain" L.ir_L_plain]
@[simp] theorem plain_N {m : Nat} (hm : 1 ≤ m) (n : Nat) (hn : sz n ≤ 20000) (S : Store) : (P.at 100000 m).cf "" "_law_plain" [nat n] S = .ok (bits (plainB n)) S := by
  refine Exists.elim (Nat.exists_eq_add_of_le' hm) (fun k hk => ?_)
  subst hk
  rw [cfE]
  refine runF_of rfl ?_
  clear hm
  have e0 : D.str [] = bits [] := rfl
  simp [L.ir_L_plain, e0]
  rw [whl_rw (fun i : Nat => [.val (nat (n / 2 ^ i)), .val (bits (asB n i))]) [.val (nat 0), .val (bits (plainB n))] 0 (fun i => decide (0 < n / 2 ^ i)) (fun i => i ≤ sz n) (fun i => sz n - i) (by simp [asB_zero]) (Nat.zero_le _) (by omega)]
  · simp
  · intro i hi hg
    have h1 : ¬ i < sz n := fun h => by have := sz_div.mpr h; simp [this] at hg
    have : i = sz n := by omega
    subst this
    rw [Nat.div_eq_of_lt lt_sz]
    rfl
  · intro i hi
    simp [tst_eq]
  · intro i hi hg
    have hg2 := sz_div.mp (of_decide_eq_true hg)
    refine ⟨⟨[.val (nat (n / 2 ^ (i + 1))), .val (bits (asB n (i + 1)))], S⟩, i + 1, ?_, rfl, by omega, by omega⟩
    have hb : (idxL [48, 49] (nat (n / 2 ^ i % 2))) = some (bit (n.testBit i)) := by
      rw [mod1]
      cases n.testBit i <;> rfl
    have hll : 1 + i ≤ 16777216 := by omega
    simp [hb, hll, Nat.div_div_eq_div_mul, Nat.pow_succ, asB_succ]
variable [FN P "" "_law_rest" L.ir_L_rest]
theorem law_rest_N {m : Nat} (hm : 2 ≤ m) (x y : Nat) (hx : sz x ≤ 20000) (hy : y < 18446744073709551616) (hy0 : y ≠ 0) (S : Store) : (P.at 100000 m).cf "" "_law_rest" [nat x, nat y] S = .ok (nat (restP x y)) S := by
  refine Exists.elim (Nat.exists_eq_add_of_le' hm) (fun k hk => ?_)
  subst hk
  rw [cfE]
  refine runF_of rfl ?_
  clear hm
  have hsy : sz y ≤ 64 := sz_le.mpr hy
  have hsy2 : sz y ≤ 20000 := by omega
  have hsy3 : sz y ≤ 16777216 := by omega
  simp [L.ir_L_rest]
  rw [whl_rw (fun x : Nat => [.val (nat x), .val (nat y)]) [.val (nat (restP x y)), .val (nat y)] x (fun x => decide (sz y ≤ sz x)) (fun z => sz z ≤ 20000 ∧ restP z y = restP x y) (fun x => sz x) rfl ⟨hx, rfl⟩ (by omega)]
  · simp
  · intro z hz hg
    rw [← hz.2, restP_end (by simpa using hg)]
  · intro z hz
    have h3 : sz z ≤ 16777216 := by omega
    simp [tst_eq, hz.1, hsy2, h3, hsy3]
  · intro z hz hg
    have hg2 := of_decide_eq_true hg
    have h3 : sz z ≤ 16777216 := by omega
    have h4 : sz z - sz y ≤ 1000000 := by omega
    have h5 := rest_dec hy0 hg2
    refine ⟨⟨[.val (nat (z ^^^ y * 2 ^ (sz z - sz y))), .val (nat y)], S⟩, z ^^^ y * 2 ^ (sz z - sz y), ?_, rfl, ⟨by omega, ?_⟩, h5⟩
    · simp [hz.1, hsy2, h3, hsy3, bin_subN hg2, hy, h4]
    · rw [← hz.2, restP_step hy0 hg2]
end
/-- the product of two polynomials over bits: the first so many bits of the second one -/
def clmU (a b : Nat) : Nat → Nat
  | 0 => 0
  | n + 1 => if b.testBit n then clmU a b n ^^^ a * 2 ^ n else clmU a b n
def clm (a b : Nat) : Nat := clmU a b (sz b)
theorem clmU_lt {a b i j : Nat} (ha : a < 2 ^ i) : ∀ {n}, n ≤ j → clmU a b n < 2 ^ (i + j) := by
  intro n
  induction n with
  | zero => intro _; exact Nat.pow_pos (by decide)
  | succ n ih =>
    intro h
    have h1 := ih (by omega)
    have h2 : a * 2 ^ n < 2 ^ (i + j) := by
      rw [Nat.pow_add]
      apply Nat.lt_of_lt_of_le (Nat.mul_lt_mul_of_pos_right ha (Nat.pow_pos (by decide)))
      exact Nat.mul_le_mul_left _ (Nat.pow_le_pow_right (by decide) (by omega))
    unfold clmU
    split
    · exact Nat.xor_lt_two_pow h1 h2
    · exact h1
theorem clm_lt {a b i j : Nat} (ha : a < 2 ^ i) (hb : b < 2 ^ j) : clm a b < 2 ^ (i + j) := clmU_lt ha (sz_le.mpr hb)
theorem plainB_rev (n : Nat) : (plainB n).reverse = (List.range (sz n)).map n.testBit := by
  apply List.ext_getElem
  · simp
  · intro i h1 h2
    simp at h1
    rw [List.getElem_reverse]
    simp only [plainB, asB, List.getElem_map, List.getElem_range, List.length_map, List.length_range]
    congr 1
    omega
theorem zipIdx_range {α : Type} (f : Nat → α) (n : Nat) : ((List.range n).map f).zipIdx = (List.range n).map fun i => (f i, i) := by
  apply List.ext_getElem
  · simp
  · intro i h1 h2
    simp
section
variable [FN P "" "_law_plain" L.ir_L_plain] [FN P "" "_law_rest" L.ir_L_rest] [FN P "" "_law_times" L.ir_L_times]
/-- rule 0 for none -/
def timesL (a b r : Nat) : Nat := if 0 < r then restP (clm a b) r else clm a b
theorem law_times_N {m : Nat} (hm : 3 ≤ m) (a b r : Nat) (ha : a < 65536) (hb : b < 65536) (hr : r < 18446744073709551616) (S : Store) : (P.at 100000 m).cf "" "_law_times" [nat a, nat b, nat r] S = .ok (nat (timesL a b r)) S := by
  refine Exists.elim (Nat.exists_eq_add_of_le' hm) (fun k hk => ?_)
  subst hk
  rw [cfE]
  refine runF_of rfl ?_
  clear hm
  have h1 : sz b ≤ 16 := sz_le.mpr hb
  have h2 : sz b ≤ 20000 := by omega
  have h3 : sz b ≤ 16777216 := by omega
  have h4 : a < 18446744073709551616 := by omega
  simp [L.ir_L_times, h2, h3]
  have e : enuL 0 (List.map (fun b => bits [b]) (plainB b)).reverse = (List.range (sz b)).map fun i => D.tup [nat i, bits [b.testBit i]] := by
    rw [← List.map_reverse, plainB_rev, List.map_map, enuL_map, ← List.map_id (List.range (sz b)), zipIdx_range, List.map_map, List.map_id]
    rfl
  rw [e, forL_pre (fun p => [.val (nat a), .val (nat b), .val (nat r), .val (nat (clmU a b p.length)), .un, .un]) (by rfl)]
  · have h5 : clmU a b (sz b) < 2 ^ 32 := clmU_lt (i := 16) (j := 16) ha h1
    have h6 := law_rest_N (P := P) (m := k + 2) (by omega) (clm a b) r (by have := sz_le.mpr h5; unfold clm; omega) hr
    by_cases h7 : 0 < r
    · have h8 := h6 (by omega) S
      unfold clm at h8
      simp [h7, h8, timesL, clm]
    · simp [h7, timesL, clm]
  · intro p x q e
    have hp : p.length < sz b ∧ x = p.length := by
      have h1 := congrArg List.length e
      simp at h1
      have h2 : (List.range (sz b))[p.length]? = some x := by rw [e]; simp
      rw [List.getElem?_range (by omega)] at h2
      exact ⟨by omega, by simpa using h2.symm⟩
    have h5 : p.length ≤ 1000000 := by omega
    rw [hp.2]
    cases h6 : b.testBit p.length <;> simp [loop1, h6, h4, h5, clmU]
end
end Z

set_option Elab.async false
set_option linter.all false
set_option maxRecDepth 100000
set_option maxHeartbeats 4000000
set_option exponentiation.threshold 1000
namespace Z
open PySem (Operator CmpOp)
variable {P : Prg}
/-! ### things -/
class FL (P : Prg) (c f : String) : Prop where
  h : P.fld c f = true
section
variable {Γ : Gam} {W : Nat} {s : St}
@[simp] theorem y_setf (o : E) (f : String) (e : E) : evS Γ W (.setf o f e) s = ((evE Γ false e s).fl fun r s1 => optF (frz r) fun d => (evE Γ true o s1).fl fun x s2 => optF (res s2 x) fun dx => putFl Γ.fld f s2 dx d) := (rfl)
@[simp] theorem y_augf (o : E) (f : String) (op : Operator) (e : E) : evS Γ W (.augf o f op e) s = ((evE Γ true o s).fl fun x s1 => optF (res s1 x) fun dx => optF (fldD Γ.fld f s1.sto dx) fun dv => (evE Γ true e s1).fl fun y s2 => optF (res s2 y) fun dy => optF (augOp op dv dy) fun d => if clsD s2.sto dx = clsD s1.sto dx then putFl Γ.fld f s2 dx d else .stk) := (rfl)
@[simp] theorem y_tryx (b : Ss) (c : String) (h : Ss) : evS Γ W (.tryx b c none h) s = tryS Γ.exm (evSs Γ W b) c (evSs Γ W h) s := (rfl)
end
section
variable {S : Store} {n : Nat} {c f m : String} {fs : List (String × D)} {d : D} {env : List Ent}
@[simp] theorem fld_ok [F : FL P c f] (h : S[n]? = some (.ins c fs)) : fldD P.fld f S (.obj n) = fs.lookup f := by
  unfold fldD
  simp only [h, F.h, if_true]
@[simp] theorem putFl_ok [F : FL P c f] (h : S[n]? = some (.ins c fs)) (hl : fs.length < 1000) : putFl P.fld f ⟨env, S⟩ (.obj n) d = .nx ⟨env, S.set n (.ins c (putFld f d fs))⟩ := by
  unfold putFl setFldD
  simp only [h, F.h, hl, and_self, if_true]
  rfl
@[simp] theorem insOf_ok (h : S[n]? = some (.ins c fs)) : insOf S c (.obj n) = some n := by
  unfold insOf
  simp only [h, if_true]
@[simp] theorem noMeth_ok (h : S[n]? = some (.ins c fs)) (hl : fs.lookup m = none) : noMeth S m n = some n := by
  unfold noMeth
  simp [h, hl]
@[simp] theorem clsD_ok (h : S[n]? = some (.ins c fs)) : clsD S (.obj n) = some c := by
  unfold clsD
  simp only [h]
end
theorem get_set {S : Store} {n : Nat} {x y : Cell} (h : S[n]? = some y) : (S.set n x)[n]? = some x := by
  obtain ⟨hl, _⟩ := List.getElem?_eq_some_iff.mp h
  simp [hl]
@[simp] theorem get_new (S : Store) (x : Cell) : (S ++ [x])[S.length]? = some x := by simp
/-- by what stands after each front, the store too -/
theorem forL_preS {α : Type} {tg msk : List Nat} {body : EvS} {g : α → D} {xs : List α} {s0 : St} (mk : List α → St) (h0 : s0 = mk []) (h : ∀ p x q, xs = p ++ x :: q → loop1 tg msk body (g x) (mk p) = .nx (mk (p ++ [x]))) : forL tg msk body (xs.map g) s0 = .nx (mk xs) := by
  subst h0
  have key : ∀ q p, xs = p ++ q → forL tg msk body (q.map g) (mk p) = .nx (mk xs) := by
    intro q
    induction q with
    | nil => intro p e; rw [e, List.append_nil]; rfl
    | cons x q ih =>
      intro p e
      rw [List.map_cons, forL_cons, h p x q e]
      exact ih (p ++ [x]) (by rw [e]; simp)
  exact key xs [] rfl
/-! ### taps and what they count -/
/-- whether an odd number of places are 1 in both -/
def oddB (t l : List Bool) : Bool := (t.zip l).foldl (fun o p => o != (p.1 && p.2)) false
theorem oddB_cons (a b : Bool) (t l : List Bool) : oddB (a :: t) (b :: l) = ((a && b) != oddB t l) := by
  have key : ∀ (z : List (Bool × Bool)) (o : Bool), z.foldl (fun o p => o != (p.1 && p.2)) o = (o != z.foldl (fun o p => o != (p.1 && p.2)) false) := by
    intro z
    induction z with
    | nil => intro o; simp
    | cons p z ih =>
      intro o
      rw [List.foldl_cons, List.foldl_cons, ih, ih (false != _)]
      cases o <;> cases (p.1 && p.2) <;> cases (z.foldl _ false) <;> rfl
  show List.foldl _ (false != (a && b)) (t.zip l) = _
  rw [key]
  cases a <;> cases b <;> rfl
theorem eqv_two (a b c d : Bool) : D.eqv (bits [a, b]) (bits [c, d]) = decide (a = c ∧ b = d) := by
  cases a <;> cases b <;> cases c <;> cases d <;> decide
theorem plain_bits (k : Nat) (l : List Bool) : D.plain k (bits l) = true := by
  unfold bits
  rw [plain_str, List.all_eq_true]
  intro c hc
  obtain ⟨b, _, rfl⟩ := List.mem_map.mp hc
  cases b <;> decide
theorem count_both (t l : List Bool) : lcountF (.lst ((t.zip l).map fun p => bits [p.1, p.2])) [bits [true, true]] = some (.val (nat ((t.zip l).countP fun p => p.1 && p.2))) := by
  have h1 : D.plains DEEP ((t.zip l).map fun p => bits [p.1, p.2]) = true := by
    generalize t.zip l = z
    induction z with
    | nil => rfl
    | cons p z ih =>
      show (D.plain DEEP (bits [p.1, p.2]) && D.plains DEEP (z.map fun p => bits [p.1, p.2])) = true
      rw [ih, plain_bits]
      rfl
  show (if (D.plains DEEP _ && D.plain DEEP (bits [true, true])) = true then some (Ent.val (D.int ((((t.zip l).map fun p => bits [p.1, p.2]).countP fun z => D.eqv z (bits [true, true]) : Nat) : Int))) else none) = _
  rw [h1, plain_bits]
  simp only [Bool.and_self, if_true, List.countP_map]
  congr 4
  apply List.countP_congr
  intro p _
  simp only [Function.comp_apply, eqv_two]
  cases p.1 <;> cases p.2 <;> simp
theorem oddB_mod (t l : List Bool) : (oddB t l).toNat = ((t.zip l).countP fun p => p.1 && p.2) % 2 := by
  induction t generalizing l with
  | nil => rfl
  | cons a t ih => cases l with
    | nil => rfl
    | cons b l =>
      rw [oddB_cons, List.zip_cons_cons, List.countP_cons]
      have := ih l
      cases h : (a && b)
      · simp [h]; rw [← this]
      · simp [h]
        cases ho : oddB t l <;> rw [ho] at this <;> simp at this ⊢ <;> omega
section
variable [FN P "" "odd_of" L.ir_odd_of]
@[simp] theorem odd_of_N {m : Nat} (hm : 1 ≤ m) {t l : List Bool} (hl : t.length ≤ 20000) (S : Store) : (P.at 100000 m).cf "" "odd_of" [bits t, bits l] S = .ok (bits [oddB t l]) S := by
  refine Exists.elim (Nat.exists_eq_add_of_le' hm) (fun k hk => ?_)
  subst hk
  rw [cfE]
  refine runF_of rfl ?_
  clear hm
  simp [L.ir_odd_of]
  rw [compK_map (fun p : Bool × Bool => bits [p.1, p.2]) (by simp; omega)]
  · have e11 : D.str [49, 49] = bits [true, true] := rfl
    have h1 := count_both t l
    have h2 : tyOf ⟨[.val (bits t), .val (bits l), .un, .un], S⟩ "list" (.own (.lst ((t.zip l).map fun p => bits [p.1, p.2]))) = some () := tyOf_listo _
    have hb : ∀ x ds, bmD "list" "count" x ds = lcountF x ds := fun _ _ => rfl
    have h3 := oddB_mod t l
    generalize (t.zip l).map (fun p => bits [p.1, p.2]) = z at h1 h2
    generalize (t.zip l).countP (fun p => p.1 && p.2) = y at h1 h3
    simp [e11, h1, h2, hb, ← h3, str_bit]
  · rintro ⟨x, y⟩ _
    simp [turn]
end
/-! ### mixers -/
abbrev mixC (t st g c : List Bool) : Cell := .ins "Mixer" [("taps", bits t), ("start", bits st), ("going", bits g), ("coming", bits c)]
/-- mixed bits, and what the mixer then has -/
def mixO (t : List Bool) : List Bool → List Bool → List Bool
  | _, [] => []
  | g, b :: l => (b != oddB t g) :: mixO t ((b != oddB t g) :: g.dropLast) l
def mixG (t : List Bool) : List Bool → List Bool → List Bool
  | g, [] => g
  | g, b :: l => mixG t ((b != oddB t g) :: g.dropLast) l
def unmO (t : List Bool) : List Bool → List Bool → List Bool
  | _, [] => []
  | c, b :: l => (b != oddB t c) :: unmO t (b :: c.dropLast) l
def unmC : List Bool → List Bool → List Bool
  | c, [] => c
  | c, b :: l => unmC (b :: c.dropLast) l
@[simp] theorem mixO_len (t g l : List Bool) : (mixO t g l).length = l.length := by
  induction l generalizing g with
  | nil => rfl
  | cons b l ih => simp [mixO, ih]
@[simp] theorem unmO_len (t g l : List Bool) : (unmO t g l).length = l.length := by
  induction l generalizing g with
  | nil => rfl
  | cons b l ih => simp [unmO, ih]
theorem mixO_app (t g a b : List Bool) : mixO t g (a ++ b) = mixO t g a ++ mixO t (mixG t g a) b := by
  induction a generalizing g with
  | nil => rfl
  | cons x a ih => simp [mixO, mixG, ih]
theorem mixG_app (t g a b : List Bool) : mixG t g (a ++ b) = mixG t (mixG t g a) b := by
  induction a generalizing g with
  | nil => rfl
  | cons x a ih => simp [mixG, ih]
theorem unmO_app (t g a b : List Bool) : unmO t g (a ++ b) = unmO t g a ++ unmO t (unmC g a) b := by
  induction a generalizing g with
  | nil => rfl
  | cons x a ih => simp [unmO, unmC, ih]
theorem unmC_app (g a b : List Bool) : unmC g (a ++ b) = unmC (unmC g a) b := by
  induction a generalizing g with
  | nil => rfl
  | cons x a ih => simp [unmC, ih]
theorem mixG_len (t g l : List Bool) (hg : 0 < g.length) : (mixG t g l).length = g.length := by
  induction l generalizing g with
  | nil => rfl
  | cons b l ih =>
    rw [mixG, ih _ (by simp)]
    simp; omega
theorem unmC_len (g l : List Bool) (hg : 0 < g.length) : (unmC g l).length = g.length := by
  induction l generalizing g with
  | nil => rfl
  | cons b l ih =>
    rw [unmC, ih _ (by simp)]
    simp; omega
theorem unm_mix (t g l : List Bool) : unmO t g (mixO t g l) = l := by
  induction l generalizing g with
  | nil => rfl
  | cons b l ih =>
    rw [mixO, unmO, ih]
    cases b <;> cases oddB t g <;> rfl
theorem cut_m1 {α : Type} (l : List α) : cut l none (some (-1)) = l.dropLast := by
  unfold cut
  show (l.drop 0).take ((-1 + (l.length : Int)).toNat - 0) = _
  rw [List.drop_zero, Nat.sub_zero, List.dropLast_eq_take]
  congr 1
  omega
def negD : D → Option Ent
  | .int i => some (.val (.int (-i)))
  | _ => none
@[simp] theorem x_negN {Γ : Gam} {bw : Bool} {s : St} (a : E) : evE Γ bw (.neg a) s = ((evE Γ true a s).bind fun x s1 => opt (res s1 x) fun d => O (negD d) s1) := (rfl)
@[simp] theorem neg_one : negD (nat 1) = some (.val (.int (-1))) := (rfl)
section
variable [FL P "Mixer" "taps"] [FL P "Mixer" "start"] [FL P "Mixer" "going"] [FL P "Mixer" "coming"]
variable {S : Store} {n : Nat} {t st g c x : List Bool} {env : List Ent}
theorem fl_taps (h : S[n]? = some (mixC t st g c)) : fldD P.fld "taps" S (.obj n) = some (bits t) := by rw [fld_ok (c := "Mixer") h]; rfl
theorem fl_start (h : S[n]? = some (mixC t st g c)) : fldD P.fld "start" S (.obj n) = some (bits st) := by rw [fld_ok (c := "Mixer") h]; rfl
theorem fl_going (h : S[n]? = some (mixC t st g c)) : fldD P.fld "going" S (.obj n) = some (bits g) := by rw [fld_ok (c := "Mixer") h]; rfl
theorem fl_coming (h : S[n]? = some (mixC t st g c)) : fldD P.fld "coming" S (.obj n) = some (bits c) := by rw [fld_ok (c := "Mixer") h]; rfl
theorem pt_going (h : S[n]? = some (mixC t st g c)) : putFl P.fld "going" ⟨env, S⟩ (.obj n) (bits x) = .nx ⟨env, S.set n (mixC t st x c)⟩ := by rw [putFl_ok (c := "Mixer") h (by simp)]; rfl
theorem pt_coming (h : S[n]? = some (mixC t st g c)) : putFl P.fld "coming" ⟨env, S⟩ (.obj n) (bits x) = .nx ⟨env, S.set n (mixC t st g x)⟩ := by rw [putFl_ok (c := "Mixer") h (by simp)]; rfl
end
theorem set_same {S : Store} {n : Nat} {x : Cell} (h : S[n]? = some x) : S.set n x = S := by
  apply List.ext_getElem?
  intro i
  by_cases e : n = i
  · subst e; rw [get_set h, h]
  · rw [List.getElem?_set_ne e]
section
variable [FN P "" "odd_of" L.ir_odd_of] [FL P "Mixer" "taps"] [FL P "Mixer" "start"] [FL P "Mixer" "going"] [FL P "Mixer" "coming"]
variable [FN P "" "are_bits" L.ir_are_bits] [TY P "str"] [FN P "" "is_bits" L.ir_is_bits] [GC P "MOST" (.int 20000)] [FN P "" "need_bits" L.ir_need_bits]
variable [FN P "Mixer" "mix" L.ir_Mixer_mix]
theorem mix_N {m : Nat} (hm : 4 ≤ m) {t st g c l : List Bool} (ht : t.length ≤ 8) (hg : g.length ≤ 8) (hg0 : 0 < g.length) (hl : l.length ≤ 20000) {S : Store} {n : Nat} (hS : S[n]? = some (mixC t st g c)) : (P.at 100000 m).cf "Mixer" "mix" [.obj n, bits l] S = .ok (bits (mixO t g l)) (S.set n (mixC t st (mixG t g l) c)) := by
  refine Exists.elim (Nat.exists_eq_add_of_le' hm) (fun k hk => ?_)
  subst hk
  rw [cfE]
  refine runF_of rfl ?_
  clear hm
  simp [L.ir_Mixer_mix, hl]
  rw [forL_preS (fun p => ⟨[.val (.obj n), .val (bits l), .own (.lst ((mixO t g p).map fun b => bits [b])), .un, .un], S.set n (mixC t st (mixG t g p) c)⟩) (by
    simp only [mixG, mixO, List.map_nil, set_same hS])]
  · have hj := join_ones (fun b : Bool => b) (mixO t g l) (by simp; omega)
    simp only [List.map_id'] at hj
    simp [hj]
  · intro p x q e
    have hp : p.length < 20000 := by have := congrArg List.length e; simp at this; omega
    have h1 : (S.set n (mixC t st (mixG t g p) c))[n]? = some (mixC t st (mixG t g p) c) := get_set hS
    have h2 := mixG_len t g p hg0
    have h3 : (mixG t g p).length ≤ 16777216 := by omega
    have h4 : (mixO t g p).length < 16777216 := by simp; omega
    have h5 : ∀ y : Bool, binD .Add (bits [y]) (bits (mixG t g p).dropLast) = some (.val (bits ([y] ++ (mixG t g p).dropLast))) := fun y => add_bits _ _ (by simp; omega)
    have h6 : t.length ≤ 20000 := by omega
    have h7 : mixO t g (p ++ [x]) = mixO t g p ++ [x != oddB t (mixG t g p)] := by rw [mixO_app]; rfl
    have h8 : mixG t g (p ++ [x]) = (x != oddB t (mixG t g p)) :: (mixG t g p).dropLast := by rw [mixG_app]; rfl
    rw [h7, h8]
    have hs : ∀ y, (S.set n (mixC t st (mixG t g p) c)).set n y = S.set n y := fun y => List.set_set ..
    generalize mixG t g p = G at *
    generalize mixO t g p = M at *
    generalize S.set n (mixC t st G c) = S1 at *
    have f1 := fl_taps (P := P) h1
    have f2 := fl_going (P := P) h1
    have f3 := fun env x => pt_going (P := P) (env := env) (x := x) h1
    cases hx : x <;> cases ho : oddB t G <;> simp [loop1, h3, h4, h5, h6, ho, cut_m1, f1, f2, f3, hs]
variable [FN P "Mixer" "unmix" L.ir_Mixer_unmix]
theorem unmix_N {m : Nat} (hm : 4 ≤ m) {t st g c l : List Bool} (ht : t.length ≤ 8) (hg : c.length ≤ 8) (hg0 : 0 < c.length) (hl : l.length ≤ 20000) {S : Store} {n : Nat} (hS : S[n]? = some (mixC t st g c)) : (P.at 100000 m).cf "Mixer" "unmix" [.obj n, bits l] S = .ok (bits (unmO t c l)) (S.set n (mixC t st g (unmC c l))) := by
  refine Exists.elim (Nat.exists_eq_add_of_le' hm) (fun k hk => ?_)
  subst hk
  rw [cfE]
  refine runF_of rfl ?_
  clear hm
  simp [L.ir_Mixer_unmix, hl]
  rw [forL_preS (fun p => ⟨[.val (.obj n), .val (bits l), .own (.lst ((unmO t c p).map fun b => bits [b])), .un], S.set n (mixC t st g (unmC c p))⟩) (by
    simp only [unmC, unmO, List.map_nil, set_same hS])]
  · have hj := join_ones (fun b : Bool => b) (unmO t c l) (by simp; omega)
    simp only [List.map_id'] at hj
    simp [hj]
  · intro p x q e
    have hp : p.length < 20000 := by have := congrArg List.length e; simp at this; omega
    have h1 : (S.set n (mixC t st g (unmC c p)))[n]? = some (mixC t st g (unmC c p)) := get_set hS
    have h2 := unmC_len c p hg0
    have h3 : (unmC c p).length ≤ 16777216 := by omega
    have h4 : (unmO t c p).length < 16777216 := by simp; omega
    have h5 : ∀ y : Bool, binD .Add (bits [y]) (bits (unmC c p).dropLast) = some (.val (bits ([y] ++ (unmC c p).dropLast))) := fun y => add_bits _ _ (by simp; omega)
    have h6 : t.length ≤ 20000 := by omega
    have h7 : unmO t c (p ++ [x]) = unmO t c p ++ [x != oddB t (unmC c p)] := by rw [unmO_app]; rfl
    have h8 : unmC c (p ++ [x]) = x :: (unmC c p).dropLast := by rw [unmC_app]; rfl
    rw [h7, h8]
    have hs : ∀ y, (S.set n (mixC t st g (unmC c p))).set n y = S.set n y := fun y => List.set_set ..
    generalize unmC c p = G at *
    generalize unmO t c p = M at *
    generalize S.set n (mixC t st g G) = S1 at *
    have f1 := fl_taps (P := P) h1
    have f2 := fl_coming (P := P) h1
    have f3 := fun env x => pt_coming (P := P) (env := env) (x := x) h1
    cases hx : x <;> cases ho : oddB t G <;> simp [loop1, h3, h4, h5, h6, ho, cut_m1, f1, f2, f3, hs]
variable [FN P "Mixer" "__init__" L.ir_Mixer_init] [FN P "Mixer" "twin" L.ir_Mixer_twin]
/-- taps and starts that a mixer takes -/
structure MixOk (t s : List Bool) : Prop where
  l2 : 2 ≤ t.length
  l8 : t.length ≤ 8
  last : t.getLast? = some true
  st : s.length = t.length
theorem idxL_last {α : Type} {l : List α} {a : α} (h : l.getLast? = some a) : idxL l (.int (-1)) = some a := by
  have hne : 0 < l.length := by cases l with | nil => cases h | cons _ _ => simp
  show (ixN l.length (-1)).bind _ = _
  have : ixN l.length (-1) = some (l.length - 1) := by
    unfold ixN
    rw [if_neg (by decide), if_pos (by omega)]
    congr 1
    omega
  rw [this]
  rw [List.getLast?_eq_getElem?] at h
  exact h
theorem mixer_init {m : Nat} (hm : 2 ≤ m) {t s : List Bool} (h : MixOk t s) {S : Store} {n : Nat} (hS : S[n]? = some (.ins "Mixer" [])) : (P.at 100000 m).cf "Mixer" "__init__" [.obj n, bits t, bits s] S = .ok .non (S.set n (mixC t s s s)) := by
  refine Exists.elim (Nat.exists_eq_add_of_le' hm) (fun k hk => ?_)
  subst hk
  rw [cfE]
  refine runF_of rfl ?_
  clear hm
  have h1 : t.length ≤ 16777216 := by have := h.l8; omega
  have h2 := h.l8
  have h3 : ¬ t.length < 2 := by have := h.l2; omega
  have h4 : (t.map bit).getLast? = some 49 := by rw [List.getLast?_map, h.last]; rfl
  have h5 : ∀ S, idxD S (bits t) (.int (-1)) = some (bits [true]) := fun S => by
    show (if (t.map bit).length ≤ 16777216 then (idxL (t.map bit) (.int (-1))).map fun c => D.str [c] else none) = _
    rw [if_pos (by simpa using h1), idxL_last h4]
    rfl
  have h6 := h.st
  have hn : n < S.length := (List.getElem?_eq_some_iff.mp hS).1
  have p1 : ∀ env d, putFl P.fld "taps" ⟨env, S⟩ (.obj n) d = .nx ⟨env, S.set n (.ins "Mixer" [("taps", d)])⟩ := fun env d => by rw [putFl_ok (c := "Mixer") hS (by simp)]; rfl
  have g1 : (S.set n (.ins "Mixer" [("taps", bits t)]))[n]? = some (.ins "Mixer" [("taps", bits t)]) := get_set hS
  have p2 : ∀ env d, putFl P.fld "start" ⟨env, S.set n (.ins "Mixer" [("taps", bits t)])⟩ (.obj n) d = .nx ⟨env, S.set n (.ins "Mixer" [("taps", bits t), ("start", d)])⟩ := fun env d => by rw [putFl_ok (c := "Mixer") g1 (by simp), List.set_set]; rfl
  have g2 : (S.set n (.ins "Mixer" [("taps", bits t), ("start", bits s)]))[n]? = some (.ins "Mixer" [("taps", bits t), ("start", bits s)]) := get_set hS
  have p3 : ∀ env d, putFl P.fld "going" ⟨env, S.set n (.ins "Mixer" [("taps", bits t), ("start", bits s)])⟩ (.obj n) d = .nx ⟨env, S.set n (.ins "Mixer" [("taps", bits t), ("start", bits s), ("going", d)])⟩ := fun env d => by rw [putFl_ok (c := "Mixer") g2 (by simp), List.set_set]; rfl
  have g3 : (S.set n (.ins "Mixer" [("taps", bits t), ("start", bits s), ("going", bits s)]))[n]? = some (.ins "Mixer" [("taps", bits t), ("start", bits s), ("going", bits s)]) := get_set hS
  have p4 : ∀ env d, putFl P.fld "coming" ⟨env, S.set n (.ins "Mixer" [("taps", bits t), ("start", bits s), ("going", bits s)])⟩ (.obj n) d = .nx ⟨env, S.set n (.ins "Mixer" [("taps", bits t), ("start", bits s), ("going", bits s), ("coming", d)])⟩ := fun env d => by rw [putFl_ok (c := "Mixer") g3 (by simp), List.set_set]; rfl
  simp [L.ir_Mixer_init, h1, h2, h3, h5, h6, p1, p2, p3, p4, eqN]
theorem twin_N {m : Nat} (hm : 3 ≤ m) {t st g c : List Bool} (h : MixOk t st) {S : Store} {n : Nat} (hS : S[n]? = some (mixC t st g c)) : (P.at 100000 m).cf "Mixer" "twin" [.obj n] S = .ok (.obj S.length) (S ++ [mixC t st st st]) := by
  refine Exists.elim (Nat.exists_eq_add_of_le' hm) (fun k hk => ?_)
  subst hk
  rw [cfE]
  refine runF_of rfl ?_
  clear hm
  have f1 := fl_taps (P := P) hS
  have f2 := fl_start (P := P) hS
  have h1 := mixer_init (P := P) (m := k + 2) (by omega) h (S := S ++ [.ins "Mixer" []]) (n := S.length) (by simp)
  have e : (S ++ [Cell.ins "Mixer" []]).set S.length (mixC t st st st) = S ++ [mixC t st st st] := by simp
  rw [e] at h1
  simp [L.ir_Mixer_twin, mkE, f1, f2, h1]
end
section
variable [FN P "" "_law_mixed" L.ir_L_mixed]
theorem idx10L (b : Bool) : idxL [49, 48] (nat b.toNat) = some (bit (!b)) := by cases b <;> rfl
theorem idx01B (b : Bool) : idxL [48, 49] (nat b.toNat) = some (bit b) := by cases b <;> rfl
theorem law_mixed_N {m : Nat} (hm : 1 ≤ m) {t s l : List Bool} (ht : t.length ≤ 8) (hs : s.length ≤ 8) (hs0 : 0 < s.length) (hl : l.length ≤ 20000) (S : Store) : (P.at 100000 m).cf "" "_law_mixed" [bits t, bits s, bits l] S = .ok (bits (mixO t s l)) S := by
  refine Exists.elim (Nat.exists_eq_add_of_le' hm) (fun k hk => ?_)
  subst hk
  rw [cfE]
  refine runF_of rfl ?_
  clear hm
  have e0 : D.str [] = bits [] := rfl
  simp [L.ir_L_mixed, e0]
  rw [forL_pre (fun p => [.val (bits t), .val (bits s), .val (bits l), .val (bits (mixO t s p)), .val (bits (mixG t s p)), .un, .un, .un, .un]) (by rfl)]
  · simp
  · intro p x q e
    have hp : p.length < 20000 := by have := congrArg List.length e; simp at this; omega
    have h2 := mixG_len t s p hs0
    have h3 : (mixG t s p).length ≤ 16777216 := by omega
    have h5 : ∀ y : Bool, binD .Add (bits [y]) (bits (mixG t s p).dropLast) = some (.val (bits ([y] ++ (mixG t s p).dropLast))) := fun y => add_bits _ _ (by simp; omega)
    have h6 : ∀ y : Bool, binD .Add (bits (mixO t s p)) (bits [y]) = some (.val (bits (mixO t s p ++ [y]))) := fun y => add_bits _ _ (by simp; omega)
    have h7 : mixO t s (p ++ [x]) = mixO t s p ++ [x != oddB t (mixG t s p)] := by rw [mixO_app]; rfl
    have h8 : mixG t s (p ++ [x]) = (x != oddB t (mixG t s p)) :: (mixG t s p).dropLast := by rw [mixG_app]; rfl
    rw [h7, h8]
    generalize mixG t s p = G at *
    generalize mixO t s p = M at *
    simp [loop1]
    rw [compK_map (fun p : Bool × Bool => bits [p.1, p.2]) (by simp; omega)]
    · have e11 : D.str [49, 49] = bits [true, true] := rfl
      have g1 := count_both t G
      have g2 : ∀ env : List Ent, tyOf ⟨env, S⟩ "list" (.own (.lst ((t.zip G).map fun p => bits [p.1, p.2]))) = some () := fun env => tyOf_listo _
      have hb : ∀ x ds, bmD "list" "count" x ds = lcountF x ds := fun _ _ => rfl
      have g3 := oddB_mod t G
      generalize (t.zip G).map (fun p => bits [p.1, p.2]) = z at g1 g2
      generalize (t.zip G).countP (fun p => p.1 && p.2) = y at g1 g3
      cases x <;> cases ho : oddB t G <;> simp [e11, g1, g2, hb, ← g3, ho, h3, h5, h6, cut_m1, idx10L, idx01B]
    · rintro ⟨x, y⟩ _
      simp [turn]
end
end Z

set_option Elab.async false
set_option linter.all false
set_option maxRecDepth 100000
set_option maxHeartbeats 4000000
set_option exponentiation.threshold 1000
namespace Z
open PySem (Operator CmpOp)
variable {P : Prg}
/-! ### a text of statements in parts -/
def Ss.app : Ss → Ss → Ss
  | .nil, b => b
  | .cons s a, b => .cons s (Ss.app a b)
def Ss.drop : Nat → Ss → Ss
  | 0, a => a
  | _ + 1, .nil => .nil
  | n + 1, .cons _ a => Ss.drop n a
def Ss.take : Nat → Ss → Ss
  | 0, _ => .nil
  | _ + 1, .nil => .nil
  | n + 1, .cons s a => .cons s (Ss.take n a)
/-- the body of the loop that stands first -/
def Ss.forB : Ss → Ss
  | .cons (.for _ _ b _) _ => b
  | .cons (.whl _ b _) _ => b
  | _ => .nil
def Fl.andThen (x : Fl) (f : St → Fl) : Fl := match x with
  | .nx s => f s
  | r => r
theorem evSs_cons {Γ : Gam} {W : Nat} (t : S) (ts : Ss) (s : St) : evSs Γ W (.cons t ts) s = (evS Γ W t s).andThen (evSs Γ W ts) := by
  cases ts with
  | nil =>
    show evS Γ W t s = _
    cases evS Γ W t s <;> rfl
  | cons t' ts => rfl
theorem evSs_app {Γ : Gam} {W : Nat} (a b : Ss) (s : St) : evSs Γ W (a.app b) s = (evSs Γ W a s).andThen (evSs Γ W b) := by
  induction a using Ss.rec (motive_1 := fun _ => True) generalizing s with
  | nil => rfl
  | cons t a _ ih =>
    show evSs Γ W (.cons t (a.app b)) s = _
    rw [evSs_cons, evSs_cons]
    cases e : evS Γ W t s with
    | nx s1 => exact ih s1
    | _ => rfl
  | _ => trivial
theorem app_cut : ∀ (n : Nat) (a : Ss), (a.take n).app (a.drop n) = a
  | 0, a => rfl
  | _ + 1, .nil => rfl
  | n + 1, .cons s a => congrArg (Ss.cons s) (app_cut n a)
theorem evSs_cut (n : Nat) {Γ : Gam} {W : Nat} {a : Ss} {s s1 : St} (h : evSs Γ W (a.take n) s = .nx s1) : evSs Γ W a s = evSs Γ W (a.drop n) s1 := by
  conv => lhs; rw [← app_cut n a]
  rw [evSs_app, h]
  rfl
@[simp] theorem bi_sum (ds : List D) : biD "sum" ds = sumF ds := (rfl)
@[simp] theorem bi_sorted (ds : List D) : biD "sorted" ds = sortedF ds := (rfl)
@[simp] theorem bm_lcount (x : D) (ds : List D) : bmD "list" "count" x ds = lcountF x ds := (rfl)
@[simp] theorem bm_lindex (x : D) (ds : List D) : bmD "list" "index" x ds = lindexF x ds := (rfl)
@[simp] theorem bm_sfind (x : D) (ds : List D) : bmD "str" "find" x ds = sfindF x ds := (rfl)
@[simp] theorem bm_sindex (x : D) (ds : List D) : bmD "str" "index" x ds = sindexF x ds := (rfl)
@[simp] theorem bm_sstart (x : D) (ds : List D) : bmD "str" "startswith" x ds = sstartF x ds := (rfl)
/-! ### sorted lists of numbers -/
theorem le_nat (a b : Nat) : PySem.W.dataLe false toP (nat a) (nat b) = decide (a ≤ b) := by
  show (!PyProof.Rows.lexLt PyProof.Rows.itemOrd (PySem.W.keyToks (toP (nat b))) (PySem.W.keyToks (toP (nat a)))) = _
  have e : ∀ n : Nat, PySem.W.keyToks (toP (nat n)) = [Sum.inl (n : Int)] := by intro n; simp [nat, toP, PySem.W.keyToks]
  rw [e, e]
  show (!(decide ((b : Int) < a) || (!decide ((a : Int) < b) && false))) = _
  rw [Bool.and_false, Bool.or_false, Bool.eq_iff_iff]
  simp
def srtN (l : List Nat) : List Nat := l.mergeSort fun a b => decide (a ≤ b)
theorem srtN_perm (l : List Nat) : (srtN l).Perm l := List.mergeSort_perm ..
theorem srtN_up (l : List Nat) : (srtN l).Pairwise (· ≤ ·) := by
  have h := List.pairwise_mergeSort (le := fun a b : Nat => decide (a ≤ b)) (by intro a b c h1 h2; simp only [decide_eq_true_eq] at *; omega) (by intro a b; simp only [Bool.or_eq_true, decide_eq_true_eq]; omega) l
  exact h.imp fun h => by simpa using h
@[simp] theorem srtN_len (l : List Nat) : (srtN l).length = l.length := (srtN_perm l).length_eq
theorem sortDD_nat (l : List Nat) : sortDD (l.map nat) = (srtN l).map nat := (sortDD_eq _).trans (List.map_mergeSort fun a _ b _ => (le_nat a b).symm).symm
theorem toPs_nat (l : List Nat) : toPs (l.map nat) = l.map fun n : Nat => PySem.PyData.int (n : Int) := by
  induction l with
  | nil => rfl
  | cons a l ih => rw [List.map_cons, toPs, ih]; rfl
theorem alike_nat (l : List Nat) : alikeD (l.map nat) = true := by
  unfold alikeD
  rw [toPs_nat, List.all_map, List.all_eq_true]
  intro a _
  simp only [Function.comp_apply, List.all_map, List.all_eq_true]
  intro b _
  simp [PySem.W.alike]
theorem sortOk_nat (l : List Nat) : sortOk (l.map nat) = true := by
  unfold sortOk
  rw [plains_nat, alike_nat, show ((l.map nat).all fun d => !d.isNon && !isTupD d) = true from by rw [List.all_map, List.all_eq_true]; intro a _; rfl]
  simp
@[simp] theorem sorted_nat (l : List Nat) : sortedF [.lst (l.map nat)] = some (.own (.lst ((srtN l).map nat))) := by
  show (if sortOk (l.map nat) = true then _ else _) = _
  rw [if_pos (sortOk_nat l), sortDD_nat]
theorem ints_natsG (l : List Nat) : intsOf (l.map nat) = some (l.map fun i : Nat => (i : Int)) := by
  induction l with
  | nil => rfl
  | cons a l ih => show (intsOf (l.map nat)).map _ = _; rw [ih]; rfl
@[simp] theorem sum_nat (l : List Nat) : sumF [.lst (l.map nat)] = some (.val (nat l.sum)) := by
  show (intsOf (l.map nat)).map _ = _
  rw [ints_natsG]
  show some (Ent.val (D.int (l.map fun i : Nat => (i : Int)).sum)) = some (.val (.int (l.sum : Nat)))
  congr 3
  induction l with
  | nil => rfl
  | cons a l ih => simp [ih]
theorem sum_mapN {α : Type} (f : α → Nat) (l : List α) : sumF [.lst (l.map fun x => nat (f x))] = some (.val (nat (l.map f).sum)) := by
  have := sum_nat (l.map f)
  rwa [List.map_map] at this
theorem sorted_mapN {α : Type} (f : α → Nat) (l : List α) : sortedF [.lst (l.map fun x => nat (f x))] = some (.own (.lst ((srtN (l.map f)).map nat))) := by
  have := sorted_nat (l.map f)
  rwa [List.map_map] at this
@[simp] theorem isOp_non (x : D) : isOp x .non = some x.isNon := (rfl)
@[simp] theorem isNon_nat (n : Nat) : (nat n).isNon = false := (rfl)
@[simp] theorem isNon_non : D.isNon .non = true := (rfl)
@[simp] theorem isNon_int (n : Int) : D.isNon (.int n) = false := (rfl)
@[simp] theorem isNon_bl (n : Bool) : D.isNon (.bl n) = false := (rfl)
@[simp] theorem isNon_str (n : List Nat) : D.isNon (.str n) = false := (rfl)
@[simp] theorem isNon_bits (n : List Bool) : D.isNon (bits n) = false := (rfl)
@[simp] theorem isNon_tup (n : List D) : D.isNon (.tup n) = false := (rfl)
@[simp] theorem isNon_lst (n : List D) : D.isNon (.lst n) = false := (rfl)
@[simp] theorem isNon_dic (n : List (DK × D)) : D.isNon (.dic n) = false := (rfl)
end Z

set_option Elab.async false
set_option linter.all false
set_option maxRecDepth 100000
set_option maxHeartbeats 4000000
set_option exponentiation.threshold 1000
namespace Z
open PySem (Operator CmpOp)
variable {P : Prg}
/-! ### refusals -/
class EX (P : Prg) (c t : String) : Prop where
  h : P.exm c t = some true
/-- the number that a refusal is told by -/
class WH (P : Prg) (f c : String) (k : outParam Int) : Prop where
  h : P.wh f c = some ([114, 101, 102, 117, 115, 101, 100], k)
def refd (k : Nat) : D := .tup [.str [114, 101, 102, 117, 115, 101, 100], nat k]
@[simp] theorem at_wh {W n : Nat} : (P.at W n).wh = P.wh := by cases n <;> rfl
def Fl.tw (exm : String → String → Option Bool) (wh : String → Option (List Nat × Int)) (c : String) (x : Fl) : Fl := match x with
  | .exc c' s1 => optF (exm c' c) fun k => if k = true then optF (wh c') fun d => .rt (.tup [.str d.1, .int d.2]) s1.sto else .exc c' s1
  | r => r
section
variable {Γ : Gam} {W : Nat} {bw : Bool} {s : St}
@[simp] theorem y_tryw (b : Ss) (c : String) (n : Nat) (f : String) : evS Γ W (.tryw b c n f) s = (evSs Γ W b s).tw Γ.exm (Γ.wh f) c := (rfl)
@[simp] theorem tw_rt (exm : String → String → Option Bool) (wh : String → Option (List Nat × Int)) (c : String) (d : D) (S : Store) : (Fl.rt d S).tw exm wh c = .rt d S := (rfl)
@[simp] theorem tw_nx (exm : String → String → Option Bool) (wh : String → Option (List Nat × Int)) (c : String) : (Fl.nx s).tw exm wh c = .nx s := (rfl)
@[simp] theorem tw_exc {c' c f : String} {k : Nat} [h1 : EX P c' c] [h2 : WH P f c' k] : (Fl.exc c' s).tw P.exm (P.wh f) c = .rt (refd k) s.sto := by
  show optF (P.exm c' c) _ = _
  rw [h1.h]
  show optF (P.wh f c') _ = _
  rw [h2.h]
  rfl
@[simp] theorem x_sel (fs : List String) (i : E) (es : Es) : evE Γ bw (.sel fs i es) s = ((evE Γ true i s).bind fun y s1 => opt (res s1 y) fun d => opt (idxL fs d) fun f => (evEs Γ false es s1).bind fun xs s2 => opt (frzL xs) fun ds => (Γ.cf "" f ds s2.sto).r s2) := by
  show ((evE Γ true i s).bind fun y s1 => opt ((res s1 y).bind (idxL fs)) fun f => callE (Γ.cf "" f) (evEs Γ false es) nilL [] s1) = _
  congr
  funext y s1
  cases res s1 y with
  | none => rfl
  | some d =>
    show opt (idxL fs d) _ = opt (idxL fs d) _
    congr
    funext f
    show ((evEs Γ false es s1).bind fun xs s1 => (R.ok [] s1 : R (List Ent)).bind fun ys s2 => opt (frzL xs) fun ds => opt (frzL ys) fun zs => (Γ.cf "" f (ds ++ (zs ++ [])) s2.sto).r s2) = _
    congr
    funext xs s2
    show (opt (frzL xs) fun ds => (Γ.cf "" f (ds ++ ([] ++ [])) s2.sto).r s2) = _
    simp
def negF (d : D) : Option Ent := match d with
  | .int i => some (.val (.int (-i)))
  | _ => none
@[simp] theorem x_negF (a : E) : evE Γ bw (.neg a) s = ((evE Γ true a s).bind fun x s1 => opt (res s1 x) fun d => O (negF d) s1) := (rfl)
@[simp] theorem neg_nat (n : Nat) : negF (nat n) = some (.val (.int (-(n : Int)))) := (rfl)
end
@[simp] theorem idxL_n5 {α : Type} (a b c d e f : α) (xs : List α) : idxL (a :: b :: c :: d :: e :: f :: xs) (nat 5) = some f := idxL_nat? rfl
@[simp] theorem idxL_n6 {α : Type} (a b c d e f g : α) (xs : List α) : idxL (a :: b :: c :: d :: e :: f :: g :: xs) (nat 6) = some g := idxL_nat? rfl
@[simp] theorem mul_bits (l : List Bool) (n : Nat) (h : l.length * n ≤ 16777216) (h2 : n < 4611686018427387904) : binD .Mult (bits l) (nat n) = some (.val (bits (rept l n))) := by
  show (if (l.map bit).length * (n : Int).toNat ≤ 16777216 ∧ Nat.blt (n : Int).natAbs 4611686018427387904 = true then some (Ent.val (.str (rept (l.map bit) (n : Int).toNat))) else none) = _
  rw [if_pos ⟨by simpa using h, blt_iff.mpr h2⟩]
  have : rept (l.map bit) n = (rept l n).map bit := by simp [rept, List.map_flatten, List.map_replicate]
  show some (Ent.val (.str (rept (l.map bit) n))) = _
  rw [this]
  rfl
@[simp] theorem rept_len {α : Type} (l : List α) (n : Nat) : (rept l n).length = n * l.length := by simp [rept]
@[simp] theorem mul_lst (l : List D) (n : Nat) (h : l.length * n ≤ 16777216) (h2 : n < 4611686018427387904) : binD .Mult (.lst l) (nat n) = some (.own (.lst (rept l n))) := by
  show (if l.length * (n : Int).toNat ≤ 16777216 ∧ Nat.blt (n : Int).natAbs 4611686018427387904 = true then _ else _) = _
  rw [if_pos ⟨by simpa using h, blt_iff.mpr h2⟩]
  rfl
@[simp] theorem mul_tup (l : List D) (n : Nat) (h : l ≠ []) (h1 : 2 ≤ n) (h2 : n ≤ 1000) (h3 : l.length ≤ 1000) : binD .Mult (.tup l) (nat n) = some (.val (.tup (rept l n))) := by
  show (if l ≠ [] ∧ (2 : Int) ≤ (n : Int) ∧ (n : Int) ≤ 1000 ∧ l.length ≤ 1000 then some (Ent.val (.tup (rept l (n : Int).toNat))) else none) = _
  rw [if_pos ⟨h, by omega, by omega, h3⟩]
  rfl
/-! data -/
@[simp] theorem data_non : D.data .non = true := (rfl)
@[simp] theorem data_bl (b : Bool) : D.data (.bl b) = true := (rfl)
@[simp] theorem data_int (b : Int) : D.data (.int b) = true := (rfl)
@[simp] theorem data_nat (b : Nat) : D.data (nat b) = true := (rfl)
@[simp] theorem data_str (b : List Nat) : D.data (.str b) = true := (rfl)
@[simp] theorem data_bits (b : List Bool) : D.data (bits b) = true := (rfl)
@[simp] theorem data_tup (b : List D) : D.data (.tup b) = true := (rfl)
@[simp] theorem data_lst (b : List D) : D.data (.lst b) = true := (rfl)
@[simp] theorem data_dic (b : List (DK × D)) : D.data (.dic b) = true := (rfl)
/-- data, and no bits of up to so many -/
def NoB (most : Nat) (d : D) : Prop := d.data = true ∧ d.lineOk = true ∧ isBits most d = false
theorem eq_refd (k j : Nat) : eqD (refd k) (refd j) = some (decide (k = j)) := by
  have e : D.eqv (nat k) (nat j) = decide (k = j) := by
    show ((k : Int) == (j : Int)) = _
    rw [Bool.eq_iff_iff]
    simp only [beq_iff_eq, decide_eq_true_eq]
    omega
  show some (D.eqvs [.str [114, 101, 102, 117, 115, 101, 100], nat k] [.str [114, 101, 102, 117, 115, 101, 100], nat j]) = _
  show some (true && (D.eqv (nat k) (nat j) && true)) = _
  rw [e]
  simp
theorem plain_refd (k n : Nat) : D.plain (n + 1) (refd k) = true := by
  show (D.plain n (.str [114, 101, 102, 117, 115, 101, 100]) && D.plains n [nat k]) = true
  cases n <;> rfl
theorem eqs_refd (k n : Nat) : eqD (.lst (List.replicate n (refd k))) (.lst (List.replicate n (refd k))) = some true := by
  have h1 : D.plains 7 (List.replicate n (refd k)) = true := by
    induction n with
    | zero => rfl
    | succ n ih =>
      show (D.plain 7 (refd k) && D.plains 7 (List.replicate n (refd k))) = true
      rw [ih, plain_refd]
      rfl
  have h2 : D.eqvs (List.replicate n (refd k)) (List.replicate n (refd k)) = true := by
    clear h1
    induction n with
    | zero => rfl
    | succ n ih =>
      show (D.eqv (refd k) (refd k) && D.eqvs (List.replicate n (refd k)) (List.replicate n (refd k))) = true
      rw [ih]
      have e : D.eqv (nat k) (nat k) = true := by show ((k : Int) == (k : Int)) = true; simp
      show (true && (D.eqv (nat k) (nat k) && true) && true) = true
      rw [e]
      rfl
  show (if (D.plains 7 (List.replicate n (refd k)) && D.plains 7 (List.replicate n (refd k))) = true then some (D.eqvs _ _) else none) = _
  rw [h1, h2]
  rfl
theorem rept_refd (k n : Nat) : rept [refd k] n = List.replicate n (refd k) := by
  unfold rept
  induction n with
  | zero => rfl
  | succ n ih => rw [List.replicate_succ, List.flatten_cons, ih]; rfl
theorem fold_refd (k : Nat) : D.tup [.str [114, 101, 102, 117, 115, 101, 100], nat k] = refd k := rfl
/-- a comprehension all of whose turns tell one thing -/
theorem compK_same {Γ : Gam} {el : E} {tg own : List Nat} {ifs : Es} {env : List Ent} {S : Store} {ds : List D} (x : D) (hl : ds.length ≤ 16777216)
    (h : ∀ d ∈ ds, turn tg own (evE Γ false el) (evTs Γ ifs) d ⟨unset env own, S⟩ = .yes x) : compK Γ el tg own ifs ds ⟨env, S⟩ = .ok (.own (.lst (List.replicate ds.length x))) ⟨back env (unset env own) own, S⟩ := by
  rw [compK_lst (fun _ => x) hl h, List.map_const']
theorem compL_ivr {tg own : List Nat} {el : Ev} {tt : EvB} {env : List Ent} (I : Store → Prop) (x : D) : ∀ {ds : List D}, (∀ d ∈ ds, ∀ T, I T → ∃ s1 env2 T', bindT tg d ⟨env, T⟩ = some s1 ∧ tt s1 = .ok true s1 ∧ el s1 = .ok (.val x) ⟨env2, T'⟩ ∧ unset env2 own = env ∧ I T') →
    ∀ S, I S → ∃ T', compL tg own el tt ds ⟨env, S⟩ = .ok (List.replicate ds.length x) ⟨env, T'⟩ ∧ I T'
  | [], _, S, hS => ⟨S, rfl, hS⟩
  | d :: ds, h, S, hS => by
    obtain ⟨s1, env2, T1, e1, e2, e3, e4, e5⟩ := h d List.mem_cons_self S hS
    obtain ⟨T', q, q2⟩ := compL_ivr I x (fun y hy => h y (List.mem_cons_of_mem _ hy)) T1 e5
    refine ⟨T', ?_, q2⟩
    unfold compL
    rw [e1]
    dsimp only
    rw [e2]
    dsimp only
    rw [e3]
    dsimp only [frz]
    rw [e4, q]
    rfl
/-- .. whatever stands in the store then -/
theorem compK_ivr {Γ : Gam} {el : E} {tg own : List Nat} {ifs : Es} {env : List Ent} {ds : List D} (I : Store → Prop) (x : D) (hl : ds.length ≤ 16777216)
    (h : ∀ d ∈ ds, ∀ T, I T → ∃ s1 env2 T', bindT tg d ⟨unset env own, T⟩ = some s1 ∧ evTs Γ ifs s1 = .ok true s1 ∧ evE Γ false el s1 = .ok (.val x) ⟨env2, T'⟩ ∧ unset env2 own = unset env own ∧ I T') {S : Store} (hS : I S) :
    ∃ T', compK Γ el tg own ifs ds ⟨env, S⟩ = .ok (.own (.lst (List.replicate ds.length x))) ⟨back env (unset env own) own, T'⟩ ∧ I T' := by
  obtain ⟨T', q, q2⟩ := compL_ivr I x h S hS
  refine ⟨T', ?_, q2⟩
  unfold compK
  rw [if_pos hl]
  rw [q]
/-! the law's own rounds -/
theorem compL_once {tg own : List Nat} {el : Ev} {tt : EvB} {env : List Ent} : ∀ {ds : List D}, (∀ d ∈ ds, ∀ a b S, ∃ s1 env2 a' b' S', bindT tg d ⟨env, tw a b :: S⟩ = some s1 ∧ tt s1 = .ok true s1 ∧ el s1 = .ok (.val (.bl true)) ⟨env2, tw a' b' :: S'⟩ ∧ unset env2 own = env) →
    ∀ a b S, ∃ a' b' S', compL tg own el tt ds ⟨env, tw a b :: S⟩ = .ok (List.replicate ds.length (.bl true)) ⟨env, tw a' b' :: S'⟩
  | [], _, a, b, S => ⟨a, b, S, rfl⟩
  | d :: ds, h, a, b, S => by
    obtain ⟨s1, env2, a1, b1, S1, e1, e2, e3, e4⟩ := h d List.mem_cons_self a b S
    obtain ⟨a', b', S', q⟩ := compL_once (fun x hx => h x (List.mem_cons_of_mem _ hx)) a1 b1 S1
    refine ⟨a', b', S', ?_⟩
    unfold compL
    rw [e1]
    dsimp only
    rw [e2]
    dsimp only
    rw [e3]
    dsimp only [frz]
    rw [e4, q]
    rfl
def lawN (n : Nat) : Fdef := ⟨1, 3, (.cons (.setc 1 (.lst (.cons (.cst (.int 0)) (.cons (.cst (.int 0)) .nil)))) (.cons (.ret (.bi "all" (.cons (.comp (.call "_law_once" (.cons (.var 0) (.cons (.var 1) .nil)) [] .nil []) [2] (.rng (.cons (.cst (.int n)) .nil)) .nil [2]) .nil))) .nil))⟩
theorem law_rounds {n : Nat} (hn : n ≤ 1000) {m : Nat} [FN P "" "law" (lawN n)] (hm : 1 ≤ m) (ns : List Int) (h : ∀ a b S, ∃ a' b' S', (P.at 100000 (m - 1)).cf "" "_law_once" [.scr ns, .obj 0] (tw a b :: S) = .ok (.bl true) (tw a' b' :: S')) :
    ∃ S, (P.at 100000 m).cf "" "law" [.scr ns] [] = .ok (.bl true) S := by
  refine Exists.elim (Nat.exists_eq_add_of_le' hm) (fun k hk => ?_); subst hk; rw [cfE]
  have e : k + 1 - 1 = k := rfl
  rw [e] at h
  obtain ⟨a', b', S', q⟩ := compL_once (tg := [2]) (own := [2]) (el := evE (P.at 100000 k) false (.call "_law_once" (.cons (.var 0) (.cons (.var 1) .nil)) [] .nil [])) (tt := evTs (P.at 100000 k) .nil) (env := [.val (.scr ns), .val (.obj 0), .un]) (ds := (List.range n).map nat) (by
    intro d _ a b S
    obtain ⟨a', b', S', q⟩ := h a b S
    refine ⟨_, [.val (.scr ns), .val (.obj 0), .val d], a', b', S', rfl, rfl, ?_, rfl⟩
    simp [q]) 0 0 []
  refine ⟨tw a' b' :: S', runF_of rfl ?_⟩
  have hn2 : n < 4611686018427387904 := by omega
  have hn3 : n ≤ 16777216 := by omega
  have e0 : Cell.lst [nat 0, nat 0] = tw 0 0 := rfl
  have e1 : compK (P.at 100000 k) (.call "_law_once" (.cons (.var 0) (.cons (.var 1) .nil)) [] .nil []) [2] [2] .nil ((List.range n).map nat) ⟨[.val (.scr ns), .val (.obj 0), .un], [tw 0 0]⟩ = .ok (.own (.lst (List.replicate n (.bl true)))) ⟨[.val (.scr ns), .val (.obj 0), .un], tw a' b' :: S'⟩ := by
    unfold compK
    rw [if_pos (by simpa using hn3)]
    have : unset [.val (.scr ns), .val (.obj 0), .un] [2] = [.val (.scr ns), .val (.obj 0), Ent.un] := rfl
    dsimp only
    rw [this, q]
    simp
  have e2 : allF [.lst (List.replicate n (.bl true))] = some (.val (.bl true)) := by
    have := all_map (fun _ : Nat => true) (List.range n)
    rw [List.map_const', List.length_range] at this
    rw [this]
    simp
  have e3 : D.int (n : Int) = nat n := rfl
  simp [lawN, cellOf, e0, e3, hn2, e1, e2]
end Z

set_option Elab.async false
set_option linter.all false
set_option maxRecDepth 100000
set_option maxHeartbeats 4000000
set_option exponentiation.threshold 1000
namespace Z
/-! ### small fields: plain -/
theorem xor_lc (a b c : Nat) : a ^^^ (b ^^^ c) = b ^^^ (a ^^^ c) := by rw [← Nat.xor_assoc, Nat.xor_comm a b, Nat.xor_assoc]
theorem xor_cc (a b : Nat) : a ^^^ (a ^^^ b) = b := by rw [← Nat.xor_assoc, Nat.xor_self, Nat.zero_xor]
/-- the bits of x, f of each put together -/
def xs (f : Nat → Nat) : Nat → Nat → Nat
  | 0, _ => 0
  | n + 1, x => xs f n x ^^^ (if x.testBit n then f n else 0)
theorem xs_add (f : Nat → Nat) (n x y : Nat) : xs f n (x ^^^ y) = xs f n x ^^^ xs f n y := by
  induction n with
  | zero => simp [xs]
  | succ n ih =>
    simp only [xs, ih, Nat.testBit_xor]
    cases x.testBit n <;> cases y.testBit n <;> simp [Nat.xor_assoc, Nat.xor_comm, xor_lc, xor_cc]
theorem xs_zero (f : Nat → Nat) (n : Nat) : xs f n 0 = 0 := by
  induction n with
  | zero => rfl
  | succ n ih => simp [xs, ih]
theorem xs_more (f : Nat → Nat) {n m x : Nat} (h : x < 2 ^ n) (hm : n ≤ m) : xs f m x = xs f n x := by
  induction m with
  | zero => obtain rfl : n = 0 := by omega
            rfl
  | succ m ih =>
    by_cases e : n = m + 1
    · rw [e]
    · simp only [xs]
      rw [ih (by omega), Nat.testBit_lt_two_pow (Nat.lt_of_lt_of_le h (Nat.pow_le_pow_right (by decide) (by omega)))]
      simp
theorem xs_one (f : Nat → Nat) {n k : Nat} (h : k < n) : xs f n (2 ^ k) = f k := by
  induction n with
  | zero => omega
  | succ n ih =>
    simp only [xs]
    by_cases e : k = n
    · subst e
      have : xs f k (2 ^ k) = 0 := by
        have key : ∀ j, j ≤ k → xs f j (2 ^ k) = 0 := by
          intro j
          induction j with
          | zero => intro _; rfl
          | succ j ihj =>
            intro hj
            simp only [xs]
            rw [ihj (by omega), Nat.testBit_two_pow]
            simp
            omega
        exact key k (Nat.le_refl _)
      rw [this]
      simp
    · rw [ih (by omega), Nat.testBit_two_pow]
      simp [e]
theorem xs_id {n x : Nat} (h : x < 2 ^ n) : xs (2 ^ ·) n x = x := by
  induction n generalizing x with
  | zero => simp at h; subst h; rfl
  | succ n ih =>
    simp only [xs]
    by_cases hb : x.testBit n = true
    · -- without the top bit
      have hx : x ^^^ 2 ^ n < 2 ^ n := by
        apply Nat.lt_pow_two_of_testBit
        intro i hi
        rw [Nat.testBit_xor, Nat.testBit_two_pow]
        by_cases e : n = i
        · subst e; simp [hb]
        · rw [Nat.testBit_lt_two_pow (Nat.lt_of_lt_of_le h (Nat.pow_le_pow_right (by decide) (by omega)))]
          simp [e]
      have e1 := ih hx
      rw [xs_add] at e1
      have e2 : xs (2 ^ ·) n (2 ^ n) = 0 := by
        have key : ∀ j, j ≤ n → xs (2 ^ ·) j (2 ^ n) = 0 := by
          intro j
          induction j with
          | zero => intro _; rfl
          | succ j ihj =>
            intro hj
            simp only [xs]
            rw [ihj (by omega), Nat.testBit_two_pow]
            simp
            omega
        exact key n (Nat.le_refl _)
      rw [e2, Nat.xor_zero] at e1
      rw [e1, if_pos hb, Nat.xor_assoc, Nat.xor_self, Nat.xor_zero]
    · have hx : x < 2 ^ n := by
        apply Nat.lt_pow_two_of_testBit
        intro i hi
        by_cases e : i = n
        · subst e; simpa using hb
        · exact Nat.testBit_lt_two_pow (Nat.lt_of_lt_of_le h (Nat.pow_le_pow_right (by decide) (by omega)))
      rw [ih hx, if_neg hb, Nat.xor_zero]
/-! products -/
theorem clmU_xs (a b n : Nat) : clmU a b n = xs (fun k => a * 2 ^ k) n b := by
  induction n with
  | zero => rfl
  | succ n ih =>
    simp only [clmU, xs, ih]
    split <;> simp
theorem clm_xs {a b n : Nat} (h : b < 2 ^ n) : clm a b = xs (fun k => a * 2 ^ k) n b := by
  unfold clm
  rw [clmU_xs]
  have h1 : sz b ≤ n := sz_le.mpr h
  exact (xs_more _ lt_sz h1).symm
theorem xor_mul (a b k : Nat) : (a ^^^ b) * 2 ^ k = a * 2 ^ k ^^^ b * 2 ^ k := by
  have := Nat.shiftLeft_xor_distrib (a := a) (b := b) (i := k)
  simpa [Nat.shiftLeft_eq] using this
theorem xs_lin {f g h : Nat → Nat} (e : ∀ k, h k = f k ^^^ g k) (n x : Nat) : xs h n x = xs f n x ^^^ xs g n x := by
  induction n with
  | zero => simp [xs]
  | succ n ih =>
    simp only [xs, ih]
    cases x.testBit n <;> simp [e, Nat.xor_assoc, Nat.xor_comm, xor_lc]
theorem clm_add_left (a a' b : Nat) : clm (a ^^^ a') b = clm a b ^^^ clm a' b := by
  rw [clm_xs (lt_sz (x := b)), clm_xs (lt_sz (x := b)), clm_xs (lt_sz (x := b))]
  exact xs_lin (fun k => xor_mul a a' k) _ _
theorem clm_add_right (a b b' : Nat) : clm a (b ^^^ b') = clm a b ^^^ clm a b' := by
  obtain ⟨n, h1, h2, h3⟩ : ∃ n, b < 2 ^ n ∧ b' < 2 ^ n ∧ b ^^^ b' < 2 ^ n := by
    refine ⟨max (sz b) (sz b'), ?_, ?_, ?_⟩
    · exact Nat.lt_of_lt_of_le lt_sz (Nat.pow_le_pow_right (by decide) (Nat.le_max_left _ _))
    · exact Nat.lt_of_lt_of_le lt_sz (Nat.pow_le_pow_right (by decide) (Nat.le_max_right _ _))
    · exact Nat.xor_lt_two_pow (Nat.lt_of_lt_of_le lt_sz (Nat.pow_le_pow_right (by decide) (Nat.le_max_left _ _))) (Nat.lt_of_lt_of_le lt_sz (Nat.pow_le_pow_right (by decide) (Nat.le_max_right _ _)))
  rw [clm_xs h1, clm_xs h2, clm_xs h3, xs_add]
theorem clm_zero_left (b : Nat) : clm 0 b = 0 := by
  rw [clm_xs (lt_sz (x := b))]
  generalize sz b = n
  induction n with
  | zero => rfl
  | succ n ih => simp only [xs, ih]; simp
theorem clm_zero_right (a : Nat) : clm a 0 = 0 := rfl
/-! rests -/
theorem rest_xs (r : Nat) (hr : r ≠ 0) (N : Nat) : ∀ x, x < 2 ^ N → restP x r = xs (fun k => restP (2 ^ k) r) N x := by
  have key : ∀ n x, x < n → x < 2 ^ N → restP x r = xs (fun k => restP (2 ^ k) r) N x := by
    intro n
    induction n with
    | zero => intro x h; omega
    | succ n ih =>
      intro x hx hN
      by_cases hs : sz x < sz r
      · rw [restP_end hs]
        have : ∀ m, m ≤ sz x → xs (fun k => restP (2 ^ k) r) m x = xs (2 ^ ·) m x := by
          intro m
          induction m with
          | zero => intro _; rfl
          | succ m ihm =>
            intro hm
            simp only [xs]
            rw [ihm (by omega)]
            have : restP (2 ^ m) r = 2 ^ m := restP_end (Nat.lt_of_le_of_lt (sz_le.mpr (show 2 ^ m < 2 ^ (m + 1) from Nat.pow_lt_pow_right (by decide) (by omega))) (by omega))
            rw [this]
        rw [xs_more _ lt_sz (sz_le.mpr hN), this _ (Nat.le_refl _), xs_id lt_sz]
      · have hs : sz r ≤ sz x := by omega
        have hx0 : x ≠ 0 := by
          intro e
          subst e
          have h1 : sz r = 0 := by rw [sz_zero] at hs; omega
          exact hr (sz_eq_zero.mp h1)
        have hsx : sz x ≠ 0 := fun e => hx0 (sz_eq_zero.mp e)
        -- the shifted rule has rest nought
        obtain ⟨K, hK⟩ : ∃ K, sz x = K + 1 := ⟨sz x - 1, by omega⟩
        have hKx := sz_pow_le (x := x) (k := K) (by omega)
        have hKN : K < N := by
          apply Nat.lt_of_not_le
          intro h
          have := Nat.pow_le_pow_right (n := 2) (by decide) h
          omega
        have hszK : sz (2 ^ K) = K + 1 := by
          have := sz_mul (x := 1) (k := K) (by decide)
          simpa [sz, Nat.add_comm] using this
        have dec1 := rest_dec hr hs
        have hlt : ∀ z, sz z < sz x → z < x := by
          intro z hz
          have h1 := lt_sz (x := z)
          have h2 : 2 ^ sz z ≤ 2 ^ K := Nat.pow_le_pow_right (by decide) (by omega)
          omega
        have e1 := restP_step hr hs
        have l1 := hlt _ dec1
        have i1 := ih _ (Nat.lt_of_lt_of_le l1 (Nat.le_of_lt_succ hx)) (Nat.lt_trans l1 hN)
        rw [e1, i1, xs_add]
        -- R (r << s) = 0
        have hs2 : sz r ≤ sz (2 ^ K) := by omega
        have dec2 := rest_dec hr hs2
        have e2 := restP_step hr hs2
        have ez0 : sz (2 ^ K) = sz x := hszK.trans hK.symm
        have l2 := hlt (2 ^ K ^^^ r * 2 ^ (sz (2 ^ K) - sz r)) (by rw [← ez0]; exact dec2)
        have i2 := ih (2 ^ K ^^^ r * 2 ^ (sz (2 ^ K) - sz r)) (Nat.lt_of_lt_of_le l2 (Nat.le_of_lt_succ hx)) (Nat.lt_trans l2 hN)
        rw [i2, xs_add, xs_one _ hKN] at e2
        have ez : sz (2 ^ K) = sz x := by omega
        rw [ez] at e2
        generalize xs (fun k => restP (2 ^ k) r) N (r * 2 ^ (sz x - sz r)) = z at e2 ⊢
        have hz : z = 0 := by
          have : restP (2 ^ K) r ^^^ restP (2 ^ K) r = restP (2 ^ K) r ^^^ (restP (2 ^ K) r ^^^ z) := by rw [← e2]
          rw [Nat.xor_self, ← Nat.xor_assoc, Nat.xor_self, Nat.zero_xor] at this
          exact this.symm
        rw [hz, Nat.xor_zero]
  exact fun x h => key (x + 1) x (Nat.lt_succ_self _) h
theorem rest_add (r : Nat) (hr : r ≠ 0) (x y : Nat) : restP (x ^^^ y) r = restP x r ^^^ restP y r := by
  obtain ⟨N, h1, h2, h3⟩ : ∃ N, x < 2 ^ N ∧ y < 2 ^ N ∧ x ^^^ y < 2 ^ N := by
    refine ⟨max (sz x) (sz y), ?_, ?_, ?_⟩
    · exact Nat.lt_of_lt_of_le lt_sz (Nat.pow_le_pow_right (by decide) (Nat.le_max_left _ _))
    · exact Nat.lt_of_lt_of_le lt_sz (Nat.pow_le_pow_right (by decide) (Nat.le_max_right _ _))
    · exact Nat.xor_lt_two_pow (Nat.lt_of_lt_of_le lt_sz (Nat.pow_le_pow_right (by decide) (Nat.le_max_left _ _))) (Nat.lt_of_lt_of_le lt_sz (Nat.pow_le_pow_right (by decide) (Nat.le_max_right _ _)))
  rw [rest_xs r hr N _ h1, rest_xs r hr N _ h2, rest_xs r hr N _ h3, xs_add]
def mulR (r a b : Nat) : Nat := restP (clm a b) r
theorem mulR_add_right {r : Nat} (hr : r ≠ 0) (a b c : Nat) : mulR r a (b ^^^ c) = mulR r a b ^^^ mulR r a c := by unfold mulR; rw [clm_add_right, rest_add r hr]
theorem mulR_add_left {r : Nat} (hr : r ≠ 0) (a b c : Nat) : mulR r (a ^^^ b) c = mulR r a c ^^^ mulR r b c := by unfold mulR; rw [clm_add_left, rest_add r hr]
theorem mulR_lt {r w : Nat} (hr : r ≠ 0) (h : r < 2 ^ (w + 1)) (a b : Nat) : mulR r a b < 2 ^ w := by
  have h1 := restP_lt (x := clm a b) hr
  have h2 : sz r ≤ w + 1 := sz_le.mpr h
  exact sz_le.mp (by unfold mulR; omega)
/-- the powers, from the first on -/
def pwS (r g : Nat) : Nat → Nat
  | 0 => g
  | k + 1 => mulR r (pwS r g k) g
/-- 1 comes first at N further powers -/
def chkOrd (r g : Nat) : Nat → Nat → Bool
  | 0, now => now == 1
  | n + 1, now => now != 1 && chkOrd r g n (mulR r now g)
theorem chkOrd_ok {r g : Nat} : ∀ {n k : Nat}, chkOrd r g n (pwS r g k) = true → pwS r g (k + n) = 1 ∧ ∀ j, k ≤ j → j < k + n → pwS r g j ≠ 1
  | 0, k, h => ⟨by simpa [chkOrd] using h, fun j h1 h2 => by omega⟩
  | n + 1, k, h => by
    simp only [chkOrd, Bool.and_eq_true] at h
    obtain ⟨i1, i2⟩ := chkOrd_ok (k := k + 1) (n := n) h.2
    refine ⟨by rw [← i1]; congr 1; omega, fun j h1 h2 => ?_⟩
    by_cases e : j = k
    · subst e; simpa using h.1
    · exact i2 j (by omega) (by omega)
def powL (r g N : Nat) : List Nat := 1 :: (List.range N).map (pwS r g)
/-- a field: width, rule, root; how many further powers of 2 there are till 1 comes; the powers of the root, the places of elements among them -/
structure FT where
  w : Nat
  r : Nat
  g : Nat
  n2 : Nat
  ps : List Nat
  lgs : List Nat
namespace FT
def q (f : FT) : Nat := 2 ^ f.w - 1
def p (f : FT) (i : Nat) : Nat := f.ps.getD i 0
def lg (f : FT) (a : Nat) : Nat := f.lgs.getD a 0
/-- the i-th power -/
def nf (f : FT) (i : Nat) : Nat := f.p (i % f.q)
def mul (f : FT) (a b : Nat) : Nat := if a = 0 ∨ b = 0 then 0 else f.nf (f.lg a + f.lg b)
def inv (f : FT) (a : Nat) : Nat := f.nf (f.q - f.lg a)
def pow (f : FT) (a n : Nat) : Nat := if a = 0 then (if n = 0 then 1 else 0) else f.nf (f.lg a * n)
end FT
def ft_2_7 : FT := ⟨2, 7, 2, 2, [1, 2, 3], [0, 0, 1, 2]⟩
def ft_3_11 : FT := ⟨3, 11, 2, 6, [1, 2, 4, 3, 6, 7, 5], [0, 0, 1, 3, 2, 6, 4, 5]⟩
def ft_3_13 : FT := ⟨3, 13, 2, 6, [1, 2, 4, 5, 7, 3, 6], [0, 0, 1, 5, 2, 3, 6, 4]⟩
def ft_4_19 : FT := ⟨4, 19, 2, 14, [1, 2, 4, 8, 3, 6, 12, 11, 5, 10, 7, 14, 15, 13, 9], [0, 0, 1, 4, 2, 8, 5, 10, 3, 14, 9, 7, 6, 13, 11, 12]⟩
def ft_4_31 : FT := ⟨4, 31, 3, 4, [1, 3, 5, 15, 14, 13, 8, 7, 9, 4, 12, 11, 2, 6, 10], [0, 0, 12, 1, 9, 2, 13, 7, 6, 8, 14, 11, 10, 5, 4, 3]⟩
def ft_5_37 : FT := ⟨5, 37, 2, 30, [1, 2, 4, 8, 16, 5, 10, 20, 13, 26, 17, 7, 14, 28, 29, 31, 27, 19, 3, 6, 12, 24, 21, 15, 30, 25, 23, 11, 22, 9, 18], [0, 0, 1, 18, 2, 5, 19, 11, 3, 29, 6, 27, 20, 8, 12, 23, 4, 10, 30, 17, 7, 22, 28, 26, 21, 25, 9, 16, 13, 14, 24, 15]⟩
def ft_6_67 : FT := ⟨6, 67, 2, 62, [1, 2, 4, 8, 16, 32, 3, 6, 12, 24, 48, 35, 5, 10, 20, 40, 19, 38, 15, 30, 60, 59, 53, 41, 17, 34, 7, 14, 28, 56, 51, 37, 9, 18, 36, 11, 22, 44, 27, 54, 47, 29, 58, 55, 45, 25, 50, 39, 13, 26, 52, 43, 21, 42, 23, 46, 31, 62, 63, 61, 57, 49, 33], [0, 0, 1, 6, 2, 12, 7, 26, 3, 32, 13, 35, 8, 48, 27, 18, 4, 24, 33, 16, 14, 52, 36, 54, 9, 45, 49, 38, 28, 41, 19, 56, 5, 62, 25, 11, 34, 31, 17, 47, 15, 23, 53, 51, 37, 44, 55, 40, 10, 61, 46, 30, 50, 22, 39, 43, 29, 60, 42, 21, 20, 59, 57, 58]⟩
def ft_8_283 : FT := ⟨8, 283, 3, 50, [1, 3, 5, 15, 17, 51, 85, 255, 26, 46, 114, 150, 161, 248, 19, 53, 95, 225, 56, 72, 216, 115, 149, 164, 247, 2, 6, 10, 30, 34, 102, 170, 229, 52, 92, 228, 55, 89, 235, 38, 106, 190, 217, 112, 144, 171, 230, 49, 83, 245, 4, 12, 20, 60, 68, 204, 79, 209, 104, 184, 211, 110, 178, 205, 76, 212, 103, 169, 224, 59, 77, 215, 98, 166, 241, 8, 24, 40, 120, 136, 131, 158, 185, 208, 107, 189, 220, 127, 129, 152, 179, 206, 73, 219, 118, 154, 181, 196, 87, 249, 16, 48, 80, 240, 11, 29, 39, 105, 187, 214, 97, 163, 254, 25, 43, 125, 135, 146, 173, 236, 47, 113, 147, 174, 233, 32, 96, 160, 251, 22, 58, 78, 210, 109, 183, 194, 93, 231, 50, 86, 250, 21, 63, 65, 195, 94, 226, 61, 71, 201, 64, 192, 91, 237, 44, 116, 156, 191, 218, 117, 159, 186, 213, 100, 172, 239, 42, 126, 130, 157, 188, 223, 122, 142, 137, 128, 155, 182, 193, 88, 232, 35, 101, 175, 234, 37, 111, 177, 200, 67, 197, 84, 252, 31, 33, 99, 165, 244, 7, 9, 27, 45, 119, 153, 176, 203, 70, 202, 69, 207, 74, 222, 121, 139, 134, 145, 168, 227, 62, 66, 198, 81, 243, 14, 18, 54, 90, 238, 41, 123, 141, 140, 143, 138, 133, 148, 167, 242, 13, 23, 57, 75, 221, 124, 132, 151, 162, 253, 28, 36, 108, 180, 199, 82, 246], [0, 0, 25, 1, 50, 2, 26, 198, 75, 199, 27, 104, 51, 238, 223, 3, 100, 4, 224, 14, 52, 141, 129, 239, 76, 113, 8, 200, 248, 105, 28, 193, 125, 194, 29, 181, 249, 185, 39, 106, 77, 228, 166, 114, 154, 201, 9, 120, 101, 47, 138, 5, 33, 15, 225, 36, 18, 240, 130, 69, 53, 147, 218, 142, 150, 143, 219, 189, 54, 208, 206, 148, 19, 92, 210, 241, 64, 70, 131, 56, 102, 221, 253, 48, 191, 6, 139, 98, 179, 37, 226, 152, 34, 136, 145, 16, 126, 110, 72, 195, 163, 182, 30, 66, 58, 107, 40, 84, 250, 133, 61, 186, 43, 121, 10, 21, 155, 159, 94, 202, 78, 212, 172, 229, 243, 115, 167, 87, 175, 88, 168, 80, 244, 234, 214, 116, 79, 174, 233, 213, 231, 230, 173, 232, 44, 215, 117, 122, 235, 22, 11, 245, 89, 203, 95, 176, 156, 169, 81, 160, 127, 12, 246, 111, 23, 196, 73, 236, 216, 67, 31, 45, 164, 118, 123, 183, 204, 187, 62, 90, 251, 96, 177, 134, 59, 82, 161, 108, 170, 85, 41, 157, 151, 178, 135, 144, 97, 190, 220, 252, 188, 149, 207, 205, 55, 63, 91, 209, 83, 57, 132, 60, 65, 162, 109, 71, 20, 42, 158, 93, 86, 242, 211, 171, 68, 17, 146, 217, 35, 32, 46, 137, 180, 124, 184, 38, 119, 153, 227, 165, 103, 74, 237, 222, 197, 49, 254, 24, 13, 99, 140, 128, 192, 247, 112, 7]⟩
def ft_8_285 : FT := ⟨8, 285, 2, 254, [1, 2, 4, 8, 16, 32, 64, 128, 29, 58, 116, 232, 205, 135, 19, 38, 76, 152, 45, 90, 180, 117, 234, 201, 143, 3, 6, 12, 24, 48, 96, 192, 157, 39, 78, 156, 37, 74, 148, 53, 106, 212, 181, 119, 238, 193, 159, 35, 70, 140, 5, 10, 20, 40, 80, 160, 93, 186, 105, 210, 185, 111, 222, 161, 95, 190, 97, 194, 153, 47, 94, 188, 101, 202, 137, 15, 30, 60, 120, 240, 253, 231, 211, 187, 107, 214, 177, 127, 254, 225, 223, 163, 91, 182, 113, 226, 217, 175, 67, 134, 17, 34, 68, 136, 13, 26, 52, 104, 208, 189, 103, 206, 129, 31, 62, 124, 248, 237, 199, 147, 59, 118, 236, 197, 151, 51, 102, 204, 133, 23, 46, 92, 184, 109, 218, 169, 79, 158, 33, 66, 132, 21, 42, 84, 168, 77, 154, 41, 82, 164, 85, 170, 73, 146, 57, 114, 228, 213, 183, 115, 230, 209, 191, 99, 198, 145, 63, 126, 252, 229, 215, 179, 123, 246, 241, 255, 227, 219, 171, 75, 150, 49, 98, 196, 149, 55, 110, 220, 165, 87, 174, 65, 130, 25, 50, 100, 200, 141, 7, 14, 28, 56, 112, 224, 221, 167, 83, 166, 81, 162, 89, 178, 121, 242, 249, 239, 195, 155, 43, 86, 172, 69, 138, 9, 18, 36, 72, 144, 61, 122, 244, 245, 247, 243, 251, 235, 203, 139, 11, 22, 44, 88, 176, 125, 250, 233, 207, 131, 27, 54, 108, 216, 173, 71, 142], [0, 0, 1, 25, 2, 50, 26, 198, 3, 223, 51, 238, 27, 104, 199, 75, 4, 100, 224, 14, 52, 141, 239, 129, 28, 193, 105, 248, 200, 8, 76, 113, 5, 138, 101, 47, 225, 36, 15, 33, 53, 147, 142, 218, 240, 18, 130, 69, 29, 181, 194, 125, 106, 39, 249, 185, 201, 154, 9, 120, 77, 228, 114, 166, 6, 191, 139, 98, 102, 221, 48, 253, 226, 152, 37, 179, 16, 145, 34, 136, 54, 208, 148, 206, 143, 150, 219, 189, 241, 210, 19, 92, 131, 56, 70, 64, 30, 66, 182, 163, 195, 72, 126, 110, 107, 58, 40, 84, 250, 133, 186, 61, 202, 94, 155, 159, 10, 21, 121, 43, 78, 212, 229, 172, 115, 243, 167, 87, 7, 112, 192, 247, 140, 128, 99, 13, 103, 74, 222, 237, 49, 197, 254, 24, 227, 165, 153, 119, 38, 184, 180, 124, 17, 68, 146, 217, 35, 32, 137, 46, 55, 63, 209, 91, 149, 188, 207, 205, 144, 135, 151, 178, 220, 252, 190, 97, 242, 86, 211, 171, 20, 42, 93, 158, 132, 60, 57, 83, 71, 109, 65, 162, 31, 45, 67, 216, 183, 123, 164, 118, 196, 23, 73, 236, 127, 12, 111, 246, 108, 161, 59, 82, 41, 157, 85, 170, 251, 96, 134, 177, 187, 204, 62, 90, 203, 89, 95, 176, 156, 169, 160, 81, 11, 245, 22, 235, 122, 117, 44, 215, 79, 174, 213, 233, 230, 231, 173, 232, 116, 214, 244, 234, 168, 80, 88, 175]⟩
def fts : List FT := [ft_2_7, ft_3_11, ft_3_13, ft_4_19, ft_4_31, ft_5_37, ft_6_67, ft_8_283, ft_8_285]
structure FtOk (f : FT) : Prop where
  w : 2 ≤ f.w ∧ f.w ≤ 8
  r : 2 ^ f.w ≤ f.r ∧ f.r < 2 ^ (f.w + 1)
  g : f.g = 2 ∨ f.g = 3
  n2 : f.n2 ≤ f.q - 1 ∧ (f.g = 3 → f.n2 < f.q - 1) ∧ f.g < 2 ^ f.w
  rule : isRule f.r f.w = true
  o2 : chkOrd f.r 2 f.n2 2 = true
  og : chkOrd f.r f.g (f.q - 1) f.g = true
  len : f.ps.length = f.q
  p0 : f.p 0 = 1
  ch : ∀ i < f.q, f.p ((i + 1) % f.q) = mulR f.r (f.p i) f.g
  lt : ∀ i < f.q, f.p i < 2 ^ f.w ∧ f.p i ≠ 0 ∧ f.lg (f.p i) = i
  lgp : ∀ a < 2 ^ f.w, a ≠ 0 → f.lg a < f.q ∧ f.p (f.lg a) = a
  bas : ∀ i < f.q, ∀ k < f.w, f.nf (i + f.lg (2 ^ k)) = mulR f.r (f.p i) (2 ^ k)
def ftOkB (f : FT) : Bool := decide (2 ≤ f.w ∧ f.w ≤ 8) && (decide (2 ^ f.w ≤ f.r ∧ f.r < 2 ^ (f.w + 1)) && (decide (f.g = 2 ∨ f.g = 3) && (decide (f.n2 ≤ f.q - 1 ∧ (f.g = 3 → f.n2 < f.q - 1) ∧ f.g < 2 ^ f.w) && (isRule f.r f.w && (chkOrd f.r 2 f.n2 2 && (chkOrd f.r f.g (f.q - 1) f.g && (decide (f.ps.length = f.q) && (decide (f.p 0 = 1) &&
  (decide (∀ i < f.q, f.p ((i + 1) % f.q) = mulR f.r (f.p i) f.g) && (decide (∀ i < f.q, f.p i < 2 ^ f.w ∧ f.p i ≠ 0 ∧ f.lg (f.p i) = i) && (decide (∀ a < 2 ^ f.w, a ≠ 0 → f.lg a < f.q ∧ f.p (f.lg a) = a) && decide (∀ i < f.q, ∀ k < f.w, f.nf (i + f.lg (2 ^ k)) = mulR f.r (f.p i) (2 ^ k)))))))))))))
theorem ftOk_of {f : FT} (h : ftOkB f = true) : FtOk f := by
  unfold ftOkB at h
  simp only [Bool.and_eq_true, decide_eq_true_eq] at h
  obtain ⟨h1, h2, h3, h4, h5, h6, h7, h8, h9, ha, hb, hc, hd⟩ := h
  exact ⟨h1, h2, h3, h4, h5, h6, h7, h8, h9, ha, hb, hc, hd⟩
theorem fts_okB : (fts.all ftOkB) = true := by decide +kernel
theorem fts_ok {f : FT} (h : f ∈ fts) : FtOk f := ftOk_of (List.all_eq_true.mp fts_okB f h)
end Z

set_option Elab.async false
set_option linter.all false
set_option maxRecDepth 100000
set_option maxHeartbeats 4000000
set_option exponentiation.threshold 1000
namespace Z
/-! ### small fields: the product is the polynomials' one -/
variable {f : FT}
theorem FtOk.r0 (h : FtOk f) : f.r ≠ 0 := by have := h.r.1; have := Nat.two_pow_pos f.w; omega
theorem FtOk.q1 (h : FtOk f) : 1 ≤ f.q ∧ f.q + 1 = 2 ^ f.w ∧ f.q ≤ 255 := by
  have h1 : 2 ^ 2 ≤ 2 ^ f.w := Nat.pow_le_pow_right (by decide) h.w.1
  have h2 : 2 ^ f.w ≤ 2 ^ 8 := Nat.pow_le_pow_right (by decide) h.w.2
  unfold FT.q
  omega
theorem FtOk.nf_lt (h : FtOk f) (i : Nat) : f.nf i < 2 ^ f.w ∧ f.nf i ≠ 0 ∧ f.lg (f.nf i) = i % f.q := h.lt _ (Nat.mod_lt _ (by have := h.q1; omega))
theorem FtOk.nf_lg (h : FtOk f) {a : Nat} (ha : a < 2 ^ f.w) (h0 : a ≠ 0) : f.nf (f.lg a) = a := by
  obtain ⟨h1, h2⟩ := h.lgp a ha h0
  unfold FT.nf
  rw [Nat.mod_eq_of_lt h1, h2]
theorem FtOk.nf_succ (h : FtOk f) (i : Nat) : f.nf (i + 1) = mulR f.r (f.nf i) f.g := by
  have := h.ch (i % f.q) (Nat.mod_lt _ (by have := h.q1; omega))
  unfold FT.nf
  rw [← this]
  congr 1
  rw [Nat.mod_add_mod]
/-- the i-th power times b -/
def FT.F (f : FT) (i b : Nat) : Nat := if b = 0 then 0 else f.nf (i + f.lg b)
theorem mulR_zero_left (r b : Nat) : mulR r 0 b = 0 := by
  unfold mulR
  rw [clm_zero_left]
  unfold restP
  show restF 1 0 r = 0
  unfold restF
  split
  · rename_i h
    have : r = 0 := by rw [sz_zero] at h; exact sz_eq_zero.mp (by omega)
    subst this
    simp [restF]
  · rfl
theorem mulR_zero_right (r b : Nat) : mulR r b 0 = 0 := by
  unfold mulR
  rw [clm_zero_right, ← clm_zero_left 0]
  exact mulR_zero_left r 0
theorem FtOk.F0 (h : FtOk f) {b : Nat} (hb : b < 2 ^ f.w) : f.F 0 b = b := by
  unfold FT.F
  split
  · rename_i e; exact e.symm
  · rename_i e; rw [Nat.zero_add, h.nf_lg hb e]
theorem FtOk.Fs (h : FtOk f) (i b : Nat) : f.F (i + 1) b = mulR f.r (f.F i b) f.g := by
  unfold FT.F
  split
  · rw [mulR_zero_left]
  · rw [← h.nf_succ]; congr 1; omega
theorem FtOk.F_add (h : FtOk f) (i : Nat) {a b : Nat} (ha : a < 2 ^ f.w) (hb : b < 2 ^ f.w) : f.F i (a ^^^ b) = f.F i a ^^^ f.F i b := by
  induction i with
  | zero => rw [h.F0 ha, h.F0 hb, h.F0 (Nat.xor_lt_two_pow ha hb)]
  | succ i ih => rw [h.Fs, h.Fs, h.Fs, ih, mulR_add_left h.r0]
theorem add_xs {w : Nat} {G : Nat → Nat} (h0 : G 0 = 0) (ha : ∀ a b, a < 2 ^ w → b < 2 ^ w → G (a ^^^ b) = G a ^^^ G b) : ∀ n, n ≤ w → ∀ b, b < 2 ^ n → G b = xs (fun k => G (2 ^ k)) n b := by
  intro n
  induction n with
  | zero => intro _ b hb; simp at hb; subst hb; exact h0
  | succ n ih =>
    intro hn b hb
    have hp : (2 : Nat) ^ n < 2 ^ w := Nat.pow_lt_pow_right (by decide) (by omega)
    have hbw : b < 2 ^ w := Nat.lt_of_lt_of_le hb (Nat.pow_le_pow_right (by decide) hn)
    simp only [xs]
    by_cases ht : b.testBit n = true
    · have hx : b ^^^ 2 ^ n < 2 ^ n := by
        apply Nat.lt_pow_two_of_testBit
        intro i hi
        rw [Nat.testBit_xor, Nat.testBit_two_pow]
        by_cases e : n = i
        · subst e; simp [ht]
        · rw [Nat.testBit_lt_two_pow (Nat.lt_of_lt_of_le hb (Nat.pow_le_pow_right (by decide) (by omega)))]
          simp [e]
      have e1 := ih (by omega) _ hx
      have e2 := ha _ _ hbw hp
      have e3 := ih (by omega) 0 (Nat.two_pow_pos n)
      rw [xs_add] at e1
      have e4 : xs (fun k => G (2 ^ k)) n (2 ^ n) = 0 := by
        have key : ∀ j, j ≤ n → xs (fun k => G (2 ^ k)) j (2 ^ n) = 0 := by
          intro j
          induction j with
          | zero => intro _; rfl
          | succ j ihj =>
            intro hj
            simp only [xs]
            rw [ihj (by omega), Nat.testBit_two_pow]
            simp
            omega
        exact key n (Nat.le_refl _)
      rw [e4, Nat.xor_zero] at e1
      rw [if_pos ht, ← e1, e2, Nat.xor_assoc, Nat.xor_self, Nat.xor_zero]
    · have hx : b < 2 ^ n := by
        apply Nat.lt_pow_two_of_testBit
        intro i hi
        by_cases e : i = n
        · subst e; simpa using ht
        · exact Nat.testBit_lt_two_pow (Nat.lt_of_lt_of_le hb (Nat.pow_le_pow_right (by decide) (by omega)))
      rw [if_neg ht, Nat.xor_zero]
      exact ih (by omega) b hx
theorem xs_congr {F G : Nat → Nat} : ∀ {n x : Nat}, (∀ k, k < n → F k = G k) → xs F n x = xs G n x
  | 0, _, _ => rfl
  | n + 1, x, h => by
    simp only [xs]
    rw [xs_congr fun k hk => h k (by omega), h n (by omega)]
/-- THE PRODUCT -/
theorem FtOk.mul_eq (h : FtOk f) {a b : Nat} (ha : a < 2 ^ f.w) (hb : b < 2 ^ f.w) : f.mul a b = mulR f.r a b := by
  by_cases h0 : a = 0
  · subst h0; simp [FT.mul, mulR_zero_left]
  · obtain ⟨l1, l2⟩ := h.lgp a ha h0
    have e1 : f.mul a b = f.F (f.lg a) b := by
      unfold FT.mul FT.F
      by_cases hb0 : b = 0 <;> simp [h0, hb0]
    have e2 : f.F (f.lg a) b = xs (fun k => f.F (f.lg a) (2 ^ k)) f.w b := add_xs (by simp [FT.F]) (fun x y hx hy => h.F_add _ hx hy) f.w (Nat.le_refl _) b hb
    have e3 : mulR f.r a b = xs (fun k => mulR f.r a (2 ^ k)) f.w b := add_xs (G := mulR f.r a) (mulR_zero_right _ _) (fun x y _ _ => mulR_add_right h.r0 a x y) f.w (Nat.le_refl _) b hb
    rw [e1, e2, e3]
    apply xs_congr
    intro k hk
    have := h.bas (f.lg a) l1 k hk
    rw [l2] at this
    rw [← this]
    unfold FT.F
    rw [if_neg (Nat.pos_iff_ne_zero.mp (Nat.two_pow_pos k))]
/-! the laws of a field -/
theorem FtOk.mul_lt (h : FtOk f) (a b : Nat) : f.mul a b < 2 ^ f.w := by
  unfold FT.mul
  split
  · exact Nat.two_pow_pos _
  · exact (h.nf_lt _).1
theorem FT.mul_comm (f : FT) (a b : Nat) : f.mul a b = f.mul b a := by
  unfold FT.mul
  rw [Nat.add_comm]
  by_cases h1 : a = 0 <;> by_cases h2 : b = 0 <;> simp [h1, h2]
theorem FtOk.mul_nf (h : FtOk f) (i j : Nat) : f.mul (f.nf i) (f.nf j) = f.nf (i + j) := by
  unfold FT.mul
  rw [if_neg (by have := (h.nf_lt i).2.1; have := (h.nf_lt j).2.1; simp_all), (h.nf_lt i).2.2, (h.nf_lt j).2.2]
  unfold FT.nf
  rw [← Nat.add_mod]
theorem FT.mul_zero (f : FT) (a : Nat) : f.mul a 0 = 0 := by simp [FT.mul]
theorem FT.zero_mul (f : FT) (a : Nat) : f.mul 0 a = 0 := by simp [FT.mul]
theorem FtOk.mul_ne (h : FtOk f) {a b : Nat} (ha : a ≠ 0) (hb : b ≠ 0) : f.mul a b ≠ 0 := by
  unfold FT.mul
  rw [if_neg (by simp [ha, hb])]
  exact (h.nf_lt _).2.1
theorem FtOk.mul_assoc (h : FtOk f) {a b c : Nat} (ha : a < 2 ^ f.w) (hb : b < 2 ^ f.w) (hc : c < 2 ^ f.w) : f.mul (f.mul a b) c = f.mul a (f.mul b c) := by
  by_cases h1 : a = 0
  · subst h1; simp [FT.zero_mul]
  by_cases h2 : b = 0
  · subst h2; simp [FT.zero_mul, FT.mul_zero]
  by_cases h3 : c = 0
  · subst h3; simp [FT.mul_zero]
  rw [← h.nf_lg ha h1, ← h.nf_lg hb h2, ← h.nf_lg hc h3]
  simp only [h.mul_nf, Nat.add_assoc]
theorem FtOk.nf0 (h : FtOk f) : f.nf 0 = 1 := by
  unfold FT.nf
  rw [Nat.zero_mod]
  exact h.p0
theorem FtOk.one_lt (h : FtOk f) : 1 < 2 ^ f.w := by have := h.nf_lt 0; rw [h.nf0] at this; exact this.1
theorem FtOk.mul_one (h : FtOk f) {a : Nat} (ha : a < 2 ^ f.w) : f.mul a 1 = a := by
  by_cases h1 : a = 0
  · subst h1; exact FT.zero_mul f 1
  · rw [← h.nf0]
    conv => lhs; rw [← h.nf_lg ha h1]
    rw [h.mul_nf, Nat.add_zero, h.nf_lg ha h1]
theorem FtOk.mul_add (h : FtOk f) {a b c : Nat} (ha : a < 2 ^ f.w) (hb : b < 2 ^ f.w) (hc : c < 2 ^ f.w) : f.mul a (b ^^^ c) = f.mul a b ^^^ f.mul a c := by
  rw [h.mul_eq ha hb, h.mul_eq ha hc, h.mul_eq ha (Nat.xor_lt_two_pow hb hc), mulR_add_right h.r0]
theorem FtOk.inv_ok (h : FtOk f) {a : Nat} (ha : a < 2 ^ f.w) (h0 : a ≠ 0) : f.mul a (f.inv a) = 1 ∧ f.inv a < 2 ^ f.w ∧ f.inv a ≠ 0 := by
  refine ⟨?_, (h.nf_lt _).1, (h.nf_lt _).2.1⟩
  have l1 := (h.lgp a ha h0).1
  have e : f.lg a + (f.q - f.lg a) = f.q := by omega
  have e2 : f.mul (f.nf (f.lg a)) (f.nf (f.q - f.lg a)) = 1 := by
    rw [h.mul_nf, e]
    unfold FT.nf
    rw [Nat.mod_self]
    exact h.p0
  rw [h.nf_lg ha h0] at e2
  exact e2
/-! powers -/
theorem FtOk.pow_succ (h : FtOk f) {a : Nat} (ha : a < 2 ^ f.w) (n : Nat) : f.pow a (n + 1) = f.mul (f.pow a n) a := by
  unfold FT.pow
  by_cases h0 : a = 0
  · subst h0; simp [FT.mul_zero]
  · rw [if_neg h0, if_neg h0]
    conv => rhs; rw [← h.nf_lg ha h0]
    rw [h.nf_lg ha h0]
    conv => rhs; arg 3; rw [← h.nf_lg ha h0]
    rw [h.mul_nf]
    rfl
theorem FtOk.pow_zero (h : FtOk f) (a : Nat) : f.pow a 0 = 1 := by
  unfold FT.pow
  split
  · simp
  · rw [Nat.mul_zero]; exact h.nf0
theorem FtOk.pow_lt (h : FtOk f) (a n : Nat) : f.pow a n < 2 ^ f.w := by
  unfold FT.pow
  split
  · split
    · exact h.one_lt
    · exact Nat.two_pow_pos _
  · exact (h.nf_lt _).1
theorem FtOk.pwS_eq (h : FtOk f) {a : Nat} (ha : a < 2 ^ f.w) (k : Nat) : pwS f.r a k = f.pow a (k + 1) := by
  induction k with
  | zero =>
    rw [h.pow_succ ha, h.pow_zero, FT.mul_comm, h.mul_one ha]
    rfl
  | succ k ih =>
    rw [h.pow_succ ha, ← ih, h.mul_eq _ ha]
    · rfl
    · rw [ih]; exact h.pow_lt _ _
end Z

set_option Elab.async false
set_option linter.all false
set_option maxRecDepth 100000
set_option maxHeartbeats 4000000
set_option exponentiation.threshold 1000
namespace Z
open PySem (Operator CmpOp)
variable {P : Prg}
/-! ### small fields: the walk -/
def flogs (ps : List Nat) : List (DK × D) := ps.zipIdx.map fun p => (DK.ki (p.1 : Int), nat p.2)
def fcell (f : FT) : Cell := .ins "Field" [("wide", nat f.w), ("ruled", nat f.r), ("size", nat (2 ^ f.w)), ("base", nat f.g), ("powers", .lst (f.ps.map nat)), ("logs", .dic (flogs f.ps))]
theorem look_enum (a : Nat) : ∀ (ps : List Nat) (s : Nat), a ∈ ps → look ((ps.zipIdx s).map fun p => (DK.ki (p.1 : Int), nat p.2)) (.ki (a : Int)) = some (nat (s + ps.idxOf a))
  | [], s, h => by cases h
  | x :: ps, s, h => by
    rw [List.zipIdx_cons, List.map_cons]
    unfold look
    by_cases e : x = a
    · subst e
      simp
    · have e2 : ¬ (DK.ki (x : Int) = DK.ki (a : Int)) := by
        intro z
        have := DK.ki.inj z
        omega
      dsimp only
      rw [if_neg e2, look_enum a ps (s + 1) (by simpa [Ne.symm e] using h), List.idxOf_cons]
      have e3 : (x == a) = false := by simpa using e
      rw [e3]
      simp only [cond_false]
      congr 2
      omega
theorem FtOk.look_lg {f : FT} (h : FtOk f) {a : Nat} (ha : a < 2 ^ f.w) (h0 : a ≠ 0) : look (flogs f.ps) (.ki (a : Int)) = some (nat (f.lg a)) := by
  obtain ⟨l1, l2⟩ := h.lgp a ha h0
  have hl : f.lg a < f.ps.length := by rw [h.len]; exact l1
  have hm : a ∈ f.ps := by
    have : f.ps[f.lg a] = a := by
      have e := l2
      unfold FT.p at e
      rw [List.getD_eq_getElem?_getD, List.getElem?_eq_getElem hl] at e
      simpa using e
    rw [← this]
    exact List.getElem_mem hl
  have e := look_enum a f.ps 0 hm
  unfold flogs
  rw [e]
  congr 2
  have hi : f.ps.idxOf a < f.ps.length := List.idxOf_lt_length_of_mem hm
  have e2 : f.p (f.ps.idxOf a) = a := by
    unfold FT.p
    rw [List.getD_eq_getElem?_getD, List.getElem?_eq_getElem hi]
    simp
  have := (h.lt (f.ps.idxOf a) (by rw [← h.len]; exact hi)).2.2
  rw [e2] at this
  omega
section
variable {S : Store} {n : Nat} {f : FT}
theorem FtOk.idx_logs (h : FtOk f) {a : Nat} (ha : a < 2 ^ f.w) (h0 : a ≠ 0) (S : Store) : idxD S (.dic (flogs f.ps)) (nat a) = some (nat (f.lg a)) := h.look_lg ha h0
theorem FtOk.idx_ps (h : FtOk f) (i : Nat) : idxL (f.ps.map nat) (nat (i % f.q)) = some (nat (f.nf i)) := by
  have hi : i % f.q < f.ps.length := by rw [h.len]; exact Nat.mod_lt _ (by have := h.q1; omega)
  rw [idxL_nat (by simpa using hi), List.getElem_map]
  congr 2
  unfold FT.nf FT.p
  rw [List.getD_eq_getElem?_getD, List.getElem?_eq_getElem hi]
  rfl
theorem f_ins (h : S[n]? = some (fcell f)) : insOf S "Field" (.obj n) = some n := insOf_ok h
theorem f_no (h : S[n]? = some (fcell f)) {m : String} (hm : m ≠ "wide" ∧ m ≠ "ruled" ∧ m ≠ "size" ∧ m ≠ "base" ∧ m ≠ "powers" ∧ m ≠ "logs") : noMeth S m n = some n := by
  refine noMeth_ok h ?_
  obtain ⟨h1, h2, h3, h4, h5, h6⟩ := hm
  simp [List.lookup, beq_eq_false_iff_ne.mpr h1, beq_eq_false_iff_ne.mpr h2, beq_eq_false_iff_ne.mpr h3, beq_eq_false_iff_ne.mpr h4, beq_eq_false_iff_ne.mpr h5, beq_eq_false_iff_ne.mpr h6]
variable [FL P "Field" "wide"] [FL P "Field" "ruled"] [FL P "Field" "size"] [FL P "Field" "base"] [FL P "Field" "powers"] [FL P "Field" "logs"]
theorem f_wide (h : S[n]? = some (fcell f)) : fldD P.fld "wide" S (.obj n) = some (nat f.w) := (fld_ok h).trans rfl
theorem f_ruled (h : S[n]? = some (fcell f)) : fldD P.fld "ruled" S (.obj n) = some (nat f.r) := (fld_ok h).trans rfl
theorem f_size (h : S[n]? = some (fcell f)) : fldD P.fld "size" S (.obj n) = some (nat (2 ^ f.w)) := (fld_ok h).trans rfl
theorem f_base (h : S[n]? = some (fcell f)) : fldD P.fld "base" S (.obj n) = some (nat f.g) := (fld_ok h).trans rfl
theorem f_powers (h : S[n]? = some (fcell f)) : fldD P.fld "powers" S (.obj n) = some (.lst (f.ps.map nat)) := (fld_ok h).trans rfl
theorem f_logs (h : S[n]? = some (fcell f)) : fldD P.fld "logs" S (.obj n) = some (.dic (flogs f.ps)) := (fld_ok h).trans rfl
variable [TY P "int"] [TY P "bool"] [FN P "" "is_whole" L.ir_is_whole] [FN P "Field" "has" L.ir_Field_has] [FN P "Field" "need" L.ir_Field_need]
theorem has_D {m : Nat} (hm : 2 ≤ m) (ok : FtOk f) (h : S[n]? = some (fcell f)) {d : D} (hd : d.data = true) : (P.at 100000 m).cf "Field" "has" [.obj n, d] S = .ok (.bl (isWhole 0 ((2 ^ f.w - 1 : Nat) : Int) d)) S := by
  refine Exists.elim (Nat.exists_eq_add_of_le' hm) (fun k hk => ?_)
  subst hk
  rw [cfE]
  refine runF_of rfl ?_
  clear hm
  have h1 : 1 ≤ 2 ^ f.w := Nat.one_le_two_pow
  have iw := is_whole_DN (P := P) (m := k + 1) (by omega) hd 0 (2 ^ f.w - 1) S
  simp [L.ir_Field_has, f_size (P := P) h, bin_subN, h1, iw]
theorem need_D {m : Nat} (hm : 3 ≤ m) (ok : FtOk f) (h : S[n]? = some (fcell f)) {d : D} (hd : d.data = true) : (P.at 100000 m).cf "Field" "need" [.obj n, d] S = if isWhole 0 ((2 ^ f.w - 1 : Nat) : Int) d = true then .ok .non S else .exc "NoElement" S := by
  refine Exists.elim (Nat.exists_eq_add_of_le' hm) (fun k hk => ?_)
  subst hk
  rw [cfE]
  refine runF_of rfl ?_
  clear hm
  have e := has_D (P := P) (m := k + 2) (by omega) ok h hd
  cases hw : isWhole 0 ((2 ^ f.w - 1 : Nat) : Int) d <;> (rw [hw] at e; simp [L.ir_Field_need, methE, f_ins h, f_no h (m := "has") (by decide), e])
theorem need_N {m : Nat} (hm : 3 ≤ m) (ok : FtOk f) (h : S[n]? = some (fcell f)) {a : Nat} (ha : a < 2 ^ f.w) : (P.at 100000 m).cf "Field" "need" [.obj n, nat a] S = .ok .non S := by
  rw [need_D hm ok h (data_nat a)]
  have : isWhole 0 ((2 ^ f.w - 1 : Nat) : Int) (nat a) = true := by
    rw [show (0 : Int) = ((0 : Nat) : Int) from rfl, isWhole_nat]
    simp
    omega
  rw [this]
  rfl
variable [FN P "Field" "mul" L.ir_Field_mul] [FN P "Field" "undone" L.ir_Field_undone] [FN P "Field" "raised" L.ir_Field_raised]
theorem fmul_N {m : Nat} (hm : 1 ≤ m) (ok : FtOk f) (h : S[n]? = some (fcell f)) {a b : Nat} (ha : a < 2 ^ f.w) (hb : b < 2 ^ f.w) : (P.at 100000 m).cf "Field" "mul" [.obj n, nat a, nat b] S = .ok (nat (f.mul a b)) S := by
  refine Exists.elim (Nat.exists_eq_add_of_le' hm) (fun k hk => ?_)
  subst hk
  rw [cfE]
  refine runF_of rfl ?_
  clear hm
  have q := ok.q1
  have h1 : 1 ≤ 2 ^ f.w := by omega
  have hq : 2 ^ f.w - 1 = f.q := rfl
  have hq0 : f.q ≠ 0 := by omega
  by_cases ha0 : a = 0
  · simp [L.ir_Field_mul, eqN, ha0, FT.mul]
  · by_cases hb0 : b = 0
    · simp [L.ir_Field_mul, eqN, ha0, hb0, FT.mul]
    · simp [L.ir_Field_mul, eqN, ha0, hb0, FT.mul, f_powers (P := P) h, f_logs (P := P) h, f_size (P := P) h, ok.idx_logs ha ha0, ok.idx_logs hb hb0, bin_subN, h1, hq, hq0, ok.idx_ps]
theorem undone_N {m : Nat} (hm : 1 ≤ m) (ok : FtOk f) (h : S[n]? = some (fcell f)) {a : Nat} (ha : a < 2 ^ f.w) (ha0 : a ≠ 0) : (P.at 100000 m).cf "Field" "undone" [.obj n, nat a] S = .ok (nat (f.inv a)) S := by
  refine Exists.elim (Nat.exists_eq_add_of_le' hm) (fun k hk => ?_)
  subst hk
  rw [cfE]
  refine runF_of rfl ?_
  clear hm
  have q := ok.q1
  have h1 : 1 ≤ 2 ^ f.w := by omega
  have hq : 2 ^ f.w - 1 = f.q := rfl
  have l1 := (ok.lgp a ha ha0).1
  have e : binD .Mod (.int ((0 : Nat) - (f.lg a : Nat))) (nat f.q) = some (.val (nat ((f.q - f.lg a) % f.q))) := by
    show (if (f.q : Int) = 0 then none else some (Ent.val (.int (((0 : Nat) - (f.lg a : Nat) : Int).fmod f.q)))) = _
    rw [if_neg (by omega), Int.fmod_eq_emod_of_nonneg _ (by omega)]
    congr 2
    show D.int _ = D.int _
    congr 1
    rw [← Int.add_emod_right, Int.natCast_emod]
    congr 1
    omega
  have e0 : binD .Sub (nat 0) (nat (f.lg a)) = some (.val (.int ((0 : Nat) - (f.lg a : Nat)))) := bin_subZ
  generalize ((0 : Nat) : Int) - (f.lg a : Nat) = z at e e0
  simp [L.ir_Field_undone, f_powers (P := P) h, f_logs (P := P) h, f_size (P := P) h, ok.idx_logs ha ha0, bin_subN, h1, hq, e, e0, ok.idx_ps, FT.inv]
theorem raised_N {m : Nat} (hm : 1 ≤ m) (ok : FtOk f) (h : S[n]? = some (fcell f)) {a : Nat} (ha : a < 2 ^ f.w) (j : Nat) : (P.at 100000 m).cf "Field" "raised" [.obj n, nat a, nat j] S = .ok (nat (f.pow a j)) S := by
  refine Exists.elim (Nat.exists_eq_add_of_le' hm) (fun k hk => ?_)
  subst hk
  rw [cfE]
  refine runF_of rfl ?_
  clear hm
  have q := ok.q1
  have h1 : 1 ≤ 2 ^ f.w := by omega
  have hq : 2 ^ f.w - 1 = f.q := rfl
  have hq0 : f.q ≠ 0 := by omega
  by_cases ha0 : a = 0
  · by_cases hj : j = 0
    · simp [L.ir_Field_raised, eqN, ha0, hj, FT.pow]
    · simp [L.ir_Field_raised, eqN, ha0, hj, FT.pow]
  · have l1 := (ok.lgp a ha ha0).1
    have l2 : f.lg a < 18446744073709551616 := by omega
    simp [L.ir_Field_raised, eqN, ha0, FT.pow, f_powers (P := P) h, f_logs (P := P) h, f_size (P := P) h, ok.idx_logs ha ha0, bin_subN, h1, hq, hq0, l2, ok.idx_ps]
variable [FN P "Field" "plus" L.ir_Field_plus] [FN P "Field" "times" L.ir_Field_times] [FN P "Field" "over" L.ir_Field_over] [FN P "Field" "power" L.ir_Field_power]
theorem plus_N {m : Nat} (hm : 4 ≤ m) (ok : FtOk f) (h : S[n]? = some (fcell f)) {a b : Nat} (ha : a < 2 ^ f.w) (hb : b < 2 ^ f.w) : (P.at 100000 m).cf "Field" "plus" [.obj n, nat a, nat b] S = .ok (nat (a ^^^ b)) S := by
  refine Exists.elim (Nat.exists_eq_add_of_le' hm) (fun k hk => ?_)
  subst hk
  rw [cfE]
  refine runF_of rfl ?_
  clear hm
  simp [L.ir_Field_plus, methE, f_ins h, f_no h (m := "need") (by decide), need_N (P := P) (m := k + 3) (by omega) ok h ha, need_N (P := P) (m := k + 3) (by omega) ok h hb]
theorem times_N {m : Nat} (hm : 4 ≤ m) (ok : FtOk f) (h : S[n]? = some (fcell f)) {a b : Nat} (ha : a < 2 ^ f.w) (hb : b < 2 ^ f.w) : (P.at 100000 m).cf "Field" "times" [.obj n, nat a, nat b] S = .ok (nat (f.mul a b)) S := by
  refine Exists.elim (Nat.exists_eq_add_of_le' hm) (fun k hk => ?_)
  subst hk
  rw [cfE]
  refine runF_of rfl ?_
  clear hm
  simp [L.ir_Field_times, methE, f_ins h, f_no h (m := "need") (by decide), f_no h (m := "mul") (by decide), need_N (P := P) (m := k + 3) (by omega) ok h ha, need_N (P := P) (m := k + 3) (by omega) ok h hb, fmul_N (P := P) (m := k + 3) (by omega) ok h ha hb]
theorem over_N {m : Nat} (hm : 4 ≤ m) (ok : FtOk f) (h : S[n]? = some (fcell f)) {a b : Nat} (ha : a < 2 ^ f.w) (hb : b < 2 ^ f.w) (hb0 : b ≠ 0) : (P.at 100000 m).cf "Field" "over" [.obj n, nat a, nat b] S = .ok (nat (f.mul a (f.inv b))) S := by
  refine Exists.elim (Nat.exists_eq_add_of_le' hm) (fun k hk => ?_)
  subst hk
  rw [cfE]
  refine runF_of rfl ?_
  clear hm
  have i := ok.inv_ok hb hb0
  simp [L.ir_Field_over, methE, f_ins h, f_no h (m := "need") (by decide), f_no h (m := "mul") (by decide), f_no h (m := "undone") (by decide), need_N (P := P) (m := k + 3) (by omega) ok h ha, need_N (P := P) (m := k + 3) (by omega) ok h hb, eqN, hb0, undone_N (P := P) (m := k + 3) (by omega) ok h hb hb0, fmul_N (P := P) (m := k + 3) (by omega) ok h ha i.2.1]
theorem power_N {m : Nat} (hm : 4 ≤ m) (ok : FtOk f) (h : S[n]? = some (fcell f)) {a j : Nat} (ha : a < 2 ^ f.w) (hj : j ≤ 100000) : (P.at 100000 m).cf "Field" "power" [.obj n, nat a, nat j] S = .ok (nat (f.pow a j)) S := by
  refine Exists.elim (Nat.exists_eq_add_of_le' hm) (fun k hk => ?_)
  subst hk
  rw [cfE]
  refine runF_of rfl ?_
  clear hm
  simp [L.ir_Field_power, methE, f_ins h, f_no h (m := "need") (by decide), f_no h (m := "raised") (by decide), need_N (P := P) (m := k + 3) (by omega) ok h ha, hj, raised_N (P := P) (m := k + 3) (by omega) ok h ha]
end
end Z

set_option Elab.async false
set_option linter.all false
set_option maxRecDepth 100000
set_option maxHeartbeats 4000000
set_option exponentiation.threshold 1000
namespace Z
open PySem (Operator CmpOp)
variable {P : Prg}
/-! ### products, powers, making a field -/
section
variable [FN P "" "times_plain" L.ir_times_plain]
theorem times_plain_N {m : Nat} (hm : 1 ≤ m) {a b : Nat} (ha : a < 65536) (hb : b < 65536) (S : Store) : (P.at 100000 m).cf "" "times_plain" [nat a, nat b] S = .ok (nat (clm a b)) S := by
  refine Exists.elim (Nat.exists_eq_add_of_le' hm) (fun k hk => ?_)
  subst hk
  rw [cfE]
  refine runF_of rfl ?_
  clear hm
  have hs : sz b ≤ 16 := sz_le.mpr hb
  simp [L.ir_times_plain]
  rw [whl_rw (fun i : Nat => [.val (nat (a * 2 ^ i)), .val (nat (b / 2 ^ i)), .val (nat (clmU a b i))]) [.val (nat (a * 2 ^ sz b)), .val (nat 0), .val (nat (clm a b))] 0 (fun i => decide (0 < b / 2 ^ i)) (fun i => i ≤ sz b) (fun i => sz b - i) (by simp [clmU]) (Nat.zero_le _) (by omega)]
  · simp
  · intro i hi hg
    have h1 : ¬ i < sz b := fun h => by have := sz_div.mpr h; simp [this] at hg
    have : i = sz b := by omega
    subst this
    rw [Nat.div_eq_of_lt lt_sz]
    rfl
  · intro i hi
    simp [tst_eq]
  · intro i hi hg
    have hg2 := sz_div.mp (of_decide_eq_true hg)
    have h1 : a * 2 ^ i < 18446744073709551616 := by
      have h2 : 2 ^ i ≤ 2 ^ 16 := Nat.pow_le_pow_right (by decide) (by omega)
      have h3 : a * 2 ^ i ≤ 65536 * 2 ^ 16 := Nat.mul_le_mul (by omega) h2
      omega
    refine ⟨⟨[.val (nat (a * 2 ^ (i + 1))), .val (nat (b / 2 ^ (i + 1))), .val (nat (clmU a b (i + 1)))], S⟩, i + 1, ?_, rfl, by omega, by omega⟩
    have e1 : b / 2 ^ i &&& 1 = (b.testBit i).toNat := by rw [Nat.and_one_is_mod, mod1]
    have e2 : a * 2 ^ i * 2 = a * 2 ^ (i + 1) := by rw [Nat.pow_succ, Nat.mul_assoc]
    have e3 : b / 2 ^ i / 2 = b / 2 ^ (i + 1) := by rw [Nat.div_div_eq_div_mul, Nat.pow_succ]
    cases hbit : b.testBit i
    · rw [hbit] at e1
      simp at e1
      simp [e1, eqN, h1, e2, e3, clmU, hbit, valOf]
    · rw [hbit] at e1
      simp at e1
      simp [e1, eqN, h1, e2, e3, clmU, hbit, valOf]
end
theorem powL_succ (r a j : Nat) : powL r a (j + 1) = powL r a j ++ [pwS r a j] := by
  unfold powL
  rw [List.range_succ, List.map_append]
  rfl
@[simp] theorem powL_len (r a j : Nat) : (powL r a j).length = j + 1 := by simp [powL]
section
variable {S : Store} {n : Nat}
variable [FN P "" "times_plain" L.ir_times_plain] [FN P "" "degree" L.ir_degree] [FN P "" "rest_plain" L.ir_rest_plain] [FL P "Field" "ruled"] [FN P "Field" "powers_of" L.ir_Field_powers_of]
theorem powers_of_N {m : Nat} (hm : 3 ≤ m) {r w a N : Nat} (hr : 2 ^ w ≤ r ∧ r < 2 ^ (w + 1)) (hw : w ≤ 8) (ha : a < 2 ^ w) (hN : pwS r a N = 1) (hj : ∀ j, j < N → pwS r a j ≠ 1) (hN2 : N ≤ 1000) (hf : ∀ T, fldD P.fld "ruled" S (.obj n) = some T → T = nat r) (hf2 : fldD P.fld "ruled" S (.obj n) = some (nat r)) :
    (P.at 100000 m).cf "Field" "powers_of" [.obj n, nat a] S = .ok (.lst ((powL r a N).map nat)) S := by
  refine Exists.elim (Nat.exists_eq_add_of_le' hm) (fun k hk => ?_)
  subst hk
  rw [cfE]
  refine runF_of rfl ?_
  clear hm
  have hr0 : r ≠ 0 := by have := Nat.two_pow_pos w; omega
  have hw1 : 2 ^ w ≤ 2 ^ 8 := Nat.pow_le_pow_right (by decide) hw
  have hw2 : 2 ^ (w + 1) ≤ 2 ^ 9 := Nat.pow_le_pow_right (by decide) (by omega)
  have hlt : ∀ j, pwS r a j < 2 ^ w := by
    intro j
    cases j with
    | zero => exact ha
    | succ j => exact mulR_lt hr0 hr.2 _ _
  simp [L.ir_Field_powers_of]
  rw [whl_rw (fun j : Nat => [.val (.obj n), .val (nat a), .own (.lst ((powL r a j).map nat)), .val (nat (pwS r a j))]) [.val (.obj n), .val (nat a), .own (.lst ((powL r a N).map nat)), .val (nat 1)] 0 (fun j => !decide (pwS r a j = 1)) (fun j => j ≤ N) (fun j => N - j) (by simp [powL]; rfl) (Nat.zero_le _) (by omega)]
  · simp
  · intro j hj2 hg
    have e : pwS r a j = 1 := by simpa using hg
    have : j = N := by
      by_cases h : j < N
      · exact absurd e (hj j h)
      · omega
    subst this
    rw [e]
  · intro j _
    simp [tst_eq, eqN]
  · intro j hj2 hg
    have hne : pwS r a j ≠ 1 := by simpa using hg
    have hjN : j < N := by
      by_cases h : j = N
      · subst h; exact absurd hN hne
      · omega
    refine ⟨⟨[.val (.obj n), .val (nat a), .own (.lst ((powL r a (j + 1)).map nat)), .val (nat (pwS r a (j + 1)))], S⟩, j + 1, ?_, rfl, by omega, by omega⟩
    have h1 := hlt j
    have t := times_plain_N (P := P) (m := k + 2) (by omega) (a := pwS r a j) (b := a) (by omega) (by omega) S
    have c1 : clm (pwS r a j) a < 2 ^ (w + w) := clm_lt h1 ha
    have c2 : 2 ^ (w + w) ≤ 2 ^ 16 := Nat.pow_le_pow_right (by decide) (by omega)
    have rs := rest_plain_N (P := P) (m := k + 2) (by omega) (clm (pwS r a j) a) r (by have := sz_le.mpr c1; omega) (by omega) hr0 S
    have l1 : j + 1 < 16777216 := by omega
    have e : restP (clm (pwS r a j) a) r = pwS r a (j + 1) := rfl
    simp [l1, t, hf2, rs, e, powL_succ]
end
/-! the logs -/
theorem putK_new {k : DK} {d : D} : ∀ {acc : List (DK × D)}, (∀ p ∈ acc, p.1 ≠ k) → putK k d acc = acc ++ [(k, d)] := by
  intro acc h
  unfold putK
  rw [if_neg]
  rw [List.any_eq_true]
  rintro ⟨p, hp, e⟩
  exact h p hp (of_decide_eq_true e)
theorem dcomp_enum {Γ : Gam} {n : Nat} {x y : Ent} {S : Store} : ∀ (ps : List Nat) (s : Nat) (acc : List (DK × D)), ps.Nodup → (∀ a ∈ ps, ∀ p ∈ acc, p.1 ≠ .ki (a : Int)) → acc.length + ps.length ≤ 1000 →
    dcompL [3, 4] [3, 4] (evE Γ false (.var 4)) (evE Γ false (.var 3)) (evTs Γ .nil) ((ps.zipIdx s).map fun p => .tup [nat p.2, nat p.1]) acc ⟨[.val (.obj n), x, y, .un, .un], S⟩ = .ok (acc ++ (ps.zipIdx s).map fun p => (DK.ki (p.1 : Int), nat p.2)) ⟨[.val (.obj n), x, y, .un, .un], S⟩
  | [], s, acc, _, _, _ => by simp [dcompL]
  | a :: ps, s, acc, hn, ha, hl => by
    have h1 : acc.length < 16777216 := by simp at hl; omega
    have hp := putK_new (d := nat s) (fun p hp => ha a List.mem_cons_self p hp)
    have ih := dcomp_enum (Γ := Γ) (n := n) (x := x) (y := y) (S := S) ps (s + 1) (acc ++ [(.ki (a : Int), nat s)]) (List.nodup_cons.mp hn).2 (by
      intro b hb p hp
      rcases List.mem_append.mp hp with hp | hp
      · exact ha b (List.mem_cons_of_mem _ hb) p hp
      · obtain rfl : p = (.ki (a : Int), nat s) := by simpa using hp
        intro e
        have := DK.ki.inj e
        have : a = b := by omega
        subst this
        exact (List.nodup_cons.mp hn).1 hb) (by simp at hl ⊢; omega)
    rw [List.zipIdx_cons, List.map_cons, List.map_cons]
    unfold dcompL
    have e1 : bindT [3, 4] (.tup [nat s, nat a]) ⟨[.val (.obj n), x, y, .un, .un], S⟩ = some ⟨[.val (.obj n), x, y, .val (nat s), .val (nat a)], S⟩ := rfl
    have e2 : evTs Γ .nil ⟨[.val (.obj n), x, y, .val (nat s), .val (nat a)], S⟩ = .ok true ⟨[.val (.obj n), x, y, .val (nat s), .val (nat a)], S⟩ := rfl
    have e3 : evE Γ false (.var 4) ⟨[.val (.obj n), x, y, .val (nat s), .val (nat a)], S⟩ = .ok (.val (nat a)) ⟨[.val (.obj n), x, y, .val (nat s), .val (nat a)], S⟩ := rfl
    have e4 : evE Γ false (.var 3) ⟨[.val (.obj n), x, y, .val (nat s), .val (nat a)], S⟩ = .ok (.val (nat s)) ⟨[.val (.obj n), x, y, .val (nat s), .val (nat a)], S⟩ := rfl
    have e5 : DK.of (nat a) = some (.ki (a : Int)) := rfl
    dsimp only
    rw [e1]
    dsimp only
    rw [e2]
    dsimp only
    rw [e3]
    dsimp only
    rw [e4]
    dsimp only
    rw [e5]
    dsimp only [frz]
    rw [if_pos h1, hp]
    have e6 : unset [.val (.obj n), x, y, .val (nat s), .val (nat a)] [3, 4] = [.val (.obj n), x, y, .un, .un] := rfl
    rw [e6, ih]
    simp
theorem FtOk.nodup {f : FT} (h : FtOk f) : f.ps.Nodup := by
  rw [List.nodup_iff_pairwise_ne, List.pairwise_iff_getElem]
  intro i j hi hj hij e
  rw [h.len] at hi hj
  have e1 := (h.lt i hi).2.2
  have e2 := (h.lt j hj).2.2
  have p1 : f.p i = f.ps[i] := by unfold FT.p; rw [List.getD_eq_getElem?_getD, List.getElem?_eq_getElem (by rw [h.len]; exact hi)]; rfl
  have p2 : f.p j = f.ps[j] := by unfold FT.p; rw [List.getD_eq_getElem?_getD, List.getElem?_eq_getElem (by rw [h.len]; exact hj)]; rfl
  rw [p1, e] at e1
  rw [p2] at e2
  omega
theorem FtOk.powL_eq {f : FT} (h : FtOk f) : powL f.r f.g (f.q - 1) = f.ps := by
  have q := h.q1
  have key : ∀ k, k < f.q → f.p k = (powL f.r f.g (f.q - 1)).getD k 0 := by
    intro k
    induction k with
    | zero => intro _; rw [h.p0]; rfl
    | succ k ih =>
      intro hk
      have e1 := h.ch k (by omega)
      rw [Nat.mod_eq_of_lt hk] at e1
      have e2 := ih (by omega)
      rw [e1, e2]
      have g : ∀ j, j < f.q - 1 → (powL f.r f.g (f.q - 1)).getD (j + 1) 0 = pwS f.r f.g j := by
        intro j hj
        unfold powL
        rw [List.getD_cons_succ, List.getD_eq_getElem?_getD, List.getElem?_map, List.getElem?_range hj]
        rfl
      rw [g k (by omega)]
      cases k with
      | zero =>
        show mulR f.r 1 f.g = f.g
        rw [← h.mul_eq h.one_lt h.n2.2.2, FT.mul_comm, h.mul_one h.n2.2.2]
      | succ k => rw [g k (by omega)]; rfl
  apply List.ext_getElem
  · rw [powL_len, h.len]; omega
  · intro i h1 h2
    have hi : i < f.q := by rw [h.len] at h2; exact h2
    have e := key i hi
    unfold FT.p at e
    rw [List.getD_eq_getElem?_getD, List.getD_eq_getElem?_getD, List.getElem?_eq_getElem h1, List.getElem?_eq_getElem h2] at e
    exact e.symm
theorem whl_one {c : St → R Bool} {body : EvS} {msk : List Nat} {W : Nat} {s s1 s2 : St} (h1 : c s = .ok true s1) (h2 : body s1 = .nx s2) : whlF c body msk (W + 1) s = whlF c body msk W (mask msk s2) := by
  conv => lhs; unfold whlF
  rw [h1]
  dsimp only
  rw [h2]
theorem whl_end {c : St → R Bool} {body : EvS} {msk : List Nat} {W : Nat} {s s1 : St} (h1 : c s = .ok false s1) : whlF c body msk (W + 1) s = .nx s1 := by
  unfold whlF
  rw [h1]
end Z

set_option Elab.async false
set_option linter.all false
set_option maxRecDepth 100000
set_option maxHeartbeats 4000000
set_option exponentiation.threshold 1000
namespace Z
open PySem (Operator CmpOp)
variable {P : Prg}
section
variable {S : Store} {n : Nat} {y : Cell}
theorem fldS {c f : String} {fs : List (String × D)} [FL P c f] (h : S[n]? = some y) : fldD P.fld f (S.set n (.ins c fs)) (.obj n) = fs.lookup f := fld_ok (get_set h)
theorem putS {c f : String} {fs : List (String × D)} [FL P c f] (h : S[n]? = some y) (hl : fs.length < 1000) (env : List Ent) (d : D) : putFl P.fld f ⟨env, S.set n (.ins c fs)⟩ (.obj n) d = .nx ⟨env, S.set n (.ins c (putFld f d fs))⟩ := by
  rw [putFl_ok (get_set h) hl, List.set_set]
theorem insS {c : String} {fs : List (String × D)} (h : S[n]? = some y) : insOf (S.set n (.ins c fs)) c (.obj n) = some n := insOf_ok (get_set h)
theorem noS {c m : String} {fs : List (String × D)} (h : S[n]? = some y) (hl : fs.lookup m = none) : noMeth (S.set n (.ins c fs)) m n = some n := noMeth_ok (get_set h) hl
theorem clsS {c : String} {fs : List (String × D)} (h : S[n]? = some y) : clsD (S.set n (.ins c fs)) (.obj n) = some c := clsD_ok (get_set h)
end
def fstage (f : FT) (b : Nat) (ps : List Nat) : List (String × D) := [("wide", nat f.w), ("ruled", nat f.r), ("size", nat (2 ^ f.w)), ("base", nat b), ("powers", .lst (ps.map nat))]
theorem FtOk.len_q {f : FT} (h : FtOk f) : f.ps.length = f.q := h.len
theorem ord_two {f : FT} (h : FtOk f) (hg : f.g = 2) : f.n2 = f.q - 1 := by
  have a := chkOrd_ok (k := 0) h.o2
  have b := chkOrd_ok (k := 0) h.og
  rw [hg] at b
  have := h.n2.1
  by_cases e : f.n2 = f.q - 1
  · exact e
  · have c := b.2 (0 + f.n2) (by omega) (by omega)
    exact absurd a.1 c
section
variable [TY P "int"] [TY P "bool"] [FN P "" "is_whole" L.ir_is_whole] [FN P "" "need_width" L.ir_need_width] [FN P "" "degree" L.ir_degree] [FN P "" "rest_plain" L.ir_rest_plain] [FN P "" "is_rule_of" L.ir_is_rule_of] [FN P "" "is_rule" L.ir_is_rule] [FN P "" "times_plain" L.ir_times_plain]
variable [FL P "Field" "wide"] [FL P "Field" "ruled"] [FL P "Field" "size"] [FL P "Field" "base"] [FL P "Field" "powers"] [FL P "Field" "logs"] [FN P "Field" "powers_of" L.ir_Field_powers_of] [FN P "Field" "__init__" L.ir_Field_init]
variable {S : Store} {n : Nat} {y : Cell}
theorem field_turn {k : Nat} {f : FT} (ok : FtOk f) (hS : S[n]? = some y) {b N : Nat} {ps : List Nat} (hb : b + 1 < 2 ^ f.w) (hp : ps.length < f.q) (hN : pwS f.r (b + 1) N = 1) (hj : ∀ j, j < N → pwS f.r (b + 1) j ≠ 1) (hN2 : N ≤ 1000) (W : Nat) :
    whlF (tst (evE (P.at 100000 (k + 4)) true (.cmp .Lt (.bi "len" (.cons (.fld (.var 0) "powers") .nil)) (.bin .Sub (.fld (.var 0) "size") (.cst (.int 1)))))) (evSs (P.at 100000 (k + 4)) 100000 (.cons (.augf (.var 0) "base" .Add (.cst (.int 1))) (.cons (.setf (.var 0) "powers" (.meth (.var 0) "Field" "powers_of" (.cons (.fld (.var 0) "base") .nil) [] .nil [])) .nil))) [] (W + 1) ⟨[.val (.obj n), .val (nat f.w), .val (nat f.r), .un, .un], S.set n (.ins "Field" (fstage f b ps))⟩ =
    whlF (tst (evE (P.at 100000 (k + 4)) true (.cmp .Lt (.bi "len" (.cons (.fld (.var 0) "powers") .nil)) (.bin .Sub (.fld (.var 0) "size") (.cst (.int 1)))))) (evSs (P.at 100000 (k + 4)) 100000 (.cons (.augf (.var 0) "base" .Add (.cst (.int 1))) (.cons (.setf (.var 0) "powers" (.meth (.var 0) "Field" "powers_of" (.cons (.fld (.var 0) "base") .nil) [] .nil [])) .nil))) [] W ⟨[.val (.obj n), .val (nat f.w), .val (nat f.r), .un, .un], S.set n (.ins "Field" (fstage f (b + 1) (powL f.r (b + 1) N)))⟩ := by
  have q := ok.q1
  have h1 : 1 ≤ 2 ^ f.w := by omega
  have hq : 2 ^ f.w - 1 = f.q := rfl
  refine whl_one (s1 := ⟨[.val (.obj n), .val (nat f.w), .val (nat f.r), .un, .un], S.set n (.ins "Field" (fstage f b ps))⟩) (s2 := ⟨[.val (.obj n), .val (nat f.w), .val (nat f.r), .un, .un], S.set n (.ins "Field" (fstage f (b + 1) (powL f.r (b + 1) N)))⟩) ?_ ?_
  · have a1 : fldD P.fld "powers" (S.set n (.ins "Field" (fstage f b ps))) (.obj n) = some (.lst (ps.map nat)) := (fldS hS).trans rfl
    have a2 : fldD P.fld "size" (S.set n (.ins "Field" (fstage f b ps))) (.obj n) = some (nat (2 ^ f.w)) := (fldS hS).trans rfl
    simp [tst_eq, a1, a2, bin_subN, h1, hq, hp]
  · have a1 : fldD P.fld "base" (S.set n (.ins "Field" (fstage f b ps))) (.obj n) = some (nat b) := (fldS hS).trans rfl
    have a2 : clsD (S.set n (.ins "Field" (fstage f b ps))) (.obj n) = some "Field" := clsS hS
    have a3 : ∀ env, putFl P.fld "base" ⟨env, S.set n (.ins "Field" (fstage f b ps))⟩ (.obj n) (nat (b + 1)) = .nx ⟨env, S.set n (.ins "Field" (fstage f (b + 1) ps))⟩ := fun env => putS hS (by simp [fstage]) env _
    have a4 : fldD P.fld "base" (S.set n (.ins "Field" (fstage f (b + 1) ps))) (.obj n) = some (nat (b + 1)) := (fldS hS).trans rfl
    have a5 : insOf (S.set n (.ins "Field" (fstage f (b + 1) ps))) "Field" (.obj n) = some n := insS hS
    have a6 : noMeth (S.set n (.ins "Field" (fstage f (b + 1) ps))) "powers_of" n = some n := noS hS rfl
    have a7 : fldD P.fld "ruled" (S.set n (.ins "Field" (fstage f (b + 1) ps))) (.obj n) = some (nat f.r) := (fldS hS).trans rfl
    have a8 := powers_of_N (P := P) (m := k + 4) (by omega) (S := S.set n (.ins "Field" (fstage f (b + 1) ps))) (n := n) ok.r ok.w.2 hb hN hj hN2 (fun T e => by rw [a7] at e; cases e; rfl) a7
    have a9 : ∀ env, putFl P.fld "powers" ⟨env, S.set n (.ins "Field" (fstage f (b + 1) ps))⟩ (.obj n) (.lst ((powL f.r (b + 1) N).map nat)) = .nx ⟨env, S.set n (.ins "Field" (fstage f (b + 1) (powL f.r (b + 1) N)))⟩ := fun env => putS hS (by simp [fstage]) env _
    simp [a1, a2, a3, a4, a5, a6, a8, a9, methE]
theorem field_stop {k : Nat} {f : FT} (ok : FtOk f) (hS : S[n]? = some y) {b : Nat} {ps : List Nat} (hp : ¬ ps.length < f.q) (W : Nat) (body : Ss) :
    whlF (tst (evE (P.at 100000 (k + 4)) true (.cmp .Lt (.bi "len" (.cons (.fld (.var 0) "powers") .nil)) (.bin .Sub (.fld (.var 0) "size") (.cst (.int 1)))))) (evSs (P.at 100000 (k + 4)) 100000 body) [] (W + 1) ⟨[.val (.obj n), .val (nat f.w), .val (nat f.r), .un, .un], S.set n (.ins "Field" (fstage f b ps))⟩ = .nx ⟨[.val (.obj n), .val (nat f.w), .val (nat f.r), .un, .un], S.set n (.ins "Field" (fstage f b ps))⟩ := by
  have q := ok.q1
  have h1 : 1 ≤ 2 ^ f.w := by omega
  have hq : 2 ^ f.w - 1 = f.q := rfl
  refine whl_end ?_
  have a1 : fldD P.fld "powers" (S.set n (.ins "Field" (fstage f b ps))) (.obj n) = some (.lst (ps.map nat)) := (fldS hS).trans rfl
  have a2 : fldD P.fld "size" (S.set n (.ins "Field" (fstage f b ps))) (.obj n) = some (nat (2 ^ f.w)) := (fldS hS).trans rfl
  simp [tst_eq, a1, a2, bin_subN, h1, hq, hp]
theorem field_init {m : Nat} (hm : 5 ≤ m) {f : FT} (ok : FtOk f) (hS : S[n]? = some y) : (P.at 100000 m).cf "Field" "__init__" [.obj n, nat f.w, nat f.r] (S.set n (.ins "Field" [])) = .ok .non (S.set n (fcell f)) := by
  refine Exists.elim (Nat.exists_eq_add_of_le' hm) (fun k hk => ?_)
  subst hk
  rw [cfE]
  refine runF_of rfl ?_
  clear hm
  have q := ok.q1
  have ir := is_rule_N (P := P) (m := k + 4) (by omega) f.r ok.w (S.set n (.ins "Field" []))
  have er : (decide (2 ^ f.w ≤ f.r ∧ f.r < 2 ^ (f.w + 1)) && isRule f.r f.w) = true := by rw [ok.rule, decide_eq_true ok.r]; rfl
  rw [er] at ir
  have w1 : f.w ≤ 1000000 := by have := ok.w; omega
  have p1 := fun env d => putS (P := P) (c := "Field") (f := "wide") (fs := []) hS (by simp) env d
  have p2 := fun env d => putS (P := P) (c := "Field") (f := "ruled") (fs := [("wide", nat f.w)]) hS (by simp) env d
  have p3 := fun env d => putS (P := P) (c := "Field") (f := "size") (fs := [("wide", nat f.w), ("ruled", nat f.r)]) hS (by simp) env d
  have p4 := fun env d => putS (P := P) (c := "Field") (f := "base") (fs := [("wide", nat f.w), ("ruled", nat f.r), ("size", nat (2 ^ f.w))]) hS (by simp) env d
  have p5 := fun env d => putS (P := P) (c := "Field") (f := "powers") (fs := [("wide", nat f.w), ("ruled", nat f.r), ("size", nat (2 ^ f.w)), ("base", nat 1)]) hS (by simp) env d
  simp [putFld] at p1 p2 p3 p4 p5
  have st : evSs (P.at 100000 (k + 4)) 100000 (L.ir_Field_init.body.take 6) ⟨[.val (.obj n), .val (nat f.w), .val (nat f.r), .un, .un], S.set n (.ins "Field" [])⟩ = .nx ⟨[.val (.obj n), .val (nat f.w), .val (nat f.r), .un, .un], S.set n (.ins "Field" (fstage f 1 [1]))⟩ := by
    simp [Ss.take, L.ir_Field_init, ir, p1, p2, p3, p4, p5, w1]
    rfl
  have dr : L.ir_Field_init.body.drop 6 = .cons (.whl (.cmp .Lt (.bi "len" (.cons (.fld (.var 0) "powers") .nil)) (.bin .Sub (.fld (.var 0) "size") (.cst (.int 1)))) (.cons (.augf (.var 0) "base" .Add (.cst (.int 1))) (.cons (.setf (.var 0) "powers" (.meth (.var 0) "Field" "powers_of" (.cons (.fld (.var 0) "base") .nil) [] .nil [])) .nil)) []) (.cons (.setf (.var 0) "logs" (.dcomp (.var 4) (.var 3) [3, 4] (.enu (.fld (.var 0) "powers")) .nil [3, 4])) .nil) := rfl
  have a := chkOrd_ok (k := 0) ok.o2
  have b := chkOrd_ok (k := 0) ok.og
  simp only [Nat.zero_add, Nat.zero_le, true_implies] at a b
  have two : 1 + 1 < 2 ^ f.w := by
    have := Nat.pow_le_pow_right (n := 2) (by decide) ok.w.1
    omega
  have lp : evS (P.at 100000 (k + 4)) 100000 (.whl (.cmp .Lt (.bi "len" (.cons (.fld (.var 0) "powers") .nil)) (.bin .Sub (.fld (.var 0) "size") (.cst (.int 1)))) (.cons (.augf (.var 0) "base" .Add (.cst (.int 1))) (.cons (.setf (.var 0) "powers" (.meth (.var 0) "Field" "powers_of" (.cons (.fld (.var 0) "base") .nil) [] .nil [])) .nil)) []) ⟨[.val (.obj n), .val (nat f.w), .val (nat f.r), .un, .un], S.set n (.ins "Field" (fstage f 1 [1]))⟩ = .nx ⟨[.val (.obj n), .val (nat f.w), .val (nat f.r), .un, .un], S.set n (.ins "Field" (fstage f f.g f.ps))⟩ := by
    rw [y_whl]
    have l1 : [1].length < f.q := by
      have := Nat.pow_le_pow_right (n := 2) (by decide) ok.w.1
      simp
      omega
    rw [show (100000 : Nat) = 99999 + 1 from rfl, field_turn ok hS two l1 a.1 a.2 (by have := ok.n2; omega)]
    rcases ok.g with hg | hg
    · have e2 := ord_two ok hg
      have e3 := ok.powL_eq
      rw [hg, ← e2] at e3
      rw [show (99999 : Nat) = 99998 + 1 from rfl, field_stop ok hS (by rw [powL_len, e2]; omega)]
      rw [hg]
      show Fl.nx _ = Fl.nx _
      rw [show powL f.r (1 + 1) f.n2 = f.ps from e3]
    · have n2 := ok.n2.2.1 hg
      have hg3 : 1 + 1 + 1 < 2 ^ f.w := by have := ok.n2.2.2; rw [hg] at this; exact this
      rw [hg] at b
      rw [show (99999 : Nat) = 99998 + 1 from rfl, field_turn ok hS hg3 (by rw [powL_len]; omega) b.1 b.2 (by omega)]
      have e3 := ok.powL_eq
      rw [hg] at e3
      rw [show (99998 : Nat) = 99997 + 1 from rfl, field_stop ok hS (by rw [powL_len]; omega)]
      rw [hg]
      show Fl.nx _ = Fl.nx _
      rw [show powL f.r (1 + 1 + 1) (f.q - 1) = f.ps from e3]
  have e1 : evSs (P.at 100000 (k + 4)) 100000 L.ir_Field_init.body ⟨[.val (.obj n), .val (nat f.w), .val (nat f.r), .un, .un], S.set n (.ins "Field" [])⟩ = .nx ⟨[.val (.obj n), .val (nat f.w), .val (nat f.r), .un, .un], S.set n (fcell f)⟩ := by
    rw [evSs_cut 6 st, dr, evSs_cons, lp]
    show evSs (P.at 100000 (k + 4)) 100000 _ _ = _
    have a1 : fldD P.fld "powers" (S.set n (.ins "Field" (fstage f f.g f.ps))) (.obj n) = some (.lst (f.ps.map nat)) := (fldS hS).trans rfl
    have a2 : putFl P.fld "logs" ⟨[.val (.obj n), .val (nat f.w), .val (nat f.r), .un, .un], S.set n (.ins "Field" (fstage f f.g f.ps))⟩ (.obj n) (.dic (flogs f.ps)) = .nx ⟨[.val (.obj n), .val (nat f.w), .val (nat f.r), .un, .un], S.set n (fcell f)⟩ := putS hS (by simp [fstage]) _ _
    have dc := dcomp_enum (Γ := P.at 100000 (k + 4)) (n := n) (x := .val (nat f.w)) (y := .val (nat f.r)) (S := S.set n (.ins "Field" (fstage f f.g f.ps))) f.ps 0 [] ok.nodup (by simp) (by rw [ok.len]; simp; omega)
    have dx : evE (P.at 100000 (k + 4)) false (.dcomp (.var 4) (.var 3) [3, 4] (.enu (.fld (.var 0) "powers")) .nil [3, 4]) ⟨[.val (.obj n), .val (nat f.w), .val (nat f.r), .un, .un], S.set n (.ins "Field" (fstage f f.g f.ps))⟩ = .ok (.own (.dic (flogs f.ps))) ⟨[.val (.obj n), .val (nat f.w), .val (nat f.r), .un, .un], S.set n (.ins "Field" (fstage f f.g f.ps))⟩ := by
      show dcompE [3, 4] [3, 4] (evIt (P.at 100000 (k + 4)) (.enu (.fld (.var 0) "powers"))) _ _ _ _ = _
      unfold dcompE
      have it : evIt (P.at 100000 (k + 4)) (.enu (.fld (.var 0) "powers")) ⟨[.val (.obj n), .val (nat f.w), .val (nat f.r), .un, .un], S.set n (.ins "Field" (fstage f f.g f.ps))⟩ = .ok ((f.ps.zipIdx 0).map fun p => .tup [nat p.2, nat p.1]) ⟨[.val (.obj n), .val (nat f.w), .val (nat f.r), .un, .un], S.set n (.ins "Field" (fstage f f.g f.ps))⟩ := by simp [a1]
      rw [it]
      show (match dcompL [3, 4] [3, 4] _ _ _ _ [] ⟨[.val (.obj n), .val (nat f.w), .val (nat f.r), .un, .un], _⟩ with
        | .ok kvs s2 => (R.ok (.own (.dic kvs)) _ : R Ent)
        | _ => .stk) = _
      rw [dc]
      rfl
    rw [y_one]
    rw [y_setf, dx]
    simp
    exact a2
  show (match evSs (P.at 100000 (k + 4)) 100000 L.ir_Field_init.body ⟨[.val (.obj n), .val (nat f.w), .val (nat f.r), .un, .un], S.set n (.ins "Field" [])⟩ with
    | .nx s => RC.ok .non s.sto
    | .rt d S => .ok d S
    | .exc c s => .exc c s.sto
    | _ => .stk) = _
  rw [e1]
/-- Field(w, r) -/
theorem field_mk {m : Nat} (hm : 5 ≤ m) {f : FT} (ok : FtOk f) (S : Store) : (P.at 100000 m).cf "Field" "__init__" [.obj S.length, nat f.w, nat f.r] (S ++ [.ins "Field" []]) = .ok .non (S ++ [fcell f]) := by
  have := field_init (P := P) hm ok (S := S ++ [.ins "Field" []]) (n := S.length) (y := .ins "Field" []) (by simp)
  have e : ∀ x y : Cell, (S ++ [x]).set S.length y = S ++ [y] := by intro x y; simp
  rw [e, e] at this
  exact this
end
end Z

set_option Elab.async false
set_option linter.all false
set_option maxRecDepth 100000
set_option maxHeartbeats 4000000
set_option exponentiation.threshold 1000
namespace Z
open PySem (Operator CmpOp)
variable {P : Prg}
/-! ### len of an own thing -/
@[simp] theorem x_lenO {Γ : Gam} {bw : Bool} {s : St} (o : E) (c : String) : evE Γ bw (.lenO o c) s = (evE Γ true o s).bind fun x s1 => opt ((res s1 x).bind (insOf s1.sto c)) fun n => (lenR (Γ.cf c "__len__" [.obj n] s1.sto)).r s1 := (rfl)
theorem lenR_nat {n : Nat} {S : Store} (h : n < 9223372036854775808) : lenR (.ok (nat n) S) = .ok (nat n) S := by
  show (if Nat.blt n 9223372036854775808 = true then _ else _) = _
  rw [if_pos (Nat.blt_eq.mpr h)]
  rfl
theorem rg_len1 {q : Nat} (h : q ≤ 1000) : rgB1 "len" (nat q) = some (.val (nat q)) := by
  show rgB "len" 0 (q : Int) = _
  unfold rgB
  have e : ((q : Int) - 0).toNat = q := by omega
  have e2 : ((q : Int)).natAbs = q := by omega
  have l : LINE = 16777216 := rfl
  rw [if_pos (by simp only [Bool.and_eq_true, Nat.blt_eq, decide_eq_true_eq]; omega), e]
  rfl
@[simp] theorem x_brg1 {Γ : Gam} {bw : Bool} {s : St} (f : String) (a : E) : evE Γ bw (.brg1 f a) s = ((evE Γ true a s).bind fun x s1 => opt (res s1 x) fun dx => O (rgB1 f dx) s1) := (rfl)
/-! ### orders -/
theorem least_of {p : Nat → Prop} : ∀ n, p n → ∃ N, N ≤ n ∧ p N ∧ ∀ j, j < N → ¬ p j := by
  intro n
  induction n using Nat.strongRecOn with
  | ind n ih =>
    intro h
    by_cases e : ∃ j, j < n ∧ p j
    · obtain ⟨j, h1, h2⟩ := e
      obtain ⟨N, h3, h4, h5⟩ := ih j h1 h2
      exact ⟨N, by omega, h4, h5⟩
    · exact ⟨n, Nat.le_refl n, h, fun j hj hp => e ⟨j, hj, hp⟩⟩
theorem FtOk.pow_q {f : FT} (h : FtOk f) {a : Nat} (h0 : a ≠ 0) : f.pow a f.q = 1 := by
  unfold FT.pow
  rw [if_neg h0]
  unfold FT.nf
  rw [Nat.mul_mod_left]
  exact h.p0
theorem FtOk.pow_per {f : FT} (h : FtOk f) {a : Nat} (h0 : a ≠ 0) (n : Nat) : f.pow a (n + f.q) = f.pow a n := by
  unfold FT.pow
  rw [if_neg h0, if_neg h0]
  unfold FT.nf
  rw [Nat.mul_add, Nat.add_mul_mod_self_right]
theorem FtOk.ord {f : FT} (h : FtOk f) {a : Nat} (ha : a < 2 ^ f.w) (h0 : a ≠ 0) : ∃ N, N ≤ f.q - 1 ∧ pwS f.r a N = 1 ∧ ∀ j, j < N → pwS f.r a j ≠ 1 := by
  refine least_of (p := fun N => pwS f.r a N = 1) (f.q - 1) ?_
  have q := h.q1
  rw [h.pwS_eq ha, show f.q - 1 + 1 = f.q by omega, h.pow_q h0]
section
variable {S : Store} {n : Nat} {f : FT}
variable [FL P "Field" "wide"] [FL P "Field" "ruled"] [FL P "Field" "size"] [FL P "Field" "base"] [FL P "Field" "powers"] [FL P "Field" "logs"]
variable [FN P "Field" "width" L.ir_Field_width] [FN P "Field" "rule" L.ir_Field_rule] [FN P "Field" "root" L.ir_Field_root] [FN P "Field" "__len__" L.ir_Field_len]
theorem width_N {m : Nat} (hm : 1 ≤ m) (h : S[n]? = some (fcell f)) : (P.at 100000 m).cf "Field" "width" [.obj n] S = .ok (nat f.w) S := by
  refine Exists.elim (Nat.exists_eq_add_of_le' hm) (fun k hk => ?_)
  subst hk
  rw [cfE]
  refine runF_of rfl ?_
  clear hm
  simp [L.ir_Field_width, f_wide (P := P) h]
theorem rule_N {m : Nat} (hm : 1 ≤ m) (h : S[n]? = some (fcell f)) : (P.at 100000 m).cf "Field" "rule" [.obj n] S = .ok (nat f.r) S := by
  refine Exists.elim (Nat.exists_eq_add_of_le' hm) (fun k hk => ?_)
  subst hk
  rw [cfE]
  refine runF_of rfl ?_
  clear hm
  simp [L.ir_Field_rule, f_ruled (P := P) h]
theorem root_N {m : Nat} (hm : 1 ≤ m) (h : S[n]? = some (fcell f)) : (P.at 100000 m).cf "Field" "root" [.obj n] S = .ok (nat f.g) S := by
  refine Exists.elim (Nat.exists_eq_add_of_le' hm) (fun k hk => ?_)
  subst hk
  rw [cfE]
  refine runF_of rfl ?_
  clear hm
  simp [L.ir_Field_root, f_base (P := P) h]
theorem flen_N {m : Nat} (hm : 1 ≤ m) (ok : FtOk f) (h : S[n]? = some (fcell f)) : (P.at 100000 m).cf "Field" "__len__" [.obj n] S = .ok (nat (2 ^ f.w)) S := by
  refine Exists.elim (Nat.exists_eq_add_of_le' hm) (fun k hk => ?_)
  subst hk
  rw [cfE]
  refine runF_of rfl ?_
  clear hm
  have q := ok.q1
  have h1 : rgB1 "len" (nat (2 ^ f.w)) = some (.val (nat (2 ^ f.w))) := rg_len1 (by omega)
  have h2 := f_size (P := P) h
  generalize 2 ^ f.w = z at h1 h2 ⊢
  simp [L.ir_Field_len, h2, h1]
variable [TY P "int"] [TY P "bool"] [FN P "" "is_whole" L.ir_is_whole] [FN P "Field" "has" L.ir_Field_has] [FN P "Field" "need" L.ir_Field_need]
variable [FN P "" "degree" L.ir_degree] [FN P "" "rest_plain" L.ir_rest_plain] [FN P "" "times_plain" L.ir_times_plain] [FN P "Field" "powers_of" L.ir_Field_powers_of] [FN P "Field" "order" L.ir_Field_order]
theorem order_N {m : Nat} (hm : 4 ≤ m) (ok : FtOk f) (h : S[n]? = some (fcell f)) {a N : Nat} (ha : a < 2 ^ f.w) (h0 : a ≠ 0) (hN : pwS f.r a N = 1) (hj : ∀ j, j < N → pwS f.r a j ≠ 1) (hN2 : N ≤ f.q) : (P.at 100000 m).cf "Field" "order" [.obj n, nat a] S = .ok (nat (N + 1)) S := by
  refine Exists.elim (Nat.exists_eq_add_of_le' hm) (fun k hk => ?_)
  subst hk
  rw [cfE]
  refine runF_of rfl ?_
  clear hm
  have q := ok.q1
  have a7 := f_ruled (P := P) h
  have a8 := powers_of_N (P := P) (m := k + 3) (by omega) (S := S) (n := n) ok.r ok.w.2 ha hN hj (by omega) (fun T e => by rw [a7] at e; cases e; rfl) a7
  simp [L.ir_Field_order, methE, f_ins h, f_no h (m := "need") (by decide), f_no h (m := "powers_of") (by decide), need_N (P := P) (m := k + 3) (by omega) ok h ha, eqN, h0, a8]
end
end Z

set_option Elab.async false
set_option linter.all false
set_option maxRecDepth 100000
set_option maxHeartbeats 4000000
set_option exponentiation.threshold 1000
namespace Z
open PySem (Operator CmpOp)
variable {P : Prg}
/-! ### polynomials: cut -/
theorem tupleF_l (xs : List D) : tupleF [.lst xs] = some (.val (.tup xs)) := rfl
theorem tupleF_t (xs : List D) : tupleF [.tup xs] = some (.val (.tup xs)) := rfl
def cutN (l : List Nat) : List Nat := (l.reverse.dropWhile (· == 0)).reverse
theorem cutN_snoc0 (l : List Nat) : cutN (l ++ [0]) = cutN l := by
  unfold cutN
  rw [List.reverse_append]
  rfl
theorem cutN_snoc (l : List Nat) {a : Nat} (h : a ≠ 0) : cutN (l ++ [a]) = l ++ [a] := by
  unfold cutN
  rw [List.reverse_append]
  show ((a :: l.reverse).dropWhile _).reverse = _
  rw [List.dropWhile_cons_of_neg (by simpa using h)]
  simp
@[simp] theorem cutN_nil : cutN [] = [] := rfl
theorem cutN_len (l : List Nat) : (cutN l).length ≤ l.length := by
  unfold cutN
  rw [List.length_reverse]
  have := (List.dropWhile_suffix (l := l.reverse) (p := (· == 0))).length_le
  simpa using this
theorem cutN_take (l : List Nat) : l.take (cutN l).length = cutN l := by
  have h : cutN l <+: l := by
    have := List.reverse_prefix.mpr (List.dropWhile_suffix (l := l.reverse) (p := (· == 0)))
    rwa [List.reverse_reverse] at this
  exact (List.prefix_iff_eq_take.mp h).symm
theorem cutN_step (l : List Nat) {j : Nat} (h : j < l.length) (h0 : l.getD j 0 = 0) : cutN (l.take (j + 1)) = cutN (l.take j) := by
  rw [List.take_succ_eq_append_getElem h]
  rw [List.getD_eq_getElem?_getD, List.getElem?_eq_getElem h] at h0
  rw [show l[j] = 0 from h0, cutN_snoc0]
theorem cutN_stop (l : List Nat) {j : Nat} (h : j < l.length) (h0 : l.getD j 0 ≠ 0) : cutN (l.take (j + 1)) = l.take (j + 1) := by
  rw [List.take_succ_eq_append_getElem h]
  rw [List.getD_eq_getElem?_getD, List.getElem?_eq_getElem h] at h0
  exact cutN_snoc _ h0
section
variable [FN P "" "cut" L.ir_cut]
theorem cut_walk {m : Nat} (hm : 1 ≤ m) (l : List Nat) (hl : l.length ≤ 1000) (x : D) (S : Store) (h1 : lenF [x] = some (.val (nat l.length))) (hi : ∀ j, j < l.length → idxD S x (nat j) = some (nat (l.getD j 0)))
    (hs : slcD x none (some (ix (cutN l).length)) = some (.val (.tup ((cutN l).map nat))) ∨ slcD x none (some (ix (cutN l).length)) = some (.own (.lst ((cutN l).map nat)))) : (P.at 100000 m).cf "" "cut" [x] S = .ok (.tup ((cutN l).map nat)) S := by
  have c0 := cutN_len l
  refine Exists.elim (Nat.exists_eq_add_of_le' hm) (fun k hk => ?_)
  subst hk
  rw [cfE]
  refine runF_of rfl ?_
  clear hm
  simp [L.ir_cut, h1]
  rw [whl_rw (fun j : Nat => [.val x, .val (nat j)]) [.val x, .val (nat (cutN l).length)] l.length (fun j => decide (0 < j) && decide (l.getD (j - 1) 0 = 0)) (fun j => j ≤ l.length ∧ cutN (l.take j) = cutN l) (fun j => j) (by rfl) ⟨Nat.le_refl _, by rw [List.take_length]⟩ (by omega)]
  · rcases hs with s1 | s1 <;> simp [s1, tupleF_l, tupleF_t]
  · intro j ⟨h1, h2⟩ hg
    have : j = (cutN l).length := by
      cases j with
      | zero => rw [← h2]; rfl
      | succ j =>
        have h3 : l.getD j 0 ≠ 0 := by simpa using hg
        have h4 := cutN_stop l (j := j) (by omega) h3
        rw [← h2, h4, List.length_take]
        omega
    rw [this]
  · intro j ⟨h1, h2⟩
    cases j with
    | zero => simp [tst_eq]
    | succ j =>
      have := hi j (by omega)
      simp [tst_eq, bin_subN, this, eqN]
  · intro j ⟨h1, h2⟩ hg
    cases j with
    | zero => simp at hg
    | succ j =>
      have h3 : l.getD j 0 = 0 := by simpa using hg
      refine ⟨⟨[.val x, .val (nat j)], S⟩, j, ?_, rfl, ⟨by omega, by rw [← h2, cutN_step l (by omega) h3]⟩, by omega⟩
      have hs : augOp .Sub (nat (j + 1)) (nat 1) = some (nat j) := by
        show some (D.int (((j + 1 : Nat) : Int) - ((1 : Nat) : Int))) = some (D.int (j : Int))
        congr 2
        omega
      simp [hs, valOf]
theorem cut_T {m : Nat} (hm : 1 ≤ m) (l : List Nat) (hl : l.length ≤ 1000) (S : Store) : (P.at 100000 m).cf "" "cut" [.tup (l.map nat)] S = .ok (.tup ((cutN l).map nat)) S := by
  refine cut_walk hm l hl _ S (by simp) (fun j hj => ?_) (.inl (by rw [slc_tup, cut_hi, ← List.map_take, cutN_take]))
  show idxL (l.map nat) (nat j) = _
  rw [idxL_nat (by simpa using hj), List.getElem_map, List.getD_eq_getElem?_getD, List.getElem?_eq_getElem hj]
  rfl
theorem cut_L {m : Nat} (hm : 1 ≤ m) (l : List Nat) (hl : l.length ≤ 1000) (S : Store) : (P.at 100000 m).cf "" "cut" [.lst (l.map nat)] S = .ok (.tup ((cutN l).map nat)) S := by
  refine cut_walk hm l hl _ S (by simp) (fun j hj => ?_) (.inr (by rw [slc_lst, cut_hi, ← List.map_take, cutN_take]))
  show idxL (l.map nat) (nat j) = _
  rw [idxL_nat (by simpa using hj), List.getElem_map, List.getD_eq_getElem?_getD, List.getElem?_eq_getElem hj]
  rfl
end
theorem whole_nat {hi : Int} {d : D} (h : isWhole 0 hi d = true) : ∃ a : Nat, d = nat a := by
  unfold isWhole at h
  split at h
  · rename_i i
    have h2 := (of_decide_eq_true h).1
    exact ⟨i.toNat, by show D.int i = D.int _; congr 1; omega⟩
  · cases h
/-! ### is it one -/
/-- whether a datum is a polynomial over a field of width w -/
def isPoly (w : Nat) : D → Bool
  | .tup ds => decide (ds.length ≤ 64) && (ds.all (fun d => isWhole 0 ((2 ^ w - 1 : Nat) : Int) d) && (match ds.getLast? with
    | some d => !(eqD d (nat 0) == some true)
    | none => true))
  | _ => false
section
variable {S : Store} {n : Nat} {f : FT}
variable [FL P "Field" "wide"] [FL P "Field" "ruled"] [FL P "Field" "size"] [FL P "Field" "base"] [FL P "Field" "powers"] [FL P "Field" "logs"] [TY P "int"] [TY P "bool"] [TY P "tuple"] [GC P "LONGEST" (.int 64)]
variable [FN P "" "is_whole" L.ir_is_whole] [FN P "Field" "has" L.ir_Field_has] [FN P "Field" "need" L.ir_Field_need] [FN P "" "is_poly" L.ir_is_poly]
theorem is_poly_T {m : Nat} (hm : 3 ≤ m) (ok : FtOk f) (h : S[n]? = some (fcell f)) (ds : List D) (hd : ∀ d ∈ ds, d.data = true) (hl : ds.length ≤ 1000) : (P.at 100000 m).cf "" "is_poly" [.tup ds, .obj n] S = .ok (.bl (isPoly f.w (.tup ds))) S := by
  refine Exists.elim (Nat.exists_eq_add_of_le' hm) (fun k hk => ?_)
  subst hk
  rw [cfE]
  refine runF_of rfl ?_
  clear hm
  have c := compK_lst (Γ := P.at 100000 (k + 2)) (el := .meth (.var 1) "Field" "has" (.cons (.var 2) .nil) [] .nil []) (tg := [2]) (own := [2]) (ifs := .nil) (env := [.val (.tup ds), .val (.obj n), .un]) (S := S) (ds := ds) (fun d => .bl (isWhole 0 ((2 ^ f.w - 1 : Nat) : Int) d)) (by omega) (by
    intro d hdm
    have := has_D (P := P) (m := k + 2) (by omega) ok h (hd d hdm)
    simp [turn, methE, f_ins h, f_no h (m := "has") (by decide), this])
  have a := all_map (fun d => isWhole 0 ((2 ^ f.w - 1 : Nat) : Int) d) ds
  simp at c
  by_cases h1 : ds.length ≤ 64
  · have h2 : ¬ 64 < ds.length := by omega
    cases h3 : ds.all (fun d => isWhole 0 ((2 ^ f.w - 1 : Nat) : Int) d)
    · have lg := GC.h (P := P) (x := "LONGEST")
      rw [h3] at a
      simp [L.ir_is_poly, lg, h2, c, a, isPoly, h1, h3]
    · have hn : ∃ ns : List Nat, ds = ns.map nat := by
        clear c a h h1 h2 hl hd
        induction ds with
        | nil => exact ⟨[], rfl⟩
        | cons d ds ih =>
          rw [List.all_cons, Bool.and_eq_true] at h3
          obtain ⟨ns, rfl⟩ := ih h3.2
          obtain ⟨a, rfl⟩ := whole_nat h3.1
          exact ⟨a :: ns, rfl⟩
      have lg := GC.h (P := P) (x := "LONGEST")
      rw [h3] at a
      have key : (eqD (.tup ds) (.tup []) = some true ∧ ds.getLast? = none) ∨ ∃ z : Nat, eqD (.tup ds) (.tup []) = some false ∧ ds.getLast? = some (nat z) ∧ idxL ds (.int (-1)) = some (nat z) := by
        obtain ⟨ns, rfl⟩ := hn
        have e := eq_natsT ns []
        rw [List.map_nil] at e
        rcases List.eq_nil_or_concat ns with rfl | ⟨ns, z, rfl⟩
        · exact .inl ⟨by simpa using e, rfl⟩
        · rw [List.concat_eq_append] at *
          refine .inr ⟨z, by rw [e]; simp, by simp, ?_⟩
          rw [List.map_append]
          exact idxL_last (by simp)
      rcases key with ⟨k1, k2⟩ | ⟨z, k1, k2, k3⟩
      · simp [L.ir_is_poly, lg, h2, c, a, isPoly, h1, h3, k1, k2]
      · simp [L.ir_is_poly, lg, h2, c, a, isPoly, h1, h3, k1, k2, k3, eqN]
  · have h2 : 64 < ds.length := by omega
    have lg := GC.h (P := P) (x := "LONGEST")
    simp [L.ir_is_poly, lg, h2, isPoly, h1]
theorem is_poly_D {m : Nat} (hm : 3 ≤ m) (ok : FtOk f) (h : S[n]? = some (fcell f)) {d : D} (hd : d.data = true) (hl : ∀ ds, d = .tup ds → (∀ x ∈ ds, x.data = true) ∧ ds.length ≤ 1000) : (P.at 100000 m).cf "" "is_poly" [d, .obj n] S = .ok (.bl (isPoly f.w d)) S := by
  by_cases ht : ∃ ds, d = .tup ds
  · obtain ⟨ds, rfl⟩ := ht
    exact is_poly_T hm ok h ds (hl ds rfl).1 (hl ds rfl).2
  · have hp : isPoly f.w d = false := by
      cases d <;> first | rfl | exact absurd ⟨_, rfl⟩ ht
    rw [hp]
    have it : isT "tuple" d = false := by
      cases d <;> first | rfl | exact absurd ⟨_, rfl⟩ ht
    refine Exists.elim (Nat.exists_eq_add_of_le' hm) (fun k hk => ?_)
    subst hk
    rw [cfE]
    refine runF_of rfl ?_
    clear hm
    simp [L.ir_is_poly, isi_data hd, it]
variable [FN P "" "need_poly" L.ir_need_poly]
theorem need_poly_D {m : Nat} (hm : 4 ≤ m) (ok : FtOk f) (h : S[n]? = some (fcell f)) {d : D} (hd : d.data = true) (hl : ∀ ds, d = .tup ds → (∀ x ∈ ds, x.data = true) ∧ ds.length ≤ 1000) : (P.at 100000 m).cf "" "need_poly" [d, .obj n] S = if isPoly f.w d = true then .ok .non S else .exc "NoPoly" S := by
  refine Exists.elim (Nat.exists_eq_add_of_le' hm) (fun k hk => ?_)
  subst hk
  rw [cfE]
  refine runF_of rfl ?_
  clear hm
  have e := is_poly_D (P := P) (m := k + 3) (by omega) ok h hd hl
  cases hp : isPoly f.w d <;> (rw [hp] at e; simp [L.ir_need_poly, e])
variable [FN P "Field" "mul" L.ir_Field_mul] [FN P "Field" "undone" L.ir_Field_undone] [FN P "Field" "raised" L.ir_Field_raised] [FN P "" "at_element" L.ir_at_element]
/-- the value at x: Horner from the end -/
def valN (f : FT) (x : Nat) (l : List Nat) : Nat := l.foldr (fun a m => f.mul m x ^^^ a) 0
theorem valN_lt (ok : FtOk f) {x : Nat} {l : List Nat} (hl : ∀ a ∈ l, a < 2 ^ f.w) : valN f x l < 2 ^ f.w := by
  induction l with
  | nil => exact Nat.two_pow_pos _
  | cons a l ih => exact Nat.xor_lt_two_pow (ok.mul_lt _ _) (hl a List.mem_cons_self)
theorem at_element_N {m : Nat} (hm : 2 ≤ m) (ok : FtOk f) (h : S[n]? = some (fcell f)) {x : Nat} (hx : x < 2 ^ f.w) {l : List Nat} (hl : ∀ a ∈ l, a < 2 ^ f.w) (hn : l.length ≤ 1000) : (P.at 100000 m).cf "" "at_element" [.tup (l.map nat), nat x, .obj n] S = .ok (nat (valN f x l)) S := by
  refine Exists.elim (Nat.exists_eq_add_of_le' hm) (fun k hk => ?_)
  subst hk
  rw [cfE]
  refine runF_of rfl ?_
  clear hm
  have rv : revS (.tup (l.map nat)) = some (l.reverse.map nat) := by
    rw [List.map_reverse]
    rfl
  simp [L.ir_at_element, rv, -List.map_reverse]
  rw [forL_pre (fun p => [.val (.tup (l.map nat)), .val (nat x), .val (.obj n), .val (nat (valN f x p.reverse)), .un]) (by rfl)]
  · simp
  · intro p a q e
    have e2 : l = q.reverse ++ a :: p.reverse := by
      have := congrArg List.reverse e
      simpa using this
    have hv : valN f x p.reverse < 2 ^ f.w := valN_lt ok fun b hb => hl b (by rw [e2]; simp at hb ⊢; right; right; exact hb)
    have t := fmul_N (P := P) (m := k + 1) (by omega) ok h hv hx
    have v : valN f x (p ++ [a]).reverse = f.mul (valN f x p.reverse) x ^^^ a := by
      rw [List.reverse_append]
      rfl
    rw [v]
    simp [loop1, methE, f_ins h, f_no h (m := "mul") (by decide), t]
end
end Z

set_option Elab.async false
set_option linter.all false
set_option maxRecDepth 100000
set_option maxHeartbeats 4000000
set_option exponentiation.threshold 1000
namespace Z
open PySem (Operator CmpOp)
variable {P : Prg}
/-! ### products of polynomials -/
def xadd (l : List Nat) (i v : Nat) : List Nat := l.set i (l.getD i 0 ^^^ v)
@[simp] theorem xadd_len (l : List Nat) (i v : Nat) : (xadd l i v).length = l.length := by simp [xadd]
def prodRow (f : FT) (a i : Nat) (ps : List (Nat × Nat)) (l : List Nat) : List Nat := ps.foldl (fun l p => xadd l (i + p.2) (f.mul a p.1)) l
def prodAcc (f : FT) (qs ps : List (Nat × Nat)) (l : List Nat) : List Nat := qs.foldl (fun l q => prodRow f q.1 q.2 ps l) l
@[simp] theorem prodRow_len (f : FT) (a i : Nat) (ps : List (Nat × Nat)) (l : List Nat) : (prodRow f a i ps l).length = l.length := by
  unfold prodRow
  induction ps generalizing l with
  | nil => rfl
  | cons p ps ih => rw [List.foldl_cons, ih]; simp
@[simp] theorem prodAcc_len (f : FT) (qs ps : List (Nat × Nat)) (l : List Nat) : (prodAcc f qs ps l).length = l.length := by
  unfold prodAcc
  induction qs generalizing l with
  | nil => rfl
  | cons p qs ih => rw [List.foldl_cons, ih]; simp
def prodN (f : FT) (as bs : List Nat) : List Nat := cutN (prodAcc f as.zipIdx bs.zipIdx (List.replicate (as.length + bs.length) 0))
theorem setD_N {xs : List D} {j : Nat} (h : j < xs.length) (d : D) : setD (.lst xs) (nat j) d = some (.lst (xs.set j d)) := by
  show setL xs (nat j) d = _
  unfold setL
  show (ixN xs.length (j : Int)).map _ = _
  rw [show ixN xs.length (j : Int) = some j from ixN_nat h]
  rfl
theorem mem_zipIdx0 {l : List Nat} {p : Nat × Nat} (h : p ∈ l.zipIdx) : p.1 ∈ l ∧ p.2 < l.length := by
  have h2 := List.mem_zipIdx (x := p.1) (i := p.2) (k := 0) h
  refine ⟨?_, by omega⟩
  obtain ⟨h3, h4, h5⟩ := h2
  rw [h5]
  exact List.getElem_mem _
section
variable {S : Store} {n : Nat} {f : FT}
variable [FL P "Field" "wide"] [FL P "Field" "ruled"] [FL P "Field" "size"] [FL P "Field" "base"] [FL P "Field" "powers"] [FL P "Field" "logs"] [TY P "int"] [TY P "bool"] [FN P "" "is_whole" L.ir_is_whole] [FN P "Field" "has" L.ir_Field_has] [FN P "Field" "need" L.ir_Field_need]
variable [FN P "Field" "mul" L.ir_Field_mul] [FN P "Field" "undone" L.ir_Field_undone] [FN P "Field" "raised" L.ir_Field_raised] [FN P "" "cut" L.ir_cut] [FN P "" "product_poly" L.ir_product_poly]
theorem product_N {m : Nat} (hm : 2 ≤ m) (ok : FtOk f) (h : S[n]? = some (fcell f)) {as bs : List Nat} (ha : ∀ a ∈ as, a < 2 ^ f.w) (hb : ∀ b ∈ bs, b < 2 ^ f.w) (hl : as.length ≤ 100 ∧ bs.length ≤ 100) :
    (P.at 100000 m).cf "" "product_poly" [.tup (as.map nat), .tup (bs.map nat), .obj n] S = .ok (.tup ((prodN f as bs).map nat)) S := by
  refine Exists.elim (Nat.exists_eq_add_of_le' hm) (fun k hk => ?_)
  subst hk
  rw [cfE]
  refine runF_of rfl ?_
  clear hm
  have rp : rept [nat 0] (as.length + bs.length) = (List.replicate (as.length + bs.length) 0).map nat := by
    unfold rept
    rw [List.map_replicate]
    induction as.length + bs.length with
    | zero => rfl
    | succ n ih => rw [List.replicate_succ, List.flatten_cons, ih]; rfl
  have ml := mul_lst [nat 0] (as.length + bs.length) (by simp; omega) (by omega)
  rw [rp] at ml
  have inner : ∀ (a i : Nat) (l : List Nat), a < 2 ^ f.w → i < as.length → l.length = as.length + bs.length → forL [6, 7] [6, 7] (evSs (P.at 100000 (k + 1)) 100000 (.cons (.augi (.var 3) (.bin .Add (.var 4) (.var 6)) .BitXor (.meth (.var 2) "Field" "mul" (.cons (.var 5) (.cons (.var 7) .nil)) [] .nil [])) .nil)) (bs.zipIdx.map fun p => .tup [nat p.2, nat p.1]) ⟨[.val (.tup (as.map nat)), .val (.tup (bs.map nat)), .val (.obj n), .own (.lst (l.map nat)), .val (nat i), .val (nat a), .un, .un], S⟩ =
      .nx ⟨[.val (.tup (as.map nat)), .val (.tup (bs.map nat)), .val (.obj n), .own (.lst ((prodRow f a i bs.zipIdx l).map nat)), .val (nat i), .val (nat a), .un, .un], S⟩ := by
    intro a i l ha2 hi hll
    rw [forL_pre (fun p => [.val (.tup (as.map nat)), .val (.tup (bs.map nat)), .val (.obj n), .own (.lst ((prodRow f a i p l).map nat)), .val (nat i), .val (nat a), .un, .un]) (by rfl)]
    intro p x q e
    have hx := mem_zipIdx0 (l := bs) (p := x) (by rw [e]; simp)
    have t := fmul_N (P := P) (m := k + 1) (by omega) ok h ha2 (hb _ hx.1)
    have hj : i + x.2 < (prodRow f a i p l).length := by rw [prodRow_len]; omega
    have ix : idxL ((prodRow f a i p l).map nat) (nat (i + x.2)) = some (nat ((prodRow f a i p l).getD (i + x.2) 0)) := by
      rw [idxL_nat (by simpa using hj), List.getElem_map, List.getD_eq_getElem?_getD, List.getElem?_eq_getElem hj]
      rfl
    have st := fun d => setD_N (xs := (prodRow f a i p l).map nat) (j := i + x.2) (by simpa using hj) d
    have pr : prodRow f a i (p ++ [x]) l = xadd (prodRow f a i p l) (i + x.2) (f.mul a x.1) := by
      unfold prodRow
      rw [List.foldl_append]
      rfl
    rw [pr]
    generalize prodRow f a i p l = z at ix st hj
    simp [loop1, methE, f_ins h, f_no h (m := "mul") (by decide), t, ix, st, xadd, putI]
  have outer := forL_pre (tg := [4, 5]) (msk := [4, 5, 6, 7]) (body := evSs (P.at 100000 (k + 1)) 100000 (.cons (.for [6, 7] (.enu (.var 1)) (.cons (.augi (.var 3) (.bin .Add (.var 4) (.var 6)) .BitXor (.meth (.var 2) "Field" "mul" (.cons (.var 5) (.cons (.var 7) .nil)) [] .nil [])) .nil) [6, 7]) .nil)) (g := fun p : Nat × Nat => .tup [nat p.2, nat p.1]) (S := S) (xs := as.zipIdx) (env := [.val (.tup (as.map nat)), .val (.tup (bs.map nat)), .val (.obj n), .own (.lst ((List.replicate (as.length + bs.length) 0).map nat)), .un, .un, .un, .un]) (fun p => [.val (.tup (as.map nat)), .val (.tup (bs.map nat)), .val (.obj n), .own (.lst ((prodAcc f p bs.zipIdx (List.replicate (as.length + bs.length) 0)).map nat)), .un, .un, .un, .un]) rfl (by
    intro p x q e
    have hx := mem_zipIdx0 (l := as) (p := x) (by rw [e]; simp)
    have inn := inner x.1 x.2 (prodAcc f p bs.zipIdx (List.replicate (as.length + bs.length) 0)) (ha _ hx.1) hx.2 (by simp)
    have pr : prodAcc f (p ++ [x]) bs.zipIdx (List.replicate (as.length + bs.length) 0) = prodRow f x.1 x.2 bs.zipIdx (prodAcc f p bs.zipIdx (List.replicate (as.length + bs.length) 0)) := by
      unfold prodAcc
      rw [List.foldl_append]
      rfl
    rw [pr]
    generalize prodAcc f p bs.zipIdx (List.replicate (as.length + bs.length) 0) = z at inn
    simp [loop1, inn])
  have c := cut_L (P := P) (m := k + 1) (by omega) (prodAcc f as.zipIdx bs.zipIdx (List.replicate (as.length + bs.length) 0)) (by simp; omega) S
  simp [L.ir_product_poly, ml, -List.map_replicate, outer, c, prodN]
end
end Z

set_option Elab.async false
set_option linter.all false
set_option maxRecDepth 100000
set_option maxHeartbeats 4000000
set_option exponentiation.threshold 1000
namespace Z
open PySem (Operator CmpOp)
variable {P : Prg}
section
variable [TY P "int"] [TY P "bool"] [TY P "tuple"] [TY P "list"] [GC P "LONGEST" (.int 64)] [FN P "" "is_whole" L.ir_is_whole] [FN P "" "need_width" L.ir_need_width] [FN P "" "degree" L.ir_degree] [FN P "" "rest_plain" L.ir_rest_plain] [FN P "" "is_rule_of" L.ir_is_rule_of] [FN P "" "is_rule" L.ir_is_rule] [FN P "" "times_plain" L.ir_times_plain]
variable [FL P "Field" "wide"] [FL P "Field" "ruled"] [FL P "Field" "size"] [FL P "Field" "base"] [FL P "Field" "powers"] [FL P "Field" "logs"] [FN P "Field" "powers_of" L.ir_Field_powers_of] [FN P "Field" "__init__" L.ir_Field_init]
variable [FN P "Field" "has" L.ir_Field_has] [FN P "Field" "need" L.ir_Field_need] [FN P "Field" "mul" L.ir_Field_mul] [FN P "Field" "undone" L.ir_Field_undone] [FN P "Field" "raised" L.ir_Field_raised]
variable [FN P "" "cut" L.ir_cut] [FN P "" "is_poly" L.ir_is_poly] [FN P "" "need_poly" L.ir_need_poly] [FN P "" "product_poly" L.ir_product_poly] [FN P "" "at_element" L.ir_at_element] [FN P "" "both_parts" L.ir_both_parts]
variable [FN P "" "plus_poly" L.ir_plus_poly] [FN P "" "times_poly" L.ir_times_poly] [FN P "" "parted" L.ir_parted] [FN P "" "common_poly" L.ir_common_poly] [FN P "" "value_at" L.ir_value_at] [FN P "" "roots" L.ir_roots] [FN P "" "through" L.ir_through] [FN P "" "are_points" L.ir_are_points]
variable [EX P "NoPoly" "BitError"] [EX P "NoElement" "BitError"] [EX P "NoPoints" "BitError"] [EX P "TooLong" "BitError"] [WH P "_law_which" "NoPoly" 4] [WH P "_law_which" "NoElement" 3] [WH P "_law_which" "NoPoints" 5] [WH P "_law_which" "TooLong" 19] [FN P "" "_law_ask" L.ir_L_ask]
variable [FN P "" "_law_draw" L.ir_L_draw] [FN P "" "_law_pick" L.ir_L_pick] [FN P "" "_law_once" L.ir_L_once]
abbrev F8 : FT := ft_3_11
theorem F8_ok : FtOk F8 := fts_ok (by simp [fts])
theorem mk8 {m : Nat} (hm : 5 ≤ m) (T : Store) : (P.at 100000 m).cf "Field" "__init__" [.obj T.length, nat 3, nat 11] (T ++ [.ins "Field" []]) = .ok .non (T ++ [fcell F8]) := field_mk (P := P) hm F8_ok T
/-- a thing that is no polynomial; one that is -/
def Bad8 (d : D) : Prop := d.data = true ∧ (∀ ds, d = .tup ds → (∀ x ∈ ds, x.data = true) ∧ ds.length ≤ 1000) ∧ isPoly 3 d = false
def Good8 (d : D) : Prop := d.data = true ∧ (∀ ds, d = .tup ds → (∀ x ∈ ds, x.data = true) ∧ ds.length ≤ 1000) ∧ isPoly 3 d = true
theorem bad_need {d : D} (h : Bad8 d) {m : Nat} (hm : 4 ≤ m) (T : Store) : (P.at 100000 m).cf "" "need_poly" [d, .obj T.length] (T ++ [fcell F8]) = .exc "NoPoly" (T ++ [fcell F8]) := by
  rw [need_poly_D (P := P) hm F8_ok (by simp) h.1 h.2.1]
  rw [show isPoly F8.w d = false from h.2.2]
  rfl
theorem good_need {d : D} (h : Good8 d) {m : Nat} (hm : 4 ≤ m) (T : Store) : (P.at 100000 m).cf "" "need_poly" [d, .obj T.length] (T ++ [fcell F8]) = .ok .non (T ++ [fcell F8]) := by
  rw [need_poly_D (P := P) hm F8_ok (by simp) h.1 h.2.1]
  rw [show isPoly F8.w d = true from h.2.2]
  rfl
theorem good_one : Good8 (.tup [nat 1]) := ⟨rfl, fun ds e => by cases e; simp [data_nat], by decide⟩
theorem k08_A {d : D} (h : Bad8 d) (e : D) (T : Store) (j : Nat) (hj : j < 6) : (P.at 100000 28).cf "" "_law_ask" [nat j, d, e] T = .ok (refd 4) (T ++ [fcell F8]) := by
  have n := bad_need (P := P) h (m := 26) (by omega) T
  have c := mk8 (P := P) (m := 27) (by omega) T
  have f0 : (P.at 100000 27).cf "" "plus_poly" [d, e, .obj T.length] (T ++ [fcell F8]) = .exc "NoPoly" (T ++ [fcell F8]) := by rw [cfE]; refine runF_of rfl ?_; simp [L.ir_plus_poly, n]
  have f1 : (P.at 100000 27).cf "" "times_poly" [d, e, .obj T.length] (T ++ [fcell F8]) = .exc "NoPoly" (T ++ [fcell F8]) := by rw [cfE]; refine runF_of rfl ?_; simp [L.ir_times_poly, n]
  have f2 : (P.at 100000 27).cf "" "parted" [d, e, .obj T.length] (T ++ [fcell F8]) = .exc "NoPoly" (T ++ [fcell F8]) := by rw [cfE]; refine runF_of rfl ?_; simp [L.ir_parted, n]
  have f3 : (P.at 100000 27).cf "" "common_poly" [d, e, .obj T.length] (T ++ [fcell F8]) = .exc "NoPoly" (T ++ [fcell F8]) := by rw [cfE]; refine runF_of rfl ?_; simp [L.ir_common_poly, n]
  have f4 : (P.at 100000 27).cf "" "value_at" [d, e, .obj T.length] (T ++ [fcell F8]) = .exc "NoPoly" (T ++ [fcell F8]) := by rw [cfE]; refine runF_of rfl ?_; simp [L.ir_value_at, n]
  have f5 : (P.at 100000 27).cf "" "roots" [d, .obj T.length] (T ++ [fcell F8]) = .exc "NoPoly" (T ++ [fcell F8]) := by rw [cfE]; refine runF_of rfl ?_; simp [L.ir_roots, n]
  rw [cfE]
  refine runF_of rfl ?_
  have : j = 0 ∨ j = 1 ∨ j = 2 ∨ j = 3 ∨ j = 4 ∨ j = 5 := by omega
  rcases this with rfl | rfl | rfl | rfl | rfl | rfl <;> simp [L.ir_L_ask, mkE, c, eqN, f0, f1, f2, f3, f4, f5]
theorem k08_B {d : D} (h : Bad8 d) (T : Store) (j : Nat) (hj : j < 4) : (P.at 100000 28).cf "" "_law_ask" [nat j, .tup [nat 1], d] T = .ok (refd 4) (T ++ [fcell F8]) := by
  have n := bad_need (P := P) h (m := 26) (by omega) T
  have g := good_need (P := P) good_one (m := 26) (by omega) T
  have c := mk8 (P := P) (m := 27) (by omega) T
  have f0 : (P.at 100000 27).cf "" "plus_poly" [.tup [nat 1], d, .obj T.length] (T ++ [fcell F8]) = .exc "NoPoly" (T ++ [fcell F8]) := by rw [cfE]; refine runF_of rfl ?_; simp [L.ir_plus_poly, n, g]
  have f1 : (P.at 100000 27).cf "" "times_poly" [.tup [nat 1], d, .obj T.length] (T ++ [fcell F8]) = .exc "NoPoly" (T ++ [fcell F8]) := by rw [cfE]; refine runF_of rfl ?_; simp [L.ir_times_poly, n, g]
  have f2 : (P.at 100000 27).cf "" "parted" [.tup [nat 1], d, .obj T.length] (T ++ [fcell F8]) = .exc "NoPoly" (T ++ [fcell F8]) := by rw [cfE]; refine runF_of rfl ?_; simp [L.ir_parted, n, g]
  have f3 : (P.at 100000 27).cf "" "common_poly" [.tup [nat 1], d, .obj T.length] (T ++ [fcell F8]) = .exc "NoPoly" (T ++ [fcell F8]) := by rw [cfE]; refine runF_of rfl ?_; simp [L.ir_common_poly, n, g]
  rw [cfE]
  refine runF_of rfl ?_
  have : j = 0 ∨ j = 1 ∨ j = 2 ∨ j = 3 := by omega
  rcases this with rfl | rfl | rfl | rfl <;> simp [L.ir_L_ask, mkE, c, eqN, f0, f1, f2, f3]
theorem good_11 : Good8 (.tup [nat 1, nat 1]) := ⟨rfl, fun ds e => by cases e; simp [data_nat], by decide⟩
theorem good_22 : Good8 (.tup [nat 2, nat 2]) := ⟨rfl, fun ds e => by cases e; simp [data_nat], by decide⟩
theorem good_0 : Good8 (.tup []) := ⟨rfl, fun ds e => by cases e; simp, by decide⟩
theorem eq_e0 : eqD (.tup []) (.tup []) = some true := by rfl
theorem k08_C (T : Store) : (P.at 100000 28).cf "" "_law_ask" [nat 2, .tup [nat 1, nat 1], .tup []] T = .ok (refd 4) (T ++ [fcell F8]) ∧ (P.at 100000 28).cf "" "_law_ask" [nat 3, .tup [], .tup []] T = .ok (refd 4) (T ++ [fcell F8]) ∧ (P.at 100000 28).cf "" "_law_ask" [nat 5, .tup [], .tup []] T = .ok (refd 4) (T ++ [fcell F8]) := by
  have g1 := good_need (P := P) good_11 (m := 26) (by omega) T
  have g0 := good_need (P := P) good_0 (m := 26) (by omega) T
  have c := mk8 (P := P) (m := 27) (by omega) T
  have f2 : (P.at 100000 27).cf "" "parted" [.tup [nat 1, nat 1], .tup [], .obj T.length] (T ++ [fcell F8]) = .exc "NoPoly" (T ++ [fcell F8]) := by rw [cfE]; refine runF_of rfl ?_; simp [L.ir_parted, g1, g0, eq_e0]
  have f3 : (P.at 100000 27).cf "" "common_poly" [.tup [], .tup [], .obj T.length] (T ++ [fcell F8]) = .exc "NoPoly" (T ++ [fcell F8]) := by rw [cfE]; refine runF_of rfl ?_; simp [L.ir_common_poly, g0, eq_e0]
  have f5 : (P.at 100000 27).cf "" "roots" [.tup [], .obj T.length] (T ++ [fcell F8]) = .exc "NoPoly" (T ++ [fcell F8]) := by rw [cfE]; refine runF_of rfl ?_; simp [L.ir_roots, g0, eq_e0]
  refine ⟨?_, ?_, ?_⟩ <;> (rw [cfE]; refine runF_of rfl ?_; simp [L.ir_L_ask, mkE, c, eqN, f2, f3, f5])
theorem k08_D {d : D} (hd : d.data = true) (hw : isWhole 0 7 d = false) (T : Store) : (P.at 100000 28).cf "" "_law_ask" [nat 4, .tup [nat 1], d] T = .ok (refd 3) (T ++ [fcell F8]) := by
  have g := good_need (P := P) good_one (m := 26) (by omega) T
  have c := mk8 (P := P) (m := 27) (by omega) T
  have at8 : (T ++ [fcell F8])[T.length]? = some (fcell F8) := by simp
  have nb : (P.at 100000 26).cf "Field" "need" [.obj T.length, d] (T ++ [fcell F8]) = .exc "NoElement" (T ++ [fcell F8]) := by
    rw [need_D (P := P) (m := 26) (by omega) F8_ok at8 hd]
    have : isWhole 0 ((2 ^ F8.w - 1 : Nat) : Int) d = false := hw
    rw [this]
    rfl
  have f4 : (P.at 100000 27).cf "" "value_at" [.tup [nat 1], d, .obj T.length] (T ++ [fcell F8]) = .exc "NoElement" (T ++ [fcell F8]) := by rw [cfE]; refine runF_of rfl ?_; simp [L.ir_value_at, g, methE, f_ins at8, f_no at8 (m := "need") (by decide), nb]
  rw [cfE]
  refine runF_of rfl ?_
  simp [L.ir_L_ask, mkE, c, eqN, f4]
/-! long ones -/
abbrev ones (n : Nat) : List Nat := List.replicate n 1
theorem good_ones {n : Nat} (h0 : 0 < n) (h : n ≤ 64) : Good8 (.tup ((ones n).map nat)) := by
  refine ⟨rfl, fun ds e => ?_, ?_⟩
  · cases e
    exact ⟨fun x hx => by obtain ⟨a, _, rfl⟩ := List.mem_map.mp hx; exact data_nat a, by simp; omega⟩
  · have : ∀ n, n ≤ 64 → 0 < n → isPoly 3 (.tup ((ones n).map nat)) = true := by
      intro n h1 h2
      have key : ∀ n ∈ (List.range 65).drop 1, isPoly 3 (.tup ((ones n).map nat)) = true := by decide +kernel
      exact key n (by
        have : (List.range 65).drop 1 = (List.range 64).map (· + 1) := by decide
        rw [this]
        exact List.mem_map.mpr ⟨n - 1, by simp; omega, by omega⟩)
    exact this n h h0
theorem long_all : ∀ n ∈ List.range 9, 64 < (prodN F8 (ones (33 + n)) (ones 33)).length := by decide +kernel
theorem long_32 : (prodN F8 (ones 32) (ones 33)).length = 64 := by decide +kernel
theorem times_8 {as bs : List Nat} (ga : Good8 (.tup (as.map nat))) (gb : Good8 (.tup (bs.map nat))) (ha : ∀ a ∈ as, a < 8) (hb : ∀ a ∈ bs, a < 8) (hl : as.length ≤ 100 ∧ bs.length ≤ 100) (T : Store) :
    (P.at 100000 27).cf "" "times_poly" [.tup (as.map nat), .tup (bs.map nat), .obj T.length] (T ++ [fcell F8]) = if 64 < (prodN F8 as bs).length then .exc "TooLong" (T ++ [fcell F8]) else .ok (.tup ((prodN F8 as bs).map nat)) (T ++ [fcell F8]) := by
  have g1 := good_need (P := P) ga (m := 26) (by omega) T
  have g2 := good_need (P := P) gb (m := 26) (by omega) T
  have pr := product_N (P := P) (m := 26) (by omega) F8_ok (S := T ++ [fcell F8]) (n := T.length) (by simp) ha hb hl
  have lg := GC.h (P := P) (x := "LONGEST")
  generalize prodN F8 as bs = z at pr
  rw [cfE]
  refine runF_of rfl ?_
  by_cases h : 64 < z.length
  · simp [L.ir_times_poly, g1, g2, pr, lg, h]
  · simp [L.ir_times_poly, g1, g2, pr, lg, h]
theorem k08_F (n : Nat) (hn : n < 9) (T : Store) : (P.at 100000 28).cf "" "_law_ask" [nat 1, .tup ((ones (33 + n)).map nat), .tup ((ones 33).map nat)] T = .ok (refd 19) (T ++ [fcell F8]) := by
  have c := mk8 (P := P) (m := 27) (by omega) T
  have t := times_8 (P := P) (good_ones (n := 33 + n) (by omega) (by omega)) (good_ones (n := 33) (by omega) (by omega)) (by simp) (by simp) (by simp; omega) T
  rw [if_pos (long_all n (by simpa using hn))] at t
  generalize (ones (33 + n)).map nat = u at t ⊢
  generalize (ones 33).map nat = v at t ⊢
  rw [cfE]
  refine runF_of rfl ?_
  simp [L.ir_L_ask, mkE, c, eqN, t]
theorem k08_G (T : Store) : ∃ xs : List D, xs.length = 64 ∧ (P.at 100000 28).cf "" "_law_ask" [nat 1, .tup ((ones 32).map nat), .tup ((ones 33).map nat)] T = .ok (.tup xs) (T ++ [fcell F8]) := by
  have c := mk8 (P := P) (m := 27) (by omega) T
  have t := times_8 (P := P) (good_ones (n := 32) (by omega) (by omega)) (good_ones (n := 33) (by omega) (by omega)) (by simp) (by simp) (by simp) T
  rw [if_neg (by rw [long_32]; omega)] at t
  refine ⟨(prodN F8 (ones 32) (ones 33)).map nat, by rw [List.length_map, long_32], ?_⟩
  generalize (prodN F8 (ones 32) (ones 33)).map nat = w at t ⊢
  generalize (ones 32).map nat = u at t ⊢
  generalize (ones 33).map nat = v at t ⊢
  rw [cfE]
  refine runF_of rfl ?_
  simp [L.ir_L_ask, mkE, c, eqN, t]
end
end Z

set_option Elab.async false
set_option linter.all false
set_option maxRecDepth 100000
set_option maxHeartbeats 4000000
set_option exponentiation.threshold 1000
namespace Z
open PySem (Operator CmpOp)
variable {P : Prg}
section
variable [TY P "int"] [TY P "bool"] [TY P "tuple"] [TY P "list"] [GC P "LONGEST" (.int 64)] [FN P "" "is_whole" L.ir_is_whole] [FN P "" "need_width" L.ir_need_width] [FN P "" "degree" L.ir_degree] [FN P "" "rest_plain" L.ir_rest_plain] [FN P "" "is_rule_of" L.ir_is_rule_of] [FN P "" "is_rule" L.ir_is_rule] [FN P "" "times_plain" L.ir_times_plain]
variable [FL P "Field" "wide"] [FL P "Field" "ruled"] [FL P "Field" "size"] [FL P "Field" "base"] [FL P "Field" "powers"] [FL P "Field" "logs"] [FN P "Field" "powers_of" L.ir_Field_powers_of] [FN P "Field" "__init__" L.ir_Field_init]
variable [FN P "Field" "has" L.ir_Field_has] [FN P "Field" "need" L.ir_Field_need] [FN P "Field" "mul" L.ir_Field_mul] [FN P "Field" "undone" L.ir_Field_undone] [FN P "Field" "raised" L.ir_Field_raised]
variable [FN P "" "cut" L.ir_cut] [FN P "" "is_poly" L.ir_is_poly] [FN P "" "need_poly" L.ir_need_poly] [FN P "" "product_poly" L.ir_product_poly] [FN P "" "at_element" L.ir_at_element] [FN P "" "both_parts" L.ir_both_parts]
variable [FN P "" "plus_poly" L.ir_plus_poly] [FN P "" "times_poly" L.ir_times_poly] [FN P "" "parted" L.ir_parted] [FN P "" "common_poly" L.ir_common_poly] [FN P "" "value_at" L.ir_value_at] [FN P "" "roots" L.ir_roots] [FN P "" "through" L.ir_through] [FN P "" "are_points" L.ir_are_points]
variable [EX P "NoPoly" "BitError"] [EX P "NoElement" "BitError"] [EX P "NoPoints" "BitError"] [EX P "TooLong" "BitError"] [WH P "_law_which" "NoPoly" 4] [WH P "_law_which" "NoElement" 3] [WH P "_law_which" "NoPoints" 5] [WH P "_law_which" "TooLong" 19] [FN P "" "_law_ask" L.ir_L_ask]
variable [FN P "" "_law_draw" L.ir_L_draw] [FN P "" "_law_pick" L.ir_L_pick] [FN P "" "_law_once" L.ir_L_once]
theorem inv2 : F8.inv 2 = 5 := by decide +kernel
theorem both_8 (T : Store) : (P.at 100000 26).cf "" "both_parts" [.tup [], .tup [nat 2, nat 2], .obj T.length] (T ++ [fcell F8]) = .ok (.tup [.tup [], .tup []]) (T ++ [fcell F8]) := by
  have at8 : (T ++ [fcell F8])[T.length]? = some (fcell F8) := by simp
  have u := undone_N (P := P) (m := 25) (by omega) F8_ok at8 (a := 2) (by decide) (by decide)
  have c := cut_L (P := P) (m := 25) (by omega) [] (by simp) (T ++ [fcell F8])
  rw [List.map_nil, cutN_nil, List.map_nil] at c
  have i1 : idxL [nat 2, nat 2] (.int (-1)) = some (nat 2) := by rfl
  have b1 : binD .Sub (nat 0) (nat 2) = some (.val (.int (-2))) := by rfl
  have b2 : binD .Add (.int (-2)) (nat 1) = some (.val (.int (-1))) := by rfl
  have b3 : maxF [.int (-1), nat 0] = some (.val (nat 0)) := by rfl
  have b4 : binD .Sub (nat 0) (nat 1) = some (.val (.int (-1))) := by rfl
  have b5 : rngD [.int (-1), .int (-1), .int (-1)] = some [] := by rfl
  have b6 : binD .Mult (.lst [nat 0]) (nat 0) = some (.own (.lst [])) := by rfl
  have b7 : listF [.tup []] = some (.own (.lst [])) := by rfl
  rw [cfE]
  refine runF_of rfl ?_
  simp [L.ir_both_parts, methE, f_ins at8, f_no at8 (m := "undone") (by decide), u, i1, b1, b2, b3, b4, b5, b6, b7, c, forL]
theorem k08_H (T : Store) : (P.at 100000 28).cf "" "_law_ask" [nat 3, .tup [], .tup [nat 2, nat 2]] T = .ok (.tup [nat 1, nat 1]) (T ++ [fcell F8]) := by
  have g2 := good_need (P := P) good_22 (m := 26) (by omega) T
  have g0 := good_need (P := P) good_0 (m := 26) (by omega) T
  have c := mk8 (P := P) (m := 27) (by omega) T
  have at8 : (T ++ [fcell F8])[T.length]? = some (fcell F8) := by simp
  have u := undone_N (P := P) (m := 26) (by omega) F8_ok at8 (a := 2) (by decide) (by decide)
  rw [inv2] at u
  have bp := both_8 (P := P) T
  have pr := product_N (P := P) (m := 26) (by omega) F8_ok (S := T ++ [fcell F8]) (n := T.length) (by simp) (as := [2, 2]) (bs := [5]) (by decide) (by decide) (by decide)
  have pv : prodN F8 [2, 2] [5] = [1, 1] := by decide +kernel
  rw [pv] at pr
  simp only [List.map_cons, List.map_nil] at pr
  have e1 : eqD (.tup [nat 2, nat 2]) (.tup []) = some false := by rfl
  have i1 : idxL [nat 2, nat 2] (.int (-1)) = some (nat 2) := by rfl
  have f3 : (P.at 100000 27).cf "" "common_poly" [.tup [], .tup [nat 2, nat 2], .obj T.length] (T ++ [fcell F8]) = .ok (.tup [nat 1, nat 1]) (T ++ [fcell F8]) := by
    rw [cfE]
    refine runF_of rfl ?_
    simp [L.ir_common_poly, g0, g2, eq_e0, e1]
    rw [whl_rw (fun b : Bool => if b then [.val (.tup []), .val (.tup [nat 2, nat 2]), .val (.obj T.length)] else [.val (.tup [nat 2, nat 2]), .val (.tup []), .val (.obj T.length)]) [.val (.tup [nat 2, nat 2]), .val (.tup []), .val (.obj T.length)] true (fun b => b) (fun _ => True) (fun b => if b then 1 else 0) (by rfl) trivial (by simp)]
    · simp [methE, f_ins at8, f_no at8 (m := "undone") (by decide), i1, u, pr]
    · intro b _ hb
      have hb2 : b = false := hb
      subst hb2
      rfl
    · intro b _
      cases b <;> simp [tst_eq, eq_e0, e1]
    · intro b _ hb
      have hb2 : b = true := hb
      subst hb2
      refine ⟨⟨[.val (.tup [nat 2, nat 2]), .val (.tup []), .val (.obj T.length)], T ++ [fcell F8]⟩, false, ?_, rfl, trivial, by simp⟩
      simp [bp]
  rw [cfE]
  refine runF_of rfl ?_
  simp [L.ir_L_ask, mkE, c, eqN, f3]
/-! points -/
abbrev k08pts : List D := [.non, .lst [], .lst [.tup [nat 1, nat 2], .tup [nat 1, nat 3]], .lst [.tup [nat 8, nat 1]], .lst [.tup [nat 1]], .lst [.lst [nat 1, nat 2]], .tup [.tup [nat 1, nat 2]], .lst [.tup [nat 1, nat 2, nat 3]], .lst [.tup [nat 1, nat 9]], .lst [.tup [.bl true, nat 1]]]
theorem x_bst {Γ : Gam} {bw : Bool} {s : St} (f : String) (a : E) : evE Γ bw (.bst f a) s = ((evE Γ true a s).bind fun x s1 => opt (res s1 x) fun dx => O (stB f dx) s1) := (rfl)
theorem pts_no : ∀ d ∈ k08pts, ∀ T : Store, (P.at 100000 26).cf "" "are_points" [d, .obj T.length] (T ++ [fcell F8]) = .ok (.bl false) (T ++ [fcell F8]) := by
  intro d hd T
  have at8 : (T ++ [fcell F8])[T.length]? = some (fcell F8) := by simp
  have hs := fun (d : D) (hd : d.data = true) => has_D (P := P) (m := 25) (by omega) F8_ok at8 hd
  have cx : ∀ (x y : Ent) (ds : List D), (∀ d ∈ ds, d.data = true) → ds.length ≤ 100 → compK (P.at 100000 25) (.meth (.var 1) "Field" "has" (.cons (.var 3) .nil) [] .nil []) [3] [3] .nil ds ⟨[x, .val (.obj T.length), y, .un], T ++ [fcell F8]⟩ = .ok (.own (.lst (ds.map fun d => .bl (isWhole 0 ((2 ^ F8.w - 1 : Nat) : Int) d)))) ⟨[x, .val (.obj T.length), y, .un], T ++ [fcell F8]⟩ := by
    intro x y ds h1 h2
    rw [compK_lst (fun d => .bl (isWhole 0 ((2 ^ F8.w - 1 : Nat) : Int) d)) (by omega)]
    · rfl
    · intro d hdm
      have := hs d (h1 d hdm)
      simp [turn, methE, f_ins at8, f_no at8 (m := "has") (by decide), this]
  have l7 : (2 ^ F8.w - 1 : Nat) = 7 := rfl
  rw [l7] at cx
  have a1 : allF [.lst [.bl true, .bl true]] = some (.val (.bl true)) := by rfl
  have a2 : allF [.lst [.bl false, .bl true]] = some (.val (.bl false)) := by rfl
  have a3 : allF [.lst [.bl true, .bl false]] = some (.val (.bl false)) := by rfl
  have w1 : isWhole 0 7 (nat 1) = true := by decide
  have w2 : isWhole 0 7 (nat 2) = true := by decide
  have w3 : isWhole 0 7 (nat 3) = true := by decide
  have w8 : isWhole 0 7 (nat 8) = false := by decide
  have w9 : isWhole 0 7 (nat 9) = false := by decide
  have wb : isWhole 0 7 (.bl true) = false := by decide
  have a1' : allF [.lst [.bl true]] = some (.val (.bl true)) := by rfl
  have a2' : allF [.lst [.bl true, .bl true, .bl true]] = some (.val (.bl true)) := by rfl
  have a3' : allF [.lst [.bl false]] = some (.val (.bl false)) := by rfl
  have cx2 : ∀ (x y : Ent) (S : Store), compK (P.at 100000 25) (.idx (.var 2) (.cst (nat 0))) [2] [2] .nil [.tup [nat 1, nat 2], .tup [nat 1, nat 3]] ⟨[x, y, .un, .un], S⟩ = .ok (.own (.lst [nat 1, nat 1])) ⟨[x, y, .un, .un], S⟩ := fun _ _ _ => by rfl
  have st2 : stB "len" (.lst [nat 1, nat 1]) = some (.val (nat 1)) := by rfl
  simp only [List.mem_cons, List.not_mem_nil, or_false] at hd
  rw [cfE]
  refine runF_of rfl ?_
  rcases hd with rfl | rfl | rfl | rfl | rfl | rfl | rfl | rfl | rfl | rfl
  · simp [L.ir_are_points, isT, tyName]
  · simp [L.ir_are_points, isT, tyName]
  all_goals simp [L.ir_are_points, isT, tyName, forL, loop1, eqN, cx, w1, w2, w3, w8, w9, wb, a1, a2, a3, a1', a2', a3', x_bst, cx2, st2]
theorem k08_E : ∀ d ∈ k08pts, ∀ T : Store, (P.at 100000 28).cf "" "_law_ask" [nat 6, d, .non] T = .ok (refd 5) (T ++ [fcell F8]) := by
  intro d hd T
  have p := pts_no (P := P) d hd T
  have c := mk8 (P := P) (m := 27) (by omega) T
  have f6 : (P.at 100000 27).cf "" "through" [d, .obj T.length] (T ++ [fcell F8]) = .exc "NoPoints" (T ++ [fcell F8]) := by rw [cfE]; refine runF_of rfl ?_; simp [L.ir_through, p]
  rw [cfE]
  refine runF_of rfl ?_
  simp [L.ir_L_ask, mkE, c, eqN, f6]
end
end Z

set_option Elab.async false
set_option linter.all false
set_option maxRecDepth 100000
set_option maxHeartbeats 4000000
set_option exponentiation.threshold 1000
namespace Z
open PySem (Operator CmpOp)
variable {P : Prg}
section
variable [TY P "int"] [TY P "bool"] [TY P "tuple"] [TY P "list"] [GC P "LONGEST" (.int 64)] [FN P "" "is_whole" L.ir_is_whole] [FN P "" "need_width" L.ir_need_width] [FN P "" "degree" L.ir_degree] [FN P "" "rest_plain" L.ir_rest_plain] [FN P "" "is_rule_of" L.ir_is_rule_of] [FN P "" "is_rule" L.ir_is_rule] [FN P "" "times_plain" L.ir_times_plain]
variable [FL P "Field" "wide"] [FL P "Field" "ruled"] [FL P "Field" "size"] [FL P "Field" "base"] [FL P "Field" "powers"] [FL P "Field" "logs"] [FN P "Field" "powers_of" L.ir_Field_powers_of] [FN P "Field" "__init__" L.ir_Field_init]
variable [FN P "Field" "has" L.ir_Field_has] [FN P "Field" "need" L.ir_Field_need] [FN P "Field" "mul" L.ir_Field_mul] [FN P "Field" "undone" L.ir_Field_undone] [FN P "Field" "raised" L.ir_Field_raised]
variable [FN P "" "cut" L.ir_cut] [FN P "" "is_poly" L.ir_is_poly] [FN P "" "need_poly" L.ir_need_poly] [FN P "" "product_poly" L.ir_product_poly] [FN P "" "at_element" L.ir_at_element] [FN P "" "both_parts" L.ir_both_parts]
variable [FN P "" "plus_poly" L.ir_plus_poly] [FN P "" "times_poly" L.ir_times_poly] [FN P "" "parted" L.ir_parted] [FN P "" "common_poly" L.ir_common_poly] [FN P "" "value_at" L.ir_value_at] [FN P "" "roots" L.ir_roots] [FN P "" "through" L.ir_through] [FN P "" "are_points" L.ir_are_points]
variable [EX P "NoPoly" "BitError"] [EX P "NoElement" "BitError"] [EX P "NoPoints" "BitError"] [EX P "TooLong" "BitError"] [WH P "_law_which" "NoPoly" 4] [WH P "_law_which" "NoElement" 3] [WH P "_law_which" "NoPoints" 5] [WH P "_law_which" "TooLong" 19] [FN P "" "_law_ask" L.ir_L_ask]
variable [FN P "" "_law_draw" L.ir_L_draw] [FN P "" "_law_pick" L.ir_L_pick] [FN P "" "_law_once" L.ir_L_once]
def TW8 (a b : Nat) (T : Store) : Prop := ∃ U, T = tw a b :: U
theorem rept_ones (n : Nat) : rept [nat 1] n = (ones n).map nat := by
  unfold rept ones
  rw [List.map_replicate]
  induction n with
  | zero => rfl
  | succ n ih => rw [List.replicate_succ, List.flatten_cons, ih]; rfl
theorem mul_ones {n : Nat} (h1 : 2 ≤ n) (h2 : n ≤ 1000) : binD .Mult (.tup [nat 1]) (nat n) = some (.val (.tup ((ones n).map nat))) := by
  rw [mul_tup [nat 1] n (by simp) h1 h2 (by simp), rept_ones]
abbrev k08bads : List D := [.non, .lst [nat 1], .tup [nat 0], .tup [nat 1, nat 0], .tup [nat 8], .tup [.bl true], .tup [bits [true]], .tup ((ones 65).map nat), nat 5, .tup [nat 1, .non, nat 1]]
theorem bads_ok : ∀ d ∈ k08bads, Bad8 d := by
  intro d hd
  simp only [List.mem_cons, List.not_mem_nil, or_false] at hd
  rcases hd with rfl | rfl | rfl | rfl | rfl | rfl | rfl | rfl | rfl | rfl
  · exact ⟨rfl, fun ds e => (by cases e), by decide⟩
  · exact ⟨rfl, fun ds e => (by cases e), by decide⟩
  · exact ⟨rfl, fun ds e => by cases e; simp [data_nat], by decide⟩
  · exact ⟨rfl, fun ds e => by cases e; simp [data_nat], by decide⟩
  · exact ⟨rfl, fun ds e => by cases e; simp [data_nat], by decide⟩
  · exact ⟨rfl, fun ds e => by cases e; simp, by decide⟩
  · exact ⟨rfl, fun ds e => by cases e; simp, by decide⟩
  · exact ⟨rfl, fun ds e => by cases e; exact ⟨fun x hx => by obtain ⟨a, _, rfl⟩ := List.mem_map.mp hx; exact data_nat a, by simp⟩, by decide +kernel⟩
  · exact ⟨rfl, fun ds e => (by cases e), by decide⟩
  · exact ⟨rfl, fun ds e => by cases e; simp [data_nat], by decide⟩
abbrev k08els : List D := [.non, .int (-1), nat 8, .bl true, .tup [nat 1]]
theorem els_ok : ∀ d ∈ k08els, d.data = true ∧ isWhole 0 7 d = false := by
  intro d hd
  simp only [List.mem_cons, List.not_mem_nil, or_false] at hd
  rcases hd with rfl | rfl | rfl | rfl | rfl <;> exact ⟨rfl, by decide⟩
theorem once_k08 (ns : List Int) (a b : Nat) (S : Store) : ∃ a' b' S', (P.at 100000 29).cf "" "_law_once" [.scr ns, .obj 0] (tw a b :: S) = .ok (.bl true) (tw a' b' :: S') := by
  rw [cfE]
  obtain ⟨d, a1, b1, e1, hd⟩ := pick_N (P := P) (k := 28) (by omega) (ns := ns) (xs := k08bads) (by simp) (by simp) a b S
  have bd := bads_ok d hd
  obtain ⟨S1, hS1⟩ : ∃ S1, S1 = S ++ [fcell F8] := ⟨_, rfl⟩
  obtain ⟨S2, hS2⟩ : ∃ S2, S2 = S1 ++ [fcell F8] := ⟨_, rfl⟩
  have c1 : (P.at 100000 28).cf "Field" "__init__" [.obj (S.length + 1), nat 3, nat 11] (tw a1 b1 :: (S ++ [.ins "Field" []])) = .ok .non (tw a1 b1 :: S1) := by rw [hS1]; exact mk8 (P := P) (m := 28) (by omega) (tw a1 b1 :: S)
  have c2 : (P.at 100000 28).cf "Field" "__init__" [.obj (S1.length + 1), nat 3, nat 11] (tw a1 b1 :: (S1 ++ [.ins "Field" []])) = .ok .non (tw a1 b1 :: S2) := by rw [hS2]; exact mk8 (P := P) (m := 28) (by omega) (tw a1 b1 :: S1)
  have p1 : (P.at 100000 28).cf "" "is_poly" [d, .obj (S.length + 1)] (tw a1 b1 :: S1) = .ok (.bl false) (tw a1 b1 :: S1) := by
    have := is_poly_D (P := P) (m := 28) (by omega) F8_ok (S := tw a1 b1 :: S1) (n := S.length + 1) (by rw [hS1]; simp) bd.1 bd.2.1
    rwa [show isPoly F8.w d = false from bd.2.2] at this
  have g64 := good_ones (n := 64) (by omega) (by omega)
  have p2 : (P.at 100000 28).cf "" "is_poly" [.tup ((ones 64).map nat), .obj (S1.length + 1)] (tw a1 b1 :: S2) = .ok (.bl true) (tw a1 b1 :: S2) := by
    have := is_poly_D (P := P) (m := 28) (by omega) F8_ok (S := tw a1 b1 :: S2) (n := S1.length + 1) (by rw [hS2]; simp) g64.1 g64.2.1
    rwa [show isPoly F8.w _ = true from g64.2.2] at this
  obtain ⟨_, q3, S3, rfl⟩ := compK_ivr (Γ := P.at 100000 28) (el := .call "_law_ask" (.cons (.var 3) (.cons (.var 2) (.cons (.tup (.cons (.cst (nat 1)) .nil)) .nil))) [] .nil []) (tg := [3]) (own := [3]) (ifs := .nil) (env := [.val (.scr ns), .val (.obj 0), .val d, .un, .un, .un, .un]) (ds := (List.range 6).map nat) (TW8 a1 b1) (refd 4) (by simp) (by
    rintro x hx _ ⟨U, rfl⟩
    obtain ⟨j, hj, rfl⟩ := List.mem_map.mp hx
    have h := k08_A (P := P) bd (.tup [nat 1]) (tw a1 b1 :: U) j (by simpa using hj)
    exact ⟨_, [.val (.scr ns), .val (.obj 0), .val d, .val (nat j), .un, .un, .un], tw a1 b1 :: (U ++ [fcell F8]), rfl, rfl, (by simp [h]), rfl, ⟨_, rfl⟩⟩) (S := tw a1 b1 :: S2) ⟨S2, rfl⟩
  obtain ⟨_, q4, S4, rfl⟩ := compK_ivr (Γ := P.at 100000 28) (el := .call "_law_ask" (.cons (.var 3) (.cons (.tup (.cons (.cst (nat 1)) .nil)) (.cons (.var 2) .nil))) [] .nil []) (tg := [3]) (own := [3]) (ifs := .nil) (env := [.val (.scr ns), .val (.obj 0), .val d, .un, .un, .un, .un]) (ds := (List.range 4).map nat) (TW8 a1 b1) (refd 4) (by simp) (by
    rintro x hx _ ⟨U, rfl⟩
    obtain ⟨j, hj, rfl⟩ := List.mem_map.mp hx
    have h := k08_B (P := P) bd (tw a1 b1 :: U) j (by simpa using hj)
    exact ⟨_, [.val (.scr ns), .val (.obj 0), .val d, .val (nat j), .un, .un, .un], tw a1 b1 :: (U ++ [fcell F8]), rfl, rfl, (by simp [h]), rfl, ⟨_, rfl⟩⟩) (S := tw a1 b1 :: S3) ⟨S3, rfl⟩
  obtain ⟨_, q5, S5, rfl⟩ := compK_ivr (Γ := P.at 100000 28) (el := .call "_law_ask" (.cons (.var 3) (.cons (.var 4) (.cons (.tup .nil) .nil))) [] .nil []) (tg := [3, 4]) (own := [3, 4]) (ifs := .nil) (env := [.val (.scr ns), .val (.obj 0), .val d, .un, .un, .un, .un]) (ds := [.tup [nat 2, .tup [nat 1, nat 1]], .tup [nat 3, .tup []], .tup [nat 5, .tup []]]) (TW8 a1 b1) (refd 4) (by simp) (by
    rintro x hx _ ⟨U, rfl⟩
    have h := k08_C (P := P) (tw a1 b1 :: U)
    simp only [List.mem_cons, List.not_mem_nil, or_false] at hx
    rcases hx with rfl | rfl | rfl
    · exact ⟨_, [.val (.scr ns), .val (.obj 0), .val d, .val (nat 2), .val (.tup [nat 1, nat 1]), .un, .un], tw a1 b1 :: (U ++ [fcell F8]), rfl, rfl, (by simp [h.1]), rfl, ⟨_, rfl⟩⟩
    · exact ⟨_, [.val (.scr ns), .val (.obj 0), .val d, .val (nat 3), .val (.tup []), .un, .un], tw a1 b1 :: (U ++ [fcell F8]), rfl, rfl, (by simp [h.2.1]), rfl, ⟨_, rfl⟩⟩
    · exact ⟨_, [.val (.scr ns), .val (.obj 0), .val d, .val (nat 5), .val (.tup []), .un, .un], tw a1 b1 :: (U ++ [fcell F8]), rfl, rfl, (by simp [h.2.2]), rfl, ⟨_, rfl⟩⟩) (S := tw a1 b1 :: S4) ⟨S4, rfl⟩
  obtain ⟨u, a2, b2, e2, hu⟩ := pick_N (P := P) (k := 28) (by omega) (ns := ns) (xs := k08els) (by simp) (by simp) a1 b1 S5
  have hul := els_ok u hu
  have f4 := fun T => k08_D (P := P) hul.1 hul.2 T
  obtain ⟨S6, hS6⟩ : ∃ S6, S6 = S5 ++ [fcell F8] := ⟨_, rfl⟩
  obtain ⟨v, a3, b3, e3, hv⟩ := pick_N (P := P) (k := 28) (by omega) (ns := ns) (xs := k08pts) (by simp) (by simp) a2 b2 S6
  have f6 := fun T => k08_E (P := P) v hv T
  obtain ⟨S7, hS7⟩ : ∃ S7, S7 = S6 ++ [fcell F8] := ⟨_, rfl⟩
  obtain ⟨r, a4, b4, e4, hr⟩ := draw_N (P := P) (k := 28) (by omega) (ns := ns) (m := 9) (by omega) (by omega) a3 b3 S7
  have f1 := fun T => k08_F (P := P) r hr T
  have fG := fun T => k08_G (P := P) T
  have fH := fun T => k08_H (P := P) T
  unfold k08bads at e1
  have m65 := mul_ones (n := 65) (by omega) (by omega)
  have m64 := mul_ones (n := 64) (by omega) (by omega)
  have m33 := mul_ones (n := 33) (by omega) (by omega)
  have m32 := mul_ones (n := 32) (by omega) (by omega)
  have mr := mul_ones (n := 33 + r) (by omega) (by omega)
  generalize (ones 65).map nat = u65 at m65 e1
  generalize (ones 64).map nat = u64 at m64 p2
  generalize (ones (33 + r)).map nat = ur at mr f1
  generalize (ones 33).map nat = u33 at m33 f1 fG
  generalize (ones 32).map nat = u32 at m32 fG
  obtain ⟨xs, hxs, f32⟩ := fG (tw a4 b4 :: (S7 ++ [fcell F8]))
  have q1 := rept_refd 4 6
  have q2 := rept_refd 4 4
  have q6 := rept_refd 4 3
  have w1 := eqs_refd 4 6
  have w2 := eqs_refd 4 4
  have w6 := eqs_refd 4 3
  simp only [List.replicate] at q1 q2 q6 w1 w2 w6
  have l6 : ((List.range 6).map nat).length = 6 := rfl
  have l4 : ((List.range 4).map nat).length = 4 := rfl
  have l3 : ∀ (a b c : D), [a, b, c].length = 3 := fun _ _ _ => rfl
  rw [l6] at q3
  rw [l4] at q4
  rw [l3] at q5
  simp only [List.replicate] at q3 q4 q5
  simp at q3 q4 q5
  have ex : extendF (.lst [.non, .lst [], .lst [.tup [nat 1, nat 2], .tup [nat 1, nat 3]], .lst [.tup [nat 8, nat 1]], .lst [.tup [nat 1]], .lst [.lst [nat 1, nat 2]], .tup [.tup [nat 1, nat 2]], .lst [.tup [nat 1, nat 2, nat 3]], .lst [.tup [nat 1, nat 9]]]) [.lst [.lst [.tup [.bl true, nat 1]]]] = some (.lst k08pts, .non) := by rfl
  have e11 : eqD (.tup [nat 1, nat 1]) (.tup [nat 1, nat 1]) = some true := by rfl
  have ls : lenF [.tup xs] = some (.val (nat 64)) := by rw [len_tupN, hxs]
  refine ⟨a4, b4, S7 ++ [fcell F8] ++ [fcell F8] ++ [fcell F8], runF_of rfl ?_⟩
  have k1 : ∀ T : Store, ∀ x, (tw a2 b2 :: T) ++ [x] = tw a2 b2 :: (T ++ [x]) := fun _ _ => rfl
  simp [L.ir_L_once, m65, e1, mkE, c1, p1, ← hS1, m64, c2, p2, ← hS2, q3, q1, w1, fold_refd, q4, q2, w2, q5, q6, w6, e2, f4, ← hS6, eq_refd, ex, e3, f6, ← hS7, e4, mr, m33, f1, m32, f32, ls, eqN, fH, e11]
theorem law_k08 {m : Nat} [FN P "" "law" L.ir_law] (hm : m = 30) (ns : List Int) : ∃ S, (P.at 100000 m).cf "" "law" [.scr ns] [] = .ok (.bl true) S := by
  subst hm
  have h : FN P "" "law" L.ir_law := inferInstance
  have : FN P "" "law" (lawN 6) := ⟨h.h⟩
  exact law_rounds (n := 6) (by omega) (by omega) ns fun a b S => once_k08 (P := P) ns a b S
end
end Z

namespace Z
instance : FN L.Pr "" "is_whole" L.ir_is_whole := ⟨by kernel_rfl⟩
instance : FN L.Pr "" "are_bits" L.ir_are_bits := ⟨by kernel_rfl⟩
instance : FN L.Pr "" "is_bits" L.ir_is_bits := ⟨by kernel_rfl⟩
instance : FN L.Pr "" "need_bits" L.ir_need_bits := ⟨by kernel_rfl⟩
instance : FN L.Pr "" "both" L.ir_both := ⟨by kernel_rfl⟩
instance : FN L.Pr "" "_law_both" L.ir_L_both := ⟨by kernel_rfl⟩
instance : FN L.Pr "" "as_bits" L.ir_as_bits := ⟨by kernel_rfl⟩
instance : FN L.Pr "" "as_number" L.ir_as_number := ⟨by kernel_rfl⟩
instance : FN L.Pr "" "_law_number" L.ir_L_number := ⟨by kernel_rfl⟩
instance : FN L.Pr "" "_law_as" L.ir_L_as := ⟨by kernel_rfl⟩
instance : FN L.Pr "" "_law_draw" L.ir_L_draw := ⟨by kernel_rfl⟩
instance : FN L.Pr "" "_law_pick" L.ir_L_pick := ⟨by kernel_rfl⟩
instance : FN L.Pr "" "_law_so_many" L.ir_L_so_many := ⟨by kernel_rfl⟩
instance : FN L.Pr "" "_law_bits" L.ir_L_bits := ⟨by kernel_rfl⟩
instance : FN L.Pr "" "degree" L.ir_degree := ⟨by kernel_rfl⟩
instance : FN L.Pr "" "rest_plain" L.ir_rest_plain := ⟨by kernel_rfl⟩
instance : FN L.Pr "" "is_rule_of" L.ir_is_rule_of := ⟨by kernel_rfl⟩
instance : FN L.Pr "" "need_width" L.ir_need_width := ⟨by kernel_rfl⟩
instance : FN L.Pr "" "is_rule" L.ir_is_rule := ⟨by kernel_rfl⟩
instance : FN L.Pr "" "rules" L.ir_rules := ⟨by kernel_rfl⟩
instance : FN L.Pr "" "_law_plain" L.ir_L_plain := ⟨by kernel_rfl⟩
instance : FN L.Pr "" "_law_rest" L.ir_L_rest := ⟨by kernel_rfl⟩
instance : FN L.Pr "" "_law_times" L.ir_L_times := ⟨by kernel_rfl⟩
instance : FN L.Pr "" "odd_of" L.ir_odd_of := ⟨by kernel_rfl⟩
instance : FN L.Pr "Mixer" "mix" L.ir_Mixer_mix := ⟨by kernel_rfl⟩
instance : FN L.Pr "Mixer" "unmix" L.ir_Mixer_unmix := ⟨by kernel_rfl⟩
instance : FN L.Pr "Mixer" "__init__" L.ir_Mixer_init := ⟨by kernel_rfl⟩
instance : FN L.Pr "Mixer" "twin" L.ir_Mixer_twin := ⟨by kernel_rfl⟩
instance : FN L.Pr "" "_law_mixed" L.ir_L_mixed := ⟨by kernel_rfl⟩
instance : FN L.Pr "Field" "has" L.ir_Field_has := ⟨by kernel_rfl⟩
instance : FN L.Pr "Field" "need" L.ir_Field_need := ⟨by kernel_rfl⟩
instance : FN L.Pr "Field" "mul" L.ir_Field_mul := ⟨by kernel_rfl⟩
instance : FN L.Pr "Field" "undone" L.ir_Field_undone := ⟨by kernel_rfl⟩
instance : FN L.Pr "Field" "raised" L.ir_Field_raised := ⟨by kernel_rfl⟩
instance : FN L.Pr "Field" "plus" L.ir_Field_plus := ⟨by kernel_rfl⟩
instance : FN L.Pr "Field" "times" L.ir_Field_times := ⟨by kernel_rfl⟩
instance : FN L.Pr "Field" "over" L.ir_Field_over := ⟨by kernel_rfl⟩
instance : FN L.Pr "Field" "power" L.ir_Field_power := ⟨by kernel_rfl⟩
instance : FN L.Pr "" "times_plain" L.ir_times_plain := ⟨by kernel_rfl⟩
instance : FN L.Pr "Field" "powers_of" L.ir_Field_powers_of := ⟨by kernel_rfl⟩
instance : FN L.Pr "Field" "__init__" L.ir_Field_init := ⟨by kernel_rfl⟩
instance : FN L.Pr "Field" "width" L.ir_Field_width := ⟨by kernel_rfl⟩
instance : FN L.Pr "Field" "rule" L.ir_Field_rule := ⟨by kernel_rfl⟩
instance : FN L.Pr "Field" "root" L.ir_Field_root := ⟨by kernel_rfl⟩
instance : FN L.Pr "Field" "__len__" L.ir_Field_len := ⟨by kernel_rfl⟩
instance : FN L.Pr "Field" "order" L.ir_Field_order := ⟨by kernel_rfl⟩
instance : FN L.Pr "" "cut" L.ir_cut := ⟨by kernel_rfl⟩
instance : FN L.Pr "" "is_poly" L.ir_is_poly := ⟨by kernel_rfl⟩
instance : FN L.Pr "" "need_poly" L.ir_need_poly := ⟨by kernel_rfl⟩
instance : FN L.Pr "" "at_element" L.ir_at_element := ⟨by kernel_rfl⟩
instance : FN L.Pr "" "product_poly" L.ir_product_poly := ⟨by kernel_rfl⟩
instance : FN L.Pr "" "both_parts" L.ir_both_parts := ⟨by kernel_rfl⟩
instance : FN L.Pr "" "plus_poly" L.ir_plus_poly := ⟨by kernel_rfl⟩
instance : FN L.Pr "" "times_poly" L.ir_times_poly := ⟨by kernel_rfl⟩
instance : FN L.Pr "" "parted" L.ir_parted := ⟨by kernel_rfl⟩
instance : FN L.Pr "" "common_poly" L.ir_common_poly := ⟨by kernel_rfl⟩
instance : FN L.Pr "" "value_at" L.ir_value_at := ⟨by kernel_rfl⟩
instance : FN L.Pr "" "roots" L.ir_roots := ⟨by kernel_rfl⟩
instance : FN L.Pr "" "through" L.ir_through := ⟨by kernel_rfl⟩
instance : FN L.Pr "" "are_points" L.ir_are_points := ⟨by kernel_rfl⟩
instance : FN L.Pr "" "_law_ask" L.ir_L_ask := ⟨by kernel_rfl⟩
instance : FN L.Pr "" "_law_once" L.ir_L_once := ⟨by kernel_rfl⟩
instance : FN L.Pr "" "law" L.ir_law := ⟨by kernel_rfl⟩
instance : GC L.Pr "LONGEST" (.int 64) := ⟨by kernel_rfl⟩
instance : TY L.Pr "int" := ⟨by decide +kernel⟩
instance : TY L.Pr "bool" := ⟨by decide +kernel⟩
instance : TY L.Pr "tuple" := ⟨by decide +kernel⟩
instance : TY L.Pr "list" := ⟨by decide +kernel⟩
instance : FL L.Pr "Field" "wide" := ⟨by kernel_rfl⟩
instance : FL L.Pr "Field" "ruled" := ⟨by kernel_rfl⟩
instance : FL L.Pr "Field" "size" := ⟨by kernel_rfl⟩
instance : FL L.Pr "Field" "base" := ⟨by kernel_rfl⟩
instance : FL L.Pr "Field" "powers" := ⟨by kernel_rfl⟩
instance : FL L.Pr "Field" "logs" := ⟨by kernel_rfl⟩
instance : EX L.Pr "NoPoly" "BitError" := ⟨by kernel_rfl⟩
instance : EX L.Pr "NoElement" "BitError" := ⟨by kernel_rfl⟩
instance : EX L.Pr "NoPoints" "BitError" := ⟨by kernel_rfl⟩
instance : EX L.Pr "TooLong" "BitError" := ⟨by kernel_rfl⟩
instance : WH L.Pr "_law_which" "NoPoly" 4 := ⟨by kernel_rfl⟩
instance : WH L.Pr "_law_which" "NoElement" 3 := ⟨by kernel_rfl⟩
instance : WH L.Pr "_law_which" "NoPoints" 5 := ⟨by kernel_rfl⟩
instance : WH L.Pr "_law_which" "TooLong" 19 := ⟨by kernel_rfl⟩
end Z
theorem Z.L.law_true : ∀ ns : List Int, ns.length ≤ 63 → ∃ S, (Z.L.Pr.at 100000 30).cf "" "law" [.scr ns] [] = .ok (.bl true) S :=
  fun ns _ => Z.law_k08 (P := Z.L.Pr) (m := 30) (by decide) ns


open PySem PySem.W PySem.Calls PyProof.Rows
theorem PySem.Challenge.cw_bitmend_k08_polys_refused_holds : PySem.Challenge.rw_bitmend_k08_polys_refused.Holds := by
  w_on; o_law
  refine HandSHeadRun.head_any (r := OpenLaw.row PySem.Challenge.rw_bitmend_k08_polys_refused) (q := view (OpenLaw.row PySem.Challenge.rw_bitmend_k08_polys_refused).prog [62]) (H := Z.L.hk) (ob := Z.L.ob) (M := 12000) (loose := Z.L.nms) (d := HandSHeadRun.topDef (OpenLaw.row PySem.Challenge.rw_bitmend_k08_polys_refused).prog 62) (kwd := []) Z.L.ob_eq
    (by kernel_rfl) (fun s => by kernel_rfl) Z.L.run (by kernel_rfl) (by kernel_rfl) (by kernel_rfl) (by rfl) (by first | assumption | decide +kernel) (by decide +kernel) ⟨rfl, rfl, rfl, rfl, rfl, by decide +kernel⟩ ?hw ?hc
  case hw => w_witness2
  case hc =>
    refine Z.walkZ (l := PySem.Challenge.rw_bitmend_k08_polys_refused) (n := 63) (k := 2 * 30) (x := Z.S_ "_law_script") rfl (by decide) (by kernel_rfl) ⟨rfl, by decide, by decide⟩ ?F
    case F =>
      intro w mg fa h Y G hmg0
      have hmg : mg (Z.S_ "law") = some (.ref fa) := by
        have e : (HandSHeadRun.topDef (OpenLaw.row PySem.Challenge.rw_bitmend_k08_polys_refused).prog 62).name = Z.S_ "law" := by kernel_rfl
        rw [← e]
        exact hmg0
      exact Z.L.walk Z.L.law_true Y G hmg

